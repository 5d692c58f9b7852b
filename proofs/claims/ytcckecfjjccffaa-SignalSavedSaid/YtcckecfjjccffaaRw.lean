/- Contracts of functions on rows of bytes that laws of this seat call. They are run by symbols (SxA, SxB, SxG, SxC). No condition. -/
import Derived.Test.YtcckecfjjccffaaProg
import Derived.Test.YtcckecfjjccffaaSxC
namespace Go.Proofs.Ytcckecfjjccffaa
open Go.Sx Go.RowKit
set_option linter.unusedVariables false
set_option linter.unusedSimpArgs false
set_option maxRecDepth 100000
noncomputable def S0:Ctx:=inl Try.prog (ctx []) 3000 6 6
noncomputable def S0h:aU:=bIQ Try.prog (ctx []) 3000 6 6
theorem aBz (I:Interp):bV Try.prog I S0:=aDj (mP (fun p hp=>by cases hp)) (by kernel_rfl) 3000 6 6
def aJl:Hyp:=⟨[(.v 0,(0,9223372036854775807)),(.v 1,(0,9223372036854775807))],[(0,(0,255)),(1,(0,255))],[],[],[],[(0,⟨.v 0,[(some .u8,.av 0)],[]⟩),(1,⟨.v 1,[(some .u8,.av 1)],[]⟩)]⟩
def cbLs:List SV:=[.s (.xslc 0 (.lit 0) (.lit 0) (.v 0)),.s (.xslc 1 (.lit 0) (.lit 0) (.v 1))]
--SKEND
def cb0:E:=.eq (.v 0) (.v 1)
def cb1:E:=.not cb0
def cb2:E:=.lt (.v 2) (.v 0)
def cb3:E:=.lt (.v 2) (.v 1)
def cb4:E:=.sel (.av 0) (.v 2)
def cb5:E:=.sel (.av 1) (.v 2)
def cb6:E:=.eq cb4 cb5
def cb7:E:=.not cb6
def cb8:E:=.add (.v 2) (.lit 1)
noncomputable def bNh:List Item:=nZ Try.prog 20 5
noncomputable def bNi:Head:=⟨5,bNh,⟨[((.v 0),(0,9223372036854775807)),((.v 1),(0,9223372036854775807)),((.v 2),(0,9223372036854775807))],[(0,(0,255)),(1,(0,255))],[],[],[],[(0,⟨(.v 0),[(some .u8,(.av 0))],[]⟩),(1,⟨(.v 1),[(some .u8,(.av 1))],[]⟩)]⟩,[⟨5,[],.s (.int .i64 (.v 2))⟩,⟨0,[],.s (.xslc 0 (.lit 0) (.lit 0) (.v 0))⟩,⟨1,[],.s (.xslc 1 (.lit 0) (.lit 0) (.v 1))⟩],[]⟩
noncomputable def bNj:List Head:=[bNi]
def cbD:Dim:=⟨3,0,2,2,0,2,0⟩
theorem cbst:fH Try.prog S0 S0h cbD bNj [] 3000 0 20 aJl cbLs []=some (.ite cb1 (.ret (.s (.bool (.blit false))) []) (.jump 0 bNh ⟨[(2,(.lit 0))],[],[]⟩)):=by kernel_rfl
theorem cbsg0:lZ Try.prog S0 S0h cbD bNj [] 3000 0 20 bNi=some (.ite cb2 (.need cb3 (.need cb3 (.ite cb7 (.ret (.s (.bool (.blit false))) []) (.jump 0 bNh ⟨[(2,cb8)],[],[]⟩)))) (.ret (.s (.bool (.blit true))) [])):=by kernel_rfl
theorem bDt:aWv Try.prog 20:=by
 intro d J w q M
 let I:Interp:=Iv (fun i j=>match i,j with | 0,0=>d | 1,0=>J | _,_=>Ext.none)
 have hxs:∀ i j,(I.xs i j).ok w:=fun i j=>by rcases i with _ | _ | i <;> rcases j with _ | j <;> first | exact Ext.lU _ | exact q.ok | exact M.ok
 let E (i:Int)  : Env:=⟨[(d.n:Int),(J.n:Int),i],[],[aY d 1 0,aY J 1 0],[],I⟩
 have t:=fJ q
 have r:∀ j,inR (dK .u8) (aY d 1 0 j):=gA q
 simp only [inR,dK,iP,bS] at t r
 have O:=fJ M
 have Q:∀ j,inR (dK .u8) (aY J 1 0 j):=gA M
 simp only [inR,dK,iP,bS] at O Q
 have hargs:(cbLs.map (SV.aB (E 0) Loc.id)).toArray=#[d.v,J.v]:=congrArg List.toArray (gV (iD q rfl rfl) (gV (iD M rfl rfl) (rfl)))
 rw [← hargs]
 have hX:∀ (p:Nat × XI),p ∈ [(0,⟨.v 0,[(some .u8,.av 0)],[]⟩),(1,⟨.v 1,[(some .u8,.av 1)],[]⟩)]→∀ (i:Int) , XI.ok (E i ) p.1 p.2:=by
  intro p hp i 
  simp only [List.mem_cons,List.not_mem_nil,or_false] at hp
  rcases hp with rfl | rfl
  ·exact pL q rfl rfl rfl
  ·exact pL M rfl rfl rfl
 have hok:∀ (H:Hyp) (i:Int),0≤i∧i≤9223372036854775807→H.e=[(.v 0,(0,9223372036854775807)),(.v 1,(0,9223372036854775807)),(.v 2,(0,9223372036854775807))]→H.a=[(0,(0,255)),(1,(0,255))]→H.fi=[]→H.fa=[]→H.b=[]→H.x=aJl.x→H.ok (E i):=by
  intro H i hi e1 e2 e3 e4 e5 e6
  refine ⟨?_,?_,?_,by simp [e3],by simp [e4],by simp [e5]⟩
  ·rw [e6];exact fun p hp=>hX p hp i
  ·rw [e1];intro p hp
   simp only [List.mem_cons,List.not_mem_nil,or_false] at hp
   rcases hp with rfl | rfl | rfl
   ·exact t
   ·exact O
   ·exact hi
  ·rw [e2];intro p hp
   simp only [List.mem_cons,List.not_mem_nil,or_false] at hp
   rcases hp with rfl | rfl
   ·exact r
   ·exact Q
 have hok0:aJl.ok (E 0):=by
  refine ⟨?_,?_,?_,by simp [aJl],by simp [aJl],by simp [aJl]⟩
  ·exact fun p hp=>hX p hp 0
  ·intro p hp
   simp only [aJl,List.mem_cons,List.not_mem_nil,or_false] at hp
   rcases hp with rfl | rfl
   ·exact t
   ·exact O
  ·intro p hp
   simp only [aJl,List.mem_cons,List.not_mem_nil,or_false] at hp
   rcases hp with rfl | rfl
   ·exact r
   ·exact Q
 let T:Prop:=d.n=J.n∧∀ j,j<d.n→aY d 1 0 j=aY J 1 0 j
 refine iQ (β:=⟨w,0,Loc.id⟩) (aBz I) (by kernel_rfl) (Nat.zero_le _) (fun k ρ=>k=0∧∃ i:Int,ρ=E i∧d.n=J.n∧0≤i∧i≤d.n∧∀ j:Nat,(j:Int)<i→aY d 1 0 j=aY J 1 0 j)
  (fun _ ρ=>((d.n:Int)+1-ρ.i.getD 2 0).toNat) (fun ρ v _=>∃ b:Bool,v=.s (.bool (.blit b))∧(b=true↔T)) ?_ cbst (aG.empty hxs Loc.id) rfl ⟨rfl,rfl,rfl⟩ hok0 ?_ ?_
 ·rintro ρ v m hI ⟨b,rfl,hb⟩ ι w' hm
  rw [aV rfl]
  refine ⟨?_,hm.aBN⟩
  simp only [SV.aB,S.aB,aN]
  congr 2
  cases b
  ·symm;rw [decide_eq_false_iff_not];exact fun h=>by have:=hb.2 h;cases this
  ·symm;rw [decide_eq_true_eq];exact hb.1 rfl
 ·simp only [LT.holds]
  refine ⟨fun l=>?_,fun l=>?_⟩
  ·
    refine ⟨false,rfl,?_⟩
    simp only [E,cb0,cb1,cb2,cb3,cb4,cb5,cb6,cb7,cb8,i_v,iB,aC,aN,aR,cY,bH,cD,bB,bX,bT,aQ,cV,gI,fW,eU,cX,cN,eW,eC,dE,cC,bW,List.getD_cons_zero,List.getD_cons_succ,decide_eq_true_eq,decide_eq_false_iff_not,Bool.and_eq_true,Bool.or_eq_true,Bool.not_eq_true',Bool.not_eq_false',Bool.and_eq_false_iff,Bool.or_eq_false_iff,Bool.not_not,cT,cS,cR,cQ,gF,cH,bZ] at l
    exact ⟨(fun h=>by cases h),fun h=>absurd h.1 (by omega)⟩
  ·
    simp only [E,cb0,cb1,cb2,cb3,cb4,cb5,cb6,cb7,cb8,i_v,iB,aC,aN,aR,cY,bH,cD,bB,bX,bT,aQ,cV,gI,fW,eU,cX,cN,eW,eC,dE,cC,bW,List.getD_cons_zero,List.getD_cons_succ,decide_eq_true_eq,decide_eq_false_iff_not,Bool.and_eq_true,Bool.or_eq_true,Bool.not_eq_true',Bool.not_eq_false',Bool.and_eq_false_iff,Bool.or_eq_false_iff,Bool.not_not,cT,cS,cR,cQ,gF,cH,bZ] at l
    exact ⟨rfl,trivial,0,rfl,by omega,by omega,by omega,fun j hj=>by omega⟩
 ·rintro j h ρ hj hI hz ⟨rfl,i,rfl,hn,F,G,hq⟩
  simp only [bNj,List.getElem?_cons_zero,Option.some.injEq] at hj;subst hj
  refine ⟨hok bNi.H i (by omega) rfl rfl rfl rfl rfl rfl,_,cbsg0,?_⟩
  simp only [LT.holds]
  refine ⟨fun l=>?_,fun l=>?_⟩
  ·
    refine ⟨?_,fun u=>?_⟩
    ·
      simp only [E,cb0,cb1,cb2,cb3,cb4,cb5,cb6,cb7,cb8,i_v,iB,aC,aN,aR,cY,bH,cD,bB,bX,bT,aQ,cV,gI,fW,eU,cX,cN,eW,eC,dE,cC,bW,List.getD_cons_zero,List.getD_cons_succ,decide_eq_true_eq,decide_eq_false_iff_not,Bool.and_eq_true,Bool.or_eq_true,Bool.not_eq_true',Bool.not_eq_false',Bool.and_eq_false_iff,Bool.or_eq_false_iff,Bool.not_not,cT,cS,cR,cQ,gF,cH,bZ] at l ⊢
      omega
    refine ⟨?_,fun hc2=>?_⟩
    ·
      simp only [E,cb0,cb1,cb2,cb3,cb4,cb5,cb6,cb7,cb8,i_v,iB,aC,aN,aR,cY,bH,cD,bB,bX,bT,aQ,cV,gI,fW,eU,cX,cN,eW,eC,dE,cC,bW,List.getD_cons_zero,List.getD_cons_succ,decide_eq_true_eq,decide_eq_false_iff_not,Bool.and_eq_true,Bool.or_eq_true,Bool.not_eq_true',Bool.not_eq_false',Bool.and_eq_false_iff,Bool.or_eq_false_iff,Bool.not_not,cT,cS,cR,cQ,gF,cH,bZ] at l u ⊢
      omega
    refine ⟨fun D=>?_,fun D=>?_⟩
    ·
      simp only [E,cb0,cb1,cb2,cb3,cb4,cb5,cb6,cb7,cb8,i_v,iB,aC,aN,aR,cY,bH,cD,bB,bX,bT,aQ,cV,gI,fW,eU,cX,cN,eW,eC,dE,cC,bW,List.getD_cons_zero,List.getD_cons_succ,decide_eq_true_eq,decide_eq_false_iff_not,Bool.and_eq_true,Bool.or_eq_true,Bool.not_eq_true',Bool.not_eq_false',Bool.and_eq_false_iff,Bool.or_eq_false_iff,Bool.not_not,cT,cS,cR,cQ,gF,cH,bZ] at l u hc2 D
      refine ⟨false,rfl,(fun h=>by cases h),fun h=>?_⟩
      have:=h.2 i.toNat (by omega)
      exact absurd this (by omega)
    ·
      simp only [E,cb0,cb1,cb2,cb3,cb4,cb5,cb6,cb7,cb8,i_v,iB,aC,aN,aR,cY,bH,cD,bB,bX,bT,aQ,cV,gI,fW,eU,cX,cN,eW,eC,dE,cC,bW,List.getD_cons_zero,List.getD_cons_succ,decide_eq_true_eq,decide_eq_false_iff_not,Bool.and_eq_true,Bool.or_eq_true,Bool.not_eq_true',Bool.not_eq_false',Bool.and_eq_false_iff,Bool.or_eq_false_iff,Bool.not_not,cT,cS,cR,cQ,gF,cH,bZ] at l u hc2 D
      refine ⟨rfl,⟨trivial,i+1,rfl,hn,by omega,by omega,fun j hj=>?_⟩,?_⟩
      ·by_cases e:(j:Int)=i
       ·have:i.toNat=j:=by omega
        rw [this] at D;omega
       ·exact hq j (by omega)
      ·show ((d.n:Int)+1-(i+1)).toNat<((d.n:Int)+1-i).toNat
       omega
  ·
    simp only [E,cb0,cb1,cb2,cb3,cb4,cb5,cb6,cb7,cb8,i_v,iB,aC,aN,aR,cY,bH,cD,bB,bX,bT,aQ,cV,gI,fW,eU,cX,cN,eW,eC,dE,cC,bW,List.getD_cons_zero,List.getD_cons_succ,decide_eq_true_eq,decide_eq_false_iff_not,Bool.and_eq_true,Bool.or_eq_true,Bool.not_eq_true',Bool.not_eq_false',Bool.and_eq_false_iff,Bool.or_eq_false_iff,Bool.not_not,cT,cS,cR,cQ,gF,cH,bZ] at l
    exact ⟨true,rfl,fun _=>⟨hn,fun j hj=>hq j (by omega)⟩,fun _=>rfl⟩
def aJr:Hyp:=⟨[(.v 0,(0,9223372036854775807))],[(0,(0,255))],[],[],[],[(0,⟨.v 0,[(some .u8,.av 0)],[]⟩)]⟩
def csLs:List SV:=[.s (.xslc 0 (.lit 0) (.lit 0) (.v 0))]
--SKEND
def cs0:E:=.lt (.v 1) (.v 0)
def cs1:E:=.mul (.v 2) (.lit 31)
def cs2:E:=.sel (.av 0) (.v 1)
def cs3:E:=.add cs1 cs2
def cs4:E:=.add cs3 (.lit 7)
def cs5:E:=.mod cs4 (.lit 4294967296)
def cs6:E:=.add (.v 1) (.lit 1)
noncomputable def bNx:List Item:=nZ Try.prog 44 4
noncomputable def bNy:Head:=⟨4,bNx,⟨[((.v 0),(0,9223372036854775807)),((.v 1),(0,9223372036854775807)),((.v 2),(0,4294967295))],[(0,(0,255))],[],[],[],[(0,⟨(.v 0),[(some .u8,(.av 0))],[]⟩)]⟩,[⟨8,[],.s (.int .i64 (.v 1))⟩,⟨7,[],.s (.int .i64 (.v 0))⟩,⟨6,[],.s (.xslc 0 (.lit 0) (.lit 0) (.v 0))⟩,⟨3,[],.s (.int .u32 (.v 2))⟩],[]⟩
noncomputable def bNz:List Head:=[bNy]
def csD:Dim:=⟨3,0,1,1,0,1,0⟩
theorem csst:fH Try.prog S0 S0h csD bNz [] 3000 0 44 aJr csLs []=some (.jump 0 bNx ⟨[(2,(.lit 1)),(1,(.lit 0))],[],[]⟩):=by kernel_rfl
theorem cssg0:lZ Try.prog S0 S0h csD bNz [] 3000 0 44 bNy=some (.ite cs0 (.jump 0 bNx ⟨[(2,cs5),(1,cs6)],[],[]⟩) (.ret (.s (.int .u32 (.v 2))) [])):=by kernel_rfl
theorem bDB:aWy Try.prog 44:=by
 intro d w q
 let I:Interp:=Iv (fun i j=>match i,j with | 0,0=>d | _,_=>Ext.none)
 have hxs:∀ i j,(I.xs i j).ok w:=fun i j=>by rcases i with _ | i <;> rcases j with _ | j <;> first | exact Ext.lU _ | exact q.ok
 let E (i z:Int)  : Env:=⟨[(d.n:Int),i,z],[],[aY d 1 0],[],I⟩
 have t:=fJ q
 have r:∀ j,inR (dK .u8) (aY d 1 0 j):=gA q
 simp only [inR,dK,iP,bS] at t r
 have hargs:(csLs.map (SV.aB (E 0 0) Loc.id)).toArray=#[d.v]:=congrArg List.toArray (gV (iD q rfl rfl) (rfl))
 rw [← hargs]
 have hX:∀ (p:Nat × XI),p ∈ [(0,⟨.v 0,[(some .u8,.av 0)],[]⟩)]→∀ (i z:Int) , XI.ok (E i z ) p.1 p.2:=by
  intro p hp i z 
  simp only [List.mem_cons,List.not_mem_nil,or_false] at hp
  rcases hp with rfl
  ·exact pL q rfl rfl rfl
 have hok:∀ (H:Hyp) (i z:Int),0≤i∧i≤9223372036854775807→0≤z∧z≤4294967295→H.e=[(.v 0,(0,9223372036854775807)),(.v 1,(0,9223372036854775807)),(.v 2,(0,4294967295))]→H.a=[(0,(0,255))]→H.fi=[]→H.fa=[]→H.b=[]→H.x=aJr.x→H.ok (E i z):=by
  intro H i z hi hz e1 e2 e3 e4 e5 e6
  refine ⟨?_,?_,?_,by simp [e3],by simp [e4],by simp [e5]⟩
  ·rw [e6];exact fun p hp=>hX p hp i z
  ·rw [e1];intro p hp
   simp only [List.mem_cons,List.not_mem_nil,or_false] at hp
   rcases hp with rfl | rfl | rfl
   ·exact t
   ·exact hi
   ·exact hz
  ·rw [e2];intro p hp
   simp only [List.mem_cons,List.not_mem_nil,or_false] at hp
   rcases hp with rfl
   ·exact r
 have hok0:aJr.ok (E 0 0):=by
  refine ⟨?_,?_,?_,by simp [aJr],by simp [aJr],by simp [aJr]⟩
  ·exact fun p hp=>hX p hp 0 0
  ·intro p hp
   simp only [aJr,List.mem_cons,List.not_mem_nil,or_false] at hp
   rcases hp with rfl
   ·exact t
  ·intro p hp
   simp only [aJr,List.mem_cons,List.not_mem_nil,or_false] at hp
   rcases hp with rfl
   ·exact r
 refine iQ (β:=⟨w,0,Loc.id⟩) (aBz I) (by kernel_rfl) (Nat.zero_le _) (fun k ρ=>k=0∧∃ i z:Int,ρ=E i z∧0≤i∧i≤d.n∧z=qW i.toNat (aY d 1 0))
  (fun _ ρ=>((d.n:Int)+1-ρ.i.getD 1 0).toNat) (fun ρ v _=>∃ e:_root_.Go.Sx.E,v=.s (.int .u32 e)∧e.i ρ=qW d.n (aY d 1 0)) ?_ csst (aG.empty hxs Loc.id) rfl ⟨rfl,rfl,rfl⟩ hok0 ?_ ?_
 ·rintro ρ v m hI ⟨e,rfl,he⟩ ι w' hm
  rw [aV rfl]
  exact ⟨by simp only [SV.aB,S.aB,he],hm.aBN⟩
 ·simp only [LT.holds]
  exact ⟨rfl,trivial,0,1,rfl,by omega,by omega,rfl⟩
 ·rintro j h ρ hj hI hz ⟨rfl,i,z,rfl,F,G,hq⟩
  have hzr:=yA i.toNat (aY d 1 0)
  rw [← hq] at hzr
  simp only [bNz,List.getElem?_cons_zero,Option.some.injEq] at hj;subst hj
  refine ⟨hok bNy.H i z (by omega) hzr rfl rfl rfl rfl rfl rfl,_,cssg0,?_⟩
  simp only [LT.holds]
  refine ⟨fun l=>?_,fun l=>?_⟩
  ·
    simp only [E,cs0,cs1,cs2,cs3,cs4,cs5,cs6,i_v,iB,aC,aN,aR,cY,bH,cD,bB,bX,bT,aQ,cV,gI,fW,eU,cX,cN,eW,eC,dE,cC,bW,List.getD_cons_zero,List.getD_cons_succ,decide_eq_true_eq,decide_eq_false_iff_not,Bool.and_eq_true,Bool.or_eq_true,Bool.not_eq_true',Bool.not_eq_false',Bool.and_eq_false_iff,Bool.or_eq_false_iff,Bool.not_not,cT,cS,cR,cQ,gF,cH,bZ] at l
    have e2:(i+1).toNat=i.toNat+1:=by omega
    refine ⟨rfl,⟨trivial,i+1,(z*31+aY d 1 0 i.toNat+7)%4294967296,rfl,by omega,by omega,?_⟩,?_⟩
    ·rw [e2,pI,← hq]
    ·show ((d.n:Int)+1-(i+1)).toNat<((d.n:Int)+1-i).toNat
     omega
  ·
    simp only [E,cs0,cs1,cs2,cs3,cs4,cs5,cs6,i_v,iB,aC,aN,aR,cY,bH,cD,bB,bX,bT,aQ,cV,gI,fW,eU,cX,cN,eW,eC,dE,cC,bW,List.getD_cons_zero,List.getD_cons_succ,decide_eq_true_eq,decide_eq_false_iff_not,Bool.and_eq_true,Bool.or_eq_true,Bool.not_eq_true',Bool.not_eq_false',Bool.and_eq_false_iff,Bool.or_eq_false_iff,Bool.not_not,cT,cS,cR,cQ,gF,cH,bZ] at l
    refine ⟨_,rfl,?_⟩
    have e1:i.toNat=d.n:=by omega
    rw [e1] at hq
    simp only [E,cs0,cs1,cs2,cs3,cs4,cs5,cs6,i_v,iB,aC,aN,aR,cY,bH,cD,bB,bX,bT,aQ,cV,gI,fW,eU,cX,cN,eW,eC,dE,cC,bW,List.getD_cons_zero,List.getD_cons_succ,decide_eq_true_eq,decide_eq_false_iff_not,Bool.and_eq_true,Bool.or_eq_true,Bool.not_eq_true',Bool.not_eq_false',Bool.and_eq_false_iff,Bool.or_eq_false_iff,Bool.not_not,cT,cS,cR,cQ,gF,cH,bZ]
    rw [← hq];try omega
def aJq:Hyp:=⟨[(.v 0,(0,9223372036854775807))],[(0,(0,255))],[],[],[],[(0,⟨.v 0,[(some .u8,.av 0)],[]⟩)]⟩
def crLs:List SV:=[.s (.xslc 0 (.lit 0) (.lit 0) (.v 0))]
--SKEND
def cr0:E:=.lt (.v 1) (.v 0)
def cr1:E:=.mul (.v 2) (.lit 31)
def cr2:E:=.sel (.av 0) (.v 1)
def cr3:E:=.add cr1 cr2
def cr4:E:=.add cr3 (.lit 7)
def cr5:E:=.mod cr4 (.lit 4294967296)
def cr6:E:=.add (.v 1) (.lit 1)
noncomputable def bNu:List Item:=nZ Try.prog 46 4
noncomputable def bNv:Head:=⟨4,bNu,⟨[((.v 0),(0,9223372036854775807)),((.v 1),(0,9223372036854775807)),((.v 2),(0,4294967295))],[(0,(0,255))],[],[],[],[(0,⟨(.v 0),[(some .u8,(.av 0))],[]⟩)]⟩,[⟨4,[],.s (.int .i64 (.v 1))⟩,⟨3,[],.s (.int .u64 (.v 2))⟩,⟨0,[],.s (.xslc 0 (.lit 0) (.lit 0) (.v 0))⟩],[]⟩
noncomputable def bNw:List Head:=[bNv]
def crD:Dim:=⟨3,0,1,1,0,1,0⟩
theorem crst:fH Try.prog S0 S0h crD bNw [] 3000 0 46 aJq crLs []=some (.jump 0 bNu ⟨[(2,(.lit 1)),(1,(.lit 0))],[],[]⟩):=by kernel_rfl
theorem crsg0:lZ Try.prog S0 S0h crD bNw [] 3000 0 46 bNv=some (.ite cr0 (.jump 0 bNu ⟨[(2,cr5),(1,cr6)],[],[]⟩) (.ret (.s (.int .u32 (.v 2))) [])):=by kernel_rfl
theorem bDA:aWy Try.prog 46:=by
 intro d w q
 let I:Interp:=Iv (fun i j=>match i,j with | 0,0=>d | _,_=>Ext.none)
 have hxs:∀ i j,(I.xs i j).ok w:=fun i j=>by rcases i with _ | i <;> rcases j with _ | j <;> first | exact Ext.lU _ | exact q.ok
 let E (i z:Int)  : Env:=⟨[(d.n:Int),i,z],[],[aY d 1 0],[],I⟩
 have t:=fJ q
 have r:∀ j,inR (dK .u8) (aY d 1 0 j):=gA q
 simp only [inR,dK,iP,bS] at t r
 have hargs:(crLs.map (SV.aB (E 0 0) Loc.id)).toArray=#[d.v]:=congrArg List.toArray (gV (iD q rfl rfl) (rfl))
 rw [← hargs]
 have hX:∀ (p:Nat × XI),p ∈ [(0,⟨.v 0,[(some .u8,.av 0)],[]⟩)]→∀ (i z:Int) , XI.ok (E i z ) p.1 p.2:=by
  intro p hp i z 
  simp only [List.mem_cons,List.not_mem_nil,or_false] at hp
  rcases hp with rfl
  ·exact pL q rfl rfl rfl
 have hok:∀ (H:Hyp) (i z:Int),0≤i∧i≤9223372036854775807→0≤z∧z≤4294967295→H.e=[(.v 0,(0,9223372036854775807)),(.v 1,(0,9223372036854775807)),(.v 2,(0,4294967295))]→H.a=[(0,(0,255))]→H.fi=[]→H.fa=[]→H.b=[]→H.x=aJq.x→H.ok (E i z):=by
  intro H i z hi hz e1 e2 e3 e4 e5 e6
  refine ⟨?_,?_,?_,by simp [e3],by simp [e4],by simp [e5]⟩
  ·rw [e6];exact fun p hp=>hX p hp i z
  ·rw [e1];intro p hp
   simp only [List.mem_cons,List.not_mem_nil,or_false] at hp
   rcases hp with rfl | rfl | rfl
   ·exact t
   ·exact hi
   ·exact hz
  ·rw [e2];intro p hp
   simp only [List.mem_cons,List.not_mem_nil,or_false] at hp
   rcases hp with rfl
   ·exact r
 have hok0:aJq.ok (E 0 0):=by
  refine ⟨?_,?_,?_,by simp [aJq],by simp [aJq],by simp [aJq]⟩
  ·exact fun p hp=>hX p hp 0 0
  ·intro p hp
   simp only [aJq,List.mem_cons,List.not_mem_nil,or_false] at hp
   rcases hp with rfl
   ·exact t
  ·intro p hp
   simp only [aJq,List.mem_cons,List.not_mem_nil,or_false] at hp
   rcases hp with rfl
   ·exact r
 refine iQ (β:=⟨w,0,Loc.id⟩) (aBz I) (by kernel_rfl) (Nat.zero_le _) (fun k ρ=>k=0∧∃ i z:Int,ρ=E i z∧0≤i∧i≤d.n∧z=qW i.toNat (aY d 1 0))
  (fun _ ρ=>((d.n:Int)+1-ρ.i.getD 1 0).toNat) (fun ρ v _=>∃ e:_root_.Go.Sx.E,v=.s (.int .u32 e)∧e.i ρ=qW d.n (aY d 1 0)) ?_ crst (aG.empty hxs Loc.id) rfl ⟨rfl,rfl,rfl⟩ hok0 ?_ ?_
 ·rintro ρ v m hI ⟨e,rfl,he⟩ ι w' hm
  rw [aV rfl]
  exact ⟨by simp only [SV.aB,S.aB,he],hm.aBN⟩
 ·simp only [LT.holds]
  exact ⟨rfl,trivial,0,1,rfl,by omega,by omega,rfl⟩
 ·rintro j h ρ hj hI hz ⟨rfl,i,z,rfl,F,G,hq⟩
  have hzr:=yA i.toNat (aY d 1 0)
  rw [← hq] at hzr
  simp only [bNw,List.getElem?_cons_zero,Option.some.injEq] at hj;subst hj
  refine ⟨hok bNv.H i z (by omega) hzr rfl rfl rfl rfl rfl rfl,_,crsg0,?_⟩
  simp only [LT.holds]
  refine ⟨fun l=>?_,fun l=>?_⟩
  ·
    simp only [E,cr0,cr1,cr2,cr3,cr4,cr5,cr6,i_v,iB,aC,aN,aR,cY,bH,cD,bB,bX,bT,aQ,cV,gI,fW,eU,cX,cN,eW,eC,dE,cC,bW,List.getD_cons_zero,List.getD_cons_succ,decide_eq_true_eq,decide_eq_false_iff_not,Bool.and_eq_true,Bool.or_eq_true,Bool.not_eq_true',Bool.not_eq_false',Bool.and_eq_false_iff,Bool.or_eq_false_iff,Bool.not_not,cT,cS,cR,cQ,gF,cH,bZ] at l
    have e2:(i+1).toNat=i.toNat+1:=by omega
    refine ⟨rfl,⟨trivial,i+1,(z*31+aY d 1 0 i.toNat+7)%4294967296,rfl,by omega,by omega,?_⟩,?_⟩
    ·rw [e2,pI,← hq]
    ·show ((d.n:Int)+1-(i+1)).toNat<((d.n:Int)+1-i).toNat
     omega
  ·
    simp only [E,cr0,cr1,cr2,cr3,cr4,cr5,cr6,i_v,iB,aC,aN,aR,cY,bH,cD,bB,bX,bT,aQ,cV,gI,fW,eU,cX,cN,eW,eC,dE,cC,bW,List.getD_cons_zero,List.getD_cons_succ,decide_eq_true_eq,decide_eq_false_iff_not,Bool.and_eq_true,Bool.or_eq_true,Bool.not_eq_true',Bool.not_eq_false',Bool.and_eq_false_iff,Bool.or_eq_false_iff,Bool.not_not,cT,cS,cR,cQ,gF,cH,bZ] at l
    refine ⟨_,rfl,?_⟩
    have e1:i.toNat=d.n:=by omega
    rw [e1] at hq
    simp only [E,cr0,cr1,cr2,cr3,cr4,cr5,cr6,i_v,iB,aC,aN,aR,cY,bH,cD,bB,bX,bT,aQ,cV,gI,fW,eU,cX,cN,eW,eC,dE,cC,bW,List.getD_cons_zero,List.getD_cons_succ,decide_eq_true_eq,decide_eq_false_iff_not,Bool.and_eq_true,Bool.or_eq_true,Bool.not_eq_true',Bool.not_eq_false',Bool.and_eq_false_iff,Bool.or_eq_false_iff,Bool.not_not,cT,cS,cR,cQ,gF,cH,bZ]
    rw [← hq];try omega
def aJm:Hyp:=⟨[(.v 0,(0,67108864))],[(0,(0,255))],[],[],[],[(0,⟨.v 0,[(some .u8,.av 0)],[]⟩)]⟩
def ccLs:List SV:=[.s (.xslc 0 (.lit 0) (.lit 0) (.v 0))]
--SKEND
def cc0:E:=.lt (.v 1) (.v 0)
def cc1:E:=.add (.v 1) (.lit 1)
def cc2:E:=.sel (.av 0) (.v 1)
def cc3:E:=.upd (.av 1) (.v 1) cc2
noncomputable def bNk:List Item:=nZ Try.prog 27 4
noncomputable def bNl:Head:=⟨4,bNk,⟨[((.v 0),(0,67108864)),((.v 1),(0,67108864))],[(0,(0,255)),(1,(0,255))],[],[],[],[(0,⟨(.v 0),[(some .u8,(.av 0))],[]⟩)]⟩,[⟨4,[],.s (.int .i64 (.v 1))⟩,⟨3,[],.s (.slc 0 (.lit 0) (.v 0) (.kn (.v 0)))⟩,⟨0,[],.s (.xslc 0 (.lit 0) (.lit 0) (.v 0))⟩],[⟨5,[.run .u8 (.v 0) (.av 1) 0],true,none,false⟩]⟩
noncomputable def bNm:List Head:=[bNl]
def ccD:Dim:=⟨2,0,2,1,0,1,0⟩
theorem ccst:fH Try.prog S0 S0h ccD bNm [] 3000 0 27 aJm ccLs []=some (.jump 0 bNk ⟨[(1,(.lit 0))],[],[(1,(.tab []))]⟩):=by kernel_rfl
theorem ccsg0:lZ Try.prog S0 S0h ccD bNm [] 3000 0 27 bNl=some (.ite cc0 (.jump 0 bNk ⟨[(1,cc1)],[],[(1,cc3)]⟩) (.ret (.s (.slc 0 (.lit 0) (.v 0) (.kn (.v 0)))) [⟨5,[.run .u8 (.v 0) (.av 1) 0],true,none,false⟩])):=by kernel_rfl
theorem bBf:bCR Try.prog 27 5:=by
 intro d w q hlen
 let I:Interp:=Iv (fun i j=>match i,j with | 0,0=>d | _,_=>Ext.none)
 have hxs:∀ i j,(I.xs i j).ok w:=fun i j=>by rcases i with _ | i <;> rcases j with _ | j <;> first | exact Ext.lU _ | exact q.ok
 let E (i:Int) (B:Nat→Int):Env:=⟨[(d.n:Int),i],[],[aY d 1 0,B],[],I⟩
 have t:=fJ q
 have r:∀ j,inR (dK .u8) (aY d 1 0 j):=gA q
 simp only [inR,dK,iP,bS] at t r
 have hargs:(ccLs.map (SV.aB (E 0 (fun _=>0)) Loc.id)).toArray=#[d.v]:=congrArg List.toArray (gV (iD q rfl rfl) (rfl))
 rw [← hargs]
 have hX:∀ (p:Nat × XI),p ∈ [(0,⟨.v 0,[(some .u8,.av 0)],[]⟩)]→∀ (i:Int) (B:Nat→Int),XI.ok (E i B) p.1 p.2:=by
  intro p hp i B
  simp only [List.mem_cons,List.not_mem_nil,or_false] at hp
  rcases hp with rfl
  ·exact pL q rfl rfl rfl
 have hok:∀ (H:Hyp) (i:Int) (B:Nat→Int),0≤i∧i≤67108864→(∀ j,0≤B j∧B j≤255)→H.e=[(.v 0,(0,67108864)),(.v 1,(0,67108864))]→H.a=[(0,(0,255)),(1,(0,255))]→H.fi=[]→H.fa=[]→H.b=[]→H.x=aJm.x→H.ok (E i B):=by
  intro H i B hi hB e1 e2 e3 e4 e5 e6
  refine ⟨?_,?_,?_,by simp [e3],by simp [e4],by simp [e5]⟩
  ·rw [e6];exact fun p hp=>hX p hp i B
  ·rw [e1];intro p hp
   simp only [List.mem_cons,List.not_mem_nil,or_false] at hp
   rcases hp with rfl | rfl
   ·simp only [inR];exact ⟨t.1,by show (d.n:Int)≤_;omega⟩
   ·exact hi
  ·rw [e2];intro p hp
   simp only [List.mem_cons,List.not_mem_nil,or_false] at hp
   rcases hp with rfl | rfl
   ·exact r
   ·exact hB
 have hok0:aJm.ok (E 0 fun _=>0):=by
  refine ⟨?_,?_,?_,by simp [aJm],by simp [aJm],by simp [aJm]⟩
  ·exact fun p hp=>hX p hp 0 fun _=>0
  ·intro p hp
   simp only [aJm,List.mem_cons,List.not_mem_nil,or_false] at hp
   rcases hp with rfl
   ·simp only [inR];exact ⟨t.1,by show (d.n:Int)≤_;omega⟩
  ·intro p hp
   simp only [aJm,List.mem_cons,List.not_mem_nil,or_false] at hp
   rcases hp with rfl
   ·exact r
 refine iQ (β:=⟨w,0,Loc.id⟩) (aBz I) (by kernel_rfl) (Nat.zero_le _) (fun k ρ=>k=0∧∃ (i:Int) (B:Nat→Int),ρ=E i B∧0≤i∧i≤d.n∧(∀ j,0≤B j∧B j≤255)∧∀ j:Nat,(j:Int)<i→B j=aY d 1 0 j)
  (fun _ ρ=>((d.n:Int)+1-ρ.i.getD 1 0).toNat) (fun ρ v m=>v=.s (.slc 0 (.lit 0) (.v 0) (.kn (.v 0)))∧ρ.i.getD 0 0=d.n∧∃ A:_root_.Go.Sx.E,m=[⟨5,[.run .u8 (.v 0) A 0],true,none,false⟩]∧∀ j:Nat,j<d.n→A.a ρ j=aY d 1 0 j) ?_ ccst (aG.empty hxs Loc.id) rfl ⟨rfl,rfl,rfl⟩ hok0 ?_ ?_
 ·rintro ρ v m hI ⟨rfl,hn,A,rfl,hA⟩ ι w' hm
  refine ⟨ρ,ι,_,?_,hm,rfl,rfl,rfl,rfl,?_⟩
  ·rw [aV rfl]
   simp only [SV.aB,S.aB,addr,aC,i_v,hn]
   rfl
  ·simp only [cellsOf,List.flatMap_cons,List.flatMap_nil,List.append_nil,Seg.cells,i_v,hn,Int.toNat_natCast]
   exact List.map_congr_left fun j hj=>by rw [Nat.zero_add,hA j (List.mem_range.1 hj)]
 ·simp only [LT.holds]
  exact ⟨rfl,trivial,0,fun j=>([]:List Int).getD j 0,rfl,by omega,by omega,fun j=>by simp,fun j hj=>by omega⟩
 ·rintro j h ρ hj hI hz ⟨rfl,i,B,rfl,F,G,hB,hq⟩
  simp only [bNm,List.getElem?_cons_zero,Option.some.injEq] at hj;subst hj
  refine ⟨hok bNl.H i B (by omega) hB rfl rfl rfl rfl rfl rfl,_,ccsg0,?_⟩
  simp only [LT.holds]
  refine ⟨fun l=>?_,fun l=>?_⟩
  ·
    simp only [E,cc0,cc1,cc2,cc3,i_v,iB,aC,aN,aR,cY,bH,cD,bB,bX,bT,aQ,cV,gI,fW,eU,cX,cN,eW,eC,dE,cC,bW,List.getD_cons_zero,List.getD_cons_succ,decide_eq_true_eq,decide_eq_false_iff_not,Bool.and_eq_true,Bool.or_eq_true,Bool.not_eq_true',Bool.not_eq_false',Bool.and_eq_false_iff,Bool.or_eq_false_iff,Bool.not_not,cT,cS,cR,cQ,gF,cH,bZ] at l
    refine ⟨rfl,⟨trivial,i+1,fun k=>if k=i.toNat then aY d 1 0 i.toNat else B k,rfl,by omega,by omega,fun j=>?_,fun j hj=>?_⟩,?_⟩
    ·have:=r i.toNat;have:=hB j
     simp only;split <;> omega
    ·simp only
     split
     ·rename_i e;rw [e]
     ·exact hq j (by omega)
    ·show ((d.n:Int)+1-(i+1)).toNat<((d.n:Int)+1-i).toNat
     omega
  ·
    simp only [E,cc0,cc1,cc2,cc3,i_v,iB,aC,aN,aR,cY,bH,cD,bB,bX,bT,aQ,cV,gI,fW,eU,cX,cN,eW,eC,dE,cC,bW,List.getD_cons_zero,List.getD_cons_succ,decide_eq_true_eq,decide_eq_false_iff_not,Bool.and_eq_true,Bool.or_eq_true,Bool.not_eq_true',Bool.not_eq_false',Bool.and_eq_false_iff,Bool.or_eq_false_iff,Bool.not_not,cT,cS,cR,cQ,gF,cH,bZ] at l
    refine ⟨?_,?_,.av 1,?_,fun j hj=>?_⟩
    ·trivial
    ·first | rfl | trivial
    ·first | rfl | trivial
    ·exact hq j (by omega)
def aEs:Hyp:=⟨[(.v 0,(0,9223372036854775807)),(.v 1,(0,9223372036854775807)),(.v 2,(1,9223372036854775807))],[(0,(0,255))],[],[],[],[]⟩
def bHU:List SV:=[.s (.slc 0 (.v 1) (.v 2) (.kn (.v 3)))]
def cpM (g:Option Nat):Mem:=[⟨5,[.run .u8 (.v 0) (.av 0) 0],true,g,false⟩]
--SKEND
def cp0:E:=.lt (.v 4) (.v 2)
def cp1:E:=.add (.v 1) (.v 4)
def cp2:E:=.lt cp1 (.v 0)
def cp3:E:=.add (.v 4) (.lit 1)
def cp4:E:=.sel (.av 1) cp1
def cp5:E:=.bits .xor .u8 cp4 (.lit 90)
def cp6:E:=.upd (.av 1) cp1 cp5
noncomputable def aUG (g:Option Nat):List Item:=nZ Try.prog 33 2
noncomputable def bDz (g:Option Nat):Head:=⟨2,(aUG g),⟨[((.v 0),(0,9223372036854775807)),((.v 1),(0,9223372036854775807)),((.v 2),(1,9223372036854775807)),((.v 4),(0,9223372036854775807))],[(0,(0,255)),(1,(0,255))],[],[],[],[]⟩,[⟨2,[],.s (.int .i64 (.v 4))⟩,⟨0,[],.s (.slc 0 (.v 1) (.v 2) (.kn (.v 3)))⟩],[⟨5,[.run .u8 (.v 0) (.av 1) 0],true,g,false⟩]⟩
noncomputable def aUH (g:Option Nat):List Head:=[(bDz g)]
def cpD:Dim:=⟨5,0,2,4,0,1,1⟩
theorem cpstn:fH Try.prog S0 S0h cpD (aUH none) [] 3000 0 33 aEs bHU (cpM none)=some (.jump 0 (aUG none) ⟨[(4,(.lit 0))],[],[(1,(.av 0))]⟩):=by kernel_rfl
theorem bNs:lZ Try.prog S0 S0h cpD (aUH none) [] 3000 0 33 (bDz none)=some (.ite cp0 (.need cp2 (.jump 0 (aUG none) ⟨[(4,cp3)],[],[(1,cp6)]⟩)) (.ret (.tup []) [⟨5,[.run .u8 (.v 0) (.av 1) 0],true,none,false⟩])):=by kernel_rfl
theorem cpsts:fH Try.prog S0 S0h cpD (aUH (some 1)) [] 3000 0 33 aEs bHU (cpM (some 1))=some (.jump 0 (aUG (some 1)) ⟨[(4,(.lit 0))],[],[(1,(.av 0))]⟩):=by kernel_rfl
theorem bNt:lZ Try.prog S0 S0h cpD (aUH (some 1)) [] 3000 0 33 (bDz (some 1))=some (.ite cp0 (.need cp2 (.jump 0 (aUG (some 1)) ⟨[(4,cp3)],[],[(1,cp6)]⟩)) (.ret (.tup []) [⟨5,[.run .u8 (.v 0) (.av 1) 0],true,some 1,false⟩])):=by kernel_rfl
def bHT:Hyp:=⟨[],[],[],[],[],[]⟩
def bNq:List SV:=[.s (.xslc 0 (.lit 0) (.lit 0) (.lit 0))]
theorem bNr:enter Try.prog S0 S0h 3000 6 33 bHT bNq []=some ([],.tup [],none):=by kernel_rfl
theorem bBh:aWx Try.prog 33 5:=by
 refine ⟨fun w base C hb=>?_,fun ρ ι B w o n C hm hty hwr hd hg hcells hon hmax hn=>?_⟩
 ·let x:Ext:=⟨.slice base 0 C,0,1,fun _=>Go.undef⟩
  let I:Interp:=Iv (fun i j=>match i,j with | 0,0=>x | _,_=>Ext.none)
  have hx:x.ok w:=⟨base,C,rfl,Nat.zero_le _,fun h=>⟨rfl,hb h⟩,fun a _ k hk=>by simp [x] at hk⟩
  have hxs:∀ i j,(I.xs i j).ok w:=fun i j=>by rcases i with _ | i <;> rcases j with _ | j <;> first | exact Ext.lU _ | exact hx
  let E:Env:=⟨[],[],[],[],I⟩
  have hok:bHT.ok E:=by refine ⟨?_,?_,?_,?_,?_,?_⟩ <;> simp [bHT]
  have hc:=(bP (P:=Try.prog) (I:=I) (f:=33) (hc':=S0h) (aBz I) (by kernel_rfl) 3000 6).ok bHT bNq [] [] (.tup []) none bNr E ⟨w,0,Loc.id⟩ Loc.id w rfl hok (fun e he=>by cases he) (aG.empty hxs Loc.id)
  have hargs:(bNq.map (SV.aB E Loc.id)).toArray=#[.slice base 0 C]:=by
   have:SV.aB E Loc.id (.s (.xslc 0 (.lit 0) (.lit 0) (.lit 0)))=.slice base 0 C:=by
    simp only [SV.aB,S.aB,aC,Int.toNat_zero,Ext.sub,E,I,Iv,x,Nat.zero_mul,Nat.sub_zero]
    congr 1
    cases base <;> simp [Addr.add]
   exact congrArg List.toArray (gV this rfl)
  rw [hargs] at hc
  exact hc.mono fun e w' ⟨h1,R⟩=>⟨by rw [h1,aV rfl];rfl,R.aBN⟩
 ·obtain ⟨g,hgg,hst,hsg⟩:∃ g,B.grow=g∧(fH Try.prog S0 S0h cpD (aUH g) [] 3000 0 33 aEs bHU (cpM g)=some (.jump 0 (aUG g) ⟨[(4,(.lit 0))],[],[(1,(.av 0))]⟩))∧(lZ Try.prog S0 S0h cpD (aUH g) [] 3000 0 33 (bDz g)=some (.ite cp0 (.need cp2 (.jump 0 (aUG g) ⟨[(4,cp3)],[],[(1,cp6)]⟩)) (.ret (.tup []) [⟨5,[.run .u8 (.v 0) (.av 1) 0],true,g,false⟩]))):=by
   rcases hg with hg | hg
   ·exact ⟨none,hg,cpstn,bNs⟩
   ·exact ⟨some 1,hg,cpsts,bNt⟩
  let N:=(cellsOf ρ ι B.aE).length
  let L:Nat→Int:=fun j=>jU (((cellsOf ρ ι B.aE)[j]?).getD Go.undef)
  let E (i:Int) (A:Nat→Int):Env:=⟨[(N:Int),(o:Int),(n:Int),(C:Int),i],[],[L,A],[],ρ.I⟩
  have hN:(N:Int)≤9223372036854775807:=by have:N≤maxLen:=hmax;have R:maxLen≤9223372036854775807:=by decide
                                          omega
  have hoN:o+n≤N:=hon
  have K:∀ j,0≤L j∧L j≤255:=fun j=>by
   show 0≤jU (((cellsOf ρ ι B.aE)[j]?).getD Go.undef)∧jU (((cellsOf ρ ι B.aE)[j]?).getD Go.undef)≤255
   cases hj:(cellsOf ρ ι B.aE)[j]? with
   | none=>simp [jU,Go.undef]
   | some v =>
     obtain ⟨z,rfl,hz⟩:=hcells v (List.mem_of_getElem? hj)
     simpa [jU,inR,dK,iP,bS] using hz
  have hce:∀ i A,cellsOf (E i A) ι [Seg.run .u8 (.v 0) (.av 0) 0]=cellsOf ρ ι B.aE:=fun i A=>by
   simp only [cellsOf,List.flatMap_cons,List.flatMap_nil,List.append_nil,Seg.cells]
   apply List.ext_getElem?
   intro j
   rw [List.getElem?_map]
   show Option.map _ (List.range ((_root_.Go.Sx.E.i (E i A) (.v 0))).toNat)[j]? = _
   rw [show (_root_.Go.Sx.E.i (E i A) (.v 0)).toNat=N by simp [E,i_v]]
   by_cases hj:j<N
   ·rw [List.getElem?_range hj,Option.map_some]
    have hj':j<(cellsOf ρ ι B.aE).length:=hj
    obtain ⟨z,hz,_⟩:=hcells _ (List.getElem_mem hj')
    have e1:L j=z:=by
     show jU (((cellsOf ρ ι B.aE)[j]?).getD Go.undef)=z
     rw [List.getElem?_eq_getElem hj',hz];rfl
    have e2:_root_.Go.Sx.E.a (E i A) (.av 0) (0+j)=z:=by rw [Nat.zero_add,← e1];rfl
    have hgoal:(List.flatMap (Seg.cells ρ ι) B.aE)[j]? = some (Value.int .u8 z):=by
     rw [show List.flatMap (Seg.cells ρ ι) B.aE=cellsOf ρ ι B.aE from rfl,List.getElem?_eq_getElem hj',hz]
    rw [hgoal,e2]
   ·have hj':(cellsOf ρ ι B.aE).length≤j:=Nat.le_of_not_lt hj
    rw [show List.flatMap (Seg.cells ρ ι) B.aE=cellsOf ρ ι B.aE from rfl,List.getElem?_eq_none hj',List.getElem?_eq_none (by simpa using Nat.le_of_not_lt hj)];rfl
  have hm0:aG (E 0 fun _=>0) ⟨w,1,ι⟩ ι (cpM g) w:=hm.bJz rfl (hce 0 _) hty.symm hwr.symm hgg.symm hd.symm
  have hargs:(bHU.map (SV.aB (E 0 fun _=>0) ι)).toArray=#[.slice (some ⟨ι 0,o,none⟩) n C]:=by
   refine congrArg List.toArray (gV ?_ rfl)
   simp [SV.aB,S.aB,addr,E,i_v]
  rw [← hargs]
  have hok:∀ (H:Hyp) (i:Int) (A:Nat→Int),0≤i∧i≤9223372036854775807→(∀ j,0≤A j∧A j≤255)→H.e=[(.v 0,(0,9223372036854775807)),(.v 1,(0,9223372036854775807)),(.v 2,(1,9223372036854775807)),(.v 4,(0,9223372036854775807))]→H.a=[(0,(0,255)),(1,(0,255))]→H.fi=[]→H.fa=[]→H.b=[]→H.x=[]→H.ok (E i A):=by
   intro H i A hi hA e1 e2 e3 e4 e5 e6
   refine ⟨by simp [e6],?_,?_,by simp [e3],by simp [e4],by simp [e5]⟩
   ·rw [e1];intro p hp
    simp only [List.mem_cons,List.not_mem_nil,or_false] at hp
    rcases hp with rfl | rfl | rfl | rfl <;> simp only [inR,i_v,E,List.getD_cons_zero,List.getD_cons_succ] <;> omega
   ·rw [e2];intro p hp
    simp only [List.mem_cons,List.not_mem_nil,or_false] at hp
    rcases hp with rfl | rfl
    ·exact K
    ·exact hA
  have hok0:aEs.ok (E 0 fun _=>0):=by
   refine ⟨by simp [aEs],?_,?_,by simp [aEs],by simp [aEs],by simp [aEs]⟩
   ·intro p hp
    simp only [aEs,List.mem_cons,List.not_mem_nil,or_false] at hp
    rcases hp with rfl | rfl | rfl <;> simp only [inR,i_v,E,List.getD_cons_zero,List.getD_cons_succ] <;> omega
   ·intro p hp
    simp only [aEs,List.mem_cons,List.not_mem_nil,or_false] at hp
    rcases hp with rfl
    exact K
  refine iQ (β:=⟨w,1,ι⟩) (aBz ρ.I) (by kernel_rfl) (Nat.le_refl _) (fun k ρ'=>k=0∧∃ (i:Int) (A:Nat→Int),ρ'=E i A∧0≤i∧i≤n∧∀ j,0≤A j∧A j≤255)
   (fun _ ρ=>((n:Int)+1-ρ.i.getD 4 0).toNat) (fun _ v m=>v=.tup []∧m.length=1) ?_ hst hm0 rfl ⟨rfl,rfl,rfl⟩ hok0 ?_ ?_
  ·rintro ρ' v m hI ⟨rfl,hl⟩ ι' w' hm'
   obtain ⟨B',rfl⟩:∃ B',m=[B']:=by
    match m,hl with
    | [B'],_=>exact ⟨B',rfl⟩
   exact ⟨by rw [aV rfl];rfl,ρ',ι',B',hm'⟩
  ·simp only [LT.holds]
   exact ⟨rfl,trivial,0,L,rfl,by omega,by omega,K⟩
  ·rintro j h ρ' hj hI hz ⟨rfl,i,A,rfl,F,G,hA⟩
   simp only [aUH,List.getElem?_cons_zero,Option.some.injEq] at hj;subst hj
   refine ⟨hok (bDz g).H i A (by omega) hA rfl rfl rfl rfl rfl rfl,_,hsg,?_⟩
   simp only [LT.holds]
   refine ⟨fun l=>?_,fun l=>?_⟩
   ·
     refine ⟨?_,fun u=>?_⟩
     ·
       simp only [E,cp0,cp1,cp2,cp3,cp4,cp5,cp6,i_v,iB,aC,aN,aR,cY,bH,cD,bB,bX,bT,aQ,cV,gI,fW,eU,cX,cN,eW,eC,dE,cC,bW,List.getD_cons_zero,List.getD_cons_succ,decide_eq_true_eq,decide_eq_false_iff_not,Bool.and_eq_true,Bool.or_eq_true,Bool.not_eq_true',Bool.not_eq_false',Bool.and_eq_false_iff,Bool.or_eq_false_iff,Bool.not_not,cT,cS,cR,cQ,gF,cH,bZ] at l ⊢
       omega
     simp only [E,cp0,cp1,cp2,cp3,cp4,cp5,cp6,i_v,iB,aC,aN,aR,cY,bH,cD,bB,bX,bT,aQ,cV,gI,fW,eU,cX,cN,eW,eC,dE,cC,bW,List.getD_cons_zero,List.getD_cons_succ,decide_eq_true_eq,decide_eq_false_iff_not,Bool.and_eq_true,Bool.or_eq_true,Bool.not_eq_true',Bool.not_eq_false',Bool.and_eq_false_iff,Bool.or_eq_false_iff,Bool.not_not,cT,cS,cR,cQ,gF,cH,bZ] at l u
     refine ⟨rfl,⟨trivial,i+1,_,rfl,by omega,by omega,fun j=>?_⟩,?_⟩
     ·have hb:∀ x y:Int,0≤aK .xor .u8 x y∧aK .xor .u8 x y≤255:=fun x y=>by
       simp only [aK,IntKind.wrap,IntKind.bits,IntKind.signed]
       simp
       omega
      have key:∀ (c:Prop) [Decidable c] (x y:Int),(0≤x∧x≤255)→(0≤y∧y≤255)→0≤(if c then x else y)∧(if c then x else y)≤255:=fun c _ x y h1 R=>by split <;> assumption
      exact key _ _ _ (hb _ _) (hA j)
     ·show ((n:Int)+1-(i+1)).toNat<((n:Int)+1-i).toNat
      omega
   ·
     exact ⟨by trivial,rfl⟩
end Go.Proofs.Ytcckecfjjccffaa
