/- The whole of the law SignalCommutes, which returns true for every input. A step that touches nothing shared is the same whether the main side takes or gives a byte ahead of it or behind it. No condition. -/
import Derived.Test.YtcckecfjjccffaaSignalCommutesL0
import Derived.Test.YtcckecfjjccffaaSignalCommutesL1
import Derived.Test.YtcckecfjjccffaaSignalCommutesL2
import Derived.Test.YtcckecfjjccffaaSignalCommutesL3
namespace Go.Proofs.Ytcckecfjjccffaa.SignalCommutes
open Go.Sx Go.ChangeShapes Go.WideShapes Go.ChangeAt Go.RowKit
set_option linter.unusedVariables false
set_option linter.unusedSimpArgs false
set_option maxRecDepth 100000
set_option maxHeartbeats 20000000 in
theorem bRI (x0 x1:Ext) (bP0:Int) (rbP0:inR (dW .u8) bP0) (x2:Ext) (w:World) (g0:kN x0 w [some .u32]) (g1:kN x1 w [some .u16]) (g2:kN x2 w [some .i64,some .i64,some .u8]) :
 Calls Try.prog 5 #[.agg #[x0.v,x1.v,.int .u8 bP0],x2.v] w fun r w'=>r=.returned (.bool true)∧Below w.heap.size w w':=by
 have hx0:SV.aC (⟨[(x0.n:Int),(x1.n:Int),bP0,(x2.n:Int),0,0,0,0,0,0,0,0,0,0,0,0,0,0,0,0,0],[],[bC x0 1 0,bC x1 1 0,bC x2 3 0,bC x2 3 1,bC x2 3 2,fun _=>0,fun _=>0],[],Iv (fun i j=>match i,j with | 0,0=>x0 | 1,0=>x1 | 2,0=>x2 | _,_=>Ext.none)⟩:Env) Loc.id (.s (.xslc 0 (.lit 0) (.lit 0) (.v 0)))=x0.v:=iR g0 rfl rfl
 have hx1:SV.aC (⟨[(x0.n:Int),(x1.n:Int),bP0,(x2.n:Int),0,0,0,0,0,0,0,0,0,0,0,0,0,0,0,0,0],[],[bC x0 1 0,bC x1 1 0,bC x2 3 0,bC x2 3 1,bC x2 3 2,fun _=>0,fun _=>0],[],Iv (fun i j=>match i,j with | 0,0=>x0 | 1,0=>x1 | 2,0=>x2 | _,_=>Ext.none)⟩:Env) Loc.id (.s (.xslc 1 (.lit 0) (.lit 0) (.v 1)))=x1.v:=iR g1 rfl rfl
 have hx2:SV.aC (⟨[(x0.n:Int),(x1.n:Int),bP0,(x2.n:Int),0,0,0,0,0,0,0,0,0,0,0,0,0,0,0,0,0],[],[bC x0 1 0,bC x1 1 0,bC x2 3 0,bC x2 3 1,bC x2 3 2,fun _=>0,fun _=>0],[],Iv (fun i j=>match i,j with | 0,0=>x0 | 1,0=>x1 | 2,0=>x2 | _,_=>Ext.none)⟩:Env) Loc.id (.s (.xslc 2 (.lit 0) (.lit 0) (.v 3)))=x2.v:=iR g2 rfl rfl
 have hargs:(eLs.map (SV.aC (⟨[(x0.n:Int),(x1.n:Int),bP0,(x2.n:Int),0,0,0,0,0,0,0,0,0,0,0,0,0,0,0,0,0],[],[bC x0 1 0,bC x1 1 0,bC x2 3 0,bC x2 3 1,bC x2 3 2,fun _=>0,fun _=>0],[],Iv (fun i j=>match i,j with | 0,0=>x0 | 1,0=>x1 | 2,0=>x2 | _,_=>Ext.none)⟩:Env) Loc.id)).toArray=#[.agg #[x0.v,x1.v,.int .u8 bP0],x2.v]:=by
  refine congrArg List.toArray ?_
  exact (iZ (aDr hx0 hx1 rfl) (iZ hx2 rfl))
 rw [← hargs]
 have hok:Hyp.ok eHy (⟨[(x0.n:Int),(x1.n:Int),bP0,(x2.n:Int),0,0,0,0,0,0,0,0,0,0,0,0,0,0,0,0,0],[],[bC x0 1 0,bC x1 1 0,bC x2 3 0,bC x2 3 1,bC x2 3 2,fun _=>0,fun _=>0],[],Iv (fun i j=>match i,j with | 0,0=>x0 | 1,0=>x1 | 2,0=>x2 | _,_=>Ext.none)⟩:Env):=by
  refine ⟨?_,?_,?_,(fun p hp=>bDe _ p hp),?_,by simp [eHy]⟩
  ·intro p hp
   simp only [eHy,List.mem_cons,List.not_mem_nil,or_false] at hp
   rcases hp with rfl | rfl | rfl
   ·exact sI g0 rfl rfl rfl
   ·exact sI g1 rfl rfl rfl
   ·exact (bKW (n:=.v 3) [.i64,.i64,.u8] [2,3,4] g2 (by decide) rfl rfl rfl (fun f a h=>by rcases f with _ | _ | _ | f <;> simp only [List.getElem?_cons_zero,List.getElem?_cons_succ,List.getElem?_nil,Option.some.injEq,reduceCtorEq] at h <;> subst h <;> first | exact rfl | exact rfl | exact rfl))
  ·intro p hp
   simp only [eHy,List.mem_cons,List.not_mem_nil,or_false] at hp
   rcases hp with rfl | rfl | rfl | rfl
   ·exact fL g0
   ·exact fL g1
   ·exact rbP0
   ·exact fL g2
  ·intro p hp
   simp only [eHy,List.mem_cons,List.not_mem_nil,or_false] at hp
   rcases hp with rfl | rfl | rfl | rfl | rfl
   ·exact gF g0
   ·exact gF g1
   ·exact mF [.i64,.i64,.u8] g2 0 rfl
   ·exact mF [.i64,.i64,.u8] g2 1 rfl
   ·exact mF [.i64,.i64,.u8] g2 2 rfl
  ·exact fun p hp=>bDd _ p hp
 refine aYL (u:=0) (u0:=0) (D:=eD) (hs:=ehs) (ρ:=(⟨[(x0.n:Int),(x1.n:Int),bP0,(x2.n:Int),0,0,0,0,0,0,0,0,0,0,0,0,0,0,0,0,0],[],[bC x0 1 0,bC x1 1 0,bC x2 3 0,bC x2 3 1,bC x2 3 2,fun _=>0,fun _=>0],[],Iv (fun i j=>match i,j with | 0,0=>x0 | 1,0=>x1 | 2,0=>x2 | _,_=>Ext.none)⟩:Env)) (G_ok _) (by kernel_rfl) rfl (bRH x0 x1 x2 ) emu est rfl ⟨rfl,rfl,rfl⟩ hok (evcS x0 x1 x2 ((x0.n:Int)) ((x1.n:Int)) (bP0) ((x2.n:Int)) (bC x0 1 0) (bC x1 1 0) (bC x2 3 0) (bC x2 3 1) (bC x2 3 2) ⟨fL g0,fL g1,rbP0,fL g2,gF g0,gF g1,mF [.i64,.i64,.u8] g2 0 rfl,mF [.i64,.i64,.u8] g2 1 rfl,mF [.i64,.i64,.u8] g2 2 rfl,rfl,rfl,rfl,rfl,rfl,rfl,rfl,rfl,trivial⟩) ?_ w (fun i j=>by rcases i with _ | _ | _ | i <;> rcases j with _ | j <;> first | exact Ext.lQ _ | exact g0.ok | exact g1.ok | exact g2.ok)
 intro j h ρ hj hI hz hInv
 rcases j with _ | j
 ·simp only [ehs,List.getElem?_cons_zero,List.getElem?_cons_succ,Option.some.injEq] at hj;subst hj
  obtain ⟨nx0,nx1,hP0,nx2,y4,y5,y6,y7,y8,y9,y10,y11,y12,y13,y14,y15,y16,y17,y18,y19,y20,Ax0,Ax1,Ax2_0,Ax2_1,Ax2_2,Z5,Z6,rfl,hB,hJ⟩:=hInv
  have hok2:Hyp.ok eh0.H (eV x0 x1 x2 nx0 nx1 hP0 nx2 y4 y5 y6 y7 y8 y9 y10 y11 y12 y13 y14 y15 y16 y17 y18 y19 y20 Ax0 Ax1 Ax2_0 Ax2_1 Ax2_2 Z5 Z6):=by
   have hB2:=hB;have hJ2:=hJ
   simp only [aO] at hB2;simp only [eJ0] at hJ2
   obtain ⟨hb0,hb1,hb2,hb3,hb4,hb5,hb6,hb7,hb8,hn0,hn1,hn2,ha0_0,ha1_0,ha2_0,ha2_1,ha2_2,_⟩:=hB2
   obtain ⟨hl0,hl1,hl2,hl3,hl4,hl5,hl6,hl7,hl8,hl9,hl10,hl11,hl12,hl13,hl14,hl15,hl16,hl17,hl18,hx,_⟩:=hJ2
   refine ⟨?_,?_,?_,(fun p hp=>bDe _ p hp),?_,by simp [eh0]⟩
   ·intro p hp
    simp only [eh0,List.mem_cons,List.not_mem_nil,or_false] at hp
    rcases hp with rfl | rfl | rfl
    ·exact sI g0 rfl hn0 ha0_0
    ·exact sI g1 rfl hn1 ha1_0
    ·exact (bKW (n:=.v 3) [.i64,.i64,.u8] [2,3,4] g2 (by decide) rfl rfl hn2 (fun f a h=>by rcases f with _ | _ | _ | f <;> simp only [List.getElem?_cons_zero,List.getElem?_cons_succ,List.getElem?_nil,Option.some.injEq,reduceCtorEq] at h <;> subst h <;> first | exact ha2_0 | exact ha2_1 | exact ha2_2))
   ·intro p hp
    simp only [eh0,List.mem_cons,List.not_mem_nil,or_false] at hp
    rcases hp with rfl | rfl | rfl | rfl | rfl | rfl | rfl | rfl | rfl | rfl | rfl | rfl | rfl | rfl | rfl | rfl | rfl | rfl | rfl | rfl | rfl
    ·exact hb0
    ·exact hb1
    ·exact hb2
    ·exact hb3
    ·exact hl0
    ·exact hl1
    ·exact hl2
    ·exact hl3
    ·exact hl4
    ·exact hl5
    ·exact hl6
    ·exact hl7
    ·exact hl8
    ·exact hl9
    ·exact hl10
    ·exact hl11
    ·exact hl12
    ·exact hl13
    ·exact hl14
    ·exact hl15
    ·exact hl16
   ·intro p hp
    simp only [eh0,List.mem_cons,List.not_mem_nil,or_false] at hp
    rcases hp with rfl | rfl | rfl | rfl | rfl | rfl | rfl
    ·exact hb4
    ·exact hb5
    ·exact hb6
    ·exact hb7
    ·exact hb8
    ·exact hl17
    ·exact hl18
   ·exact fun p hp=>bDd _ p hp
  have hB3:=hB
  have hJ3:=hJ
  simp only [aO] at hB3
  simp only [eJ0] at hJ3
  obtain ⟨b0,b1,b2,b3,c0,c1,c2,c3,c4,_⟩:=hB3
  obtain ⟨l4,l5,l6,l7,l8,l9,l10,l11,l12,l13,l14,l15,l16,l17,l18,l19,l20,m5,m6,hk,_⟩:=hJ3
  have rK:0≤(E.i (eV x0 x1 x2 nx0 nx1 hP0 nx2 y4 y5 y6 y7 y8 y9 y10 y11 y12 y13 y14 y15 y16 y17 y18 y19 y20 Ax0 Ax1 Ax2_0 Ax2_1 Ax2_2 Z5 Z6) e4)∧(E.i (eV x0 x1 x2 nx0 nx1 hP0 nx2 y4 y5 y6 y7 y8 y9 y10 y11 y12 y13 y14 y15 y16 y17 y18 y19 y20 Ax0 Ax1 Ax2_0 Ax2_1 Ax2_2 Z5 Z6) e4)≤3:=aB (e:=e4) (lo:=0) (hi:=3) hok2 (by kernel_rfl)
  have rT:0≤(E.i (eV x0 x1 x2 nx0 nx1 hP0 nx2 y4 y5 y6 y7 y8 y9 y10 y11 y12 y13 y14 y15 y16 y17 y18 y19 y20 Ax0 Ax1 Ax2_0 Ax2_1 Ax2_2 Z5 Z6) e6)∧(E.i (eV x0 x1 x2 nx0 nx1 hP0 nx2 y4 y5 y6 y7 y8 y9 y10 y11 y12 y13 y14 y15 y16 y17 y18 y19 y20 Ax0 Ax1 Ax2_0 Ax2_1 Ax2_2 Z5 Z6) e6)≤15:=aB (e:=e6) (lo:=0) (hi:=15) hok2 (by kernel_rfl)
  have rF:0≤(E.i (eV x0 x1 x2 nx0 nx1 hP0 nx2 y4 y5 y6 y7 y8 y9 y10 y11 y12 y13 y14 y15 y16 y17 y18 y19 y20 Ax0 Ax1 Ax2_0 Ax2_1 Ax2_2 Z5 Z6) e18)∧(E.i (eV x0 x1 x2 nx0 nx1 hP0 nx2 y4 y5 y6 y7 y8 y9 y10 y11 y12 y13 y14 y15 y16 y17 y18 y19 y20 Ax0 Ax1 Ax2_0 Ax2_1 Ax2_2 Z5 Z6) e18)≤15:=aB (e:=e18) (lo:=0) (hi:=15) hok2 (by kernel_rfl)
  have rD:0≤(E.i (eV x0 x1 x2 nx0 nx1 hP0 nx2 y4 y5 y6 y7 y8 y9 y10 y11 y12 y13 y14 y15 y16 y17 y18 y19 y20 Ax0 Ax1 Ax2_0 Ax2_1 Ax2_2 Z5 Z6) fH)∧(E.i (eV x0 x1 x2 nx0 nx1 hP0 nx2 y4 y5 y6 y7 y8 y9 y10 y11 y12 y13 y14 y15 y16 y17 y18 y19 y20 Ax0 Ax1 Ax2_0 Ax2_1 Ax2_2 Z5 Z6) fH)≤511:=aB (e:=fH) (lo:=0) (hi:=511) hok2 (by kernel_rfl)
  have cw:=c2 y4.toNat
  rcases Decidable.em (y4<nx2) with g | g
  ·have hk2:0≤y4∧y4≤9223372036854775806:=by omega
   rcases (show (E.i (eV x0 x1 x2 nx0 nx1 hP0 nx2 y4 y5 y6 y7 y8 y9 y10 y11 y12 y13 y14 y15 y16 y17 y18 y19 y20 Ax0 Ax1 Ax2_0 Ax2_1 Ax2_2 Z5 Z6) e4)≤0∨1≤(E.i (eV x0 x1 x2 nx0 nx1 hP0 nx2 y4 y5 y6 y7 y8 y9 y10 y11 y12 y13 y14 y15 y16 y17 y18 y19 y20 Ax0 Ax1 Ax2_0 Ax2_1 Ax2_2 Z5 Z6) e4) by omega) with qhK | qhK
   ·have hK:0≤(E.i (eV x0 x1 x2 nx0 nx1 hP0 nx2 y4 y5 y6 y7 y8 y9 y10 y11 y12 y13 y14 y15 y16 y17 y18 y19 y20 Ax0 Ax1 Ax2_0 Ax2_1 Ax2_2 Z5 Z6) e4)∧(E.i (eV x0 x1 x2 nx0 nx1 hP0 nx2 y4 y5 y6 y7 y8 y9 y10 y11 y12 y13 y14 y15 y16 y17 y18 y19 y20 Ax0 Ax1 Ax2_0 Ax2_1 Ax2_2 Z5 Z6) e4)≤0:=by omega
    rcases (show (E.i (eV x0 x1 x2 nx0 nx1 hP0 nx2 y4 y5 y6 y7 y8 y9 y10 y11 y12 y13 y14 y15 y16 y17 y18 y19 y20 Ax0 Ax1 Ax2_0 Ax2_1 Ax2_2 Z5 Z6) e6)≤5∨6≤(E.i (eV x0 x1 x2 nx0 nx1 hP0 nx2 y4 y5 y6 y7 y8 y9 y10 y11 y12 y13 y14 y15 y16 y17 y18 y19 y20 Ax0 Ax1 Ax2_0 Ax2_1 Ax2_2 Z5 Z6) e6) by omega) with qhT | qhT
    ·have hT:0≤(E.i (eV x0 x1 x2 nx0 nx1 hP0 nx2 y4 y5 y6 y7 y8 y9 y10 y11 y12 y13 y14 y15 y16 y17 y18 y19 y20 Ax0 Ax1 Ax2_0 Ax2_1 Ax2_2 Z5 Z6) e6)∧(E.i (eV x0 x1 x2 nx0 nx1 hP0 nx2 y4 y5 y6 y7 y8 y9 y10 y11 y12 y13 y14 y15 y16 y17 y18 y19 y20 Ax0 Ax1 Ax2_0 Ax2_1 Ax2_2 Z5 Z6) e6)≤5:=by omega
     rcases (show (E.i (eV x0 x1 x2 nx0 nx1 hP0 nx2 y4 y5 y6 y7 y8 y9 y10 y11 y12 y13 y14 y15 y16 y17 y18 y19 y20 Ax0 Ax1 Ax2_0 Ax2_1 Ax2_2 Z5 Z6) e18)≤7∨8≤(E.i (eV x0 x1 x2 nx0 nx1 hP0 nx2 y4 y5 y6 y7 y8 y9 y10 y11 y12 y13 y14 y15 y16 y17 y18 y19 y20 Ax0 Ax1 Ax2_0 Ax2_1 Ax2_2 Z5 Z6) e18) by omega) with qhF | qhF
     ·have hF:0≤(E.i (eV x0 x1 x2 nx0 nx1 hP0 nx2 y4 y5 y6 y7 y8 y9 y10 y11 y12 y13 y14 y15 y16 y17 y18 y19 y20 Ax0 Ax1 Ax2_0 Ax2_1 Ax2_2 Z5 Z6) e18)∧(E.i (eV x0 x1 x2 nx0 nx1 hP0 nx2 y4 y5 y6 y7 y8 y9 y10 y11 y12 y13 y14 y15 y16 y17 y18 y19 y20 Ax0 Ax1 Ax2_0 Ax2_1 Ax2_2 Z5 Z6) e18)≤7:=by omega
      rcases (show (Ax2_0 y4.toNat)≤0∨1≤(Ax2_0 y4.toNat) by omega) with qhw | qhw
      ·have hw : -9223372036854775808≤(Ax2_0 y4.toNat)∧(Ax2_0 y4.toNat)≤0:=by omega
       exact (fun h=>⟨_,h,LT.aS aUK (aVt rfl hB hJ h hk2 g)⟩) (Hyp.more hok2 _ _ (m1 hk2 (m1 hK (m1 hT (m1 hF (m1 hw m0))))) (m1 (decide_eq_true g) m0):Hyp.ok uP _)
      ·rcases (show (Ax2_0 y4.toNat)≤1∨2≤(Ax2_0 y4.toNat) by omega) with qhw | qhw
       ·have hw:1≤(Ax2_0 y4.toNat)∧(Ax2_0 y4.toNat)≤1:=by omega
        exact (fun h=>⟨_,h,LT.aS aUJ (aVs rfl hB hJ h hk2 g)⟩) (Hyp.more hok2 _ _ (m1 hk2 (m1 hK (m1 hT (m1 hF (m1 hw m0))))) (m1 (decide_eq_true g) m0):Hyp.ok uO _)
       ·have hw:2≤(Ax2_0 y4.toNat)∧(Ax2_0 y4.toNat)≤9223372036854775807:=by omega
        exact (fun h=>⟨_,h,LT.aS aUL (aVu rfl hB hJ h hk2 g)⟩) (Hyp.more hok2 _ _ (m1 hk2 (m1 hK (m1 hT (m1 hF (m1 hw m0))))) (m1 (decide_eq_true g) m0):Hyp.ok uQ _)
     ·rcases (show (E.i (eV x0 x1 x2 nx0 nx1 hP0 nx2 y4 y5 y6 y7 y8 y9 y10 y11 y12 y13 y14 y15 y16 y17 y18 y19 y20 Ax0 Ax1 Ax2_0 Ax2_1 Ax2_2 Z5 Z6) e18)≤10∨11≤(E.i (eV x0 x1 x2 nx0 nx1 hP0 nx2 y4 y5 y6 y7 y8 y9 y10 y11 y12 y13 y14 y15 y16 y17 y18 y19 y20 Ax0 Ax1 Ax2_0 Ax2_1 Ax2_2 Z5 Z6) e18) by omega) with qhF | qhF
      ·have hF:8≤(E.i (eV x0 x1 x2 nx0 nx1 hP0 nx2 y4 y5 y6 y7 y8 y9 y10 y11 y12 y13 y14 y15 y16 y17 y18 y19 y20 Ax0 Ax1 Ax2_0 Ax2_1 Ax2_2 Z5 Z6) e18)∧(E.i (eV x0 x1 x2 nx0 nx1 hP0 nx2 y4 y5 y6 y7 y8 y9 y10 y11 y12 y13 y14 y15 y16 y17 y18 y19 y20 Ax0 Ax1 Ax2_0 Ax2_1 Ax2_2 Z5 Z6) e18)≤10:=by omega
       exact (fun h=>⟨_,h,LT.aS aXV (aYl rfl hB hJ h hk2 g)⟩) (Hyp.more hok2 _ _ (m1 hk2 (m1 hK (m1 hT (m1 hF m0)))) (m1 (decide_eq_true g) m0):Hyp.ok aBb _)
      ·have hF:11≤(E.i (eV x0 x1 x2 nx0 nx1 hP0 nx2 y4 y5 y6 y7 y8 y9 y10 y11 y12 y13 y14 y15 y16 y17 y18 y19 y20 Ax0 Ax1 Ax2_0 Ax2_1 Ax2_2 Z5 Z6) e18)∧(E.i (eV x0 x1 x2 nx0 nx1 hP0 nx2 y4 y5 y6 y7 y8 y9 y10 y11 y12 y13 y14 y15 y16 y17 y18 y19 y20 Ax0 Ax1 Ax2_0 Ax2_1 Ax2_2 Z5 Z6) e18)≤15:=by omega
       rcases (show (Ax2_0 y4.toNat)≤0∨1≤(Ax2_0 y4.toNat) by omega) with qhw | qhw
       ·have hw : -9223372036854775808≤(Ax2_0 y4.toNat)∧(Ax2_0 y4.toNat)≤0:=by omega
        exact (fun h=>⟨_,h,LT.aS aUN (aVw rfl hB hJ h hk2 g)⟩) (Hyp.more hok2 _ _ (m1 hk2 (m1 hK (m1 hT (m1 hF (m1 hw m0))))) (m1 (decide_eq_true g) m0):Hyp.ok uS _)
       ·rcases (show (Ax2_0 y4.toNat)≤1∨2≤(Ax2_0 y4.toNat) by omega) with qhw | qhw
        ·have hw:1≤(Ax2_0 y4.toNat)∧(Ax2_0 y4.toNat)≤1:=by omega
         exact (fun h=>⟨_,h,LT.aS aUM (aVv rfl hB hJ h hk2 g)⟩) (Hyp.more hok2 _ _ (m1 hk2 (m1 hK (m1 hT (m1 hF (m1 hw m0))))) (m1 (decide_eq_true g) m0):Hyp.ok uR _)
        ·have hw:2≤(Ax2_0 y4.toNat)∧(Ax2_0 y4.toNat)≤9223372036854775807:=by omega
         exact (fun h=>⟨_,h,LT.aS aUO (aVx rfl hB hJ h hk2 g)⟩) (Hyp.more hok2 _ _ (m1 hk2 (m1 hK (m1 hT (m1 hF (m1 hw m0))))) (m1 (decide_eq_true g) m0):Hyp.ok uT _)
    ·rcases (show (E.i (eV x0 x1 x2 nx0 nx1 hP0 nx2 y4 y5 y6 y7 y8 y9 y10 y11 y12 y13 y14 y15 y16 y17 y18 y19 y20 Ax0 Ax1 Ax2_0 Ax2_1 Ax2_2 Z5 Z6) e6)≤6∨7≤(E.i (eV x0 x1 x2 nx0 nx1 hP0 nx2 y4 y5 y6 y7 y8 y9 y10 y11 y12 y13 y14 y15 y16 y17 y18 y19 y20 Ax0 Ax1 Ax2_0 Ax2_1 Ax2_2 Z5 Z6) e6) by omega) with qhT | qhT
     ·have hT:6≤(E.i (eV x0 x1 x2 nx0 nx1 hP0 nx2 y4 y5 y6 y7 y8 y9 y10 y11 y12 y13 y14 y15 y16 y17 y18 y19 y20 Ax0 Ax1 Ax2_0 Ax2_1 Ax2_2 Z5 Z6) e6)∧(E.i (eV x0 x1 x2 nx0 nx1 hP0 nx2 y4 y5 y6 y7 y8 y9 y10 y11 y12 y13 y14 y15 y16 y17 y18 y19 y20 Ax0 Ax1 Ax2_0 Ax2_1 Ax2_2 Z5 Z6) e6)≤6:=by omega
      exact (fun h=>⟨_,h,LT.aS aXX (aYn rfl hB hJ h hk2 g)⟩) (Hyp.more hok2 _ _ (m1 hk2 (m1 hK (m1 hT m0))) (m1 (decide_eq_true g) m0):Hyp.ok aBd _)
     ·rcases (show (E.i (eV x0 x1 x2 nx0 nx1 hP0 nx2 y4 y5 y6 y7 y8 y9 y10 y11 y12 y13 y14 y15 y16 y17 y18 y19 y20 Ax0 Ax1 Ax2_0 Ax2_1 Ax2_2 Z5 Z6) e6)≤7∨8≤(E.i (eV x0 x1 x2 nx0 nx1 hP0 nx2 y4 y5 y6 y7 y8 y9 y10 y11 y12 y13 y14 y15 y16 y17 y18 y19 y20 Ax0 Ax1 Ax2_0 Ax2_1 Ax2_2 Z5 Z6) e6) by omega) with qhT | qhT
      ·have hT:7≤(E.i (eV x0 x1 x2 nx0 nx1 hP0 nx2 y4 y5 y6 y7 y8 y9 y10 y11 y12 y13 y14 y15 y16 y17 y18 y19 y20 Ax0 Ax1 Ax2_0 Ax2_1 Ax2_2 Z5 Z6) e6)∧(E.i (eV x0 x1 x2 nx0 nx1 hP0 nx2 y4 y5 y6 y7 y8 y9 y10 y11 y12 y13 y14 y15 y16 y17 y18 y19 y20 Ax0 Ax1 Ax2_0 Ax2_1 Ax2_2 Z5 Z6) e6)≤7:=by omega
       exact (fun h=>⟨_,h,LT.aS aXY (aYo rfl hB hJ h hk2 g)⟩) (Hyp.more hok2 _ _ (m1 hk2 (m1 hK (m1 hT m0))) (m1 (decide_eq_true g) m0):Hyp.ok aBe _)
      ·have hT:8≤(E.i (eV x0 x1 x2 nx0 nx1 hP0 nx2 y4 y5 y6 y7 y8 y9 y10 y11 y12 y13 y14 y15 y16 y17 y18 y19 y20 Ax0 Ax1 Ax2_0 Ax2_1 Ax2_2 Z5 Z6) e6)∧(E.i (eV x0 x1 x2 nx0 nx1 hP0 nx2 y4 y5 y6 y7 y8 y9 y10 y11 y12 y13 y14 y15 y16 y17 y18 y19 y20 Ax0 Ax1 Ax2_0 Ax2_1 Ax2_2 Z5 Z6) e6)≤15:=by omega
       rcases (show (E.i (eV x0 x1 x2 nx0 nx1 hP0 nx2 y4 y5 y6 y7 y8 y9 y10 y11 y12 y13 y14 y15 y16 y17 y18 y19 y20 Ax0 Ax1 Ax2_0 Ax2_1 Ax2_2 Z5 Z6) e18)≤7∨8≤(E.i (eV x0 x1 x2 nx0 nx1 hP0 nx2 y4 y5 y6 y7 y8 y9 y10 y11 y12 y13 y14 y15 y16 y17 y18 y19 y20 Ax0 Ax1 Ax2_0 Ax2_1 Ax2_2 Z5 Z6) e18) by omega) with qhF | qhF
       ·have hF:0≤(E.i (eV x0 x1 x2 nx0 nx1 hP0 nx2 y4 y5 y6 y7 y8 y9 y10 y11 y12 y13 y14 y15 y16 y17 y18 y19 y20 Ax0 Ax1 Ax2_0 Ax2_1 Ax2_2 Z5 Z6) e18)∧(E.i (eV x0 x1 x2 nx0 nx1 hP0 nx2 y4 y5 y6 y7 y8 y9 y10 y11 y12 y13 y14 y15 y16 y17 y18 y19 y20 Ax0 Ax1 Ax2_0 Ax2_1 Ax2_2 Z5 Z6) e18)≤7:=by omega
        rcases (show (Ax2_0 y4.toNat)≤0∨1≤(Ax2_0 y4.toNat) by omega) with qhw | qhw
        ·have hw : -9223372036854775808≤(Ax2_0 y4.toNat)∧(Ax2_0 y4.toNat)≤0:=by omega
         exact (fun h=>⟨_,h,LT.aS aUQ (aVz rfl hB hJ h hk2 g)⟩) (Hyp.more hok2 _ _ (m1 hk2 (m1 hK (m1 hT (m1 hF (m1 hw m0))))) (m1 (decide_eq_true g) m0):Hyp.ok uV _)
        ·rcases (show (Ax2_0 y4.toNat)≤1∨2≤(Ax2_0 y4.toNat) by omega) with qhw | qhw
         ·have hw:1≤(Ax2_0 y4.toNat)∧(Ax2_0 y4.toNat)≤1:=by omega
          exact (fun h=>⟨_,h,LT.aS aUP (aVy rfl hB hJ h hk2 g)⟩) (Hyp.more hok2 _ _ (m1 hk2 (m1 hK (m1 hT (m1 hF (m1 hw m0))))) (m1 (decide_eq_true g) m0):Hyp.ok uU _)
         ·have hw:2≤(Ax2_0 y4.toNat)∧(Ax2_0 y4.toNat)≤9223372036854775807:=by omega
          exact (fun h=>⟨_,h,LT.aS aUR (aVA rfl hB hJ h hk2 g)⟩) (Hyp.more hok2 _ _ (m1 hk2 (m1 hK (m1 hT (m1 hF (m1 hw m0))))) (m1 (decide_eq_true g) m0):Hyp.ok uW _)
       ·rcases (show (E.i (eV x0 x1 x2 nx0 nx1 hP0 nx2 y4 y5 y6 y7 y8 y9 y10 y11 y12 y13 y14 y15 y16 y17 y18 y19 y20 Ax0 Ax1 Ax2_0 Ax2_1 Ax2_2 Z5 Z6) e18)≤10∨11≤(E.i (eV x0 x1 x2 nx0 nx1 hP0 nx2 y4 y5 y6 y7 y8 y9 y10 y11 y12 y13 y14 y15 y16 y17 y18 y19 y20 Ax0 Ax1 Ax2_0 Ax2_1 Ax2_2 Z5 Z6) e18) by omega) with qhF | qhF
        ·have hF:8≤(E.i (eV x0 x1 x2 nx0 nx1 hP0 nx2 y4 y5 y6 y7 y8 y9 y10 y11 y12 y13 y14 y15 y16 y17 y18 y19 y20 Ax0 Ax1 Ax2_0 Ax2_1 Ax2_2 Z5 Z6) e18)∧(E.i (eV x0 x1 x2 nx0 nx1 hP0 nx2 y4 y5 y6 y7 y8 y9 y10 y11 y12 y13 y14 y15 y16 y17 y18 y19 y20 Ax0 Ax1 Ax2_0 Ax2_1 Ax2_2 Z5 Z6) e18)≤10:=by omega
         exact (fun h=>⟨_,h,LT.aS aXW (aYm rfl hB hJ h hk2 g)⟩) (Hyp.more hok2 _ _ (m1 hk2 (m1 hK (m1 hT (m1 hF m0)))) (m1 (decide_eq_true g) m0):Hyp.ok aBc _)
        ·have hF:11≤(E.i (eV x0 x1 x2 nx0 nx1 hP0 nx2 y4 y5 y6 y7 y8 y9 y10 y11 y12 y13 y14 y15 y16 y17 y18 y19 y20 Ax0 Ax1 Ax2_0 Ax2_1 Ax2_2 Z5 Z6) e18)∧(E.i (eV x0 x1 x2 nx0 nx1 hP0 nx2 y4 y5 y6 y7 y8 y9 y10 y11 y12 y13 y14 y15 y16 y17 y18 y19 y20 Ax0 Ax1 Ax2_0 Ax2_1 Ax2_2 Z5 Z6) e18)≤15:=by omega
         rcases (show (Ax2_0 y4.toNat)≤0∨1≤(Ax2_0 y4.toNat) by omega) with qhw | qhw
         ·have hw : -9223372036854775808≤(Ax2_0 y4.toNat)∧(Ax2_0 y4.toNat)≤0:=by omega
          exact (fun h=>⟨_,h,LT.aS aUT (aVC rfl hB hJ h hk2 g)⟩) (Hyp.more hok2 _ _ (m1 hk2 (m1 hK (m1 hT (m1 hF (m1 hw m0))))) (m1 (decide_eq_true g) m0):Hyp.ok uY _)
         ·rcases (show (Ax2_0 y4.toNat)≤1∨2≤(Ax2_0 y4.toNat) by omega) with qhw | qhw
          ·have hw:1≤(Ax2_0 y4.toNat)∧(Ax2_0 y4.toNat)≤1:=by omega
           exact (fun h=>⟨_,h,LT.aS aUS (aVB rfl hB hJ h hk2 g)⟩) (Hyp.more hok2 _ _ (m1 hk2 (m1 hK (m1 hT (m1 hF (m1 hw m0))))) (m1 (decide_eq_true g) m0):Hyp.ok uX _)
          ·have hw:2≤(Ax2_0 y4.toNat)∧(Ax2_0 y4.toNat)≤9223372036854775807:=by omega
           exact (fun h=>⟨_,h,LT.aS aUU (aVD rfl hB hJ h hk2 g)⟩) (Hyp.more hok2 _ _ (m1 hk2 (m1 hK (m1 hT (m1 hF (m1 hw m0))))) (m1 (decide_eq_true g) m0):Hyp.ok uZ _)
   ·rcases (show (E.i (eV x0 x1 x2 nx0 nx1 hP0 nx2 y4 y5 y6 y7 y8 y9 y10 y11 y12 y13 y14 y15 y16 y17 y18 y19 y20 Ax0 Ax1 Ax2_0 Ax2_1 Ax2_2 Z5 Z6) e4)≤1∨2≤(E.i (eV x0 x1 x2 nx0 nx1 hP0 nx2 y4 y5 y6 y7 y8 y9 y10 y11 y12 y13 y14 y15 y16 y17 y18 y19 y20 Ax0 Ax1 Ax2_0 Ax2_1 Ax2_2 Z5 Z6) e4) by omega) with qhK | qhK
    ·have hK:1≤(E.i (eV x0 x1 x2 nx0 nx1 hP0 nx2 y4 y5 y6 y7 y8 y9 y10 y11 y12 y13 y14 y15 y16 y17 y18 y19 y20 Ax0 Ax1 Ax2_0 Ax2_1 Ax2_2 Z5 Z6) e4)∧(E.i (eV x0 x1 x2 nx0 nx1 hP0 nx2 y4 y5 y6 y7 y8 y9 y10 y11 y12 y13 y14 y15 y16 y17 y18 y19 y20 Ax0 Ax1 Ax2_0 Ax2_1 Ax2_2 Z5 Z6) e4)≤1:=by omega
     rcases (show (E.i (eV x0 x1 x2 nx0 nx1 hP0 nx2 y4 y5 y6 y7 y8 y9 y10 y11 y12 y13 y14 y15 y16 y17 y18 y19 y20 Ax0 Ax1 Ax2_0 Ax2_1 Ax2_2 Z5 Z6) e6)≤5∨6≤(E.i (eV x0 x1 x2 nx0 nx1 hP0 nx2 y4 y5 y6 y7 y8 y9 y10 y11 y12 y13 y14 y15 y16 y17 y18 y19 y20 Ax0 Ax1 Ax2_0 Ax2_1 Ax2_2 Z5 Z6) e6) by omega) with qhT | qhT
     ·have hT:0≤(E.i (eV x0 x1 x2 nx0 nx1 hP0 nx2 y4 y5 y6 y7 y8 y9 y10 y11 y12 y13 y14 y15 y16 y17 y18 y19 y20 Ax0 Ax1 Ax2_0 Ax2_1 Ax2_2 Z5 Z6) e6)∧(E.i (eV x0 x1 x2 nx0 nx1 hP0 nx2 y4 y5 y6 y7 y8 y9 y10 y11 y12 y13 y14 y15 y16 y17 y18 y19 y20 Ax0 Ax1 Ax2_0 Ax2_1 Ax2_2 Z5 Z6) e6)≤5:=by omega
      rcases (show (E.i (eV x0 x1 x2 nx0 nx1 hP0 nx2 y4 y5 y6 y7 y8 y9 y10 y11 y12 y13 y14 y15 y16 y17 y18 y19 y20 Ax0 Ax1 Ax2_0 Ax2_1 Ax2_2 Z5 Z6) e18)≤7∨8≤(E.i (eV x0 x1 x2 nx0 nx1 hP0 nx2 y4 y5 y6 y7 y8 y9 y10 y11 y12 y13 y14 y15 y16 y17 y18 y19 y20 Ax0 Ax1 Ax2_0 Ax2_1 Ax2_2 Z5 Z6) e18) by omega) with qhF | qhF
      ·have hF:0≤(E.i (eV x0 x1 x2 nx0 nx1 hP0 nx2 y4 y5 y6 y7 y8 y9 y10 y11 y12 y13 y14 y15 y16 y17 y18 y19 y20 Ax0 Ax1 Ax2_0 Ax2_1 Ax2_2 Z5 Z6) e18)∧(E.i (eV x0 x1 x2 nx0 nx1 hP0 nx2 y4 y5 y6 y7 y8 y9 y10 y11 y12 y13 y14 y15 y16 y17 y18 y19 y20 Ax0 Ax1 Ax2_0 Ax2_1 Ax2_2 Z5 Z6) e18)≤7:=by omega
       rcases (show (Ax2_0 y4.toNat)≤0∨1≤(Ax2_0 y4.toNat) by omega) with qhw | qhw
       ·have hw : -9223372036854775808≤(Ax2_0 y4.toNat)∧(Ax2_0 y4.toNat)≤0:=by omega
        exact (fun h=>⟨_,h,LT.aS aUW (aVF rfl hB hJ h hk2 g)⟩) (Hyp.more hok2 _ _ (m1 hk2 (m1 hK (m1 hT (m1 hF (m1 hw m0))))) (m1 (decide_eq_true g) m0):Hyp.ok vB _)
       ·rcases (show (Ax2_0 y4.toNat)≤1∨2≤(Ax2_0 y4.toNat) by omega) with qhw | qhw
        ·have hw:1≤(Ax2_0 y4.toNat)∧(Ax2_0 y4.toNat)≤1:=by omega
         exact (fun h=>⟨_,h,LT.aS aUV (aVE rfl hB hJ h hk2 g)⟩) (Hyp.more hok2 _ _ (m1 hk2 (m1 hK (m1 hT (m1 hF (m1 hw m0))))) (m1 (decide_eq_true g) m0):Hyp.ok vA _)
        ·have hw:2≤(Ax2_0 y4.toNat)∧(Ax2_0 y4.toNat)≤9223372036854775807:=by omega
         exact (fun h=>⟨_,h,LT.aS aUX (aVG rfl hB hJ h hk2 g)⟩) (Hyp.more hok2 _ _ (m1 hk2 (m1 hK (m1 hT (m1 hF (m1 hw m0))))) (m1 (decide_eq_true g) m0):Hyp.ok vC _)
      ·rcases (show (E.i (eV x0 x1 x2 nx0 nx1 hP0 nx2 y4 y5 y6 y7 y8 y9 y10 y11 y12 y13 y14 y15 y16 y17 y18 y19 y20 Ax0 Ax1 Ax2_0 Ax2_1 Ax2_2 Z5 Z6) e18)≤10∨11≤(E.i (eV x0 x1 x2 nx0 nx1 hP0 nx2 y4 y5 y6 y7 y8 y9 y10 y11 y12 y13 y14 y15 y16 y17 y18 y19 y20 Ax0 Ax1 Ax2_0 Ax2_1 Ax2_2 Z5 Z6) e18) by omega) with qhF | qhF
       ·have hF:8≤(E.i (eV x0 x1 x2 nx0 nx1 hP0 nx2 y4 y5 y6 y7 y8 y9 y10 y11 y12 y13 y14 y15 y16 y17 y18 y19 y20 Ax0 Ax1 Ax2_0 Ax2_1 Ax2_2 Z5 Z6) e18)∧(E.i (eV x0 x1 x2 nx0 nx1 hP0 nx2 y4 y5 y6 y7 y8 y9 y10 y11 y12 y13 y14 y15 y16 y17 y18 y19 y20 Ax0 Ax1 Ax2_0 Ax2_1 Ax2_2 Z5 Z6) e18)≤10:=by omega
        exact (fun h=>⟨_,h,LT.aS aXZ (aYp rfl hB hJ h hk2 g)⟩) (Hyp.more hok2 _ _ (m1 hk2 (m1 hK (m1 hT (m1 hF m0)))) (m1 (decide_eq_true g) m0):Hyp.ok aBf _)
       ·have hF:11≤(E.i (eV x0 x1 x2 nx0 nx1 hP0 nx2 y4 y5 y6 y7 y8 y9 y10 y11 y12 y13 y14 y15 y16 y17 y18 y19 y20 Ax0 Ax1 Ax2_0 Ax2_1 Ax2_2 Z5 Z6) e18)∧(E.i (eV x0 x1 x2 nx0 nx1 hP0 nx2 y4 y5 y6 y7 y8 y9 y10 y11 y12 y13 y14 y15 y16 y17 y18 y19 y20 Ax0 Ax1 Ax2_0 Ax2_1 Ax2_2 Z5 Z6) e18)≤15:=by omega
        rcases (show (Ax2_0 y4.toNat)≤0∨1≤(Ax2_0 y4.toNat) by omega) with qhw | qhw
        ·have hw : -9223372036854775808≤(Ax2_0 y4.toNat)∧(Ax2_0 y4.toNat)≤0:=by omega
         exact (fun h=>⟨_,h,LT.aS aUZ (aVI rfl hB hJ h hk2 g)⟩) (Hyp.more hok2 _ _ (m1 hk2 (m1 hK (m1 hT (m1 hF (m1 hw m0))))) (m1 (decide_eq_true g) m0):Hyp.ok vE _)
        ·rcases (show (Ax2_0 y4.toNat)≤1∨2≤(Ax2_0 y4.toNat) by omega) with qhw | qhw
         ·have hw:1≤(Ax2_0 y4.toNat)∧(Ax2_0 y4.toNat)≤1:=by omega
          exact (fun h=>⟨_,h,LT.aS aUY (aVH rfl hB hJ h hk2 g)⟩) (Hyp.more hok2 _ _ (m1 hk2 (m1 hK (m1 hT (m1 hF (m1 hw m0))))) (m1 (decide_eq_true g) m0):Hyp.ok vD _)
         ·have hw:2≤(Ax2_0 y4.toNat)∧(Ax2_0 y4.toNat)≤9223372036854775807:=by omega
          exact (fun h=>⟨_,h,LT.aS aVa (aVJ rfl hB hJ h hk2 g)⟩) (Hyp.more hok2 _ _ (m1 hk2 (m1 hK (m1 hT (m1 hF (m1 hw m0))))) (m1 (decide_eq_true g) m0):Hyp.ok vF _)
     ·rcases (show (E.i (eV x0 x1 x2 nx0 nx1 hP0 nx2 y4 y5 y6 y7 y8 y9 y10 y11 y12 y13 y14 y15 y16 y17 y18 y19 y20 Ax0 Ax1 Ax2_0 Ax2_1 Ax2_2 Z5 Z6) e6)≤6∨7≤(E.i (eV x0 x1 x2 nx0 nx1 hP0 nx2 y4 y5 y6 y7 y8 y9 y10 y11 y12 y13 y14 y15 y16 y17 y18 y19 y20 Ax0 Ax1 Ax2_0 Ax2_1 Ax2_2 Z5 Z6) e6) by omega) with qhT | qhT
      ·have hT:6≤(E.i (eV x0 x1 x2 nx0 nx1 hP0 nx2 y4 y5 y6 y7 y8 y9 y10 y11 y12 y13 y14 y15 y16 y17 y18 y19 y20 Ax0 Ax1 Ax2_0 Ax2_1 Ax2_2 Z5 Z6) e6)∧(E.i (eV x0 x1 x2 nx0 nx1 hP0 nx2 y4 y5 y6 y7 y8 y9 y10 y11 y12 y13 y14 y15 y16 y17 y18 y19 y20 Ax0 Ax1 Ax2_0 Ax2_1 Ax2_2 Z5 Z6) e6)≤6:=by omega
       exact (fun h=>⟨_,h,LT.aS aYb (aYr rfl hB hJ h hk2 g)⟩) (Hyp.more hok2 _ _ (m1 hk2 (m1 hK (m1 hT m0))) (m1 (decide_eq_true g) m0):Hyp.ok aBh _)
      ·rcases (show (E.i (eV x0 x1 x2 nx0 nx1 hP0 nx2 y4 y5 y6 y7 y8 y9 y10 y11 y12 y13 y14 y15 y16 y17 y18 y19 y20 Ax0 Ax1 Ax2_0 Ax2_1 Ax2_2 Z5 Z6) e6)≤7∨8≤(E.i (eV x0 x1 x2 nx0 nx1 hP0 nx2 y4 y5 y6 y7 y8 y9 y10 y11 y12 y13 y14 y15 y16 y17 y18 y19 y20 Ax0 Ax1 Ax2_0 Ax2_1 Ax2_2 Z5 Z6) e6) by omega) with qhT | qhT
       ·have hT:7≤(E.i (eV x0 x1 x2 nx0 nx1 hP0 nx2 y4 y5 y6 y7 y8 y9 y10 y11 y12 y13 y14 y15 y16 y17 y18 y19 y20 Ax0 Ax1 Ax2_0 Ax2_1 Ax2_2 Z5 Z6) e6)∧(E.i (eV x0 x1 x2 nx0 nx1 hP0 nx2 y4 y5 y6 y7 y8 y9 y10 y11 y12 y13 y14 y15 y16 y17 y18 y19 y20 Ax0 Ax1 Ax2_0 Ax2_1 Ax2_2 Z5 Z6) e6)≤7:=by omega
        exact (fun h=>⟨_,h,LT.aS aYc (aYs rfl hB hJ h hk2 g)⟩) (Hyp.more hok2 _ _ (m1 hk2 (m1 hK (m1 hT m0))) (m1 (decide_eq_true g) m0):Hyp.ok aBi _)
       ·have hT:8≤(E.i (eV x0 x1 x2 nx0 nx1 hP0 nx2 y4 y5 y6 y7 y8 y9 y10 y11 y12 y13 y14 y15 y16 y17 y18 y19 y20 Ax0 Ax1 Ax2_0 Ax2_1 Ax2_2 Z5 Z6) e6)∧(E.i (eV x0 x1 x2 nx0 nx1 hP0 nx2 y4 y5 y6 y7 y8 y9 y10 y11 y12 y13 y14 y15 y16 y17 y18 y19 y20 Ax0 Ax1 Ax2_0 Ax2_1 Ax2_2 Z5 Z6) e6)≤15:=by omega
        rcases (show (E.i (eV x0 x1 x2 nx0 nx1 hP0 nx2 y4 y5 y6 y7 y8 y9 y10 y11 y12 y13 y14 y15 y16 y17 y18 y19 y20 Ax0 Ax1 Ax2_0 Ax2_1 Ax2_2 Z5 Z6) e18)≤7∨8≤(E.i (eV x0 x1 x2 nx0 nx1 hP0 nx2 y4 y5 y6 y7 y8 y9 y10 y11 y12 y13 y14 y15 y16 y17 y18 y19 y20 Ax0 Ax1 Ax2_0 Ax2_1 Ax2_2 Z5 Z6) e18) by omega) with qhF | qhF
        ·have hF:0≤(E.i (eV x0 x1 x2 nx0 nx1 hP0 nx2 y4 y5 y6 y7 y8 y9 y10 y11 y12 y13 y14 y15 y16 y17 y18 y19 y20 Ax0 Ax1 Ax2_0 Ax2_1 Ax2_2 Z5 Z6) e18)∧(E.i (eV x0 x1 x2 nx0 nx1 hP0 nx2 y4 y5 y6 y7 y8 y9 y10 y11 y12 y13 y14 y15 y16 y17 y18 y19 y20 Ax0 Ax1 Ax2_0 Ax2_1 Ax2_2 Z5 Z6) e18)≤7:=by omega
         rcases (show (Ax2_0 y4.toNat)≤0∨1≤(Ax2_0 y4.toNat) by omega) with qhw | qhw
         ·have hw : -9223372036854775808≤(Ax2_0 y4.toNat)∧(Ax2_0 y4.toNat)≤0:=by omega
          exact (fun h=>⟨_,h,LT.aS aVc (aVL rfl hB hJ h hk2 g)⟩) (Hyp.more hok2 _ _ (m1 hk2 (m1 hK (m1 hT (m1 hF (m1 hw m0))))) (m1 (decide_eq_true g) m0):Hyp.ok vH _)
         ·rcases (show (Ax2_0 y4.toNat)≤1∨2≤(Ax2_0 y4.toNat) by omega) with qhw | qhw
          ·have hw:1≤(Ax2_0 y4.toNat)∧(Ax2_0 y4.toNat)≤1:=by omega
           exact (fun h=>⟨_,h,LT.aS aVb (aVK rfl hB hJ h hk2 g)⟩) (Hyp.more hok2 _ _ (m1 hk2 (m1 hK (m1 hT (m1 hF (m1 hw m0))))) (m1 (decide_eq_true g) m0):Hyp.ok vG _)
          ·have hw:2≤(Ax2_0 y4.toNat)∧(Ax2_0 y4.toNat)≤9223372036854775807:=by omega
           exact (fun h=>⟨_,h,LT.aS aVd (aVM rfl hB hJ h hk2 g)⟩) (Hyp.more hok2 _ _ (m1 hk2 (m1 hK (m1 hT (m1 hF (m1 hw m0))))) (m1 (decide_eq_true g) m0):Hyp.ok vI _)
        ·rcases (show (E.i (eV x0 x1 x2 nx0 nx1 hP0 nx2 y4 y5 y6 y7 y8 y9 y10 y11 y12 y13 y14 y15 y16 y17 y18 y19 y20 Ax0 Ax1 Ax2_0 Ax2_1 Ax2_2 Z5 Z6) e18)≤10∨11≤(E.i (eV x0 x1 x2 nx0 nx1 hP0 nx2 y4 y5 y6 y7 y8 y9 y10 y11 y12 y13 y14 y15 y16 y17 y18 y19 y20 Ax0 Ax1 Ax2_0 Ax2_1 Ax2_2 Z5 Z6) e18) by omega) with qhF | qhF
         ·have hF:8≤(E.i (eV x0 x1 x2 nx0 nx1 hP0 nx2 y4 y5 y6 y7 y8 y9 y10 y11 y12 y13 y14 y15 y16 y17 y18 y19 y20 Ax0 Ax1 Ax2_0 Ax2_1 Ax2_2 Z5 Z6) e18)∧(E.i (eV x0 x1 x2 nx0 nx1 hP0 nx2 y4 y5 y6 y7 y8 y9 y10 y11 y12 y13 y14 y15 y16 y17 y18 y19 y20 Ax0 Ax1 Ax2_0 Ax2_1 Ax2_2 Z5 Z6) e18)≤10:=by omega
          exact (fun h=>⟨_,h,LT.aS aYa (aYq rfl hB hJ h hk2 g)⟩) (Hyp.more hok2 _ _ (m1 hk2 (m1 hK (m1 hT (m1 hF m0)))) (m1 (decide_eq_true g) m0):Hyp.ok aBg _)
         ·have hF:11≤(E.i (eV x0 x1 x2 nx0 nx1 hP0 nx2 y4 y5 y6 y7 y8 y9 y10 y11 y12 y13 y14 y15 y16 y17 y18 y19 y20 Ax0 Ax1 Ax2_0 Ax2_1 Ax2_2 Z5 Z6) e18)∧(E.i (eV x0 x1 x2 nx0 nx1 hP0 nx2 y4 y5 y6 y7 y8 y9 y10 y11 y12 y13 y14 y15 y16 y17 y18 y19 y20 Ax0 Ax1 Ax2_0 Ax2_1 Ax2_2 Z5 Z6) e18)≤15:=by omega
          rcases (show (Ax2_0 y4.toNat)≤0∨1≤(Ax2_0 y4.toNat) by omega) with qhw | qhw
          ·have hw : -9223372036854775808≤(Ax2_0 y4.toNat)∧(Ax2_0 y4.toNat)≤0:=by omega
           exact (fun h=>⟨_,h,LT.aS aVf (aVO rfl hB hJ h hk2 g)⟩) (Hyp.more hok2 _ _ (m1 hk2 (m1 hK (m1 hT (m1 hF (m1 hw m0))))) (m1 (decide_eq_true g) m0):Hyp.ok vK _)
          ·rcases (show (Ax2_0 y4.toNat)≤1∨2≤(Ax2_0 y4.toNat) by omega) with qhw | qhw
           ·have hw:1≤(Ax2_0 y4.toNat)∧(Ax2_0 y4.toNat)≤1:=by omega
            exact (fun h=>⟨_,h,LT.aS aVe (aVN rfl hB hJ h hk2 g)⟩) (Hyp.more hok2 _ _ (m1 hk2 (m1 hK (m1 hT (m1 hF (m1 hw m0))))) (m1 (decide_eq_true g) m0):Hyp.ok vJ _)
           ·have hw:2≤(Ax2_0 y4.toNat)∧(Ax2_0 y4.toNat)≤9223372036854775807:=by omega
            exact (fun h=>⟨_,h,LT.aS aVg (aVP rfl hB hJ h hk2 g)⟩) (Hyp.more hok2 _ _ (m1 hk2 (m1 hK (m1 hT (m1 hF (m1 hw m0))))) (m1 (decide_eq_true g) m0):Hyp.ok vL _)
    ·rcases (show (E.i (eV x0 x1 x2 nx0 nx1 hP0 nx2 y4 y5 y6 y7 y8 y9 y10 y11 y12 y13 y14 y15 y16 y17 y18 y19 y20 Ax0 Ax1 Ax2_0 Ax2_1 Ax2_2 Z5 Z6) e4)≤2∨3≤(E.i (eV x0 x1 x2 nx0 nx1 hP0 nx2 y4 y5 y6 y7 y8 y9 y10 y11 y12 y13 y14 y15 y16 y17 y18 y19 y20 Ax0 Ax1 Ax2_0 Ax2_1 Ax2_2 Z5 Z6) e4) by omega) with qhK | qhK
     ·have hK:2≤(E.i (eV x0 x1 x2 nx0 nx1 hP0 nx2 y4 y5 y6 y7 y8 y9 y10 y11 y12 y13 y14 y15 y16 y17 y18 y19 y20 Ax0 Ax1 Ax2_0 Ax2_1 Ax2_2 Z5 Z6) e4)∧(E.i (eV x0 x1 x2 nx0 nx1 hP0 nx2 y4 y5 y6 y7 y8 y9 y10 y11 y12 y13 y14 y15 y16 y17 y18 y19 y20 Ax0 Ax1 Ax2_0 Ax2_1 Ax2_2 Z5 Z6) e4)≤2:=by omega
      rcases (show (E.i (eV x0 x1 x2 nx0 nx1 hP0 nx2 y4 y5 y6 y7 y8 y9 y10 y11 y12 y13 y14 y15 y16 y17 y18 y19 y20 Ax0 Ax1 Ax2_0 Ax2_1 Ax2_2 Z5 Z6) fH)≤187∨188≤(E.i (eV x0 x1 x2 nx0 nx1 hP0 nx2 y4 y5 y6 y7 y8 y9 y10 y11 y12 y13 y14 y15 y16 y17 y18 y19 y20 Ax0 Ax1 Ax2_0 Ax2_1 Ax2_2 Z5 Z6) fH) by omega) with qhD | qhD
      ·have hD:0≤(E.i (eV x0 x1 x2 nx0 nx1 hP0 nx2 y4 y5 y6 y7 y8 y9 y10 y11 y12 y13 y14 y15 y16 y17 y18 y19 y20 Ax0 Ax1 Ax2_0 Ax2_1 Ax2_2 Z5 Z6) fH)∧(E.i (eV x0 x1 x2 nx0 nx1 hP0 nx2 y4 y5 y6 y7 y8 y9 y10 y11 y12 y13 y14 y15 y16 y17 y18 y19 y20 Ax0 Ax1 Ax2_0 Ax2_1 Ax2_2 Z5 Z6) fH)≤187:=by omega
       rcases (show (Ax2_0 y4.toNat)≤0∨1≤(Ax2_0 y4.toNat) by omega) with qhw | qhw
       ·have hw : -9223372036854775808≤(Ax2_0 y4.toNat)∧(Ax2_0 y4.toNat)≤0:=by omega
        exact (fun h=>⟨_,h,LT.aS aVk (aVT rfl hB hJ h hk2 g)⟩) (Hyp.more hok2 _ _ (m1 hk2 (m1 hK (m1 hD (m1 hw m0)))) (m1 (decide_eq_true g) m0):Hyp.ok vP _)
       ·rcases (show (Ax2_0 y4.toNat)≤1∨2≤(Ax2_0 y4.toNat) by omega) with qhw | qhw
        ·have hw:1≤(Ax2_0 y4.toNat)∧(Ax2_0 y4.toNat)≤1:=by omega
         exact (fun h=>⟨_,h,LT.aS aVj (aVS rfl hB hJ h hk2 g)⟩) (Hyp.more hok2 _ _ (m1 hk2 (m1 hK (m1 hD (m1 hw m0)))) (m1 (decide_eq_true g) m0):Hyp.ok vO _)
        ·have hw:2≤(Ax2_0 y4.toNat)∧(Ax2_0 y4.toNat)≤9223372036854775807:=by omega
         exact (fun h=>⟨_,h,LT.aS aVl (aVU rfl hB hJ h hk2 g)⟩) (Hyp.more hok2 _ _ (m1 hk2 (m1 hK (m1 hD (m1 hw m0)))) (m1 (decide_eq_true g) m0):Hyp.ok vQ _)
      ·rcases (show (E.i (eV x0 x1 x2 nx0 nx1 hP0 nx2 y4 y5 y6 y7 y8 y9 y10 y11 y12 y13 y14 y15 y16 y17 y18 y19 y20 Ax0 Ax1 Ax2_0 Ax2_1 Ax2_2 Z5 Z6) fH)≤188∨189≤(E.i (eV x0 x1 x2 nx0 nx1 hP0 nx2 y4 y5 y6 y7 y8 y9 y10 y11 y12 y13 y14 y15 y16 y17 y18 y19 y20 Ax0 Ax1 Ax2_0 Ax2_1 Ax2_2 Z5 Z6) fH) by omega) with qhD | qhD
       ·have hD:188≤(E.i (eV x0 x1 x2 nx0 nx1 hP0 nx2 y4 y5 y6 y7 y8 y9 y10 y11 y12 y13 y14 y15 y16 y17 y18 y19 y20 Ax0 Ax1 Ax2_0 Ax2_1 Ax2_2 Z5 Z6) fH)∧(E.i (eV x0 x1 x2 nx0 nx1 hP0 nx2 y4 y5 y6 y7 y8 y9 y10 y11 y12 y13 y14 y15 y16 y17 y18 y19 y20 Ax0 Ax1 Ax2_0 Ax2_1 Ax2_2 Z5 Z6) fH)≤188:=by omega
        exact (fun h=>⟨_,h,LT.aS aVh (aVQ rfl hB hJ h hk2 g)⟩) (Hyp.more hok2 _ _ (m1 hk2 (m1 hK (m1 hD m0))) (m1 (decide_eq_true g) m0):Hyp.ok vM _)
       ·rcases (show (E.i (eV x0 x1 x2 nx0 nx1 hP0 nx2 y4 y5 y6 y7 y8 y9 y10 y11 y12 y13 y14 y15 y16 y17 y18 y19 y20 Ax0 Ax1 Ax2_0 Ax2_1 Ax2_2 Z5 Z6) fH)≤189∨190≤(E.i (eV x0 x1 x2 nx0 nx1 hP0 nx2 y4 y5 y6 y7 y8 y9 y10 y11 y12 y13 y14 y15 y16 y17 y18 y19 y20 Ax0 Ax1 Ax2_0 Ax2_1 Ax2_2 Z5 Z6) fH) by omega) with qhD | qhD
        ·have hD:189≤(E.i (eV x0 x1 x2 nx0 nx1 hP0 nx2 y4 y5 y6 y7 y8 y9 y10 y11 y12 y13 y14 y15 y16 y17 y18 y19 y20 Ax0 Ax1 Ax2_0 Ax2_1 Ax2_2 Z5 Z6) fH)∧(E.i (eV x0 x1 x2 nx0 nx1 hP0 nx2 y4 y5 y6 y7 y8 y9 y10 y11 y12 y13 y14 y15 y16 y17 y18 y19 y20 Ax0 Ax1 Ax2_0 Ax2_1 Ax2_2 Z5 Z6) fH)≤189:=by omega
         rcases (show (Ax2_0 y4.toNat)≤0∨1≤(Ax2_0 y4.toNat) by omega) with qhw | qhw
         ·have hw : -9223372036854775808≤(Ax2_0 y4.toNat)∧(Ax2_0 y4.toNat)≤0:=by omega
          exact (fun h=>⟨_,h,LT.aS aVn (aVW rfl hB hJ h hk2 g)⟩) (Hyp.more hok2 _ _ (m1 hk2 (m1 hK (m1 hD (m1 hw m0)))) (m1 (decide_eq_true g) m0):Hyp.ok vS _)
         ·rcases (show (Ax2_0 y4.toNat)≤1∨2≤(Ax2_0 y4.toNat) by omega) with qhw | qhw
          ·have hw:1≤(Ax2_0 y4.toNat)∧(Ax2_0 y4.toNat)≤1:=by omega
           exact (fun h=>⟨_,h,LT.aS aVm (aVV rfl hB hJ h hk2 g)⟩) (Hyp.more hok2 _ _ (m1 hk2 (m1 hK (m1 hD (m1 hw m0)))) (m1 (decide_eq_true g) m0):Hyp.ok vR _)
          ·have hw:2≤(Ax2_0 y4.toNat)∧(Ax2_0 y4.toNat)≤9223372036854775807:=by omega
           exact (fun h=>⟨_,h,LT.aS aVo (aVX rfl hB hJ h hk2 g)⟩) (Hyp.more hok2 _ _ (m1 hk2 (m1 hK (m1 hD (m1 hw m0)))) (m1 (decide_eq_true g) m0):Hyp.ok vT _)
        ·rcases (show (E.i (eV x0 x1 x2 nx0 nx1 hP0 nx2 y4 y5 y6 y7 y8 y9 y10 y11 y12 y13 y14 y15 y16 y17 y18 y19 y20 Ax0 Ax1 Ax2_0 Ax2_1 Ax2_2 Z5 Z6) fH)≤190∨191≤(E.i (eV x0 x1 x2 nx0 nx1 hP0 nx2 y4 y5 y6 y7 y8 y9 y10 y11 y12 y13 y14 y15 y16 y17 y18 y19 y20 Ax0 Ax1 Ax2_0 Ax2_1 Ax2_2 Z5 Z6) fH) by omega) with qhD | qhD
         ·have hD:190≤(E.i (eV x0 x1 x2 nx0 nx1 hP0 nx2 y4 y5 y6 y7 y8 y9 y10 y11 y12 y13 y14 y15 y16 y17 y18 y19 y20 Ax0 Ax1 Ax2_0 Ax2_1 Ax2_2 Z5 Z6) fH)∧(E.i (eV x0 x1 x2 nx0 nx1 hP0 nx2 y4 y5 y6 y7 y8 y9 y10 y11 y12 y13 y14 y15 y16 y17 y18 y19 y20 Ax0 Ax1 Ax2_0 Ax2_1 Ax2_2 Z5 Z6) fH)≤190:=by omega
          exact (fun h=>⟨_,h,LT.aS aVi (aVR rfl hB hJ h hk2 g)⟩) (Hyp.more hok2 _ _ (m1 hk2 (m1 hK (m1 hD m0))) (m1 (decide_eq_true g) m0):Hyp.ok vN _)
         ·have hD:191≤(E.i (eV x0 x1 x2 nx0 nx1 hP0 nx2 y4 y5 y6 y7 y8 y9 y10 y11 y12 y13 y14 y15 y16 y17 y18 y19 y20 Ax0 Ax1 Ax2_0 Ax2_1 Ax2_2 Z5 Z6) fH)∧(E.i (eV x0 x1 x2 nx0 nx1 hP0 nx2 y4 y5 y6 y7 y8 y9 y10 y11 y12 y13 y14 y15 y16 y17 y18 y19 y20 Ax0 Ax1 Ax2_0 Ax2_1 Ax2_2 Z5 Z6) fH)≤511:=by omega
          rcases (show (Ax2_0 y4.toNat)≤0∨1≤(Ax2_0 y4.toNat) by omega) with qhw | qhw
          ·have hw : -9223372036854775808≤(Ax2_0 y4.toNat)∧(Ax2_0 y4.toNat)≤0:=by omega
           exact (fun h=>⟨_,h,LT.aS aVq (aVZ rfl hB hJ h hk2 g)⟩) (Hyp.more hok2 _ _ (m1 hk2 (m1 hK (m1 hD (m1 hw m0)))) (m1 (decide_eq_true g) m0):Hyp.ok vV _)
          ·rcases (show (Ax2_0 y4.toNat)≤1∨2≤(Ax2_0 y4.toNat) by omega) with qhw | qhw
           ·have hw:1≤(Ax2_0 y4.toNat)∧(Ax2_0 y4.toNat)≤1:=by omega
            exact (fun h=>⟨_,h,LT.aS aVp (aVY rfl hB hJ h hk2 g)⟩) (Hyp.more hok2 _ _ (m1 hk2 (m1 hK (m1 hD (m1 hw m0)))) (m1 (decide_eq_true g) m0):Hyp.ok vU _)
           ·have hw:2≤(Ax2_0 y4.toNat)∧(Ax2_0 y4.toNat)≤9223372036854775807:=by omega
            exact (fun h=>⟨_,h,LT.aS aVr (aWa rfl hB hJ h hk2 g)⟩) (Hyp.more hok2 _ _ (m1 hk2 (m1 hK (m1 hD (m1 hw m0)))) (m1 (decide_eq_true g) m0):Hyp.ok vW _)
     ·have hK:3≤(E.i (eV x0 x1 x2 nx0 nx1 hP0 nx2 y4 y5 y6 y7 y8 y9 y10 y11 y12 y13 y14 y15 y16 y17 y18 y19 y20 Ax0 Ax1 Ax2_0 Ax2_1 Ax2_2 Z5 Z6) e4)∧(E.i (eV x0 x1 x2 nx0 nx1 hP0 nx2 y4 y5 y6 y7 y8 y9 y10 y11 y12 y13 y14 y15 y16 y17 y18 y19 y20 Ax0 Ax1 Ax2_0 Ax2_1 Ax2_2 Z5 Z6) e4)≤3:=by omega
      rcases (show (E.i (eV x0 x1 x2 nx0 nx1 hP0 nx2 y4 y5 y6 y7 y8 y9 y10 y11 y12 y13 y14 y15 y16 y17 y18 y19 y20 Ax0 Ax1 Ax2_0 Ax2_1 Ax2_2 Z5 Z6) e6)≤5∨6≤(E.i (eV x0 x1 x2 nx0 nx1 hP0 nx2 y4 y5 y6 y7 y8 y9 y10 y11 y12 y13 y14 y15 y16 y17 y18 y19 y20 Ax0 Ax1 Ax2_0 Ax2_1 Ax2_2 Z5 Z6) e6) by omega) with qhT | qhT
      ·have hT:0≤(E.i (eV x0 x1 x2 nx0 nx1 hP0 nx2 y4 y5 y6 y7 y8 y9 y10 y11 y12 y13 y14 y15 y16 y17 y18 y19 y20 Ax0 Ax1 Ax2_0 Ax2_1 Ax2_2 Z5 Z6) e6)∧(E.i (eV x0 x1 x2 nx0 nx1 hP0 nx2 y4 y5 y6 y7 y8 y9 y10 y11 y12 y13 y14 y15 y16 y17 y18 y19 y20 Ax0 Ax1 Ax2_0 Ax2_1 Ax2_2 Z5 Z6) e6)≤5:=by omega
       rcases (show (Ax2_0 y4.toNat)≤0∨1≤(Ax2_0 y4.toNat) by omega) with qhw | qhw
       ·have hw : -9223372036854775808≤(Ax2_0 y4.toNat)∧(Ax2_0 y4.toNat)≤0:=by omega
        exact (fun h=>⟨_,h,LT.aS aYe (aYu rfl hB hJ h hk2 g)⟩) (Hyp.more hok2 _ _ (m1 hk2 (m1 hK (m1 hT (m1 hw m0)))) (m1 (decide_eq_true g) m0):Hyp.ok aBk _)
       ·rcases (show (Ax2_0 y4.toNat)≤1∨2≤(Ax2_0 y4.toNat) by omega) with qhw | qhw
        ·have hw:1≤(Ax2_0 y4.toNat)∧(Ax2_0 y4.toNat)≤1:=by omega
         exact (fun h=>⟨_,h,LT.aS aYd (aYt rfl hB hJ h hk2 g)⟩) (Hyp.more hok2 _ _ (m1 hk2 (m1 hK (m1 hT (m1 hw m0)))) (m1 (decide_eq_true g) m0):Hyp.ok aBj _)
        ·have hw:2≤(Ax2_0 y4.toNat)∧(Ax2_0 y4.toNat)≤9223372036854775807:=by omega
         exact (fun h=>⟨_,h,LT.aS aYf (aYv rfl hB hJ h hk2 g)⟩) (Hyp.more hok2 _ _ (m1 hk2 (m1 hK (m1 hT (m1 hw m0)))) (m1 (decide_eq_true g) m0):Hyp.ok aBl _)
      ·rcases (show (E.i (eV x0 x1 x2 nx0 nx1 hP0 nx2 y4 y5 y6 y7 y8 y9 y10 y11 y12 y13 y14 y15 y16 y17 y18 y19 y20 Ax0 Ax1 Ax2_0 Ax2_1 Ax2_2 Z5 Z6) e6)≤6∨7≤(E.i (eV x0 x1 x2 nx0 nx1 hP0 nx2 y4 y5 y6 y7 y8 y9 y10 y11 y12 y13 y14 y15 y16 y17 y18 y19 y20 Ax0 Ax1 Ax2_0 Ax2_1 Ax2_2 Z5 Z6) e6) by omega) with qhT | qhT
       ·have hT:6≤(E.i (eV x0 x1 x2 nx0 nx1 hP0 nx2 y4 y5 y6 y7 y8 y9 y10 y11 y12 y13 y14 y15 y16 y17 y18 y19 y20 Ax0 Ax1 Ax2_0 Ax2_1 Ax2_2 Z5 Z6) e6)∧(E.i (eV x0 x1 x2 nx0 nx1 hP0 nx2 y4 y5 y6 y7 y8 y9 y10 y11 y12 y13 y14 y15 y16 y17 y18 y19 y20 Ax0 Ax1 Ax2_0 Ax2_1 Ax2_2 Z5 Z6) e6)≤6:=by omega
        exact (fun h=>⟨_,h,LT.aS aYj (aYz rfl hB hJ h hk2 g)⟩) (Hyp.more hok2 _ _ (m1 hk2 (m1 hK (m1 hT m0))) (m1 (decide_eq_true g) m0):Hyp.ok aBp _)
       ·rcases (show (E.i (eV x0 x1 x2 nx0 nx1 hP0 nx2 y4 y5 y6 y7 y8 y9 y10 y11 y12 y13 y14 y15 y16 y17 y18 y19 y20 Ax0 Ax1 Ax2_0 Ax2_1 Ax2_2 Z5 Z6) e6)≤7∨8≤(E.i (eV x0 x1 x2 nx0 nx1 hP0 nx2 y4 y5 y6 y7 y8 y9 y10 y11 y12 y13 y14 y15 y16 y17 y18 y19 y20 Ax0 Ax1 Ax2_0 Ax2_1 Ax2_2 Z5 Z6) e6) by omega) with qhT | qhT
        ·have hT:7≤(E.i (eV x0 x1 x2 nx0 nx1 hP0 nx2 y4 y5 y6 y7 y8 y9 y10 y11 y12 y13 y14 y15 y16 y17 y18 y19 y20 Ax0 Ax1 Ax2_0 Ax2_1 Ax2_2 Z5 Z6) e6)∧(E.i (eV x0 x1 x2 nx0 nx1 hP0 nx2 y4 y5 y6 y7 y8 y9 y10 y11 y12 y13 y14 y15 y16 y17 y18 y19 y20 Ax0 Ax1 Ax2_0 Ax2_1 Ax2_2 Z5 Z6) e6)≤7:=by omega
         exact (fun h=>⟨_,h,LT.aS aYk (aYA rfl hB hJ h hk2 g)⟩) (Hyp.more hok2 _ _ (m1 hk2 (m1 hK (m1 hT m0))) (m1 (decide_eq_true g) m0):Hyp.ok aBq _)
        ·have hT:8≤(E.i (eV x0 x1 x2 nx0 nx1 hP0 nx2 y4 y5 y6 y7 y8 y9 y10 y11 y12 y13 y14 y15 y16 y17 y18 y19 y20 Ax0 Ax1 Ax2_0 Ax2_1 Ax2_2 Z5 Z6) e6)∧(E.i (eV x0 x1 x2 nx0 nx1 hP0 nx2 y4 y5 y6 y7 y8 y9 y10 y11 y12 y13 y14 y15 y16 y17 y18 y19 y20 Ax0 Ax1 Ax2_0 Ax2_1 Ax2_2 Z5 Z6) e6)≤15:=by omega
         rcases (show (Ax2_0 y4.toNat)≤0∨1≤(Ax2_0 y4.toNat) by omega) with qhw | qhw
         ·have hw : -9223372036854775808≤(Ax2_0 y4.toNat)∧(Ax2_0 y4.toNat)≤0:=by omega
          exact (fun h=>⟨_,h,LT.aS aYh (aYx rfl hB hJ h hk2 g)⟩) (Hyp.more hok2 _ _ (m1 hk2 (m1 hK (m1 hT (m1 hw m0)))) (m1 (decide_eq_true g) m0):Hyp.ok aBn _)
         ·rcases (show (Ax2_0 y4.toNat)≤1∨2≤(Ax2_0 y4.toNat) by omega) with qhw | qhw
          ·have hw:1≤(Ax2_0 y4.toNat)∧(Ax2_0 y4.toNat)≤1:=by omega
           exact (fun h=>⟨_,h,LT.aS aYg (aYw rfl hB hJ h hk2 g)⟩) (Hyp.more hok2 _ _ (m1 hk2 (m1 hK (m1 hT (m1 hw m0)))) (m1 (decide_eq_true g) m0):Hyp.ok aBm _)
          ·have hw:2≤(Ax2_0 y4.toNat)∧(Ax2_0 y4.toNat)≤9223372036854775807:=by omega
           exact (fun h=>⟨_,h,LT.aS aYi (aYy rfl hB hJ h hk2 g)⟩) (Hyp.more hok2 _ _ (m1 hk2 (m1 hK (m1 hT (m1 hw m0)))) (m1 (decide_eq_true g) m0):Hyp.ok aBo _)
  ·exact (fun h=>⟨_,h,LT.aS bRK (bRL rfl hB hJ h g)⟩) (Hyp.more hok2 _ _ m0 (m1 (decide_eq_false g) m0):Hyp.ok bHQ _)
 ·simp [ehs] at hj
theorem calls (x0 x1:Ext) (bP0:Int) (rbP0:inR (dW .u8) bP0) (x2:Ext) (w:World) (g0:kN x0 w [some .u32]) (g1:kN x1 w [some .u16]) (g2:kN x2 w [some .i64,some .i64,some .u8]) :
 Calls Try.prog 5 #[.agg #[x0.v,x1.v,.int .u8 bP0],x2.v] w fun r w'=>r=.returned (.bool true)∧Below w.heap.size w w' :=
 bRI x0 x1 bP0 rbP0 x2 w g0 g1 g2
theorem own:ownKnob Try.prog.godebug=none:=by kernel_rfl
theorem lifted (os:Os) (started:os.Started) (H:Type) (enc:TypeId × Value→H) :
 ReturnsInHanded {} Try.checked os 5 .any (Rows.signalCommutesSpec.pre6 enc Try.prog Try.f5 Rows.signalCommutesRow.domain false) (Rows.signalCommutesSpec.post enc Try.prog Try.f5 false true false false):=by
 refine returnsInHanded_of_change (C:=Try.checked) own started (by kernel_rfl) Try.func5
  (ChangeSpec.witness6 (enc:=enc) (C:=Try.checked) false ⟨#[],#[.agg #[.slice none 0 0,.slice none 0 0,.int .u8 0],.slice none 0 0],[]⟩ 8 (by kernel_rfl) (by kernel_rfl) (by kernel_rfl) (by kernel_rfl)) ?_
 intro W base args ds gs before hval0 hW hcnd _
 have hval:∀ (j:Nat) t v,Try.f5.params[j]? = some t→args[j]? = some v→Value.okWide Try.prog W .any base t v:=hval0
 have hW':=hW
 obtain ⟨p,q,hA0,hV,rfl,hfz,hnd⟩:=hW
 have hA1:DataW.TrodAll enc Try.prog W 0 (fun _=>true) true Try.f5.params.toList args.toList ds p:=hA0
 rw [Try.params5] at hA1 hval
 obtain ⟨v0,vs0,d0,ds0,p0,q0,hargs,rfl,rfl,h0,r0⟩:=trodAll_cons hA1
 obtain ⟨v1,vs1,d1,ds1,p1,q1,rfl,rfl,rfl,h1,r1⟩:=trodAll_cons r0
 obtain ⟨rfl,rfl,rfl⟩:=trodAll_nil r1
 obtain rfl:args=#[v0,v1]:=by cases args;simp_all
 obtain ⟨x0,x1,bP0,rfl,g0,g1,rbP0⟩:=bFr (k0:=some .u32) (k1:=some .u16) (k2:=.u8) 8 Try.underlying32 (by kernel_rfl) ⟨rfl,rfl⟩ Try.underlying25 Try.underlying30 ⟨by kernel_rfl,by kernel_rfl⟩ ⟨by kernel_rfl,by kernel_rfl⟩ ⟨by kernel_rfl,by kernel_rfl⟩ (by kernel_rfl) (hval 0 32 v0 rfl rfl) h0
 obtain ⟨x2,rfl,g2⟩:=bJH [some .i64,some .i64,some .u8] 4 Try.underlying45 (by kernel_rfl) (by kernel_rfl) (by decide) (hval 1 45 v1 rfl rfl) h1
 obtain ⟨rfl,rfl⟩:=trodVars_none hV
 refine (calls x0 x1 bP0 rbP0 x2 W g0 g1 g2).mono fun e W' ⟨he,hb⟩=>⟨_,he,?_⟩
 exact bIX (by kernel_rfl) (by kernel_rfl) rfl (by kernel_rfl) Try.underlying4 rfl hW' hb
theorem over:Rows.signalCommutesRow.holds Try.pinned (OpenSpec.ofChange Rows.signalCommutesSpec) :=
 OpenClaim.holds_of_wide 5 Try.f5 rfl rfl rfl rfl rfl rfl rfl ⟨rfl,rfl,rfl,rfl,rfl⟩ rfl rfl rfl rfl rfl (by kernel_rfl) Try.func5 (by kernel_rfl)
  (of_decide_eq_true (by kernel_rfl)) (by unfold Func.isWrapper;first | (rw [if_pos (by decide +kernel)];kernel_rfl) | (rw [if_neg (by decide +kernel)];exact ⟨rfl,rfl⟩))
  (fun os started H enc _=>lifted os started H enc)
theorem proved:Rows.SignalCommutesSaid:=over
#print axioms proved
end Go.Proofs.Ytcckecfjjccffaa.SignalCommutes
