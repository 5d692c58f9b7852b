/- A part of the law SignalLoads, which returns true for every input. A body is taken, if it is a state, and refused if not, with the document's error; then all is as it was; what was taken is saved again with the same bytes. No condition. -/
import Derived.Test.YtcckecfjjccffaaSignalLoadsA
namespace Go.Proofs.Ytcckecfjjccffaa.SignalLoads
open Go.Sx Go.ChangeShapes Go.WideShapes Go.ChangeAt Go.RowKit
set_option linter.unusedVariables false
set_option linter.unusedSimpArgs false
set_option maxRecDepth 100000
def m2E:List (E × Rng):=[((.v 0),(43,1048576)),((.sel (.av 0) (.lit 0)),(28,28)),((.add (.add (.add (.mul (.sel (.av 0) (.lit 4)) (.lit 16777216)) (.mul (.sel (.av 0) (.lit 3)) (.lit 65536))) (.mul (.sel (.av 0) (.lit 2)) (.lit 256))) (.sel (.av 0) (.lit 1))),(37,1048571)),((.add (.add (.add (.mul (.sel (.av 0) (.lit 41)) (.lit 16777216)) (.mul (.sel (.av 0) (.lit 40)) (.lit 65536))) (.mul (.sel (.av 0) (.lit 39)) (.lit 256))) (.sel (.av 0) (.lit 38))),(1,511))]
def m2B:List (E × Bool):=[((.lt (.add (.v 0) (.lit (-5))) (.add (.add (.add (.mul (.sel (.av 0) (.lit 4)) (.lit 16777216)) (.mul (.sel (.av 0) (.lit 3)) (.lit 65536))) (.mul (.sel (.av 0) (.lit 2)) (.lit 256))) (.sel (.av 0) (.lit 1)))),false),((.lt (.add (.add (.add (.add (.mul (.sel (.av 0) (.lit 4)) (.lit 16777216)) (.mul (.sel (.av 0) (.lit 3)) (.lit 65536))) (.mul (.sel (.av 0) (.lit 2)) (.lit 256))) (.sel (.av 0) (.lit 1))) (.lit (-37))) (.add (.add (.add (.mul (.sel (.av 0) (.lit 41)) (.lit 16777216)) (.mul (.sel (.av 0) (.lit 40)) (.lit 65536))) (.mul (.sel (.av 0) (.lit 39)) (.lit 256))) (.sel (.av 0) (.lit 38)))),false),((.le (.add (.add (.add (.add (.mul (.sel (.av 0) (.lit 41)) (.lit 16777216)) (.mul (.sel (.av 0) (.lit 40)) (.lit 65536))) (.mul (.sel (.av 0) (.lit 39)) (.lit 256))) (.sel (.av 0) (.lit 38))) (.lit 42)) (.v 0)),true)]
theorem m2run:enter Try.prog G Gh 3000 60 6 (eH m2E m2B) eLs []=some ([],.s (.bool (.blit true)),none):=by kernel_rfl
def mzE:List (E × Rng):=[((.v 0),(43,1048576)),((.sel (.av 0) (.lit 0)),(28,28)),((.add (.add (.add (.mul (.sel (.av 0) (.lit 4)) (.lit 16777216)) (.mul (.sel (.av 0) (.lit 3)) (.lit 65536))) (.mul (.sel (.av 0) (.lit 2)) (.lit 256))) (.sel (.av 0) (.lit 1))),(37,1048571)),((.add (.add (.add (.mul (.sel (.av 0) (.lit 41)) (.lit 16777216)) (.mul (.sel (.av 0) (.lit 40)) (.lit 65536))) (.mul (.sel (.av 0) (.lit 39)) (.lit 256))) (.sel (.av 0) (.lit 38))),(0,0))]
def mzB:List (E × Bool):=[((.lt (.add (.v 0) (.lit (-5))) (.add (.add (.add (.mul (.sel (.av 0) (.lit 4)) (.lit 16777216)) (.mul (.sel (.av 0) (.lit 3)) (.lit 65536))) (.mul (.sel (.av 0) (.lit 2)) (.lit 256))) (.sel (.av 0) (.lit 1)))),false),((.lt (.add (.add (.add (.add (.mul (.sel (.av 0) (.lit 4)) (.lit 16777216)) (.mul (.sel (.av 0) (.lit 3)) (.lit 65536))) (.mul (.sel (.av 0) (.lit 2)) (.lit 256))) (.sel (.av 0) (.lit 1))) (.lit (-37))) (.add (.add (.add (.mul (.sel (.av 0) (.lit 41)) (.lit 16777216)) (.mul (.sel (.av 0) (.lit 40)) (.lit 65536))) (.mul (.sel (.av 0) (.lit 39)) (.lit 256))) (.sel (.av 0) (.lit 38)))),false)]
theorem mzrun:enter Try.prog G Gh 3000 60 6 (eH mzE mzB) eLs []=some ([],.s (.bool (.blit true)),none):=by kernel_rfl
def bAt:Hyp:=⟨[((.v 0),(42,42)),((.sel (.av 0) (.lit 0)),(28,28)),((.add (.add (.add (.mul (.sel (.av 0) (.lit 4)) (.lit 16777216)) (.mul (.sel (.av 0) (.lit 3)) (.lit 65536))) (.mul (.sel (.av 0) (.lit 2)) (.lit 256))) (.sel (.av 0) (.lit 1))),(37,37)),((.add (.add (.add (.mul (.sel (.av 0) (.lit 41)) (.lit 16777216)) (.mul (.sel (.av 0) (.lit 40)) (.lit 65536))) (.mul (.sel (.av 0) (.lit 39)) (.lit 256))) (.sel (.av 0) (.lit 38))),(0,0)),(.v 0,(0,9223372036854775807)),(.v 1,(0,9223372036854775807)),(.v 2,(0,9223372036854775807)),(.v 3,(0,255))],[(0,(0,255)),(1,(0,4294967295)),(2,(0,65535))],[(10,(0,4294967295)),(40,(0,65535)),(41,(0,63)),(70,(0,2047)),(71,(0,65535)),(72,(0,65535)),(73,(0,65535)),(74,(0,65535)),(75,(0,255)),(76,(0,1023)),(77,(0,65535)),(78,(0,65535)),(79,(0,65535)),(80,(0,65535)),(81,(0,65535)),(82,(0,65535)),(83,(0,63)),(84,(0,63)),(85,(0,3))],[(20,(0,255)),(50,(0,255)),(51,(0,65535)),(90,(0,2047)),(91,(0,65535))],[((.lt (.add (.v 0) (.lit (-5))) (.add (.add (.add (.mul (.sel (.av 0) (.lit 4)) (.lit 16777216)) (.mul (.sel (.av 0) (.lit 3)) (.lit 65536))) (.mul (.sel (.av 0) (.lit 2)) (.lit 256))) (.sel (.av 0) (.lit 1)))),false),((.lt (.add (.add (.add (.add (.mul (.sel (.av 0) (.lit 4)) (.lit 16777216)) (.mul (.sel (.av 0) (.lit 3)) (.lit 65536))) (.mul (.sel (.av 0) (.lit 2)) (.lit 256))) (.sel (.av 0) (.lit 1))) (.lit (-37))) (.add (.add (.add (.mul (.sel (.av 0) (.lit 41)) (.lit 16777216)) (.mul (.sel (.av 0) (.lit 40)) (.lit 65536))) (.mul (.sel (.av 0) (.lit 39)) (.lit 256))) (.sel (.av 0) (.lit 38)))),false)],[(0,⟨.lit 42,[(some .u8,.av 0)],[]⟩),(1,⟨.v 1,[(some .u32,.av 1)],[]⟩),(2,⟨.v 2,[(some .u16,.av 2)],[]⟩)]⟩
def mqLs:List SV:=[.s (.xslc 0 (.lit 0) (.lit 0) (.lit 42)),.agg [.one (.xslc 1 (.lit 0) (.lit 0) (.v 1)),.one (.xslc 2 (.lit 0) (.lit 0) (.v 2)),.one (.int .u8 (.v 3))]]
theorem mqrun:enter Try.prog G Gh 3000 60 6 bAt mqLs []=some ([],.s (.bool (.blit true)),none):=by kernel_rfl
theorem mqvc (c:Ext) (d:Ext) (f:Ext) (h u x t:Int) (a k l:Nat→Int) (b0:0≤h∧h≤9223372036854775807) (b1:0≤u∧u≤9223372036854775807) (b2:0≤x∧x≤9223372036854775807) (b3:0≤t∧t≤255) (B0:∀ j,0≤a j∧a j≤255) (B1:∀ j,0≤k j∧k j≤4294967295) (B2:∀ j,0≤l j∧l j≤65535) (hex0:(h)=42) (hex1:28≤(a) 0∧(a) 0≤28) (hex2:37≤(a) 4*16777216+(a) 3*65536+(a) 2*256+(a) 1∧(a) 4*16777216+(a) 3*65536+(a) 2*256+(a) 1≤37) (hex3:0≤(a) 41*16777216+(a) 40*65536+(a) 39*256+(a) 38∧(a) 41*16777216+(a) 40*65536+(a) 39*256+(a) 38≤0) (hey0:¬ ((h) + -5<(a) 4*16777216+(a) 3*65536+(a) 2*256+(a) 1)) (hey1:¬ ((a) 4*16777216+(a) 3*65536+(a) 2*256+(a) 1 + -37<(a) 41*16777216+(a) 40*65536+(a) 39*256+(a) 38)):E.b (⟨[h,u,x,t],[],[a,k,l],[],Iv (fun i j=>match i,j with | 0,0=>c | 1,0=>d | 2,0=>f | _,_=>Ext.none)⟩:Env) (.blit true)=true:=by
 simp only [i_v,gP,aF,aP,aS,cU,bE,cE,bC,bX,bU,aT,cR,fX,fM,eR,cZ,cT,fJ,dO,dI,cB,bW,List.getD_cons_zero,List.getD_cons_succ,decide_eq_true_eq,decide_eq_false_iff_not,Bool.and_eq_true,Bool.or_eq_true,Bool.not_eq_true',Bool.not_eq_false',Bool.and_eq_false_iff,Bool.or_eq_false_iff,Bool.not_not,cM,cL,cK,cJ,gJ,cD,cC]
theorem bHu (c:Ext) (d f:Ext) (g:Int) (rbP1:inR (dS .u8) g) (hex0:((c.n:Int))=42) (hex1:28≤(aD c 1 0) 0∧(aD c 1 0) 0≤28) (hex2:37≤(aD c 1 0) 4*16777216+(aD c 1 0) 3*65536+(aD c 1 0) 2*256+(aD c 1 0) 1∧(aD c 1 0) 4*16777216+(aD c 1 0) 3*65536+(aD c 1 0) 2*256+(aD c 1 0) 1≤37) (hex3:0≤(aD c 1 0) 41*16777216+(aD c 1 0) 40*65536+(aD c 1 0) 39*256+(aD c 1 0) 38∧(aD c 1 0) 41*16777216+(aD c 1 0) 40*65536+(aD c 1 0) 39*256+(aD c 1 0) 38≤0) (hey0:¬ (((c.n:Int)) + -5<(aD c 1 0) 4*16777216+(aD c 1 0) 3*65536+(aD c 1 0) 2*256+(aD c 1 0) 1)) (hey1:¬ ((aD c 1 0) 4*16777216+(aD c 1 0) 3*65536+(aD c 1 0) 2*256+(aD c 1 0) 1 + -37<(aD c 1 0) 41*16777216+(aD c 1 0) 40*65536+(aD c 1 0) 39*256+(aD c 1 0) 38)) (w:World) (m:iF c w [some .u8]) (o:iF d w [some .u32]) (q:iF f w [some .u16]) :
 Calls Try.prog 6 #[c.v,.agg #[d.v,f.v,.int .u8 g]] w fun r w'=>r=.returned (.bool true)∧Below w.heap.size w w':=by
 have hx0:SV.aC (⟨[(c.n:Int),(d.n:Int),(f.n:Int),g],[],[aD c 1 0,aD d 1 0,aD f 1 0],[],Iv (fun i j=>match i,j with | 0,0=>c | 1,0=>d | 2,0=>f | _,_=>Ext.none)⟩:Env) Loc.id (.s (.xslc 0 (.lit 0) (.lit 0) (.lit 42)))=c.v:=dX m rfl hex0.symm
 have hx1:SV.aC (⟨[(c.n:Int),(d.n:Int),(f.n:Int),g],[],[aD c 1 0,aD d 1 0,aD f 1 0],[],Iv (fun i j=>match i,j with | 0,0=>c | 1,0=>d | 2,0=>f | _,_=>Ext.none)⟩:Env) Loc.id (.s (.xslc 1 (.lit 0) (.lit 0) (.v 1)))=d.v:=dX o rfl rfl
 have hx2:SV.aC (⟨[(c.n:Int),(d.n:Int),(f.n:Int),g],[],[aD c 1 0,aD d 1 0,aD f 1 0],[],Iv (fun i j=>match i,j with | 0,0=>c | 1,0=>d | 2,0=>f | _,_=>Ext.none)⟩:Env) Loc.id (.s (.xslc 2 (.lit 0) (.lit 0) (.v 2)))=f.v:=dX q rfl rfl
 have hargs:(mqLs.map (SV.aC (⟨[(c.n:Int),(d.n:Int),(f.n:Int),g],[],[aD c 1 0,aD d 1 0,aD f 1 0],[],Iv (fun i j=>match i,j with | 0,0=>c | 1,0=>d | 2,0=>f | _,_=>Ext.none)⟩:Env) Loc.id)).toArray=#[c.v,.agg #[d.v,f.v,.int .u8 g]]:=by
  refine congrArg List.toArray ?_
  exact (fN hx0 (fN (tG hx1 hx2 rfl) rfl))
 rw [← hargs]
 have hok:Hyp.ok bAt (⟨[(c.n:Int),(d.n:Int),(f.n:Int),g],[],[aD c 1 0,aD d 1 0,aD f 1 0],[],Iv (fun i j=>match i,j with | 0,0=>c | 1,0=>d | 2,0=>f | _,_=>Ext.none)⟩:Env):=by
  refine ⟨?_,?_,?_,(fun p hp=>aHz _ p hp),?_,?_⟩
  ·intro p hp
   simp only [bAt,List.mem_cons,List.not_mem_nil,or_false] at hp
   rcases hp with rfl | rfl | rfl
   ·exact lA m rfl hex0.symm rfl
   ·exact lA o rfl rfl rfl
   ·exact lA q rfl rfl rfl
  ·intro p hp
   simp only [bAt,List.mem_cons,List.not_mem_nil,or_false] at hp
   rcases hp with rfl | rfl | rfl | rfl | rfl | rfl | rfl | rfl
   ·exact (by have hx:=hex0;first | exact ⟨Int.le_of_eq hx.symm,Int.le_of_eq hx⟩ | exact hx)
   ·exact (by have hx:=hex1;first | exact ⟨Int.le_of_eq hx.symm,Int.le_of_eq hx⟩ | exact hx)
   ·exact (by have hx:=hex2;first | exact ⟨Int.le_of_eq hx.symm,Int.le_of_eq hx⟩ | exact hx)
   ·exact (by have hx:=hex3;first | exact ⟨Int.le_of_eq hx.symm,Int.le_of_eq hx⟩ | exact hx)
   ·exact dC m
   ·exact dC o
   ·exact dC q
   ·exact rbP1
  ·intro p hp
   simp only [bAt,List.mem_cons,List.not_mem_nil,or_false] at hp
   rcases hp with rfl | rfl | rfl
   ·exact cW m
   ·exact cW o
   ·exact cW q
  ·exact fun p hp=>aHy _ p hp
  ·intro p hp
   simp only [bAt,List.mem_cons,List.not_mem_nil,or_false] at hp
   rcases hp with rfl | rfl
   ·exact (by have hx:=hey0;first | exact hx | exact decide_eq_true hx | exact decide_eq_false hx)
   ·exact (by have hx:=hey1;first | exact hx | exact decide_eq_true hx | exact decide_eq_false hx)
 exact aCA (ρ:=(⟨[(c.n:Int),(d.n:Int),(f.n:Int),g],[],[aD c 1 0,aD d 1 0,aD f 1 0],[],Iv (fun i j=>match i,j with | 0,0=>c | 1,0=>d | 2,0=>f | _,_=>Ext.none)⟩:Env)) (bLB _) (by kernel_rfl) mqrun rfl
  hok (by intro e he;cases he) (mqvc c d f ((c.n:Int)) ((d.n:Int)) ((f.n:Int)) (g) (aD c 1 0) (aD d 1 0) (aD f 1 0) (dC m) (dC o) (dC q) (rbP1) (cW m) (cW o) (cW q) hex0 hex1 hex2 hex3 hey0 hey1) w (fun i j=>by rcases i with _ | _ | _ | i <;> rcases j with _ | j <;> first | exact Ext.jC _ | exact m.ok | exact o.ok | exact q.ok)
def m3E:List (E × Rng):=[((.v 0),(555,1048576)),((.sel (.av 0) (.lit 0)),(28,28)),((.add (.add (.add (.mul (.sel (.av 0) (.lit 4)) (.lit 16777216)) (.mul (.sel (.av 0) (.lit 3)) (.lit 65536))) (.mul (.sel (.av 0) (.lit 2)) (.lit 256))) (.sel (.av 0) (.lit 1))),(550,1048571)),((.add (.add (.add (.mul (.sel (.av 0) (.lit 41)) (.lit 16777216)) (.mul (.sel (.av 0) (.lit 40)) (.lit 65536))) (.mul (.sel (.av 0) (.lit 39)) (.lit 256))) (.sel (.av 0) (.lit 38))),(512,512))]
def m3B:List (E × Bool):=[((.lt (.add (.v 0) (.lit (-5))) (.add (.add (.add (.mul (.sel (.av 0) (.lit 4)) (.lit 16777216)) (.mul (.sel (.av 0) (.lit 3)) (.lit 65536))) (.mul (.sel (.av 0) (.lit 2)) (.lit 256))) (.sel (.av 0) (.lit 1)))),false)]
theorem m3run:enter Try.prog G Gh 3000 60 6 (eH m3E m3B) eLs []=some ([],.s (.bool (.blit true)),none):=by kernel_rfl
theorem xqrun:enter Try.prog G Gh 3000 60 6 (eH (oE0++[((.sel (.av 0) (.lit 29)),(4,255))]) oB) eLs []=some ([],.s (.bool (.blit true)),none):=by kernel_rfl
theorem xfrun:enter Try.prog G Gh 3000 60 6 (eH (oE1++[((.sel (.av 0) (.lit 27)),(64,255))]) oB) eLs []=some ([],.s (.bool (.blit true)),none):=by kernel_rfl
theorem xgrun:enter Try.prog G Gh 3000 60 6 (eH (oE2++[((.sel (.av 0) (.lit 28)),(64,255))]) oB) eLs []=some ([],.s (.bool (.blit true)),none):=by kernel_rfl
theorem xdrun:enter Try.prog G Gh 3000 60 6 (eH (oE3++[((.add (.mul (.sel (.av 0) (.lit 16)) (.lit 256)) (.sel (.av 0) (.lit 15))),(256,65535))]) oB) eLs []=some ([],.s (.bool (.blit true)),none):=by kernel_rfl
theorem xrrun:enter Try.prog G Gh 3000 60 6 (eH (oE4++[((.add (.mul (.sel (.av 0) (.lit 18)) (.lit 256)) (.sel (.av 0) (.lit 17))),(1024,65535))]) oB) eLs []=some ([],.s (.bool (.blit true)),none):=by kernel_rfl
end Go.Proofs.Ytcckecfjjccffaa.SignalLoads
