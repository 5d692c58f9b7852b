/- A part of the law SignalLoads, which returns true for every input. A body is taken, if it is a state, and refused if not, with the document's error; then all is as it was; what was taken is saved again with the same bytes. No condition. -/
import Derived.Test.YtcckecfjjccffaaSignalLoadsA
namespace Go.Proofs.Ytcckecfjjccffaa.SignalLoads
open Go.Sx Go.ChangeShapes Go.WideShapes Go.ChangeAt Go.RowKit
set_option linter.unusedVariables false
set_option linter.unusedSimpArgs false
set_option maxRecDepth 100000
def bigE:List (E × Rng):=[((.v 0),(1048577,9223372036854775807))]
def bigB:List (E × Bool):=[]
theorem bLL:enter Try.prog G Gh 3000 60 6 (eH bigE bigB) eLs []=some ([],.s (.bool (.blit true)),none):=by kernel_rfl
def zHy:Hyp:=⟨[((.v 0),(0,0)),(.v 0,(0,9223372036854775807)),(.v 1,(0,9223372036854775807)),(.v 2,(0,9223372036854775807)),(.v 3,(0,255))],[(0,(0,255)),(1,(0,4294967295)),(2,(0,65535))],[(10,(0,4294967295)),(40,(0,65535)),(41,(0,63)),(70,(0,2047)),(71,(0,65535)),(72,(0,65535)),(73,(0,65535)),(74,(0,65535)),(75,(0,255)),(76,(0,1023)),(77,(0,65535)),(78,(0,65535)),(79,(0,65535)),(80,(0,65535)),(81,(0,65535)),(82,(0,65535)),(83,(0,63)),(84,(0,63)),(85,(0,3))],[(20,(0,255)),(50,(0,255)),(51,(0,65535)),(90,(0,2047)),(91,(0,65535))],[],[(0,⟨.lit 0,[(some .u8,.av 0)],[]⟩),(1,⟨.v 1,[(some .u32,.av 1)],[]⟩),(2,⟨.v 2,[(some .u16,.av 2)],[]⟩)]⟩
def zLs:List SV:=[.s (.xslc 0 (.lit 0) (.lit 0) (.lit 0)),.agg [.one (.xslc 1 (.lit 0) (.lit 0) (.v 1)),.one (.xslc 2 (.lit 0) (.lit 0) (.v 2)),.one (.int .u8 (.v 3))]]
def z0:E:=.app 10 (.cons (.lit 0) (.cons (.av 0) .nil))
def z1:E:=.app 10 (.cons (.lit 0) (.cons (.tab []) .nil))
def z2:E:=.eq z0 z1
theorem zrun:enter Try.prog G Gh 3000 60 6 zHy zLs []=some ([],.s (.bool z2),none):=by kernel_rfl
theorem zvc (a:Ext) (c:Ext) (d:Ext) (g o q m:Int) (h k l:Nat→Int) (b0:0≤g∧g≤9223372036854775807) (b1:0≤o∧o≤9223372036854775807) (b2:0≤q∧q≤9223372036854775807) (b3:0≤m∧m≤255) (B0:∀ j,0≤h j∧h j≤255) (B1:∀ j,0≤k j∧k j≤4294967295) (B2:∀ j,0≤l j∧l j≤65535) (hex0:(g)=0):E.b (⟨[g,o,q,m],[],[h,k,l],[],Iv (fun i j=>match i,j with | 0,0=>a | 1,0=>c | 2,0=>d | _,_=>Ext.none)⟩:Env) z2=true:=by
 exact decide_eq_true (show E.i (⟨[g,o,q,m],[],[h,k,l],[],Iv (fun i j=>match i,j with | 0,0=>a | 1,0=>c | 2,0=>d | _,_=>Ext.none)⟩:Env) z0=E.i (⟨[g,o,q,m],[],[h,k,l],[],Iv (fun i j=>match i,j with | 0,0=>a | 1,0=>c | 2,0=>d | _,_=>Ext.none)⟩:Env) z1 from rfl)
theorem bQO (a:Ext) (c d:Ext) (f:Int) (rbP1:inR (dS .u8) f) (hex0:((a.n:Int))=0) (w:World) (t:iF a w [some .u8]) (u:iF c w [some .u32]) (x:iF d w [some .u16]) :
 Calls Try.prog 6 #[a.v,.agg #[c.v,d.v,.int .u8 f]] w fun r w'=>r=.returned (.bool true)∧Below w.heap.size w w':=by
 have hx0:SV.aC (⟨[(a.n:Int),(c.n:Int),(d.n:Int),f],[],[aD a 1 0,aD c 1 0,aD d 1 0],[],Iv (fun i j=>match i,j with | 0,0=>a | 1,0=>c | 2,0=>d | _,_=>Ext.none)⟩:Env) Loc.id (.s (.xslc 0 (.lit 0) (.lit 0) (.lit 0)))=a.v:=dX t rfl hex0.symm
 have hx1:SV.aC (⟨[(a.n:Int),(c.n:Int),(d.n:Int),f],[],[aD a 1 0,aD c 1 0,aD d 1 0],[],Iv (fun i j=>match i,j with | 0,0=>a | 1,0=>c | 2,0=>d | _,_=>Ext.none)⟩:Env) Loc.id (.s (.xslc 1 (.lit 0) (.lit 0) (.v 1)))=c.v:=dX u rfl rfl
 have hx2:SV.aC (⟨[(a.n:Int),(c.n:Int),(d.n:Int),f],[],[aD a 1 0,aD c 1 0,aD d 1 0],[],Iv (fun i j=>match i,j with | 0,0=>a | 1,0=>c | 2,0=>d | _,_=>Ext.none)⟩:Env) Loc.id (.s (.xslc 2 (.lit 0) (.lit 0) (.v 2)))=d.v:=dX x rfl rfl
 have hargs:(zLs.map (SV.aC (⟨[(a.n:Int),(c.n:Int),(d.n:Int),f],[],[aD a 1 0,aD c 1 0,aD d 1 0],[],Iv (fun i j=>match i,j with | 0,0=>a | 1,0=>c | 2,0=>d | _,_=>Ext.none)⟩:Env) Loc.id)).toArray=#[a.v,.agg #[c.v,d.v,.int .u8 f]]:=by
  refine congrArg List.toArray ?_
  exact (fN hx0 (fN (tG hx1 hx2 rfl) rfl))
 rw [← hargs]
 have hok:Hyp.ok zHy (⟨[(a.n:Int),(c.n:Int),(d.n:Int),f],[],[aD a 1 0,aD c 1 0,aD d 1 0],[],Iv (fun i j=>match i,j with | 0,0=>a | 1,0=>c | 2,0=>d | _,_=>Ext.none)⟩:Env):=by
  refine ⟨?_,?_,?_,(fun p hp=>aHz _ p hp),?_,by simp [zHy]⟩
  ·intro p hp
   simp only [zHy,List.mem_cons,List.not_mem_nil,or_false] at hp
   rcases hp with rfl | rfl | rfl
   ·exact lA t rfl hex0.symm rfl
   ·exact lA u rfl rfl rfl
   ·exact lA x rfl rfl rfl
  ·intro p hp
   simp only [zHy,List.mem_cons,List.not_mem_nil,or_false] at hp
   rcases hp with rfl | rfl | rfl | rfl | rfl
   ·exact (by have hx:=hex0;first | exact ⟨Int.le_of_eq hx.symm,Int.le_of_eq hx⟩ | exact hx)
   ·exact dC t
   ·exact dC u
   ·exact dC x
   ·exact rbP1
  ·intro p hp
   simp only [zHy,List.mem_cons,List.not_mem_nil,or_false] at hp
   rcases hp with rfl | rfl | rfl
   ·exact cW t
   ·exact cW u
   ·exact cW x
  ·exact fun p hp=>aHy _ p hp
 exact aCA (ρ:=(⟨[(a.n:Int),(c.n:Int),(d.n:Int),f],[],[aD a 1 0,aD c 1 0,aD d 1 0],[],Iv (fun i j=>match i,j with | 0,0=>a | 1,0=>c | 2,0=>d | _,_=>Ext.none)⟩:Env)) (bLB _) (by kernel_rfl) zrun rfl
  hok (by intro e he;cases he) (zvc a c d ((a.n:Int)) ((c.n:Int)) ((d.n:Int)) (f) (aD a 1 0) (aD c 1 0) (aD d 1 0) (dC t) (dC u) (dC x) (rbP1) (cW t) (cW u) (cW x) hex0) w (fun i j=>by rcases i with _ | _ | _ | i <;> rcases j with _ | j <;> first | exact Ext.jC _ | exact t.ok | exact u.ok | exact x.ok)
def aE:List (E × Rng):=[((.v 0),(1,4))]
def aB:List (E × Bool):=[]
theorem arun:enter Try.prog G Gh 3000 60 6 (eH aE aB) eLs []=some ([],.s (.bool (.blit true)),none):=by kernel_rfl
def t0E:List (E × Rng):=[((.v 0),(5,1048576)),((.sel (.av 0) (.lit 0)),(0,27))]
def t0B:List (E × Bool):=[]
theorem t0run:enter Try.prog G Gh 3000 60 6 (eH t0E t0B) eLs []=some ([],.s (.bool (.blit true)),none):=by kernel_rfl
def t1E:List (E × Rng):=[((.v 0),(5,1048576)),((.sel (.av 0) (.lit 0)),(29,255))]
def t1B:List (E × Bool):=[]
theorem t1run:enter Try.prog G Gh 3000 60 6 (eH t1E t1B) eLs []=some ([],.s (.bool (.blit true)),none):=by kernel_rfl
def lbE:List (E × Rng):=[((.v 0),(5,1048576)),((.sel (.av 0) (.lit 0)),(28,28))]
def lbB:List (E × Bool):=[((.lt (.add (.v 0) (.lit (-5))) (.add (.add (.add (.mul (.sel (.av 0) (.lit 4)) (.lit 16777216)) (.mul (.sel (.av 0) (.lit 3)) (.lit 65536))) (.mul (.sel (.av 0) (.lit 2)) (.lit 256))) (.sel (.av 0) (.lit 1)))),true)]
theorem lbrun:enter Try.prog G Gh 3000 60 6 (eH lbE lbB) eLs []=some ([],.s (.bool (.blit true)),none):=by kernel_rfl
def w0E:List (E × Rng):=[((.v 0),(5,1048576)),((.sel (.av 0) (.lit 0)),(28,28)),((.add (.add (.add (.mul (.sel (.av 0) (.lit 4)) (.lit 16777216)) (.mul (.sel (.av 0) (.lit 3)) (.lit 65536))) (.mul (.sel (.av 0) (.lit 2)) (.lit 256))) (.sel (.av 0) (.lit 1))),(0,1))]
def w0B:List (E × Bool):=[((.lt (.add (.v 0) (.lit (-5))) (.add (.add (.add (.mul (.sel (.av 0) (.lit 4)) (.lit 16777216)) (.mul (.sel (.av 0) (.lit 3)) (.lit 65536))) (.mul (.sel (.av 0) (.lit 2)) (.lit 256))) (.sel (.av 0) (.lit 1)))),false)]
theorem w0run:enter Try.prog G Gh 3000 60 6 (eH w0E w0B) eLs []=some ([],.s (.bool (.blit true)),none):=by kernel_rfl
def w1E:List (E × Rng):=[((.v 0),(7,1048576)),((.sel (.av 0) (.lit 0)),(28,28)),((.add (.add (.add (.mul (.sel (.av 0) (.lit 4)) (.lit 16777216)) (.mul (.sel (.av 0) (.lit 3)) (.lit 65536))) (.mul (.sel (.av 0) (.lit 2)) (.lit 256))) (.sel (.av 0) (.lit 1))),(2,3))]
def w1B:List (E × Bool):=[((.lt (.add (.v 0) (.lit (-5))) (.add (.add (.add (.mul (.sel (.av 0) (.lit 4)) (.lit 16777216)) (.mul (.sel (.av 0) (.lit 3)) (.lit 65536))) (.mul (.sel (.av 0) (.lit 2)) (.lit 256))) (.sel (.av 0) (.lit 1)))),false)]
theorem w1run:enter Try.prog G Gh 3000 60 6 (eH w1E w1B) eLs []=some ([],.s (.bool (.blit true)),none):=by kernel_rfl
def w2E:List (E × Rng):=[((.v 0),(9,1048576)),((.sel (.av 0) (.lit 0)),(28,28)),((.add (.add (.add (.mul (.sel (.av 0) (.lit 4)) (.lit 16777216)) (.mul (.sel (.av 0) (.lit 3)) (.lit 65536))) (.mul (.sel (.av 0) (.lit 2)) (.lit 256))) (.sel (.av 0) (.lit 1))),(4,5))]
def w2B:List (E × Bool):=[((.lt (.add (.v 0) (.lit (-5))) (.add (.add (.add (.mul (.sel (.av 0) (.lit 4)) (.lit 16777216)) (.mul (.sel (.av 0) (.lit 3)) (.lit 65536))) (.mul (.sel (.av 0) (.lit 2)) (.lit 256))) (.sel (.av 0) (.lit 1)))),false)]
theorem w2run:enter Try.prog G Gh 3000 60 6 (eH w2E w2B) eLs []=some ([],.s (.bool (.blit true)),none):=by kernel_rfl
end Go.Proofs.Ytcckecfjjccffaa.SignalLoads
