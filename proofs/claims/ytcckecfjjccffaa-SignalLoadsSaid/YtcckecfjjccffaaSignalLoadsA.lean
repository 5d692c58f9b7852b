/- A part of the law SignalLoads, which returns true for every input. A body is taken, if it is a state, and refused if not, with the document's error; then all is as it was; what was taken is saved again with the same bytes. No condition. -/
import Derived.Test.YtcckecfjjccffaaSignalLoads0
namespace Go.Proofs.Ytcckecfjjccffaa.SignalLoads
open Go.Sx Go.ChangeShapes Go.WideShapes Go.ChangeAt Go.RowKit
set_option linter.unusedVariables false
set_option linter.unusedSimpArgs false
set_option maxRecDepth 100000
def nK (d f g:Ext) (c:Int):Env:=(⟨[(d.n:Int),(f.n:Int),(g.n:Int),c],[],[aD d 1 0,aD f 1 0,aD g 1 0],[],Iv (fun i j=>match i,j with | 0,0=>d | 1,0=>f | 2,0=>g | _,_=>Ext.none)⟩:Env)
def eHy:Hyp:=⟨[(.v 0,(0,9223372036854775807)),(.v 1,(0,9223372036854775807)),(.v 2,(0,9223372036854775807)),(.v 3,(0,255))],[(0,(0,255)),(1,(0,4294967295)),(2,(0,65535))],[(10,(0,4294967295)),(40,(0,65535)),(41,(0,63)),(70,(0,2047)),(71,(0,65535)),(72,(0,65535)),(73,(0,65535)),(74,(0,65535)),(75,(0,255)),(76,(0,1023)),(77,(0,65535)),(78,(0,65535)),(79,(0,65535)),(80,(0,65535)),(81,(0,65535)),(82,(0,65535)),(83,(0,63)),(84,(0,63)),(85,(0,3))],[(20,(0,255)),(50,(0,255)),(51,(0,65535)),(90,(0,2047)),(91,(0,65535))],[],[(0,⟨.v 0,[(some .u8,.av 0)],[]⟩),(1,⟨.v 1,[(some .u32,.av 1)],[]⟩),(2,⟨.v 2,[(some .u16,.av 2)],[]⟩)]⟩
def eLs:List SV:=[.s (.xslc 0 (.lit 0) (.lit 0) (.v 0)),.agg [.one (.xslc 1 (.lit 0) (.lit 0) (.v 1)),.one (.xslc 2 (.lit 0) (.lit 0) (.v 2)),.one (.int .u8 (.v 3))]]
def eH (es:List (E × Rng)) (bs:List (E × Bool)):Hyp:={ eHy with e:=es++eHy.e,b:=bs++eHy.b }
theorem m0 {α:Type} {P:α→Prop}:∀ p ∈ ([]:List α),P p:=fun _ h=>by cases h
theorem m1 {α:Type} {P:α→Prop} {a:α} {l:List α} (h:P a) (t:∀ p ∈ l,P p):∀ p ∈ a::l,P p:=List.forall_mem_cons.2 ⟨h,t⟩
theorem eok (d:Ext) (f g:Ext) (c:Int) (rbP1:inR (dS .u8) c) (w:World) (k:iF d w [some .u8]) (m:iF f w [some .u32]) (o:iF g w [some .u16]):Hyp.ok eHy (nK d f g c):=by
 refine ⟨?_,?_,?_,(fun p hp=>aHz _ p hp),?_,by simp [eHy]⟩
 ·intro p hp
  simp only [eHy,List.mem_cons,List.not_mem_nil,or_false] at hp
  rcases hp with rfl | rfl | rfl
  ·exact lA k rfl rfl rfl
  ·exact lA m rfl rfl rfl
  ·exact lA o rfl rfl rfl
 ·intro p hp
  simp only [eHy,List.mem_cons,List.not_mem_nil,or_false] at hp
  rcases hp with rfl | rfl | rfl | rfl
  ·exact dC k
  ·exact dC m
  ·exact dC o
  ·exact rbP1
 ·intro p hp
  simp only [eHy,List.mem_cons,List.not_mem_nil,or_false] at hp
  rcases hp with rfl | rfl | rfl
  ·exact cW k
  ·exact cW m
  ·exact cW o
 ·exact fun p hp=>aHy _ p hp
theorem eT (d:Ext) (f g:Ext) (c:Int) (rbP1:inR (dS .u8) c) (es:List (E × Rng)) (bs:List (E × Bool)) (e:E) (run:enter Try.prog G Gh 3000 60 6 (eH es bs) eLs []=some ([],.s (.bool e),none)) (w:World) (k:iF d w [some .u8]) (m:iF f w [some .u32]) (o:iF g w [some .u16]) (he:∀ p ∈ es,inR p.2 (p.1.i (nK d f g c))) (hb:∀ p ∈ bs,p.1.b (nK d f g c)=p.2) (hv:E.b (nK d f g c) e=true) :
 Calls Try.prog 6 #[d.v,.agg #[f.v,g.v,.int .u8 c]] w fun r w'=>r=.returned (.bool true)∧Below w.heap.size w w':=by
 have hx0:SV.aC (nK d f g c) Loc.id (.s (.xslc 0 (.lit 0) (.lit 0) (.v 0)))=d.v:=dX k rfl rfl
 have hx1:SV.aC (nK d f g c) Loc.id (.s (.xslc 1 (.lit 0) (.lit 0) (.v 1)))=f.v:=dX m rfl rfl
 have hx2:SV.aC (nK d f g c) Loc.id (.s (.xslc 2 (.lit 0) (.lit 0) (.v 2)))=g.v:=dX o rfl rfl
 have hargs:(eLs.map (SV.aC (nK d f g c) Loc.id)).toArray=#[d.v,.agg #[f.v,g.v,.int .u8 c]]:=by
  refine congrArg List.toArray ?_
  exact (fN hx0 (fN (tG hx1 hx2 rfl) rfl))
 rw [← hargs]
 exact aCA (ρ:=(nK d f g c)) (bLB _) (by kernel_rfl) run rfl (Hyp.more (eok d f g c rbP1 w k m o) es bs he hb) (by intro e he;cases he) hv w (fun i j=>by rcases i with _ | _ | _ | i <;> rcases j with _ | j <;> first | exact Ext.jC _ | exact k.ok | exact m.ok | exact o.ok)
def oE0:List (E × Rng):=[((.v 0),(554,1048576)),((.sel (.av 0) (.lit 0)),(28,28)),((.add (.add (.add (.mul (.sel (.av 0) (.lit 4)) (.lit 16777216)) (.mul (.sel (.av 0) (.lit 3)) (.lit 65536))) (.mul (.sel (.av 0) (.lit 2)) (.lit 256))) (.sel (.av 0) (.lit 1))),(549,549)),((.add (.add (.add (.mul (.sel (.av 0) (.lit 41)) (.lit 16777216)) (.mul (.sel (.av 0) (.lit 40)) (.lit 65536))) (.mul (.sel (.av 0) (.lit 39)) (.lit 256))) (.sel (.av 0) (.lit 38))),(512,512))]
def oB:List (E × Bool):=[((.lt (.add (.v 0) (.lit (-5))) (.add (.add (.add (.mul (.sel (.av 0) (.lit 4)) (.lit 16777216)) (.mul (.sel (.av 0) (.lit 3)) (.lit 65536))) (.mul (.sel (.av 0) (.lit 2)) (.lit 256))) (.sel (.av 0) (.lit 1)))),false)]
def oE1:List (E × Rng):=oE0++[((.sel (.av 0) (.lit 29)),(0,3))]
def oE2:List (E × Rng):=oE1++[((.sel (.av 0) (.lit 27)),(0,63))]
def oE3:List (E × Rng):=oE2++[((.sel (.av 0) (.lit 28)),(0,63))]
def oE4:List (E × Rng):=oE3++[((.add (.mul (.sel (.av 0) (.lit 16)) (.lit 256)) (.sel (.av 0) (.lit 15))),(0,255))]
def oE5:List (E × Rng):=oE4++[((.add (.mul (.sel (.av 0) (.lit 18)) (.lit 256)) (.sel (.av 0) (.lit 17))),(0,1023))]
def oE6:List (E × Rng):=oE5++[((.add (.mul (.sel (.av 0) (.lit 6)) (.lit 256)) (.sel (.av 0) (.lit 5))),(0,2047))]
def oE7:List (E × Rng):=oE6++[((.add (.mul (.sel (.av 0) (.lit 31)) (.lit 256)) (.sel (.av 0) (.lit 30))),(0,2047))]
def oE8:List (E × Rng):=oE7++[((.add (.mul (.sel (.av 0) (.lit 33)) (.lit 256)) (.sel (.av 0) (.lit 32))),(0,2047))]
def oE9:List (E × Rng):=oE8++[((.add (.mul (.sel (.av 0) (.lit 35)) (.lit 256)) (.sel (.av 0) (.lit 34))),(0,2047))]
def oE10:List (E × Rng):=oE9++[((.add (.mul (.sel (.av 0) (.lit 37)) (.lit 256)) (.sel (.av 0) (.lit 36))),(0,2047))]
end Go.Proofs.Ytcckecfjjccffaa.SignalLoads
