/- A contract of the function that lays a chip's own memory, for any plan. No condition. -/
import Derived.Test.YtcckecfjjccffaaRw
namespace Go.Proofs.Ytcckecfjjccffaa
open Go.Sx Go.RowKit
set_option linter.unusedVariables false
set_option linter.unusedSimpArgs false
set_option maxRecDepth 100000
def aVi (H:Hyp):Nat→List S→E→Option E
 | _,[],A=>some A
 | i,.int .u32 c::l,A=>aVi H (i+1) l (jK (jK (jK A (.lit (3*i:Nat)) (oJ H c (.lit 256))) (.lit (3*i+1:Nat)) (oJ H (yI H c (.lit 256)) (.lit 256))) (.lit (3*i+2:Nat)) (oJ H (yI H c (.lit 65536)) (.lit 256)))
 | _,_,_=>none
def bAq (ty:TypeId):Go.Sx.Spec:=fun H l m=>match l with
 | [.agg [.one x,.one y,.one (.int .u8 (.lit 0))]]=>match wQ H m .u32 (.s x),wQ H m .u16 (.s y) with
   | some (L,.lit q),some (_,.lit 0)=>if decide (q≤64)&&m.all (fun B=>B.aH.all (Seg.sc m.length)) then match gE L with
     | some cs=>match aVi H 0 cs (.tab []) with
       | some A=>some ([],.s (.slc m.length (.lit 0) (.lit 8192) (.kn (.lit 8192))),some (m++[⟨ty,[.run .u8 (.lit 8192) A 0],true,none,false⟩]))
       | none=>none
     | none=>none
     else none
   | _,_=>none
 | _=>none
def bBN (P:Program) (F:FuncId) (ty:TypeId):Prop:=∀ (x y:Ext) (b:Int) (w:World),iF x w [some .u32]→iF y w [some .u16]→(0≤b∧b≤255) →
 Calls P F #[.agg #[x.v,y.v,.int .u8 b]] w fun e w'=>∃ (ρ':Env) (ι':Sx.Loc) (B':Blk),e=.returned (.slice (some ⟨ι'.pos 0,0,none⟩) 8192 8192)∧aK ρ' ⟨w,0,Sx.Loc.id⟩ ι' [B'] w'∧B'.ty=ty∧B'.wr=true∧B'.grow=none∧B'.dead=false ∧
  cellsOf ρ' ι' B'.aH=(List.range 8192).map fun j=>Value.int .u8 (mAt (min x.n 2048) (aD x 1 0) (min y.n 1024) (aD y 1 0) b j)
theorem aK.drop1 {ρ:Env} {w0:World} {ι:Sx.Loc} {B0 B:Blk} {w:World} (hm:aK ρ ⟨w0,0,Sx.Loc.id⟩ ι [B0,B] w) (hi:∀ k,k<2→ι.nil k=false) (hs:B.aH.all (Seg.sc 0)=true) :
 aK ρ ⟨w0,0,Sx.Loc.id⟩ ⟨fun i=>ι.pos (i+1),fun i=>ι.cap (i+1),fun i=>ι.nil (i+1)⟩ [B] w:=by
 have O:∀ {i:Nat} {C:Blk},[B][i]? = some C→i=0∧C=B:=fun {i C} hC=>by
  cases i with
  | zero=>simp only [List.getElem?_cons_zero,Option.some.injEq] at hC;exact ⟨rfl,hC.symm⟩
  | succ i=>simp at hC
 have hc:cellsOf ρ ⟨fun i=>ι.pos (i+1),fun i=>ι.cap (i+1),fun i=>ι.nil (i+1)⟩ B.aH=cellsOf ρ ι B.aH:=bK (n:=0) (fun i h=>absurd h (Nat.not_lt_zero _)) hs
 refine ⟨fun i j C D hC hD _ _ _ _ _=>?_,fun i C hC hCd hCn=>?_,fun i C hC hCd hCn=>?_,fun i h=>absurd h (Nat.not_lt_zero _),Nat.zero_le _,fun i _ hi'=>?_,hm.size,fun b hb hno=>?_,hm.os,hm.tape,hm.output,hm.xt,fun i j a n c hv h0 k hk=>?_⟩
 ·rw [(O hC).1,(O hD).1]
 ·obtain ⟨rfl,rfl⟩:=O hC
  rw [hc]
  exact hm.blk 1 C rfl hCd hCn
 ·obtain ⟨rfl,rfl⟩:=O hC
  rw [hc]
  exact hm.nils 1 C rfl hCd hCn
 ·have u:i=0:=by simpa using hi'
  subst u
  rcases hm.new 1 (Nat.zero_le _) (by simp) with h | ⟨j,hj,_⟩
  ·exact .inl h
  ·exact absurd hj (Nat.not_lt_zero _)
 ·refine hm.old b hb fun i hi'=>?_
  have:i=0∨i=1:=by simp at hi';omega
  rcases this with rfl | rfl
  ·intro e
   rcases hm.new 0 (Nat.zero_le _) (by simp) with h | ⟨j,hj,_⟩
   ·rw [e] at h;exact absurd hb (Nat.not_lt.2 h)
   ·exact absurd hj (Nat.not_lt_zero _)
  ·exact hno 0 (by simp)
 ·have:k=0:=by simpa using hk
  subst this
  exact hm.xd i j a n c hv h0 1 (by simp)
def aSx:Hyp:=⟨[(.v 0,(0,9223372036854775807)),(.v 1,(0,9223372036854775807)),(.v 2,(0,255))],[(0,(0,4294967295)),(1,(0,65535))],[],[],[],[(0,⟨.v 0,[(some .u32,.av 0)],[]⟩),(1,⟨.v 1,[(some .u16,.av 1)],[]⟩)]⟩
def mmLs:List SV:=[.agg [.one (.xslc 0 (.lit 0) (.lit 0) (.v 0)),.one (.xslc 1 (.lit 0) (.lit 0) (.v 1)),.one (.int .u8 (.v 2))]]
--SKEND
def mm0:E:=.le (.v 3) (.lit 8191)
def mm1:E:=.add (.v 3) (.lit 1)
def mm2:E:=.div (.v 3) (.lit 128)
def mm3:E:=.add (.v 3) mm2
def mm4:E:=.mod mm3 (.lit 256)
def mm5:E:=.mul mm4 (.v 2)
def mm6:E:=.mod mm5 (.lit 256)
def mm7:E:=.upd (.av 2) (.v 3) mm6
def mm8:E:=.lt (.v 4) (.v 0)
def mm9:E:=.le (.v 4) (.lit 2047)
def aDI:E:=.and mm8 mm9
def aDJ:E:=.add (.v 4) (.lit 1)
def zZ:E:=.mul (.v 4) (.lit 3)
def aAa:E:=.sel (.av 0) (.v 4)
def aDK:E:=.mod aAa (.lit 256)
def aDL:E:=.upd (.av 3) zZ aDK
def aDM:E:=.add zZ (.lit 1)
def aDN:E:=.div aAa (.lit 256)
def aDO:E:=.mod aDN (.lit 256)
def aDP:E:=.upd aDL aDM aDO
def aDQ:E:=.add zZ (.lit 2)
def aDR:E:=.div aAa (.lit 65536)
def aDS:E:=.mod aDR (.lit 256)
def aAb:E:=.upd aDP aDQ aDS
def aDT:E:=.lt (.v 5) (.v 1)
def aDU:E:=.le (.v 5) (.lit 1023)
def aDV:E:=.and aDT aDU
def aDW:E:=.add (.v 5) (.lit 1)
def aCQ:E:=.mul (.v 5) (.lit 2)
def aDX:E:=.add aCQ (.lit 6144)
def aCR:E:=.sel (.av 1) (.v 5)
def aDY:E:=.mod aCR (.lit 256)
def aDZ:E:=.upd (.av 4) aDX aDY
def aEa:E:=.add aCQ (.lit 6145)
def aEb:E:=.div aCR (.lit 256)
def aAc:E:=.upd aDZ aEa aEb
noncomputable def bOb:List Item:=mL Try.prog 32 4
noncomputable def bOe:Head:=⟨4,bOb,⟨[((.v 0),(0,9223372036854775807)),((.v 1),(0,9223372036854775807)),((.v 2),(0,255)),((.v 3),(0,8192)),((.v 4),(0,2048)),((.v 5),(0,1024))],[(0,(0,4294967295)),(1,(0,65535)),(2,(0,255)),(3,(0,255)),(4,(0,255))],[],[],[],[(0,⟨(.v 0),[(some .u32,(.av 0))],[]⟩),(1,⟨(.v 1),[(some .u16,(.av 1))],[]⟩)]⟩,[⟨4,[],.s (.int .i64 (.v 3))⟩,⟨3,[],.s (.slc 1 (.lit 0) (.lit 8192) (.kn (.lit 8192)))⟩,⟨1,[],.s (.ptr 0 (.lit 0))⟩],[⟨32,[.one (.xslc 0 (.lit 0) (.lit 0) (.v 0)),.one (.xslc 1 (.lit 0) (.lit 0) (.v 1)),.one (.int .u8 (.v 2))],true,none,false⟩,⟨5,[.run .u8 (.lit 8192) (.av 2) 0],true,none,false⟩]⟩
noncomputable def bOc:List Item:=mL Try.prog 32 8
noncomputable def bOf:Head:=⟨8,bOc,⟨[((.v 0),(0,9223372036854775807)),((.v 1),(0,9223372036854775807)),((.v 2),(0,255)),((.v 3),(0,8192)),((.v 4),(0,2048)),((.v 5),(0,1024))],[(0,(0,4294967295)),(1,(0,65535)),(2,(0,255)),(3,(0,255)),(4,(0,255))],[],[],[],[(0,⟨(.v 0),[(some .u32,(.av 0))],[]⟩),(1,⟨(.v 1),[(some .u16,(.av 1))],[]⟩)]⟩,[⟨5,[],.s (.int .i64 (.v 4))⟩,⟨3,[],.s (.slc 1 (.lit 0) (.lit 8192) (.kn (.lit 8192)))⟩,⟨1,[],.s (.ptr 0 (.lit 0))⟩],[⟨32,[.one (.xslc 0 (.lit 0) (.lit 0) (.v 0)),.one (.xslc 1 (.lit 0) (.lit 0) (.v 1)),.one (.int .u8 (.v 2))],true,none,false⟩,⟨5,[.run .u8 (.lit 8192) (.av 3) 0],true,none,false⟩]⟩
noncomputable def bOd:List Item:=mL Try.prog 32 14
noncomputable def bOg:Head:=⟨14,bOd,⟨[((.v 0),(0,9223372036854775807)),((.v 1),(0,9223372036854775807)),((.v 2),(0,255)),((.v 3),(0,8192)),((.v 4),(0,2048)),((.v 5),(0,1024))],[(0,(0,4294967295)),(1,(0,65535)),(2,(0,255)),(3,(0,255)),(4,(0,255))],[],[],[],[(0,⟨(.v 0),[(some .u32,(.av 0))],[]⟩),(1,⟨(.v 1),[(some .u16,(.av 1))],[]⟩)]⟩,[⟨6,[],.s (.int .i64 (.v 5))⟩,⟨3,[],.s (.slc 1 (.lit 0) (.lit 8192) (.kn (.lit 8192)))⟩,⟨1,[],.s (.ptr 0 (.lit 0))⟩],[⟨32,[.one (.xslc 0 (.lit 0) (.lit 0) (.v 0)),.one (.xslc 1 (.lit 0) (.lit 0) (.v 1)),.one (.int .u8 (.v 2))],true,none,false⟩,⟨5,[.run .u8 (.lit 8192) (.av 4) 0],true,none,false⟩]⟩
noncomputable def aSy:List Head:=[bOe,bOf,bOg]
def mmD:Dim:=⟨6,0,5,3,0,2,0⟩
theorem mmst:gD Try.prog S0 S0h mmD aSy [] 3000 0 32 aSx mmLs []=some (.jump 0 bOb ⟨[(3,(.lit 0))],[],[(2,(.tab []))]⟩):=by kernel_rfl
theorem mmsg0:mM Try.prog S0 S0h mmD aSy [] 3000 0 32 bOe=some (.ite mm0 (.jump 0 bOb ⟨[(3,mm1)],[],[(2,mm7)]⟩) (.jump 1 bOc ⟨[(4,(.lit 0))],[],[(3,(.av 2))]⟩)):=by kernel_rfl
theorem mmsg1:mM Try.prog S0 S0h mmD aSy [] 3000 0 32 bOf=some (.ite aDI (.jump 1 bOc ⟨[(4,aDJ)],[],[(3,aAb)]⟩) (.jump 2 bOd ⟨[(5,(.lit 0))],[],[(4,(.av 3))]⟩)):=by kernel_rfl
theorem mmsg2:mM Try.prog S0 S0h mmD aSy [] 3000 0 32 bOg=some (.ite aDV (.jump 2 bOd ⟨[(5,aDW)],[],[(4,aAc)]⟩) (.ret (.s (.slc 1 (.lit 0) (.lit 8192) (.kn (.lit 8192)))) [⟨32,[.one (.xslc 0 (.lit 0) (.lit 0) (.v 0)),.one (.xslc 1 (.lit 0) (.lit 0) (.v 1)),.one (.int .u8 (.v 2))],true,none,false⟩,⟨5,[.run .u8 (.lit 8192) (.av 4) 0],true,none,false⟩])):=by kernel_rfl
theorem bOh:bBN Try.prog 32 5:=by
 intro G T b w g0 g1 hb
 let I:Interp:=Iv (fun i j=>match i,j with | 0,0=>G | 1,0=>T | _,_=>Ext.none)
 have hxs:∀ i j,(I.xs i j).ok w:=fun i j=>by rcases i with _ | _ | i <;> rcases j with _ | j <;> first | exact Ext.jC _ | exact g0.ok | exact g1.ok
 let C:=aD G 1 0
 let N:=aD T 1 0
 let E (i1 i2 i3:Int) (d g f:Nat→Int):Env:=⟨[(G.n:Int),(T.n:Int),b,i1,i2,i3],[],[C,N,d,g,f],[],I⟩
 have L0:=dC g0
 have R0:∀ j,inR (dS .u32) (C j):=cW g0
 have L1:=dC g1
 have R1:∀ j,inR (dS .u16) (N j):=cW g1
 simp only [inR,dS,iZ,bY] at L0 R0 L1 R1
 let z:Nat→Int:=fun _=>0
 have hargs:(mmLs.map (SV.aC (E 0 0 0 z z z) Loc.id)).toArray=#[.agg #[G.v,T.v,.int .u8 b]]:=by
  have h0:SV.aC (E 0 0 0 z z z) Loc.id (.s (.xslc 0 (.lit 0) (.lit 0) (.v 0)))=G.v:=dX g0 rfl rfl
  have u:SV.aC (E 0 0 0 z z z) Loc.id (.s (.xslc 1 (.lit 0) (.lit 0) (.v 1)))=T.v:=dX g1 rfl rfl
  exact congrArg List.toArray (fN (tG h0 u rfl) rfl)
 rw [← hargs]
 let R (X:Nat→Int):Prop:=∀ j,0≤X j∧X j≤255
 have hX:∀ (p:Nat × XI),p ∈ [(0,⟨.v 0,[(some .u32,.av 0)],[]⟩),(1,⟨.v 1,[(some .u16,.av 1)],[]⟩)]→∀ i1 i2 i3 d g f,XI.ok (E i1 i2 i3 d g f) p.1 p.2:=by
  intro p hp i1 i2 i3 d g f
  simp only [List.mem_cons,List.not_mem_nil,or_false] at hp
  rcases hp with rfl | rfl
  ·exact lA g0 rfl rfl rfl
  ·exact lA g1 rfl rfl rfl
 have hok:∀ (H:Hyp) (i1 i2 i3:Int) (d g f:Nat→Int),(0≤i1∧i1≤8192)→(0≤i2∧i2≤2048)→(0≤i3∧i3≤1024)→R d→R g→R f→H.e=[(.v 0,(0,9223372036854775807)),(.v 1,(0,9223372036854775807)),(.v 2,(0,255)),(.v 3,(0,8192)),(.v 4,(0,2048)),(.v 5,(0,1024))]→H.a=[(0,(0,4294967295)),(1,(0,65535)),(2,(0,255)),(3,(0,255)),(4,(0,255))]→H.fi=[]→H.fa=[]→H.b=[]→H.x=aSx.x→H.ok (E i1 i2 i3 d g f):=by
  intro H i1 i2 i3 d g f u U W M Q Z J r K e4 e5 e6
  refine ⟨?_,?_,?_,by simp [K],by simp [e4],by simp [e5]⟩
  ·rw [e6];exact fun p hp=>hX p hp i1 i2 i3 d g f
  ·rw [J];intro p hp
   simp only [List.mem_cons,List.not_mem_nil,or_false] at hp
   rcases hp with rfl | rfl | rfl | rfl | rfl | rfl
   ·exact L0
   ·exact L1
   ·exact hb
   ·exact u
   ·exact U
   ·exact W
  ·rw [r];intro p hp
   simp only [List.mem_cons,List.not_mem_nil,or_false] at hp
   rcases hp with rfl | rfl | rfl | rfl | rfl
   ·exact R0
   ·exact R1
   ·exact M
   ·exact Q
   ·exact Z
 have hok0:aSx.ok (E 0 0 0 z z z):=by
  refine ⟨?_,?_,?_,by simp [aSx],by simp [aSx],by simp [aSx]⟩
  ·exact fun p hp=>hX p hp 0 0 0 z z z
  ·intro p hp
   simp only [aSx,List.mem_cons,List.not_mem_nil,or_false] at hp
   rcases hp with rfl | rfl | rfl
   ·exact L0
   ·exact L1
   ·exact hb
  ·intro p hp
   simp only [aSx,List.mem_cons,List.not_mem_nil,or_false] at hp
   rcases hp with rfl | rfl
   ·exact R0
   ·exact R1
 let V (k:Nat) (i1 i2 i3:Int) (d g f:Nat→Int):Prop:=match k with
  | 0=>∀ j:Nat,d j=if (j:Int)<i1 then kW b j else 0
  | 1=>i2≤G.n∧∀ j:Nat,g j=if (j:Int)<3*i2 then iJ C j else if j<8192 then kW b j else 0
  | 2=>i3≤T.n∧∀ j:Nat,f j=if 6144≤j∧(j:Int)<6144+2*i3 then aCH N j else if j<3*min G.n 2048 then iJ C j else if j<8192 then kW b j else 0
  | _=>False
 have hfill:∀ j:Nat,0≤kW b j∧kW b j≤255:=fun j=>by unfold kW;omega
 have hcode:∀ j:Nat,0≤iJ C j∧iJ C j≤255:=fun j=>by unfold iJ;repeat' split
                                                   all_goals omega
 have hnum:∀ j:Nat,0≤aCH N j∧aCH N j≤255:=fun j=>by
  have:=R1 ((j-6144) / 2)
  unfold aCH;split <;> omega
 refine iR (β:=⟨w,0,Sx.Loc.id⟩) (aAO I) (by kernel_rfl) (Nat.zero_le _) (fun k ρ=>∃ (i1 i2 i3:Int) (d g f:Nat→Int),ρ=E i1 i2 i3 d g f∧(0≤i1∧i1≤8192)∧(0≤i2∧i2≤2048)∧(0≤i3∧i3≤1024)∧R d∧R g∧R f∧V k i1 i2 i3 d g f)
  (fun k ρ=>match k with | 0=>(30000-ρ.i.getD 3 0).toNat | 1=>(20000-ρ.i.getD 4 0).toNat | _=>(2000-ρ.i.getD 5 0).toNat)
  (fun ρ v m=>v=.s (.slc 1 (.lit 0) (.lit 8192) (.kn (.lit 8192)))∧∃ (i1 i2 i3:Int) (d g f:Nat→Int),ρ=E i1 i2 i3 d g f∧m=[⟨32,[.one (.xslc 0 (.lit 0) (.lit 0) (.v 0)),.one (.xslc 1 (.lit 0) (.lit 0) (.v 1)),.one (.int .u8 (.v 2))],true,none,false⟩,⟨5,[.run .u8 (.lit 8192) (.av 4) 0],true,none,false⟩]∧∀ j,j<8192→f j=mAt (min G.n 2048) C (min T.n 1024) N b j) ?_ mmst (aK.empty hxs Loc.id) rfl ⟨rfl,rfl,rfl⟩ hok0 ?_ ?_
 ·rintro ρ v m hI ⟨rfl,i1,i2,i3,d,g,f,rfl,rfl,hA⟩ ι w' hm
  have hnil:∀ k,k<2→ι.nil k=false:=fun k hk=>by
   cases hn:ι.nil k with
   | false=>rfl
   | true =>
     rcases k with _ | _ | k
     ·have:=(hm.nils 0 _ rfl rfl hn).1;cases this
     ·have:=(hm.nils 1 _ rfl rfl hn).1;cases this
     ·omega
  refine ⟨E i1 i2 i3 d g f,_,_,?_,aK.drop1 hm hnil rfl,rfl,rfl,rfl,rfl,?_⟩
  ·rw [aW rfl];rfl
  ·simp only [cellsOf,List.flatMap_cons,List.flatMap_nil,List.append_nil,Seg.cells,aF]
   refine List.map_congr_left fun j hj=>?_
   rw [Nat.zero_add,show (_root_.Go.Sx.E.av 4).a (E i1 i2 i3 d g f) j=f j from rfl,hA j (List.mem_range.1 hj)]
 ·simp only [LT.holds]
  refine ⟨rfl,0,0,0,fun j=>([]:List Int).getD j 0,z,z,rfl,by omega,by omega,by omega,fun j=>by simp,fun j=>by simp [z],fun j=>by simp [z],fun j=>?_⟩
  rw [if_neg (by omega)];simp
 ·rintro j h ρ hj hI hz ⟨i1,i2,i3,d,g,f,rfl,u,U,W,M,Q,Z,hV⟩
  rcases j with _ | _ | _ | j
  ·simp only [aSy,List.getElem?_cons_zero,Option.some.injEq] at hj;subst hj
   refine ⟨hok bOe.H i1 i2 i3 d g f u U W M Q Z rfl rfl rfl rfl rfl rfl,_,mmsg0,?_⟩
   have hV:∀ j:Nat,d j=if (j:Int)<i1 then kW b j else 0:=hV
   simp only [LT.holds]
   refine ⟨fun o=>?_,fun o=>?_⟩
   ·simp only [E,mm0,mm1,mm2,mm3,mm4,mm5,mm6,mm7,mm8,mm9,aDI,aDJ,zZ,aAa,aDK,aDL,aDM,aDN,aDO,aDP,aDQ,aDR,aDS,aAb,aDT,aDU,aDV,aDW,aCQ,aDX,aCR,aDY,aDZ,aEa,aEb,aAc,i_v,gP,aF,aP,aS,cU,bE,cE,bC,bX,bU,aT,cR,fX,fM,eR,cZ,cT,fJ,dO,dI,cB,bW,List.getD_cons_zero,List.getD_cons_succ,decide_eq_true_eq,decide_eq_false_iff_not,Bool.and_eq_true,Bool.or_eq_true,Bool.not_eq_true',Bool.not_eq_false',Bool.and_eq_false_iff,Bool.or_eq_false_iff,Bool.not_not,cM,cL,cK,cJ,gJ,cD,cC] at o
    have val:∀ k:Nat,mm7.a (E i1 i2 i3 d g f) k=if (k:Int)<i1+1 then kW b k else 0:=fun k=>by
     have hk:=hV k
     simp only [mm0,mm1,mm2,mm3,mm4,mm5,mm6,mm7,mm8,mm9,aDI,aDJ,zZ,aAa,aDK,aDL,aDM,aDN,aDO,aDP,aDQ,aDR,aDS,aAb,aDT,aDU,aDV,aDW,aCQ,aDX,aCR,aDY,aDZ,aEa,aEb,aAc,i_v,gP,aF,aP,aS,cU,bE,cE,bC,bX,bU,aT,cR,fX,fM,eR,cZ,cT,fJ,dO,dI,cB,bW,List.getD_cons_zero,List.getD_cons_succ,decide_eq_true_eq,decide_eq_false_iff_not,Bool.and_eq_true,Bool.or_eq_true,Bool.not_eq_true',Bool.not_eq_false',Bool.and_eq_false_iff,Bool.or_eq_false_iff,Bool.not_not,cM,cL,cK,cJ,gJ,cD,cC]
     simp only [E,List.getD_cons_zero,List.getD_cons_succ]
     by_cases e:k=i1.toNat
     ·rw [if_pos e,if_pos (by omega)]
      unfold kW
      rw [show (k:Int)=i1 by omega]
     ·rw [if_neg e,hk]
      by_cases r:(k:Int)<i1
      ·rw [if_pos r,if_pos (by omega)]
      ·rw [if_neg r,if_neg (by omega)]
    refine ⟨rfl,⟨i1+1,i2,i3,mm7.a (E i1 i2 i3 d g f),g,f,rfl,by omega,U,W,fun k=>?_,Q,Z,val⟩,?_⟩
    ·rw [val k];split
     ·exact hfill k
     ·omega
    ·show (30000-(i1+1)).toNat<(30000-i1).toNat
     omega
   ·simp only [E,mm0,mm1,mm2,mm3,mm4,mm5,mm6,mm7,mm8,mm9,aDI,aDJ,zZ,aAa,aDK,aDL,aDM,aDN,aDO,aDP,aDQ,aDR,aDS,aAb,aDT,aDU,aDV,aDW,aCQ,aDX,aCR,aDY,aDZ,aEa,aEb,aAc,i_v,gP,aF,aP,aS,cU,bE,cE,bC,bX,bU,aT,cR,fX,fM,eR,cZ,cT,fJ,dO,dI,cB,bW,List.getD_cons_zero,List.getD_cons_succ,decide_eq_true_eq,decide_eq_false_iff_not,Bool.and_eq_true,Bool.or_eq_true,Bool.not_eq_true',Bool.not_eq_false',Bool.and_eq_false_iff,Bool.or_eq_false_iff,Bool.not_not,cM,cL,cK,cJ,gJ,cD,cC] at o
    refine ⟨rfl,⟨i1,0,i3,d,d,f,rfl,u,by omega,W,M,M,Z,by omega,fun k=>?_⟩,?_⟩
    ·rw [hV k,if_neg (show ¬ (k:Int)<3*0 by omega)]
     by_cases r:(k:Int)<i1
     ·rw [if_pos r,if_pos (by omega)]
     ·rw [if_neg r,if_neg (by omega)]
    ·show (20000-(0:Int)).toNat<(30000-i1).toNat
     omega
  ·simp only [aSy,List.getElem?_cons_zero,List.getElem?_cons_succ,Option.some.injEq] at hj;subst hj
   refine ⟨hok bOf.H i1 i2 i3 d g f u U W M Q Z rfl rfl rfl rfl rfl rfl,_,mmsg1,?_⟩
   obtain ⟨hn,hV⟩:i2≤G.n∧∀ j:Nat,g j=if (j:Int)<3*i2 then iJ C j else if j<8192 then kW b j else 0:=hV
   simp only [LT.holds]
   refine ⟨fun o=>?_,fun o=>?_⟩
   ·simp only [E,mm0,mm1,mm2,mm3,mm4,mm5,mm6,mm7,mm8,mm9,aDI,aDJ,zZ,aAa,aDK,aDL,aDM,aDN,aDO,aDP,aDQ,aDR,aDS,aAb,aDT,aDU,aDV,aDW,aCQ,aDX,aCR,aDY,aDZ,aEa,aEb,aAc,i_v,gP,aF,aP,aS,cU,bE,cE,bC,bX,bU,aT,cR,fX,fM,eR,cZ,cT,fJ,dO,dI,cB,bW,List.getD_cons_zero,List.getD_cons_succ,decide_eq_true_eq,decide_eq_false_iff_not,Bool.and_eq_true,Bool.or_eq_true,Bool.not_eq_true',Bool.not_eq_false',Bool.and_eq_false_iff,Bool.or_eq_false_iff,Bool.not_not,cM,cL,cK,cJ,gJ,cD,cC] at o
    have val:∀ k:Nat,aAb.a (E i1 i2 i3 d g f) k=if (k:Int)<3*(i2+1) then iJ C k else if k<8192 then kW b k else 0:=fun k=>by
     have hk:=hV k
     simp only [mm0,mm1,mm2,mm3,mm4,mm5,mm6,mm7,mm8,mm9,aDI,aDJ,zZ,aAa,aDK,aDL,aDM,aDN,aDO,aDP,aDQ,aDR,aDS,aAb,aDT,aDU,aDV,aDW,aCQ,aDX,aCR,aDY,aDZ,aEa,aEb,aAc,i_v,gP,aF,aP,aS,cU,bE,cE,bC,bX,bU,aT,cR,fX,fM,eR,cZ,cT,fJ,dO,dI,cB,bW,List.getD_cons_zero,List.getD_cons_succ,decide_eq_true_eq,decide_eq_false_iff_not,Bool.and_eq_true,Bool.or_eq_true,Bool.not_eq_true',Bool.not_eq_false',Bool.and_eq_false_iff,Bool.or_eq_false_iff,Bool.not_not,cM,cL,cK,cJ,gJ,cD,cC]
     simp only [E,List.getD_cons_zero,List.getD_cons_succ]
     by_cases r:k=(i2*3+2).toNat
     ·rw [if_pos r,if_pos (by omega)]
      unfold iJ
      rw [if_neg (by omega),if_neg (by omega),show k / 3=i2.toNat by omega]
     ·rw [if_neg r]
      by_cases J:k=(i2*3+1).toNat
      ·rw [if_pos J,if_pos (by omega)]
       unfold iJ
       rw [if_neg (by omega),if_pos (by omega),show k / 3=i2.toNat by omega]
      ·rw [if_neg J]
       by_cases e0:k=(i2*3).toNat
       ·rw [if_pos e0,if_pos (by omega)]
        unfold iJ
        rw [if_pos (by omega),show k / 3=i2.toNat by omega]
       ·rw [if_neg e0,hk]
        by_cases K:(k:Int)<3*i2
        ·rw [if_pos K,if_pos (by omega)]
        ·rw [if_neg K,if_neg (show ¬ (k:Int)<3*(i2+1) by omega)]
    refine ⟨rfl,⟨i1,i2+1,i3,d,aAb.a (E i1 i2 i3 d g f),f,rfl,u,by omega,W,M,fun k=>?_,Z,by omega,val⟩,?_⟩
    ·rw [val k];split
     ·exact hcode k
     ·split
      ·exact hfill k
      ·omega
    ·show (20000-(i2+1)).toNat<(20000-i2).toNat
     omega
   ·simp only [E,mm0,mm1,mm2,mm3,mm4,mm5,mm6,mm7,mm8,mm9,aDI,aDJ,zZ,aAa,aDK,aDL,aDM,aDN,aDO,aDP,aDQ,aDR,aDS,aAb,aDT,aDU,aDV,aDW,aCQ,aDX,aCR,aDY,aDZ,aEa,aEb,aAc,i_v,gP,aF,aP,aS,cU,bE,cE,bC,bX,bU,aT,cR,fX,fM,eR,cZ,cT,fJ,dO,dI,cB,bW,List.getD_cons_zero,List.getD_cons_succ,decide_eq_true_eq,decide_eq_false_iff_not,Bool.and_eq_true,Bool.or_eq_true,Bool.not_eq_true',Bool.not_eq_false',Bool.and_eq_false_iff,Bool.or_eq_false_iff,Bool.not_not,cM,cL,cK,cJ,gJ,cD,cC] at o
    refine ⟨rfl,⟨i1,i2,0,d,g,g,rfl,u,U,by omega,M,Q,Q,by omega,fun k=>?_⟩,?_⟩
    ·rw [hV k,if_neg (show ¬ (6144≤k∧(k:Int)<6144+2*0) by omega)]
     by_cases r:(k:Int)<3*i2
     ·rw [if_pos r,if_pos (by omega)]
     ·rw [if_neg r,if_neg (show ¬ k<3*min G.n 2048 by omega)]
    ·show (2000-(0:Int)).toNat<(20000-i2).toNat
     omega
  ·simp only [aSy,List.getElem?_cons_zero,List.getElem?_cons_succ,Option.some.injEq] at hj;subst hj
   refine ⟨hok bOg.H i1 i2 i3 d g f u U W M Q Z rfl rfl rfl rfl rfl rfl,_,mmsg2,?_⟩
   obtain ⟨hn,hV⟩:i3≤T.n∧∀ j:Nat,f j=if 6144≤j∧(j:Int)<6144+2*i3 then aCH N j else if j<3*min G.n 2048 then iJ C j else if j<8192 then kW b j else 0:=hV
   simp only [LT.holds]
   refine ⟨fun o=>?_,fun o=>?_⟩
   ·simp only [E,mm0,mm1,mm2,mm3,mm4,mm5,mm6,mm7,mm8,mm9,aDI,aDJ,zZ,aAa,aDK,aDL,aDM,aDN,aDO,aDP,aDQ,aDR,aDS,aAb,aDT,aDU,aDV,aDW,aCQ,aDX,aCR,aDY,aDZ,aEa,aEb,aAc,i_v,gP,aF,aP,aS,cU,bE,cE,bC,bX,bU,aT,cR,fX,fM,eR,cZ,cT,fJ,dO,dI,cB,bW,List.getD_cons_zero,List.getD_cons_succ,decide_eq_true_eq,decide_eq_false_iff_not,Bool.and_eq_true,Bool.or_eq_true,Bool.not_eq_true',Bool.not_eq_false',Bool.and_eq_false_iff,Bool.or_eq_false_iff,Bool.not_not,cM,cL,cK,cJ,gJ,cD,cC] at o
    have val:∀ k:Nat,aAc.a (E i1 i2 i3 d g f) k=if 6144≤k∧(k:Int)<6144+2*(i3+1) then aCH N k else if k<3*min G.n 2048 then iJ C k else if k<8192 then kW b k else 0:=fun k=>by
     have hk:=hV k
     simp only [mm0,mm1,mm2,mm3,mm4,mm5,mm6,mm7,mm8,mm9,aDI,aDJ,zZ,aAa,aDK,aDL,aDM,aDN,aDO,aDP,aDQ,aDR,aDS,aAb,aDT,aDU,aDV,aDW,aCQ,aDX,aCR,aDY,aDZ,aEa,aEb,aAc,i_v,gP,aF,aP,aS,cU,bE,cE,bC,bX,bU,aT,cR,fX,fM,eR,cZ,cT,fJ,dO,dI,cB,bW,List.getD_cons_zero,List.getD_cons_succ,decide_eq_true_eq,decide_eq_false_iff_not,Bool.and_eq_true,Bool.or_eq_true,Bool.not_eq_true',Bool.not_eq_false',Bool.and_eq_false_iff,Bool.or_eq_false_iff,Bool.not_not,cM,cL,cK,cJ,gJ,cD,cC]
     simp only [E,List.getD_cons_zero,List.getD_cons_succ]
     by_cases r:k=(i3*2+6145).toNat
     ·rw [if_pos r,if_pos (by omega)]
      unfold aCH
      rw [if_neg (by omega),show (k-6144) / 2=i3.toNat by omega]
     ·rw [if_neg r]
      by_cases J:k=(i3*2+6144).toNat
      ·rw [if_pos J,if_pos (by omega)]
       unfold aCH
       rw [if_pos (by omega),show (k-6144) / 2=i3.toNat by omega]
      ·rw [if_neg J,hk]
       by_cases K:6144≤k∧(k:Int)<6144+2*i3
       ·rw [if_pos K,if_pos (by omega)]
       ·rw [if_neg K,if_neg (show ¬ (6144≤k∧(k:Int)<6144+2*(i3+1)) by omega)]
    refine ⟨rfl,⟨i1,i2,i3+1,d,g,aAc.a (E i1 i2 i3 d g f),rfl,u,U,by omega,M,Q,fun k=>?_,by omega,val⟩,?_⟩
    ·rw [val k];split
     ·exact hnum k
     ·split
      ·exact hcode k
      ·split
       ·exact hfill k
       ·omega
    ·show (2000-(i3+1)).toNat<(2000-i3).toNat
     omega
   ·simp only [E,mm0,mm1,mm2,mm3,mm4,mm5,mm6,mm7,mm8,mm9,aDI,aDJ,zZ,aAa,aDK,aDL,aDM,aDN,aDO,aDP,aDQ,aDR,aDS,aAb,aDT,aDU,aDV,aDW,aCQ,aDX,aCR,aDY,aDZ,aEa,aEb,aAc,i_v,gP,aF,aP,aS,cU,bE,cE,bC,bX,bU,aT,cR,fX,fM,eR,cZ,cT,fJ,dO,dI,cB,bW,List.getD_cons_zero,List.getD_cons_succ,decide_eq_true_eq,decide_eq_false_iff_not,Bool.and_eq_true,Bool.or_eq_true,Bool.not_eq_true',Bool.not_eq_false',Bool.and_eq_false_iff,Bool.or_eq_false_iff,Bool.not_not,cM,cL,cK,cJ,gJ,cD,cC] at o
    refine ⟨by trivial,i1,i2,i3,d,g,f,rfl,by first | trivial | rfl,fun k hk=>?_⟩
    rw [hV k]
    unfold mAt
    by_cases K:6144≤k∧(k:Int)<6144+2*i3
    ·rw [if_pos K,if_pos (by omega)]
    ·rw [if_neg K,if_neg (show ¬ (6144≤k∧k<6144+2*min T.n 1024) by omega)]
  ·simp [aSy] at hj
theorem bFZ {H:Hyp} {ρ:Env} {ι:Sx.Loc} (hH:H.ok ρ):∀ (cs:List S) (i:Nat) (A A':E),aVi H i cs A=some A'→∀ j,A'.a ρ j=if 3*i≤j∧j<3*(i+cs.length) then iJ (fun t=>kJ ((cs.map (S.aC ρ ι)).getD (t-i) Go.undef)) j else A.a ρ j
 | [],i,A,A',h,j=>by
   simp only [aVi,Option.some.injEq] at h;subst h
   rw [if_neg (by simp only [List.length_nil];omega)]
 | c::l,i,A,A',h,j=>by
   cases c with
   | int k e =>
     cases k with
     | u32 =>
       simp only [aVi] at h
       have ih:=bFZ (ι:=ι) hH l (i+1) _ A' h j
       rw [ih]
       simp only [kD,aF,Int.toNat_natCast,sW hH,aCO hH,List.length_cons]
       by_cases u:3*(i+1)≤j∧j<3*(i+1+l.length)
       ·rw [if_pos u,if_pos (by omega)]
        have:∀ t,t=j / 3→(List.map (S.aC ρ ι) l).getD (t-(i+1)) Go.undef=(List.map (S.aC ρ ι) (.int .u32 e::l)).getD (t-i) Go.undef:=fun t ht=>by
         rw [show t-i=(t-(i+1))+1 by omega,List.map_cons,List.getD_cons_succ]
        unfold iJ
        simp only [this _ rfl]
       ·rw [if_neg u]
        have hd:∀ t,t=i→kJ ((List.map (S.aC ρ ι) (.int .u32 e::l)).getD (t-i) Go.undef)=e.i ρ:=fun t ht=>by
         rw [ht,Nat.sub_self];rfl
        by_cases r:j=3*i+2
        ·rw [if_pos r,if_pos (by omega)]
         unfold iJ
         rw [if_neg (by omega),if_neg (by omega)]
         simp only [hd (j / 3) (by omega)]
        ·rw [if_neg r]
         by_cases J:j=3*i+1
         ·rw [if_pos J,if_pos (by omega)]
          unfold iJ
          rw [if_neg (by omega),if_pos (by omega)]
          simp only [hd (j / 3) (by omega)]
         ·rw [if_neg J]
          by_cases e0:j=3*i
          ·rw [if_pos e0,if_pos (by omega)]
           unfold iJ
           rw [if_pos (by omega)]
           simp only [hd (j / 3) (by omega)]
          ·rw [if_neg e0,if_neg (by omega)]
     | _=>simp [aVi] at h
   | _=>simp [aVi] at h
theorem aYS {I:Interp} {F:FuncId} {ty:TypeId} (hv:bBN Try.prog F ty):aX Try.prog I F (bAq ty):=by
 constructor
 intro H l m nd v om h ρ β ι w hI hH hn hm
 unfold bAq at h
 split at h
 rotate_left
 ·cases h
 rename_i x y
 split at h
 rotate_left
 ·cases h
 rename_i L q L2 hr hr2
 split at h
 rotate_left
 ·cases h
 rename_i hc
 simp only [Bool.and_eq_true,decide_eq_true_eq] at hc
 split at h
 rotate_left
 ·cases h
 rename_i cs hcs
 split at h
 rotate_left
 ·cases h
 rename_i A hA
 simp only [Option.some.injEq,Prod.mk.injEq] at h
 obtain ⟨rfl,rfl,rfl⟩:=h
 obtain ⟨hq0,hlen,X,hX,a3,a1,a0⟩:=pX (ι:=ι) hH hm hr
 obtain ⟨_,_,Y,hY,a4,a2,_⟩:=pX (ι:=ι) hH hm hr2
 simp only [aF] at hq0 hlen a1 a2
 have hargs:([.agg [.one x,.one y,.one (.int .u8 (.lit 0))]].map (SV.aC ρ ι)).toArray=#[.agg #[X.v,Y.v,.int .u8 0]] :=
  congrArg List.toArray (fN (tG a3 a4 rfl) rfl)
 rw [hargs]
 refine (hv X Y 0 w hX hY (by omega)).mono fun e w' ⟨ρ',ι',B',he,hm',t1,t2,t3,t4,hcells⟩=>?_
 have hul:=eK (ρ:=ρ) (ι:=ι) hcs
 have hXn:X.n=cs.length:=by
  have:=congrArg List.length hul
  rw [List.length_map] at this
  omega
 refine ⟨cV ι m.length (ι'.pos 0) 0 false,cS _ _ _ _ _,?_,?_⟩
 ·rw [he,aW rfl]
  simp only [SV.aC,S.aC,addr,aF,cV,if_true]
  rfl
 ·refine hm.join hm' hc.2 rfl ?_ ⟨t1.symm,t2.symm,rfl,t3,rfl,t4⟩
  rw [hcells]
  simp only [cellsOf,List.flatMap_cons,List.flatMap_nil,List.append_nil,Seg.cells,aF]
  refine List.map_congr_left fun j hj=>?_
  rw [Nat.zero_add,bFZ (ι:=ι) hH cs 0 _ _ hA j]
  have hj:=List.mem_range.1 hj
  have hk:min Y.n 1024=0:=by omega
  have hn':min X.n 2048=cs.length:=by omega
  congr 1
  unfold mAt
  rw [hk,hn',if_neg (show ¬ (6144≤j∧j<6144+2*0) by omega)]
  by_cases hlt:j<3*cs.length
  ·rw [if_pos hlt,if_pos (show 3*0≤j∧j<3*(0+cs.length) by omega)]
   have hx:∀ t,t=j / 3→aD X 1 0 t=kJ ((cs.map (S.aC ρ ι)).getD (t-0) Go.undef):=fun t ht=>by
    rw [tK a0 (by omega),hul,List.getD_eq_getElem?_getD,Nat.sub_zero]
   unfold iJ
   simp only [hx _ rfl]
  ·rw [if_neg hlt,if_neg (show ¬ (3*0≤j∧j<3*(0+cs.length)) by omega),if_pos (show j<8192 from hj)]
   unfold kW
   simp [cB]
theorem bHn {n:Nat} {C:Nat→Int} {k:Nat} {N:Nat→Int} {b:Int} {j:Nat} (hN:∀ i,0≤N i∧N i≤65535):0≤mAt n C k N b j∧mAt n C k N b j≤255:=by
 have h:=hN ((j-6144) / 2)
 unfold mAt aCH iJ kW
 generalize N ((j-6144) / 2)=x at *
 generalize C (j / 3)=y
 generalize ((j:Int)+(j:Int) / 128)%256*b=z
 repeat' split
 all_goals omega
theorem bAn {n:Nat} {C C':Nat→Int} {k:Nat} {N N':Nat→Int} {b:Int} {j:Nat} (hC:∀ i,i<n→C i=C' i) (hN:∀ i,i<k→N i=N' i):mAt n C k N b j=mAt n C' k N' b j:=by
 unfold mAt
 split
 ·unfold aCH
  rw [hN _ (by omega)]
 ·split
  ·unfold iJ
   rw [hC _ (by omega)]
  ·rfl
def bHo (ty:TypeId):Go.Sx.Spec:=fun H l m=>match l with
 | [.agg [.one x,.one y,.one (.int .u8 b)]]=>match bIW H .u32 (.s x),bIW H .u16 (.s y) with
   | some p,some q=>if m.all (fun B=>B.aH.all (Seg.sc m.length))&&inB (rng H b) 0 255 then
      some ([],.s (.slc m.length (.lit 0) (.lit 8192) (.kn (.lit 8192))),some (m++[⟨ty,[.run .u8 (.lit 8192) (.app 20 (.cons p.1 (.cons p.2 (.cons q.1 (.cons q.2 (.cons b .nil)))))) 0],true,none,false⟩])) else none
   | _,_=>none
 | _=>none
theorem bHp {I:Interp} {F:FuncId} {ty:TypeId} (hv:bBN Try.prog F ty) (hfa:I.fa=Ifa):aX Try.prog I F (bHo ty):=by
 constructor
 intro H l m nd v om h ρ β ι w hI hH hn hm
 unfold bHo at h
 split at h
 rotate_left
 ·cases h
 rename_i x y b
 split at h
 rotate_left
 ·cases h
 rename_i p q hp hq
 split at h
 rotate_left
 ·cases h
 rename_i hc
 simp only [Bool.and_eq_true] at hc
 simp only [Option.some.injEq,Prod.mk.injEq] at h
 obtain ⟨rfl,rfl,rfl⟩:=h
 obtain ⟨X,hX,a3,a1,a0⟩:=aZN hH hm hp
 obtain ⟨Y,hY,a4,a2,hc2⟩:=aZN hH hm hq
 have hb:=bF hH hc.2
 have hargs:([.agg [.one x,.one y,.one (.int .u8 b)]].map (SV.aC ρ ι)).toArray=#[.agg #[X.v,Y.v,.int .u8 (b.i ρ)]] :=
  congrArg List.toArray (fN (tG a3 a4 rfl) rfl)
 rw [hargs]
 refine (hv X Y (b.i ρ) w hX hY hb).mono fun e w' ⟨ρ',ι',B',he,hm',t1,t2,t3,t4,hcells⟩=>?_
 refine ⟨cV ι m.length (ι'.pos 0) 0 false,cS _ _ _ _ _,?_,?_⟩
 ·rw [he,aW rfl]
  simp only [SV.aC,S.aC,addr,aF,cV,if_true]
  rfl
 ·refine hm.join hm' hc.1 rfl ?_ ⟨t1.symm,t2.symm,rfl,t3,rfl,t4⟩
  rw [hcells]
  simp only [cellsOf,List.flatMap_cons,List.flatMap_nil,List.append_nil,Seg.cells,aF]
  refine List.map_congr_left fun j hj=>?_
  have hr:∀ i,0≤aD Y 1 0 i∧aD Y 1 0 i≤65535:=by
   have h:=cW hY
   simpa [inR,dS,iZ,bY] using h
  have hden:E.a ρ (.app 20 (.cons p.1 (.cons p.2 (.cons q.1 (.cons q.2 (.cons b .nil)))))) (0+j)=mAt (min (p.1.i ρ).toNat 2048) (p.2.a ρ) (min (q.1.i ρ).toNat 1024) (q.2.a ρ) (b.i ρ) j%256:=by
   rw [zB,iP,iP,iP,iP,iP,pK,lD,lD,lD,lD,lD,aTE,lC,lC,lC,lC,lC,aTC,hI,hfa,Nat.zero_add]
   rfl
  rw [hden,← a1,← a2]
  rw [show mAt (min ((X.n:Int)).toNat 2048) (p.2.a ρ) (min ((Y.n:Int)).toNat 1024) (q.2.a ρ) (b.i ρ) j=mAt (min X.n 2048) (aD X 1 0) (min Y.n 1024) (aD Y 1 0) (b.i ρ) j from (bAn (fun i hi=>a0 i (by omega)) (fun i hi=>hc2 i (by omega))).symm]
  have:=bHn (n:=min X.n 2048) (C:=aD X 1 0) (k:=min Y.n 1024) (N:=aD Y 1 0) (b:=b.i ρ) (j:=j) hr
  rw [Int.emod_eq_of_lt this.1 (by omega)]
theorem dZ {m k:Int} (hm:0<m) (hk:k=m-1) (x:Int):inR (0,k) (x%m):=⟨Int.emod_nonneg _ (by omega),by have:=Int.emod_lt_of_pos x hm;omega⟩
theorem fi3_rng (xs:Nat→Nat→Ext):∀ p ∈ [((10:Nat),((0:Int),(4294967295:Int))),(40,(0,65535)),(41,(0,63))],∀ is bs ys,inR p.2 ((Iv xs).fi p.1 is bs ys):=by
 intro p hp is bs ys
 simp only [List.mem_cons,List.not_mem_nil,or_false] at hp
 rcases hp with rfl | rfl | rfl
 ·exact wW _ _
 ·exact dZ (m:=65536) (by decide) (by decide) _
 ·exact dZ (m:=64) (by decide) (by decide) _
theorem fa2_rng (xs:Nat→Nat→Ext):∀ p ∈ [((20:Nat),((0:Int),(255:Int))),(50,(0,255))],∀ is bs ys j,inR p.2 ((Iv xs).fa p.1 is bs ys j):=by
 intro p hp is bs ys j
 simp only [List.mem_cons,List.not_mem_nil,or_false] at hp
 rcases hp with rfl | rfl
 ·exact dZ (m:=256) (by decide) (by decide) _
 ·exact aSU _ j
end Go.Proofs.Ytcckecfjjccffaa
