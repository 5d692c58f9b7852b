/- A contract of the function that lays a chip's own memory, for any plan. No condition. -/
import Derived.Test.YtcckecfjjccffaaRw
namespace Go.Proofs.Ytcckecfjjccffaa
open Go.Sx Go.RowKit
set_option linter.unusedVariables false
set_option linter.unusedSimpArgs false
set_option maxRecDepth 100000
def aWj (H:Hyp):Nat→List S→E→Option E
 | _,[],A=>some A
 | i,.int .u32 c::l,A=>aWj H (i+1) l (jI (jI (jI A (.lit (3*i:Nat)) (pB H c (.lit 256))) (.lit (3*i+1:Nat)) (pB H (zN H c (.lit 256)) (.lit 256))) (.lit (3*i+2:Nat)) (pB H (zN H c (.lit 65536)) (.lit 256)))
 | _,_,_=>none
def bBB (ty:TypeId):Go.Sx.Spec:=fun H l m=>match l with
 | [.agg [.one x,.one y,.one (.int .u8 (.lit 0))]]=>match xR H m .u32 (.s x),xR H m .u16 (.s y) with
   | some (L,.lit q),some (_,.lit 0)=>if decide (q≤64)&&m.all (fun B=>B.aE.all (Seg.sc m.length)) then match fV L with
     | some cs=>match aWj H 0 cs (.tab []) with
       | some A=>some ([],.s (.slc m.length (.lit 0) (.lit 8192) (.kn (.lit 8192))),some (m++[⟨ty,[.run .u8 (.lit 8192) A 0],true,none,false⟩]))
       | none=>none
     | none=>none
     else none
   | _,_=>none
 | _=>none
def bCT (P:Program) (F:FuncId) (ty:TypeId):Prop:=∀ (x y:Ext) (b:Int) (w:World),kC x w [some .u32]→kC y w [some .u16]→(0≤b∧b≤255) →
 Calls P F #[.agg #[x.v,y.v,.int .u8 b]] w fun e w'=>∃ (ρ':Env) (ι':Sx.Loc) (B':Blk),e=.returned (.slice (some ⟨ι'.pos 0,0,none⟩) 8192 8192)∧aG ρ' ⟨w,0,Sx.Loc.id⟩ ι' [B'] w'∧B'.ty=ty∧B'.wr=true∧B'.grow=none∧B'.dead=false ∧
  cellsOf ρ' ι' B'.aE=(List.range 8192).map fun j=>Value.int .u8 (mAt (min x.n 2048) (aY x 1 0) (min y.n 1024) (aY y 1 0) b j)
theorem aG.drop1 {ρ:Env} {w0:World} {ι:Sx.Loc} {B0 B:Blk} {w:World} (hm:aG ρ ⟨w0,0,Sx.Loc.id⟩ ι [B0,B] w) (hi:∀ k,k<2→ι.nil k=false) (hs:B.aE.all (Seg.sc 0)=true) :
 aG ρ ⟨w0,0,Sx.Loc.id⟩ ⟨fun i=>ι.pos (i+1),fun i=>ι.cap (i+1),fun i=>ι.nil (i+1)⟩ [B] w:=by
 have J:∀ {i:Nat} {C:Blk},[B][i]? = some C→i=0∧C=B:=fun {i C} hC=>by
  cases i with
  | zero=>simp only [List.getElem?_cons_zero,Option.some.injEq] at hC;exact ⟨rfl,hC.symm⟩
  | succ i=>simp at hC
 have hc:cellsOf ρ ⟨fun i=>ι.pos (i+1),fun i=>ι.cap (i+1),fun i=>ι.nil (i+1)⟩ B.aE=cellsOf ρ ι B.aE:=bF (n:=0) (fun i h=>absurd h (Nat.not_lt_zero _)) hs
 refine ⟨fun i j C D hC hD _ _ _ _ _=>?_,fun i C hC hCd hCn=>?_,fun i C hC hCd hCn=>?_,fun i h=>absurd h (Nat.not_lt_zero _),Nat.zero_le _,fun i _ hi'=>?_,hm.size,fun b hb hno=>?_,hm.os,hm.tape,hm.output,hm.xt,fun i j a n c hv h0 k hk=>?_⟩
 ·rw [(J hC).1,(J hD).1]
 ·obtain ⟨rfl,rfl⟩:=J hC
  rw [hc]
  exact hm.blk 1 C rfl hCd hCn
 ·obtain ⟨rfl,rfl⟩:=J hC
  rw [hc]
  exact hm.nils 1 C rfl hCd hCn
 ·have r:i=0:=by simpa using hi'
  subst r
  rcases hm.new 1 (Nat.zero_le _) (by simp) with h | ⟨j,hj,_⟩
  ·exact .inl h
  ·exact absurd hj (Nat.not_lt_zero _)
 ·refine hm.old b hb fun i hi'=>?_
  have:i=0∨i=1:=by simp at hi';omega
  rcases this with rfl | rfl
  ·intro e
   rcases hm.new 0 (Nat.zero_le _) (by simp) with h | ⟨j,hj,_⟩
   ·rw [e] at h;exact absurd hb (Nat.not_lt.2 h)
   ·exact absurd hj (Nat.not_lt_zero _)
  ·exact hno 0 (by simp)
 ·have:k=0:=by simpa using hk
  subst this
  exact hm.xd i j a n c hv h0 1 (by simp)
def aTw:Hyp:=⟨[(.v 0,(0,9223372036854775807)),(.v 1,(0,9223372036854775807)),(.v 2,(0,255))],[(0,(0,4294967295)),(1,(0,65535))],[],[],[],[(0,⟨.v 0,[(some .u32,.av 0)],[]⟩),(1,⟨.v 1,[(some .u16,.av 1)],[]⟩)]⟩
def mmLs:List SV:=[.agg [.one (.xslc 0 (.lit 0) (.lit 0) (.v 0)),.one (.xslc 1 (.lit 0) (.lit 0) (.v 1)),.one (.int .u8 (.v 2))]]
--SKEND
def mm0:E:=.le (.v 3) (.lit 8191)
def mm1:E:=.add (.v 3) (.lit 1)
def mm2:E:=.div (.v 3) (.lit 128)
def mm3:E:=.add (.v 3) mm2
def mm4:E:=.mod mm3 (.lit 256)
def mm5:E:=.mul mm4 (.v 2)
def mm6:E:=.mod mm5 (.lit 256)
def mm7:E:=.upd (.av 2) (.v 3) mm6
def mm8:E:=.lt (.v 4) (.v 0)
def mm9:E:=.le (.v 4) (.lit 2047)
def aEu:E:=.and mm8 mm9
def aEv:E:=.add (.v 4) (.lit 1)
def aAL:E:=.mul (.v 4) (.lit 3)
def aAM:E:=.sel (.av 0) (.v 4)
def aEw:E:=.mod aAM (.lit 256)
def aEx:E:=.upd (.av 3) aAL aEw
def aEy:E:=.add aAL (.lit 1)
def aEz:E:=.div aAM (.lit 256)
def aEA:E:=.mod aEz (.lit 256)
def aEB:E:=.upd aEx aEy aEA
def aEC:E:=.add aAL (.lit 2)
def aED:E:=.div aAM (.lit 65536)
def aEE:E:=.mod aED (.lit 256)
def aAN:E:=.upd aEB aEC aEE
def aEF:E:=.lt (.v 5) (.v 1)
def aEG:E:=.le (.v 5) (.lit 1023)
def aEH:E:=.and aEF aEG
def aEI:E:=.add (.v 5) (.lit 1)
def aDD:E:=.mul (.v 5) (.lit 2)
def aEJ:E:=.add aDD (.lit 6144)
def aDE:E:=.sel (.av 1) (.v 5)
def aEK:E:=.mod aDE (.lit 256)
def aEL:E:=.upd (.av 4) aEJ aEK
def aEM:E:=.add aDD (.lit 6145)
def aEN:E:=.div aDE (.lit 256)
def aAO:E:=.upd aEL aEM aEN
noncomputable def bPX:List Item:=nZ Try.prog 32 4
noncomputable def bQa:Head:=⟨4,bPX,⟨[((.v 0),(0,9223372036854775807)),((.v 1),(0,9223372036854775807)),((.v 2),(0,255)),((.v 3),(0,8192)),((.v 4),(0,2048)),((.v 5),(0,1024))],[(0,(0,4294967295)),(1,(0,65535)),(2,(0,255)),(3,(0,255)),(4,(0,255))],[],[],[],[(0,⟨(.v 0),[(some .u32,(.av 0))],[]⟩),(1,⟨(.v 1),[(some .u16,(.av 1))],[]⟩)]⟩,[⟨4,[],.s (.int .i64 (.v 3))⟩,⟨3,[],.s (.slc 1 (.lit 0) (.lit 8192) (.kn (.lit 8192)))⟩,⟨1,[],.s (.ptr 0 (.lit 0))⟩],[⟨32,[.one (.xslc 0 (.lit 0) (.lit 0) (.v 0)),.one (.xslc 1 (.lit 0) (.lit 0) (.v 1)),.one (.int .u8 (.v 2))],true,none,false⟩,⟨5,[.run .u8 (.lit 8192) (.av 2) 0],true,none,false⟩]⟩
noncomputable def bPY:List Item:=nZ Try.prog 32 8
noncomputable def bQb:Head:=⟨8,bPY,⟨[((.v 0),(0,9223372036854775807)),((.v 1),(0,9223372036854775807)),((.v 2),(0,255)),((.v 3),(0,8192)),((.v 4),(0,2048)),((.v 5),(0,1024))],[(0,(0,4294967295)),(1,(0,65535)),(2,(0,255)),(3,(0,255)),(4,(0,255))],[],[],[],[(0,⟨(.v 0),[(some .u32,(.av 0))],[]⟩),(1,⟨(.v 1),[(some .u16,(.av 1))],[]⟩)]⟩,[⟨5,[],.s (.int .i64 (.v 4))⟩,⟨3,[],.s (.slc 1 (.lit 0) (.lit 8192) (.kn (.lit 8192)))⟩,⟨1,[],.s (.ptr 0 (.lit 0))⟩],[⟨32,[.one (.xslc 0 (.lit 0) (.lit 0) (.v 0)),.one (.xslc 1 (.lit 0) (.lit 0) (.v 1)),.one (.int .u8 (.v 2))],true,none,false⟩,⟨5,[.run .u8 (.lit 8192) (.av 3) 0],true,none,false⟩]⟩
noncomputable def bPZ:List Item:=nZ Try.prog 32 14
noncomputable def bQc:Head:=⟨14,bPZ,⟨[((.v 0),(0,9223372036854775807)),((.v 1),(0,9223372036854775807)),((.v 2),(0,255)),((.v 3),(0,8192)),((.v 4),(0,2048)),((.v 5),(0,1024))],[(0,(0,4294967295)),(1,(0,65535)),(2,(0,255)),(3,(0,255)),(4,(0,255))],[],[],[],[(0,⟨(.v 0),[(some .u32,(.av 0))],[]⟩),(1,⟨(.v 1),[(some .u16,(.av 1))],[]⟩)]⟩,[⟨6,[],.s (.int .i64 (.v 5))⟩,⟨3,[],.s (.slc 1 (.lit 0) (.lit 8192) (.kn (.lit 8192)))⟩,⟨1,[],.s (.ptr 0 (.lit 0))⟩],[⟨32,[.one (.xslc 0 (.lit 0) (.lit 0) (.v 0)),.one (.xslc 1 (.lit 0) (.lit 0) (.v 1)),.one (.int .u8 (.v 2))],true,none,false⟩,⟨5,[.run .u8 (.lit 8192) (.av 4) 0],true,none,false⟩]⟩
noncomputable def aTx:List Head:=[bQa,bQb,bQc]
def mmD:Dim:=⟨6,0,5,3,0,2,0⟩
theorem mmst:fH Try.prog S0 S0h mmD aTx [] 3000 0 32 aTw mmLs []=some (.jump 0 bPX ⟨[(3,(.lit 0))],[],[(2,(.tab []))]⟩):=by kernel_rfl
theorem mmsg0:lZ Try.prog S0 S0h mmD aTx [] 3000 0 32 bQa=some (.ite mm0 (.jump 0 bPX ⟨[(3,mm1)],[],[(2,mm7)]⟩) (.jump 1 bPY ⟨[(4,(.lit 0))],[],[(3,(.av 2))]⟩)):=by kernel_rfl
theorem mmsg1:lZ Try.prog S0 S0h mmD aTx [] 3000 0 32 bQb=some (.ite aEu (.jump 1 bPY ⟨[(4,aEv)],[],[(3,aAN)]⟩) (.jump 2 bPZ ⟨[(5,(.lit 0))],[],[(4,(.av 3))]⟩)):=by kernel_rfl
theorem mmsg2:lZ Try.prog S0 S0h mmD aTx [] 3000 0 32 bQc=some (.ite aEH (.jump 2 bPZ ⟨[(5,aEI)],[],[(4,aAO)]⟩) (.ret (.s (.slc 1 (.lit 0) (.lit 8192) (.kn (.lit 8192)))) [⟨32,[.one (.xslc 0 (.lit 0) (.lit 0) (.v 0)),.one (.xslc 1 (.lit 0) (.lit 0) (.v 1)),.one (.int .u8 (.v 2))],true,none,false⟩,⟨5,[.run .u8 (.lit 8192) (.av 4) 0],true,none,false⟩])):=by kernel_rfl
theorem bQd:bCT Try.prog 32 5:=by
 intro u M b w g0 g1 hb
 let I:Interp:=Iv (fun i j=>match i,j with | 0,0=>u | 1,0=>M | _,_=>Ext.none)
 have hxs:∀ i j,(I.xs i j).ok w:=fun i j=>by rcases i with _ | _ | i <;> rcases j with _ | j <;> first | exact Ext.lU _ | exact g0.ok | exact g1.ok
 let C:=aY u 1 0
 let N:=aY M 1 0
 let E (i1 i2 i3:Int) (d g f:Nat→Int):Env:=⟨[(u.n:Int),(M.n:Int),b,i1,i2,i3],[],[C,N,d,g,f],[],I⟩
 have L0:=fJ g0
 have R0:∀ j,inR (dK .u32) (C j):=gA g0
 have L1:=fJ g1
 have R1:∀ j,inR (dK .u16) (N j):=gA g1
 simp only [inR,dK,iP,bS] at L0 R0 L1 R1
 let z:Nat→Int:=fun _=>0
 have hargs:(mmLs.map (SV.aB (E 0 0 0 z z z) Loc.id)).toArray=#[.agg #[u.v,M.v,.int .u8 b]]:=by
  have h0:SV.aB (E 0 0 0 z z z) Loc.id (.s (.xslc 0 (.lit 0) (.lit 0) (.v 0)))=u.v:=iD g0 rfl rfl
  have r:SV.aB (E 0 0 0 z z z) Loc.id (.s (.xslc 1 (.lit 0) (.lit 0) (.v 1)))=M.v:=iD g1 rfl rfl
  exact congrArg List.toArray (gV (aBu h0 r rfl) rfl)
 rw [← hargs]
 let R (X:Nat→Int):Prop:=∀ j,0≤X j∧X j≤255
 have hX:∀ (p:Nat × XI),p ∈ [(0,⟨.v 0,[(some .u32,.av 0)],[]⟩),(1,⟨.v 1,[(some .u16,.av 1)],[]⟩)]→∀ i1 i2 i3 d g f,XI.ok (E i1 i2 i3 d g f) p.1 p.2:=by
  intro p hp i1 i2 i3 d g f
  simp only [List.mem_cons,List.not_mem_nil,or_false] at hp
  rcases hp with rfl | rfl
  ·exact pL g0 rfl rfl rfl
  ·exact pL g1 rfl rfl rfl
 have hok:∀ (H:Hyp) (i1 i2 i3:Int) (d g f:Nat→Int),(0≤i1∧i1≤8192)→(0≤i2∧i2≤2048)→(0≤i3∧i3≤1024)→R d→R g→R f→H.e=[(.v 0,(0,9223372036854775807)),(.v 1,(0,9223372036854775807)),(.v 2,(0,255)),(.v 3,(0,8192)),(.v 4,(0,2048)),(.v 5,(0,1024))]→H.a=[(0,(0,4294967295)),(1,(0,65535)),(2,(0,255)),(3,(0,255)),(4,(0,255))]→H.fi=[]→H.fa=[]→H.b=[]→H.x=aTw.x→H.ok (E i1 i2 i3 d g f):=by
  intro H i1 i2 i3 d g f r O Q G K T e1 e2 e3 e4 e5 e6
  refine ⟨?_,?_,?_,by simp [e3],by simp [e4],by simp [e5]⟩
  ·rw [e6];exact fun p hp=>hX p hp i1 i2 i3 d g f
  ·rw [e1];intro p hp
   simp only [List.mem_cons,List.not_mem_nil,or_false] at hp
   rcases hp with rfl | rfl | rfl | rfl | rfl | rfl
   ·exact L0
   ·exact L1
   ·exact hb
   ·exact r
   ·exact O
   ·exact Q
  ·rw [e2];intro p hp
   simp only [List.mem_cons,List.not_mem_nil,or_false] at hp
   rcases hp with rfl | rfl | rfl | rfl | rfl
   ·exact R0
   ·exact R1
   ·exact G
   ·exact K
   ·exact T
 have hok0:aTw.ok (E 0 0 0 z z z):=by
  refine ⟨?_,?_,?_,by simp [aTw],by simp [aTw],by simp [aTw]⟩
  ·exact fun p hp=>hX p hp 0 0 0 z z z
  ·intro p hp
   simp only [aTw,List.mem_cons,List.not_mem_nil,or_false] at hp
   rcases hp with rfl | rfl | rfl
   ·exact L0
   ·exact L1
   ·exact hb
  ·intro p hp
   simp only [aTw,List.mem_cons,List.not_mem_nil,or_false] at hp
   rcases hp with rfl | rfl
   ·exact R0
   ·exact R1
 let V (k:Nat) (i1 i2 i3:Int) (d g f:Nat→Int):Prop:=match k with
  | 0=>∀ j:Nat,d j=if (j:Int)<i1 then kT b j else 0
  | 1=>i2≤u.n∧∀ j:Nat,g j=if (j:Int)<3*i2 then iF C j else if j<8192 then kT b j else 0
  | 2=>i3≤M.n∧∀ j:Nat,f j=if 6144≤j∧(j:Int)<6144+2*i3 then aDv N j else if j<3*min u.n 2048 then iF C j else if j<8192 then kT b j else 0
  | _=>False
 have hfill:∀ j:Nat,0≤kT b j∧kT b j≤255:=fun j=>by unfold kT;omega
 have hcode:∀ j:Nat,0≤iF C j∧iF C j≤255:=fun j=>by unfold iF;repeat' split
                                                   all_goals omega
 have hnum:∀ j:Nat,0≤aDv N j∧aDv N j≤255:=fun j=>by
  have:=R1 ((j-6144) / 2)
  unfold aDv;split <;> omega
 refine iQ (β:=⟨w,0,Sx.Loc.id⟩) (aBz I) (by kernel_rfl) (Nat.zero_le _) (fun k ρ=>∃ (i1 i2 i3:Int) (d g f:Nat→Int),ρ=E i1 i2 i3 d g f∧(0≤i1∧i1≤8192)∧(0≤i2∧i2≤2048)∧(0≤i3∧i3≤1024)∧R d∧R g∧R f∧V k i1 i2 i3 d g f)
  (fun k ρ=>match k with | 0=>(30000-ρ.i.getD 3 0).toNat | 1=>(20000-ρ.i.getD 4 0).toNat | _=>(2000-ρ.i.getD 5 0).toNat)
  (fun ρ v m=>v=.s (.slc 1 (.lit 0) (.lit 8192) (.kn (.lit 8192)))∧∃ (i1 i2 i3:Int) (d g f:Nat→Int),ρ=E i1 i2 i3 d g f∧m=[⟨32,[.one (.xslc 0 (.lit 0) (.lit 0) (.v 0)),.one (.xslc 1 (.lit 0) (.lit 0) (.v 1)),.one (.int .u8 (.v 2))],true,none,false⟩,⟨5,[.run .u8 (.lit 8192) (.av 4) 0],true,none,false⟩]∧∀ j,j<8192→f j=mAt (min u.n 2048) C (min M.n 1024) N b j) ?_ mmst (aG.empty hxs Loc.id) rfl ⟨rfl,rfl,rfl⟩ hok0 ?_ ?_
 ·rintro ρ v m hI ⟨rfl,i1,i2,i3,d,g,f,rfl,rfl,hA⟩ ι w' hm
  have hnil:∀ k,k<2→ι.nil k=false:=fun k hk=>by
   cases hn:ι.nil k with
   | false=>rfl
   | true =>
     rcases k with _ | _ | k
     ·have:=(hm.nils 0 _ rfl rfl hn).1;cases this
     ·have:=(hm.nils 1 _ rfl rfl hn).1;cases this
     ·omega
  refine ⟨E i1 i2 i3 d g f,_,_,?_,aG.drop1 hm hnil rfl,rfl,rfl,rfl,rfl,?_⟩
  ·rw [aV rfl];rfl
  ·simp only [cellsOf,List.flatMap_cons,List.flatMap_nil,List.append_nil,Seg.cells,aC]
   refine List.map_congr_left fun j hj=>?_
   rw [Nat.zero_add,show (_root_.Go.Sx.E.av 4).a (E i1 i2 i3 d g f) j=f j from rfl,hA j (List.mem_range.1 hj)]
 ·simp only [LT.holds]
  refine ⟨rfl,0,0,0,fun j=>([]:List Int).getD j 0,z,z,rfl,by omega,by omega,by omega,fun j=>by simp,fun j=>by simp [z],fun j=>by simp [z],fun j=>?_⟩
  rw [if_neg (by omega)];simp
 ·rintro j h ρ hj hI hz ⟨i1,i2,i3,d,g,f,rfl,r,O,Q,G,K,T,hV⟩
  rcases j with _ | _ | _ | j
  ·simp only [aTx,List.getElem?_cons_zero,Option.some.injEq] at hj;subst hj
   refine ⟨hok bQa.H i1 i2 i3 d g f r O Q G K T rfl rfl rfl rfl rfl rfl,_,mmsg0,?_⟩
   have hV:∀ j:Nat,d j=if (j:Int)<i1 then kT b j else 0:=hV
   simp only [LT.holds]
   refine ⟨fun o=>?_,fun o=>?_⟩
   ·simp only [E,mm0,mm1,mm2,mm3,mm4,mm5,mm6,mm7,mm8,mm9,aEu,aEv,aAL,aAM,aEw,aEx,aEy,aEz,aEA,aEB,aEC,aED,aEE,aAN,aEF,aEG,aEH,aEI,aDD,aEJ,aDE,aEK,aEL,aEM,aEN,aAO,i_v,iB,aC,aN,aR,cY,bH,cD,bB,bX,bT,aQ,cV,gI,fW,eU,cX,cN,eW,eC,dE,cC,bW,List.getD_cons_zero,List.getD_cons_succ,decide_eq_true_eq,decide_eq_false_iff_not,Bool.and_eq_true,Bool.or_eq_true,Bool.not_eq_true',Bool.not_eq_false',Bool.and_eq_false_iff,Bool.or_eq_false_iff,Bool.not_not,cT,cS,cR,cQ,gF,cH,bZ] at o
    have val:∀ k:Nat,mm7.a (E i1 i2 i3 d g f) k=if (k:Int)<i1+1 then kT b k else 0:=fun k=>by
     have hk:=hV k
     simp only [mm0,mm1,mm2,mm3,mm4,mm5,mm6,mm7,mm8,mm9,aEu,aEv,aAL,aAM,aEw,aEx,aEy,aEz,aEA,aEB,aEC,aED,aEE,aAN,aEF,aEG,aEH,aEI,aDD,aEJ,aDE,aEK,aEL,aEM,aEN,aAO,i_v,iB,aC,aN,aR,cY,bH,cD,bB,bX,bT,aQ,cV,gI,fW,eU,cX,cN,eW,eC,dE,cC,bW,List.getD_cons_zero,List.getD_cons_succ,decide_eq_true_eq,decide_eq_false_iff_not,Bool.and_eq_true,Bool.or_eq_true,Bool.not_eq_true',Bool.not_eq_false',Bool.and_eq_false_iff,Bool.or_eq_false_iff,Bool.not_not,cT,cS,cR,cQ,gF,cH,bZ]
     simp only [E,List.getD_cons_zero,List.getD_cons_succ]
     by_cases e:k=i1.toNat
     ·rw [if_pos e,if_pos (by omega)]
      unfold kT
      rw [show (k:Int)=i1 by omega]
     ·rw [if_neg e,hk]
      by_cases e2:(k:Int)<i1
      ·rw [if_pos e2,if_pos (by omega)]
      ·rw [if_neg e2,if_neg (by omega)]
    refine ⟨rfl,⟨i1+1,i2,i3,mm7.a (E i1 i2 i3 d g f),g,f,rfl,by omega,O,Q,fun k=>?_,K,T,val⟩,?_⟩
    ·rw [val k];split
     ·exact hfill k
     ·omega
    ·show (30000-(i1+1)).toNat<(30000-i1).toNat
     omega
   ·simp only [E,mm0,mm1,mm2,mm3,mm4,mm5,mm6,mm7,mm8,mm9,aEu,aEv,aAL,aAM,aEw,aEx,aEy,aEz,aEA,aEB,aEC,aED,aEE,aAN,aEF,aEG,aEH,aEI,aDD,aEJ,aDE,aEK,aEL,aEM,aEN,aAO,i_v,iB,aC,aN,aR,cY,bH,cD,bB,bX,bT,aQ,cV,gI,fW,eU,cX,cN,eW,eC,dE,cC,bW,List.getD_cons_zero,List.getD_cons_succ,decide_eq_true_eq,decide_eq_false_iff_not,Bool.and_eq_true,Bool.or_eq_true,Bool.not_eq_true',Bool.not_eq_false',Bool.and_eq_false_iff,Bool.or_eq_false_iff,Bool.not_not,cT,cS,cR,cQ,gF,cH,bZ] at o
    refine ⟨rfl,⟨i1,0,i3,d,d,f,rfl,r,by omega,Q,G,G,T,by omega,fun k=>?_⟩,?_⟩
    ·rw [hV k,if_neg (show ¬ (k:Int)<3*0 by omega)]
     by_cases e2:(k:Int)<i1
     ·rw [if_pos e2,if_pos (by omega)]
     ·rw [if_neg e2,if_neg (by omega)]
    ·show (20000-(0:Int)).toNat<(30000-i1).toNat
     omega
  ·simp only [aTx,List.getElem?_cons_zero,List.getElem?_cons_succ,Option.some.injEq] at hj;subst hj
   refine ⟨hok bQb.H i1 i2 i3 d g f r O Q G K T rfl rfl rfl rfl rfl rfl,_,mmsg1,?_⟩
   obtain ⟨hn,hV⟩:i2≤u.n∧∀ j:Nat,g j=if (j:Int)<3*i2 then iF C j else if j<8192 then kT b j else 0:=hV
   simp only [LT.holds]
   refine ⟨fun o=>?_,fun o=>?_⟩
   ·simp only [E,mm0,mm1,mm2,mm3,mm4,mm5,mm6,mm7,mm8,mm9,aEu,aEv,aAL,aAM,aEw,aEx,aEy,aEz,aEA,aEB,aEC,aED,aEE,aAN,aEF,aEG,aEH,aEI,aDD,aEJ,aDE,aEK,aEL,aEM,aEN,aAO,i_v,iB,aC,aN,aR,cY,bH,cD,bB,bX,bT,aQ,cV,gI,fW,eU,cX,cN,eW,eC,dE,cC,bW,List.getD_cons_zero,List.getD_cons_succ,decide_eq_true_eq,decide_eq_false_iff_not,Bool.and_eq_true,Bool.or_eq_true,Bool.not_eq_true',Bool.not_eq_false',Bool.and_eq_false_iff,Bool.or_eq_false_iff,Bool.not_not,cT,cS,cR,cQ,gF,cH,bZ] at o
    have val:∀ k:Nat,aAN.a (E i1 i2 i3 d g f) k=if (k:Int)<3*(i2+1) then iF C k else if k<8192 then kT b k else 0:=fun k=>by
     have hk:=hV k
     simp only [mm0,mm1,mm2,mm3,mm4,mm5,mm6,mm7,mm8,mm9,aEu,aEv,aAL,aAM,aEw,aEx,aEy,aEz,aEA,aEB,aEC,aED,aEE,aAN,aEF,aEG,aEH,aEI,aDD,aEJ,aDE,aEK,aEL,aEM,aEN,aAO,i_v,iB,aC,aN,aR,cY,bH,cD,bB,bX,bT,aQ,cV,gI,fW,eU,cX,cN,eW,eC,dE,cC,bW,List.getD_cons_zero,List.getD_cons_succ,decide_eq_true_eq,decide_eq_false_iff_not,Bool.and_eq_true,Bool.or_eq_true,Bool.not_eq_true',Bool.not_eq_false',Bool.and_eq_false_iff,Bool.or_eq_false_iff,Bool.not_not,cT,cS,cR,cQ,gF,cH,bZ]
     simp only [E,List.getD_cons_zero,List.getD_cons_succ]
     by_cases e2:k=(i2*3+2).toNat
     ·rw [if_pos e2,if_pos (by omega)]
      unfold iF
      rw [if_neg (by omega),if_neg (by omega),show k / 3=i2.toNat by omega]
     ·rw [if_neg e2]
      by_cases e1:k=(i2*3+1).toNat
      ·rw [if_pos e1,if_pos (by omega)]
       unfold iF
       rw [if_neg (by omega),if_pos (by omega),show k / 3=i2.toNat by omega]
      ·rw [if_neg e1]
       by_cases e0:k=(i2*3).toNat
       ·rw [if_pos e0,if_pos (by omega)]
        unfold iF
        rw [if_pos (by omega),show k / 3=i2.toNat by omega]
       ·rw [if_neg e0,hk]
        by_cases e3:(k:Int)<3*i2
        ·rw [if_pos e3,if_pos (by omega)]
        ·rw [if_neg e3,if_neg (show ¬ (k:Int)<3*(i2+1) by omega)]
    refine ⟨rfl,⟨i1,i2+1,i3,d,aAN.a (E i1 i2 i3 d g f),f,rfl,r,by omega,Q,G,fun k=>?_,T,by omega,val⟩,?_⟩
    ·rw [val k];split
     ·exact hcode k
     ·split
      ·exact hfill k
      ·omega
    ·show (20000-(i2+1)).toNat<(20000-i2).toNat
     omega
   ·simp only [E,mm0,mm1,mm2,mm3,mm4,mm5,mm6,mm7,mm8,mm9,aEu,aEv,aAL,aAM,aEw,aEx,aEy,aEz,aEA,aEB,aEC,aED,aEE,aAN,aEF,aEG,aEH,aEI,aDD,aEJ,aDE,aEK,aEL,aEM,aEN,aAO,i_v,iB,aC,aN,aR,cY,bH,cD,bB,bX,bT,aQ,cV,gI,fW,eU,cX,cN,eW,eC,dE,cC,bW,List.getD_cons_zero,List.getD_cons_succ,decide_eq_true_eq,decide_eq_false_iff_not,Bool.and_eq_true,Bool.or_eq_true,Bool.not_eq_true',Bool.not_eq_false',Bool.and_eq_false_iff,Bool.or_eq_false_iff,Bool.not_not,cT,cS,cR,cQ,gF,cH,bZ] at o
    refine ⟨rfl,⟨i1,i2,0,d,g,g,rfl,r,O,by omega,G,K,K,by omega,fun k=>?_⟩,?_⟩
    ·rw [hV k,if_neg (show ¬ (6144≤k∧(k:Int)<6144+2*0) by omega)]
     by_cases e2:(k:Int)<3*i2
     ·rw [if_pos e2,if_pos (by omega)]
     ·rw [if_neg e2,if_neg (show ¬ k<3*min u.n 2048 by omega)]
    ·show (2000-(0:Int)).toNat<(20000-i2).toNat
     omega
  ·simp only [aTx,List.getElem?_cons_zero,List.getElem?_cons_succ,Option.some.injEq] at hj;subst hj
   refine ⟨hok bQc.H i1 i2 i3 d g f r O Q G K T rfl rfl rfl rfl rfl rfl,_,mmsg2,?_⟩
   obtain ⟨hn,hV⟩:i3≤M.n∧∀ j:Nat,f j=if 6144≤j∧(j:Int)<6144+2*i3 then aDv N j else if j<3*min u.n 2048 then iF C j else if j<8192 then kT b j else 0:=hV
   simp only [LT.holds]
   refine ⟨fun o=>?_,fun o=>?_⟩
   ·simp only [E,mm0,mm1,mm2,mm3,mm4,mm5,mm6,mm7,mm8,mm9,aEu,aEv,aAL,aAM,aEw,aEx,aEy,aEz,aEA,aEB,aEC,aED,aEE,aAN,aEF,aEG,aEH,aEI,aDD,aEJ,aDE,aEK,aEL,aEM,aEN,aAO,i_v,iB,aC,aN,aR,cY,bH,cD,bB,bX,bT,aQ,cV,gI,fW,eU,cX,cN,eW,eC,dE,cC,bW,List.getD_cons_zero,List.getD_cons_succ,decide_eq_true_eq,decide_eq_false_iff_not,Bool.and_eq_true,Bool.or_eq_true,Bool.not_eq_true',Bool.not_eq_false',Bool.and_eq_false_iff,Bool.or_eq_false_iff,Bool.not_not,cT,cS,cR,cQ,gF,cH,bZ] at o
    have val:∀ k:Nat,aAO.a (E i1 i2 i3 d g f) k=if 6144≤k∧(k:Int)<6144+2*(i3+1) then aDv N k else if k<3*min u.n 2048 then iF C k else if k<8192 then kT b k else 0:=fun k=>by
     have hk:=hV k
     simp only [mm0,mm1,mm2,mm3,mm4,mm5,mm6,mm7,mm8,mm9,aEu,aEv,aAL,aAM,aEw,aEx,aEy,aEz,aEA,aEB,aEC,aED,aEE,aAN,aEF,aEG,aEH,aEI,aDD,aEJ,aDE,aEK,aEL,aEM,aEN,aAO,i_v,iB,aC,aN,aR,cY,bH,cD,bB,bX,bT,aQ,cV,gI,fW,eU,cX,cN,eW,eC,dE,cC,bW,List.getD_cons_zero,List.getD_cons_succ,decide_eq_true_eq,decide_eq_false_iff_not,Bool.and_eq_true,Bool.or_eq_true,Bool.not_eq_true',Bool.not_eq_false',Bool.and_eq_false_iff,Bool.or_eq_false_iff,Bool.not_not,cT,cS,cR,cQ,gF,cH,bZ]
     simp only [E,List.getD_cons_zero,List.getD_cons_succ]
     by_cases e2:k=(i3*2+6145).toNat
     ·rw [if_pos e2,if_pos (by omega)]
      unfold aDv
      rw [if_neg (by omega),show (k-6144) / 2=i3.toNat by omega]
     ·rw [if_neg e2]
      by_cases e1:k=(i3*2+6144).toNat
      ·rw [if_pos e1,if_pos (by omega)]
       unfold aDv
       rw [if_pos (by omega),show (k-6144) / 2=i3.toNat by omega]
      ·rw [if_neg e1,hk]
       by_cases e3:6144≤k∧(k:Int)<6144+2*i3
       ·rw [if_pos e3,if_pos (by omega)]
       ·rw [if_neg e3,if_neg (show ¬ (6144≤k∧(k:Int)<6144+2*(i3+1)) by omega)]
    refine ⟨rfl,⟨i1,i2,i3+1,d,g,aAO.a (E i1 i2 i3 d g f),rfl,r,O,by omega,G,K,fun k=>?_,by omega,val⟩,?_⟩
    ·rw [val k];split
     ·exact hnum k
     ·split
      ·exact hcode k
      ·split
       ·exact hfill k
       ·omega
    ·show (2000-(i3+1)).toNat<(2000-i3).toNat
     omega
   ·simp only [E,mm0,mm1,mm2,mm3,mm4,mm5,mm6,mm7,mm8,mm9,aEu,aEv,aAL,aAM,aEw,aEx,aEy,aEz,aEA,aEB,aEC,aED,aEE,aAN,aEF,aEG,aEH,aEI,aDD,aEJ,aDE,aEK,aEL,aEM,aEN,aAO,i_v,iB,aC,aN,aR,cY,bH,cD,bB,bX,bT,aQ,cV,gI,fW,eU,cX,cN,eW,eC,dE,cC,bW,List.getD_cons_zero,List.getD_cons_succ,decide_eq_true_eq,decide_eq_false_iff_not,Bool.and_eq_true,Bool.or_eq_true,Bool.not_eq_true',Bool.not_eq_false',Bool.and_eq_false_iff,Bool.or_eq_false_iff,Bool.not_not,cT,cS,cR,cQ,gF,cH,bZ] at o
    refine ⟨by trivial,i1,i2,i3,d,g,f,rfl,by first | trivial | rfl,fun k hk=>?_⟩
    rw [hV k]
    unfold mAt
    by_cases e3:6144≤k∧(k:Int)<6144+2*i3
    ·rw [if_pos e3,if_pos (by omega)]
    ·rw [if_neg e3,if_neg (show ¬ (6144≤k∧k<6144+2*min M.n 1024) by omega)]
  ·simp [aTx] at hj
theorem bHB {H:Hyp} {ρ:Env} {ι:Sx.Loc} (hH:H.ok ρ):∀ (cs:List S) (i:Nat) (A A':E),aWj H i cs A=some A'→∀ j,A'.a ρ j=if 3*i≤j∧j<3*(i+cs.length) then iF (fun t=>jU ((cs.map (S.aB ρ ι)).getD (t-i) Go.undef)) j else A.a ρ j
 | [],i,A,A',h,j=>by
   simp only [aWj,Option.some.injEq] at h;subst h
   rw [if_neg (by simp only [List.length_nil];omega)]
 | c::l,i,A,A',h,j=>by
   cases c with
   | int k e =>
     cases k with
     | u32 =>
       simp only [aWj] at h
       have ih:=bHB (ι:=ι) hH l (i+1) _ A' h j
       rw [ih]
       simp only [kA,aC,Int.toNat_natCast,tU hH,aDB hH,List.length_cons]
       by_cases r:3*(i+1)≤j∧j<3*(i+1+l.length)
       ·rw [if_pos r,if_pos (by omega)]
        have:∀ t,t=j / 3→(List.map (S.aB ρ ι) l).getD (t-(i+1)) Go.undef=(List.map (S.aB ρ ι) (.int .u32 e::l)).getD (t-i) Go.undef:=fun t ht=>by
         rw [show t-i=(t-(i+1))+1 by omega,List.map_cons,List.getD_cons_succ]
        unfold iF
        simp only [this _ rfl]
       ·rw [if_neg r]
        have hd:∀ t,t=i→jU ((List.map (S.aB ρ ι) (.int .u32 e::l)).getD (t-i) Go.undef)=e.i ρ:=fun t ht=>by
         rw [ht,Nat.sub_self];rfl
        by_cases e2:j=3*i+2
        ·rw [if_pos e2,if_pos (by omega)]
         unfold iF
         rw [if_neg (by omega),if_neg (by omega)]
         simp only [hd (j / 3) (by omega)]
        ·rw [if_neg e2]
         by_cases e1:j=3*i+1
         ·rw [if_pos e1,if_pos (by omega)]
          unfold iF
          rw [if_neg (by omega),if_pos (by omega)]
          simp only [hd (j / 3) (by omega)]
         ·rw [if_neg e1]
          by_cases e0:j=3*i
          ·rw [if_pos e0,if_pos (by omega)]
           unfold iF
           rw [if_pos (by omega)]
           simp only [hd (j / 3) (by omega)]
          ·rw [if_neg e0,if_neg (by omega)]
     | _=>simp [aWj] at h
   | _=>simp [aWj] at h
theorem aZV {I:Interp} {F:FuncId} {ty:TypeId} (hv:bCT Try.prog F ty):aW Try.prog I F (bBB ty):=by
 constructor
 intro H l m nd v om h ρ β ι w hI hH hn hm
 unfold bBB at h
 split at h
 rotate_left
 ·cases h
 rename_i x y
 split at h
 rotate_left
 ·cases h
 rename_i L q L2 hr hr2
 split at h
 rotate_left
 ·cases h
 rename_i hc
 simp only [Bool.and_eq_true,decide_eq_true_eq] at hc
 split at h
 rotate_left
 ·cases h
 rename_i cs hcs
 split at h
 rotate_left
 ·cases h
 rename_i A hA
 simp only [Option.some.injEq,Prod.mk.injEq] at h
 obtain ⟨rfl,rfl,rfl⟩:=h
 obtain ⟨hq0,hlen,X,hX,a0,W,U⟩:=qS (ι:=ι) hH hm hr
 obtain ⟨_,_,Y,hY,a1,Z,_⟩:=qS (ι:=ι) hH hm hr2
 simp only [aC] at hq0 hlen W Z
 have hargs:([.agg [.one x,.one y,.one (.int .u8 (.lit 0))]].map (SV.aB ρ ι)).toArray=#[.agg #[X.v,Y.v,.int .u8 0]] :=
  congrArg List.toArray (gV (aBu a0 a1 rfl) rfl)
 rw [hargs]
 refine (hv X Y 0 w hX hY (by omega)).mono fun e w' ⟨ρ',ι',B',he,hm',t1,t2,t3,t4,hcells⟩=>?_
 have hul:=dZ (ρ:=ρ) (ι:=ι) hcs
 have hXn:X.n=cs.length:=by
  have:=congrArg List.length hul
  rw [List.length_map] at this
  omega
 refine ⟨cI ι m.length (ι'.pos 0) 0 false,cG _ _ _ _ _,?_,?_⟩
 ·rw [he,aV rfl]
  simp only [SV.aB,S.aB,addr,aC,cI,if_true]
  rfl
 ·refine hm.join hm' hc.2 rfl ?_ ⟨t1.symm,t2.symm,rfl,t3,rfl,t4⟩
  rw [hcells]
  simp only [cellsOf,List.flatMap_cons,List.flatMap_nil,List.append_nil,Seg.cells,aC]
  refine List.map_congr_left fun j hj=>?_
  rw [Nat.zero_add,bHB (ι:=ι) hH cs 0 _ _ hA j]
  have hj:=List.mem_range.1 hj
  have hk:min Y.n 1024=0:=by omega
  have hn':min X.n 2048=cs.length:=by omega
  congr 1
  unfold mAt
  rw [hk,hn',if_neg (show ¬ (6144≤j∧j<6144+2*0) by omega)]
  by_cases hlt:j<3*cs.length
  ·rw [if_pos hlt,if_pos (show 3*0≤j∧j<3*(0+cs.length) by omega)]
   have hx:∀ t,t=j / 3→aY X 1 0 t=jU ((cs.map (S.aB ρ ι)).getD (t-0) Go.undef):=fun t ht=>by
    rw [uH U (by omega),hul,List.getD_eq_getElem?_getD,Nat.sub_zero]
   unfold iF
   simp only [hx _ rfl]
  ·rw [if_neg hlt,if_neg (show ¬ (3*0≤j∧j<3*(0+cs.length)) by omega),if_pos (show j<8192 from hj)]
   unfold kT
   simp [cC]
theorem bIX {n:Nat} {C:Nat→Int} {k:Nat} {N:Nat→Int} {b:Int} {j:Nat} (hN:∀ i,0≤N i∧N i≤65535):0≤mAt n C k N b j∧mAt n C k N b j≤255:=by
 have h:=hN ((j-6144) / 2)
 unfold mAt aDv iF kT
 generalize N ((j-6144) / 2)=x at *
 generalize C (j / 3)=y
 generalize ((j:Int)+(j:Int) / 128)%256*b=z
 repeat' split
 all_goals omega
theorem bBy {n:Nat} {C C':Nat→Int} {k:Nat} {N N':Nat→Int} {b:Int} {j:Nat} (hC:∀ i,i<n→C i=C' i) (hN:∀ i,i<k→N i=N' i):mAt n C k N b j=mAt n C' k N' b j:=by
 unfold mAt
 split
 ·unfold aDv
  rw [hN _ (by omega)]
 ·split
  ·unfold iF
   rw [hC _ (by omega)]
  ·rfl
def bIY (ty:TypeId):Go.Sx.Spec:=fun H l m=>match l with
 | [.agg [.one x,.one y,.one (.int .u8 b)]]=>match bJY H .u32 (.s x),bJY H .u16 (.s y) with
   | some p,some q=>if m.all (fun B=>B.aE.all (Seg.sc m.length))&&inB (rng H b) 0 255 then
      some ([],.s (.slc m.length (.lit 0) (.lit 8192) (.kn (.lit 8192))),some (m++[⟨ty,[.run .u8 (.lit 8192) (.app 20 (.cons p.1 (.cons p.2 (.cons q.1 (.cons q.2 (.cons b .nil)))))) 0],true,none,false⟩])) else none
   | _,_=>none
 | _=>none
theorem bIZ {I:Interp} {F:FuncId} {ty:TypeId} (hv:bCT Try.prog F ty) (hfa:I.fa=Ifa):aW Try.prog I F (bIY ty):=by
 constructor
 intro H l m nd v om h ρ β ι w hI hH hn hm
 unfold bIY at h
 split at h
 rotate_left
 ·cases h
 rename_i x y b
 split at h
 rotate_left
 ·cases h
 rename_i p q hp hq
 split at h
 rotate_left
 ·cases h
 rename_i hc
 simp only [Bool.and_eq_true] at hc
 simp only [Option.some.injEq,Prod.mk.injEq] at h
 obtain ⟨rfl,rfl,rfl⟩:=h
 obtain ⟨X,hX,a0,W,U⟩:=bAS hH hm hp
 obtain ⟨Y,hY,a1,Z,hc2⟩:=bAS hH hm hq
 have hb:=aM hH hc.2
 have hargs:([.agg [.one x,.one y,.one (.int .u8 b)]].map (SV.aB ρ ι)).toArray=#[.agg #[X.v,Y.v,.int .u8 (b.i ρ)]] :=
  congrArg List.toArray (gV (aBu a0 a1 rfl) rfl)
 rw [hargs]
 refine (hv X Y (b.i ρ) w hX hY hb).mono fun e w' ⟨ρ',ι',B',he,hm',t1,t2,t3,t4,hcells⟩=>?_
 refine ⟨cI ι m.length (ι'.pos 0) 0 false,cG _ _ _ _ _,?_,?_⟩
 ·rw [he,aV rfl]
  simp only [SV.aB,S.aB,addr,aC,cI,if_true]
  rfl
 ·refine hm.join hm' hc.1 rfl ?_ ⟨t1.symm,t2.symm,rfl,t3,rfl,t4⟩
  rw [hcells]
  simp only [cellsOf,List.flatMap_cons,List.flatMap_nil,List.append_nil,Seg.cells,aC]
  refine List.map_congr_left fun j hj=>?_
  have hr:∀ i,0≤aY Y 1 0 i∧aY Y 1 0 i≤65535:=by
   have h:=gA hY
   simpa [inR,dK,iP,bS] using h
  have hden:E.a ρ (.app 20 (.cons p.1 (.cons p.2 (.cons q.1 (.cons q.2 (.cons b .nil)))))) (0+j)=mAt (min (p.1.i ρ).toNat 2048) (p.2.a ρ) (min (q.1.i ρ).toNat 1024) (q.2.a ρ) (b.i ρ) j%256:=by
   rw [aBB,iL,iL,iL,iL,iL,qF,kZ,kZ,kZ,kZ,kZ,aUB,kY,kY,kY,kY,kY,aUz,hI,hfa,Nat.zero_add]
   rfl
  rw [hden,← W,← Z]
  rw [show mAt (min ((X.n:Int)).toNat 2048) (p.2.a ρ) (min ((Y.n:Int)).toNat 1024) (q.2.a ρ) (b.i ρ) j=mAt (min X.n 2048) (aY X 1 0) (min Y.n 1024) (aY Y 1 0) (b.i ρ) j from (bBy (fun i hi=>U i (by omega)) (fun i hi=>hc2 i (by omega))).symm]
  have:=bIX (n:=min X.n 2048) (C:=aY X 1 0) (k:=min Y.n 1024) (N:=aY Y 1 0) (b:=b.i ρ) (j:=j) hr
  rw [Int.emod_eq_of_lt this.1 (by omega)]
theorem dR {m k:Int} (hm:0<m) (hk:k=m-1) (x:Int):inR (0,k) (x%m):=⟨Int.emod_nonneg _ (by omega),by have:=Int.emod_lt_of_pos x hm;omega⟩
theorem fi3_rng (xs:Nat→Nat→Ext):∀ p ∈ [((10:Nat),((0:Int),(4294967295:Int))),(40,(0,65535)),(41,(0,63))],∀ is bs ys,inR p.2 ((Iv xs).fi p.1 is bs ys):=by
 intro p hp is bs ys
 simp only [List.mem_cons,List.not_mem_nil,or_false] at hp
 rcases hp with rfl | rfl | rfl
 ·exact yA _ _
 ·exact dR (m:=65536) (by decide) (by decide) _
 ·exact dR (m:=64) (by decide) (by decide) _
theorem fa2_rng (xs:Nat→Nat→Ext):∀ p ∈ [((20:Nat),((0:Int),(255:Int))),(50,(0,255))],∀ is bs ys j,inR p.2 ((Iv xs).fa p.1 is bs ys j):=by
 intro p hp is bs ys j
 simp only [List.mem_cons,List.not_mem_nil,or_false] at hp
 rcases hp with rfl | rfl
 ·exact dR (m:=256) (by decide) (by decide) _
 ·exact aTQ _ j
end Go.Proofs.Ytcckecfjjccffaa
