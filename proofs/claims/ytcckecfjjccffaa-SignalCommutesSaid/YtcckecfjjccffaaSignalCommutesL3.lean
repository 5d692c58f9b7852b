/- A part of the law SignalCommutes, which returns true for every input. A step that touches nothing shared is the same whether the main side takes or gives a byte ahead of it or behind it. No condition. -/
import Derived.Test.YtcckecfjjccffaaSignalCommutesB
namespace Go.Proofs.Ytcckecfjjccffaa.SignalCommutes
open Go.Sx Go.ChangeShapes Go.WideShapes Go.ChangeAt Go.RowKit
set_option linter.unusedVariables false
set_option linter.unusedSimpArgs false
set_option maxRecDepth 100000
set_option maxHeartbeats 40000000
variable {x0:Ext} {x1:Ext} {x2:Ext} {n o q r a b c d f g h i j k l m s t u v y:Int} {A B C P Q L M:Nat→Int}
noncomputable def vT:Hyp:={ eh0.H with e:=[((.v 4),(0,9223372036854775806)),(e4,(2,2)),(fH,(189,189)),(fO,(2,9223372036854775807))]++eh0.H.e,b:=[(e7,true)]++eh0.H.b }
noncomputable def xD:LT:=(.jump 0 eT0 ⟨[(20,(.v 20)),(12,(.v 12)),(11,(.v 11)),(10,bX),(9,dQ),(18,(.v 18)),(17,(.v 17)),(13,(.v 13)),(16,(.v 16)),(8,(.v 8)),(7,(.v 7)),(15,(.v 15)),(14,(.v 14)),(6,(.v 6)),(5,(.v 5)),(19,dE),(4,bB)],[],[(6,gT),(5,bF)]⟩)
theorem aVo:(cE Try.prog G Gh eD ehs [] 3000 0 5 { eh0 with H:=vT }).map LT.bare=some xD:=by kernel_rfl
theorem aVX {ρ:Env} (hV:ρ=(eV x0 x1 x2 n o q r a b c d f g h i j k l m s t u v y A B C P Q L M)) (hB:aO x0 x1 x2 n o q r A B C P Q) (hJ:eJ0 n o q r a b c d f g h i j k l m s t u v y A B C P Q L M) (hH:Hyp.ok vT ρ) (hF0:0≤a∧a≤9223372036854775806) (hG0:a<r) :
 eW x0 x1 x2 ρ xD:=by
 simp only [eW,xD,LT.holds,aQ]
 have hB3:=hB
 have hJ3:=hJ
 simp only [aO] at hB3
 simp only [eJ0] at hJ3
 obtain ⟨b0,b1,b2,b3,c0,c1,c2,c3,c4,_⟩:=hB3
 obtain ⟨l4,l5,l6,l7,l8,l9,l10,l11,l12,l13,l14,l15,l16,l17,l18,l19,l20,m5,m6,hk,_⟩:=hJ3
 refine ⟨dU,⟨n,o,q,r,(E.i ρ bB),b,c,d,f,(E.i ρ dQ),(E.i ρ bX),i,j,k,l,m,s,t,u,(E.i ρ dE),y,A,B,C,P,Q,(E.a ρ bF),(E.a ρ gT),?_,hB,?_⟩,?_⟩ <;> subst hV
 ·kernel_rfl
 ·exact ⟨(show 0≤a+1∧a+1≤9223372036854775807 by omega),l5,l6,l7,l8,(aB hH (by kernel_rfl)),(aB hH (by kernel_rfl)),l11,l12,l13,l14,l15,l16,l17,l18,(aB hH (by kernel_rfl)),l20,(aM hH (by kernel_rfl)),(aM hH (by kernel_rfl)),(show a+1≤r by omega),trivial⟩
 exact Nat.lt_of_le_of_lt (Nat.le_of_eq (m:=(r-(a+1)).toNat) (by kernel_rfl)) (Nat.lt_of_lt_of_eq (show (r-(a+1)).toNat<(r-a).toNat by omega) (by kernel_rfl))
noncomputable def vU:Hyp:={ eh0.H with e:=[((.v 4),(0,9223372036854775806)),(e4,(2,2)),(fH,(191,511)),(fO,(1,1))]++eh0.H.e,b:=[(e7,true)]++eh0.H.b }
noncomputable def xE:LT:=(.jump 0 eT0 ⟨[(20,aXD),(12,(.v 12)),(11,(.v 11)),(10,bX),(9,(.v 9)),(18,(.v 18)),(17,(.v 17)),(13,(.v 13)),(16,(.v 16)),(8,(.v 8)),(7,(.v 7)),(15,(.v 15)),(14,(.v 14)),(6,(.v 6)),(5,(.v 5)),(19,aXE),(4,bB)],[],[(6,gT),(5,aXF)]⟩)
theorem aVp:(cE Try.prog G Gh eD ehs [] 3000 0 5 { eh0 with H:=vU }).map LT.bare=some xE:=by kernel_rfl
theorem aVY {ρ:Env} (hV:ρ=(eV x0 x1 x2 n o q r a b c d f g h i j k l m s t u v y A B C P Q L M)) (hB:aO x0 x1 x2 n o q r A B C P Q) (hJ:eJ0 n o q r a b c d f g h i j k l m s t u v y A B C P Q L M) (hH:Hyp.ok vU ρ) (hF0:0≤a∧a≤9223372036854775806) (hG0:a<r) :
 eW x0 x1 x2 ρ xE:=by
 simp only [eW,xE,LT.holds,aQ]
 have hB3:=hB
 have hJ3:=hJ
 simp only [aO] at hB3
 simp only [eJ0] at hJ3
 obtain ⟨b0,b1,b2,b3,c0,c1,c2,c3,c4,_⟩:=hB3
 obtain ⟨l4,l5,l6,l7,l8,l9,l10,l11,l12,l13,l14,l15,l16,l17,l18,l19,l20,m5,m6,hk,_⟩:=hJ3
 refine ⟨dU,⟨n,o,q,r,(E.i ρ bB),b,c,d,f,g,(E.i ρ bX),i,j,k,l,m,s,t,u,(E.i ρ aXE),(E.i ρ aXD),A,B,C,P,Q,(E.a ρ aXF),(E.a ρ gT),?_,hB,?_⟩,?_⟩ <;> subst hV
 ·kernel_rfl
 ·exact ⟨(show 0≤a+1∧a+1≤9223372036854775807 by omega),l5,l6,l7,l8,l9,(aB hH (by kernel_rfl)),l11,l12,l13,l14,l15,l16,l17,l18,(aB hH (by kernel_rfl)),(aB hH (by kernel_rfl)),(aM hH (by kernel_rfl)),(aM hH (by kernel_rfl)),(show a+1≤r by omega),trivial⟩
 exact Nat.lt_of_le_of_lt (Nat.le_of_eq (m:=(r-(a+1)).toNat) (by kernel_rfl)) (Nat.lt_of_lt_of_eq (show (r-(a+1)).toNat<(r-a).toNat by omega) (by kernel_rfl))
noncomputable def vV:Hyp:={ eh0.H with e:=[((.v 4),(0,9223372036854775806)),(e4,(2,2)),(fH,(191,511)),(fO,((-9223372036854775808),0))]++eh0.H.e,b:=[(e7,true)]++eh0.H.b }
noncomputable def xF:LT:=(.jump 0 eT0 ⟨[(20,aXD),(12,(.v 12)),(11,(.v 11)),(10,bX),(9,dQ),(18,(.v 18)),(17,(.v 17)),(13,(.v 13)),(16,(.v 16)),(8,(.v 8)),(7,(.v 7)),(15,(.v 15)),(14,(.v 14)),(6,(.v 6)),(5,(.v 5)),(19,aXE),(4,bB)],[],[(6,gT),(5,aXF)]⟩)
theorem aVq:(cE Try.prog G Gh eD ehs [] 3000 0 5 { eh0 with H:=vV }).map LT.bare=some xF:=by kernel_rfl
theorem aVZ {ρ:Env} (hV:ρ=(eV x0 x1 x2 n o q r a b c d f g h i j k l m s t u v y A B C P Q L M)) (hB:aO x0 x1 x2 n o q r A B C P Q) (hJ:eJ0 n o q r a b c d f g h i j k l m s t u v y A B C P Q L M) (hH:Hyp.ok vV ρ) (hF0:0≤a∧a≤9223372036854775806) (hG0:a<r) :
 eW x0 x1 x2 ρ xF:=by
 simp only [eW,xF,LT.holds,aQ]
 have hB3:=hB
 have hJ3:=hJ
 simp only [aO] at hB3
 simp only [eJ0] at hJ3
 obtain ⟨b0,b1,b2,b3,c0,c1,c2,c3,c4,_⟩:=hB3
 obtain ⟨l4,l5,l6,l7,l8,l9,l10,l11,l12,l13,l14,l15,l16,l17,l18,l19,l20,m5,m6,hk,_⟩:=hJ3
 refine ⟨dU,⟨n,o,q,r,(E.i ρ bB),b,c,d,f,(E.i ρ dQ),(E.i ρ bX),i,j,k,l,m,s,t,u,(E.i ρ aXE),(E.i ρ aXD),A,B,C,P,Q,(E.a ρ aXF),(E.a ρ gT),?_,hB,?_⟩,?_⟩ <;> subst hV
 ·kernel_rfl
 ·exact ⟨(show 0≤a+1∧a+1≤9223372036854775807 by omega),l5,l6,l7,l8,(aB hH (by kernel_rfl)),(aB hH (by kernel_rfl)),l11,l12,l13,l14,l15,l16,l17,l18,(aB hH (by kernel_rfl)),(aB hH (by kernel_rfl)),(aM hH (by kernel_rfl)),(aM hH (by kernel_rfl)),(show a+1≤r by omega),trivial⟩
 exact Nat.lt_of_le_of_lt (Nat.le_of_eq (m:=(r-(a+1)).toNat) (by kernel_rfl)) (Nat.lt_of_lt_of_eq (show (r-(a+1)).toNat<(r-a).toNat by omega) (by kernel_rfl))
noncomputable def vW:Hyp:={ eh0.H with e:=[((.v 4),(0,9223372036854775806)),(e4,(2,2)),(fH,(191,511)),(fO,(2,9223372036854775807))]++eh0.H.e,b:=[(e7,true)]++eh0.H.b }
noncomputable def xG:LT:=(.jump 0 eT0 ⟨[(20,aXD),(12,(.v 12)),(11,(.v 11)),(10,bX),(9,dQ),(18,(.v 18)),(17,(.v 17)),(13,(.v 13)),(16,(.v 16)),(8,(.v 8)),(7,(.v 7)),(15,(.v 15)),(14,(.v 14)),(6,(.v 6)),(5,(.v 5)),(19,aXE),(4,bB)],[],[(6,gT),(5,aXF)]⟩)
theorem aVr:(cE Try.prog G Gh eD ehs [] 3000 0 5 { eh0 with H:=vW }).map LT.bare=some xG:=by kernel_rfl
theorem aWa {ρ:Env} (hV:ρ=(eV x0 x1 x2 n o q r a b c d f g h i j k l m s t u v y A B C P Q L M)) (hB:aO x0 x1 x2 n o q r A B C P Q) (hJ:eJ0 n o q r a b c d f g h i j k l m s t u v y A B C P Q L M) (hH:Hyp.ok vW ρ) (hF0:0≤a∧a≤9223372036854775806) (hG0:a<r) :
 eW x0 x1 x2 ρ xG:=by
 simp only [eW,xG,LT.holds,aQ]
 have hB3:=hB
 have hJ3:=hJ
 simp only [aO] at hB3
 simp only [eJ0] at hJ3
 obtain ⟨b0,b1,b2,b3,c0,c1,c2,c3,c4,_⟩:=hB3
 obtain ⟨l4,l5,l6,l7,l8,l9,l10,l11,l12,l13,l14,l15,l16,l17,l18,l19,l20,m5,m6,hk,_⟩:=hJ3
 refine ⟨dU,⟨n,o,q,r,(E.i ρ bB),b,c,d,f,(E.i ρ dQ),(E.i ρ bX),i,j,k,l,m,s,t,u,(E.i ρ aXE),(E.i ρ aXD),A,B,C,P,Q,(E.a ρ aXF),(E.a ρ gT),?_,hB,?_⟩,?_⟩ <;> subst hV
 ·kernel_rfl
 ·exact ⟨(show 0≤a+1∧a+1≤9223372036854775807 by omega),l5,l6,l7,l8,(aB hH (by kernel_rfl)),(aB hH (by kernel_rfl)),l11,l12,l13,l14,l15,l16,l17,l18,(aB hH (by kernel_rfl)),(aB hH (by kernel_rfl)),(aM hH (by kernel_rfl)),(aM hH (by kernel_rfl)),(show a+1≤r by omega),trivial⟩
 exact Nat.lt_of_le_of_lt (Nat.le_of_eq (m:=(r-(a+1)).toNat) (by kernel_rfl)) (Nat.lt_of_lt_of_eq (show (r-(a+1)).toNat<(r-a).toNat by omega) (by kernel_rfl))
noncomputable def aBp:Hyp:={ eh0.H with e:=[((.v 4),(0,9223372036854775806)),(e4,(3,3)),(e6,(6,6))]++eh0.H.e,b:=[(e7,true)]++eh0.H.b }
noncomputable def aBF:LT:=(.jump 0 eT0 ⟨[(20,(.v 20)),(12,(.v 12)),(11,(.v 11)),(10,e79),(9,aCH),(18,e88),(17,e90),(13,(.v 13)),(16,(.v 16)),(8,(.v 8)),(7,(.v 7)),(15,(.v 15)),(14,(.v 14)),(6,(.v 6)),(5,(.v 5)),(19,dE),(4,bB)],[],[(6,gT),(5,bF)]⟩)
theorem aYj:(cE Try.prog G Gh eD ehs [] 3000 0 5 { eh0 with H:=aBp }).map LT.bare=some aBF:=by kernel_rfl
theorem aYz {ρ:Env} (hV:ρ=(eV x0 x1 x2 n o q r a b c d f g h i j k l m s t u v y A B C P Q L M)) (hB:aO x0 x1 x2 n o q r A B C P Q) (hJ:eJ0 n o q r a b c d f g h i j k l m s t u v y A B C P Q L M) (hH:Hyp.ok aBp ρ) (hF0:0≤a∧a≤9223372036854775806) (hG0:a<r) :
 eW x0 x1 x2 ρ aBF:=by
 simp only [eW,aBF,LT.holds,aQ]
 have hB3:=hB
 have hJ3:=hJ
 simp only [aO] at hB3
 simp only [eJ0] at hJ3
 obtain ⟨b0,b1,b2,b3,c0,c1,c2,c3,c4,_⟩:=hB3
 obtain ⟨l4,l5,l6,l7,l8,l9,l10,l11,l12,l13,l14,l15,l16,l17,l18,l19,l20,m5,m6,hk,_⟩:=hJ3
 refine ⟨dU,⟨n,o,q,r,(E.i ρ bB),b,c,d,f,(E.i ρ aCH),(E.i ρ e79),i,j,k,l,m,s,(E.i ρ e90),(E.i ρ e88),(E.i ρ dE),y,A,B,C,P,Q,(E.a ρ bF),(E.a ρ gT),?_,hB,?_⟩,?_⟩ <;> subst hV
 ·kernel_rfl
 ·exact ⟨(show 0≤a+1∧a+1≤9223372036854775807 by omega),l5,l6,l7,l8,(aB hH (by kernel_rfl)),(aB hH (by kernel_rfl)),l11,l12,l13,l14,l15,l16,(aB hH (by kernel_rfl)),(aB hH (by kernel_rfl)),(aB hH (by kernel_rfl)),l20,(aM hH (by kernel_rfl)),(aM hH (by kernel_rfl)),(show a+1≤r by omega),trivial⟩
 exact Nat.lt_of_le_of_lt (Nat.le_of_eq (m:=(r-(a+1)).toNat) (by kernel_rfl)) (Nat.lt_of_lt_of_eq (show (r-(a+1)).toNat<(r-a).toNat by omega) (by kernel_rfl))
noncomputable def aBq:Hyp:={ eh0.H with e:=[((.v 4),(0,9223372036854775806)),(e4,(3,3)),(e6,(7,7))]++eh0.H.e,b:=[(e7,true)]++eh0.H.b }
noncomputable def aBG:LT:=(.jump 0 eT0 ⟨[(20,(.v 20)),(12,(.v 12)),(11,(.v 11)),(10,bRC),(9,(.v 9)),(18,e88),(17,e90),(13,(.v 13)),(16,(.v 16)),(8,(.v 8)),(7,(.v 7)),(15,(.v 15)),(14,(.v 14)),(6,(.v 6)),(5,(.v 5)),(19,dE),(4,bB)],[],[(6,gT),(5,bF)]⟩)
theorem aYk:(cE Try.prog G Gh eD ehs [] 3000 0 5 { eh0 with H:=aBq }).map LT.bare=some aBG:=by kernel_rfl
theorem aYA {ρ:Env} (hV:ρ=(eV x0 x1 x2 n o q r a b c d f g h i j k l m s t u v y A B C P Q L M)) (hB:aO x0 x1 x2 n o q r A B C P Q) (hJ:eJ0 n o q r a b c d f g h i j k l m s t u v y A B C P Q L M) (hH:Hyp.ok aBq ρ) (hF0:0≤a∧a≤9223372036854775806) (hG0:a<r) :
 eW x0 x1 x2 ρ aBG:=by
 simp only [eW,aBG,LT.holds,aQ]
 have hB3:=hB
 have hJ3:=hJ
 simp only [aO] at hB3
 simp only [eJ0] at hJ3
 obtain ⟨b0,b1,b2,b3,c0,c1,c2,c3,c4,_⟩:=hB3
 obtain ⟨l4,l5,l6,l7,l8,l9,l10,l11,l12,l13,l14,l15,l16,l17,l18,l19,l20,m5,m6,hk,_⟩:=hJ3
 refine ⟨dU,⟨n,o,q,r,(E.i ρ bB),b,c,d,f,g,(E.i ρ bRC),i,j,k,l,m,s,(E.i ρ e90),(E.i ρ e88),(E.i ρ dE),y,A,B,C,P,Q,(E.a ρ bF),(E.a ρ gT),?_,hB,?_⟩,?_⟩ <;> subst hV
 ·kernel_rfl
 ·exact ⟨(show 0≤a+1∧a+1≤9223372036854775807 by omega),l5,l6,l7,l8,l9,(aB hH (by kernel_rfl)),l11,l12,l13,l14,l15,l16,(aB hH (by kernel_rfl)),(aB hH (by kernel_rfl)),(aB hH (by kernel_rfl)),l20,(aM hH (by kernel_rfl)),(aM hH (by kernel_rfl)),(show a+1≤r by omega),trivial⟩
 exact Nat.lt_of_le_of_lt (Nat.le_of_eq (m:=(r-(a+1)).toNat) (by kernel_rfl)) (Nat.lt_of_lt_of_eq (show (r-(a+1)).toNat<(r-a).toNat by omega) (by kernel_rfl))
noncomputable def aBj:Hyp:={ eh0.H with e:=[((.v 4),(0,9223372036854775806)),(e4,(3,3)),(e6,(0,5)),(fO,(1,1))]++eh0.H.e,b:=[(e7,true)]++eh0.H.b }
noncomputable def aBz:LT:=(.jump 0 eT0 ⟨[(20,(.v 20)),(12,(.v 12)),(11,(.v 11)),(10,bX),(9,(.v 9)),(18,e88),(17,e90),(13,(.v 13)),(16,(.v 16)),(8,aXG),(7,aXH),(15,(.v 15)),(14,aXI),(6,aXJ),(5,aXK),(19,dE),(4,bB)],[],[(6,aXL),(5,bF)]⟩)
theorem aYd:(cE Try.prog G Gh eD ehs [] 3000 0 5 { eh0 with H:=aBj }).map LT.bare=some aBz:=by kernel_rfl
theorem aYt {ρ:Env} (hV:ρ=(eV x0 x1 x2 n o q r a b c d f g h i j k l m s t u v y A B C P Q L M)) (hB:aO x0 x1 x2 n o q r A B C P Q) (hJ:eJ0 n o q r a b c d f g h i j k l m s t u v y A B C P Q L M) (hH:Hyp.ok aBj ρ) (hF0:0≤a∧a≤9223372036854775806) (hG0:a<r) :
 eW x0 x1 x2 ρ aBz:=by
 simp only [eW,aBz,LT.holds,aQ]
 have hB3:=hB
 have hJ3:=hJ
 simp only [aO] at hB3
 simp only [eJ0] at hJ3
 obtain ⟨b0,b1,b2,b3,c0,c1,c2,c3,c4,_⟩:=hB3
 obtain ⟨l4,l5,l6,l7,l8,l9,l10,l11,l12,l13,l14,l15,l16,l17,l18,l19,l20,m5,m6,hk,_⟩:=hJ3
 refine ⟨dU,⟨n,o,q,r,(E.i ρ bB),(E.i ρ aXK),(E.i ρ aXJ),(E.i ρ aXH),(E.i ρ aXG),g,(E.i ρ bX),i,j,k,(E.i ρ aXI),m,s,(E.i ρ e90),(E.i ρ e88),(E.i ρ dE),y,A,B,C,P,Q,(E.a ρ bF),(E.a ρ aXL),?_,hB,?_⟩,?_⟩ <;> subst hV
 ·kernel_rfl
 ·exact ⟨(show 0≤a+1∧a+1≤9223372036854775807 by omega),(aB hH (by kernel_rfl)),(aB hH (by kernel_rfl)),(eI l7 (eI (aB hH (by kernel_rfl)) l7)),(aB hH (by kernel_rfl)),l9,(aB hH (by kernel_rfl)),l11,l12,l13,(aB hH (by kernel_rfl)),l15,l16,(aB hH (by kernel_rfl)),(aB hH (by kernel_rfl)),(aB hH (by kernel_rfl)),l20,(aM hH (by kernel_rfl)),(aM hH (by kernel_rfl)),(show a+1≤r by omega),trivial⟩
 exact Nat.lt_of_le_of_lt (Nat.le_of_eq (m:=(r-(a+1)).toNat) (by kernel_rfl)) (Nat.lt_of_lt_of_eq (show (r-(a+1)).toNat<(r-a).toNat by omega) (by kernel_rfl))
noncomputable def aBk:Hyp:={ eh0.H with e:=[((.v 4),(0,9223372036854775806)),(e4,(3,3)),(e6,(0,5)),(fO,((-9223372036854775808),0))]++eh0.H.e,b:=[(e7,true)]++eh0.H.b }
noncomputable def aBA:LT:=(.jump 0 eT0 ⟨[(20,(.v 20)),(12,(.v 12)),(11,(.v 11)),(10,bX),(9,dQ),(18,e88),(17,e90),(13,(.v 13)),(16,(.v 16)),(8,aXG),(7,aXH),(15,(.v 15)),(14,aXI),(6,aXJ),(5,aXK),(19,dE),(4,bB)],[],[(6,aXL),(5,bF)]⟩)
theorem aYe:(cE Try.prog G Gh eD ehs [] 3000 0 5 { eh0 with H:=aBk }).map LT.bare=some aBA:=by kernel_rfl
theorem aYu {ρ:Env} (hV:ρ=(eV x0 x1 x2 n o q r a b c d f g h i j k l m s t u v y A B C P Q L M)) (hB:aO x0 x1 x2 n o q r A B C P Q) (hJ:eJ0 n o q r a b c d f g h i j k l m s t u v y A B C P Q L M) (hH:Hyp.ok aBk ρ) (hF0:0≤a∧a≤9223372036854775806) (hG0:a<r) :
 eW x0 x1 x2 ρ aBA:=by
 simp only [eW,aBA,LT.holds,aQ]
 have hB3:=hB
 have hJ3:=hJ
 simp only [aO] at hB3
 simp only [eJ0] at hJ3
 obtain ⟨b0,b1,b2,b3,c0,c1,c2,c3,c4,_⟩:=hB3
 obtain ⟨l4,l5,l6,l7,l8,l9,l10,l11,l12,l13,l14,l15,l16,l17,l18,l19,l20,m5,m6,hk,_⟩:=hJ3
 refine ⟨dU,⟨n,o,q,r,(E.i ρ bB),(E.i ρ aXK),(E.i ρ aXJ),(E.i ρ aXH),(E.i ρ aXG),(E.i ρ dQ),(E.i ρ bX),i,j,k,(E.i ρ aXI),m,s,(E.i ρ e90),(E.i ρ e88),(E.i ρ dE),y,A,B,C,P,Q,(E.a ρ bF),(E.a ρ aXL),?_,hB,?_⟩,?_⟩ <;> subst hV
 ·kernel_rfl
 ·exact ⟨(show 0≤a+1∧a+1≤9223372036854775807 by omega),(aB hH (by kernel_rfl)),(aB hH (by kernel_rfl)),(eI l7 (eI (aB hH (by kernel_rfl)) l7)),(aB hH (by kernel_rfl)),(aB hH (by kernel_rfl)),(aB hH (by kernel_rfl)),l11,l12,l13,(aB hH (by kernel_rfl)),l15,l16,(aB hH (by kernel_rfl)),(aB hH (by kernel_rfl)),(aB hH (by kernel_rfl)),l20,(aM hH (by kernel_rfl)),(aM hH (by kernel_rfl)),(show a+1≤r by omega),trivial⟩
 exact Nat.lt_of_le_of_lt (Nat.le_of_eq (m:=(r-(a+1)).toNat) (by kernel_rfl)) (Nat.lt_of_lt_of_eq (show (r-(a+1)).toNat<(r-a).toNat by omega) (by kernel_rfl))
noncomputable def aBl:Hyp:={ eh0.H with e:=[((.v 4),(0,9223372036854775806)),(e4,(3,3)),(e6,(0,5)),(fO,(2,9223372036854775807))]++eh0.H.e,b:=[(e7,true)]++eh0.H.b }
noncomputable def aBB:LT:=(.jump 0 eT0 ⟨[(20,(.v 20)),(12,(.v 12)),(11,(.v 11)),(10,bX),(9,dQ),(18,e88),(17,e90),(13,(.v 13)),(16,(.v 16)),(8,aXG),(7,aXH),(15,(.v 15)),(14,aXI),(6,aXJ),(5,aXK),(19,dE),(4,bB)],[],[(6,aXL),(5,bF)]⟩)
theorem aYf:(cE Try.prog G Gh eD ehs [] 3000 0 5 { eh0 with H:=aBl }).map LT.bare=some aBB:=by kernel_rfl
theorem aYv {ρ:Env} (hV:ρ=(eV x0 x1 x2 n o q r a b c d f g h i j k l m s t u v y A B C P Q L M)) (hB:aO x0 x1 x2 n o q r A B C P Q) (hJ:eJ0 n o q r a b c d f g h i j k l m s t u v y A B C P Q L M) (hH:Hyp.ok aBl ρ) (hF0:0≤a∧a≤9223372036854775806) (hG0:a<r) :
 eW x0 x1 x2 ρ aBB:=by
 simp only [eW,aBB,LT.holds,aQ]
 have hB3:=hB
 have hJ3:=hJ
 simp only [aO] at hB3
 simp only [eJ0] at hJ3
 obtain ⟨b0,b1,b2,b3,c0,c1,c2,c3,c4,_⟩:=hB3
 obtain ⟨l4,l5,l6,l7,l8,l9,l10,l11,l12,l13,l14,l15,l16,l17,l18,l19,l20,m5,m6,hk,_⟩:=hJ3
 refine ⟨dU,⟨n,o,q,r,(E.i ρ bB),(E.i ρ aXK),(E.i ρ aXJ),(E.i ρ aXH),(E.i ρ aXG),(E.i ρ dQ),(E.i ρ bX),i,j,k,(E.i ρ aXI),m,s,(E.i ρ e90),(E.i ρ e88),(E.i ρ dE),y,A,B,C,P,Q,(E.a ρ bF),(E.a ρ aXL),?_,hB,?_⟩,?_⟩ <;> subst hV
 ·kernel_rfl
 ·exact ⟨(show 0≤a+1∧a+1≤9223372036854775807 by omega),(aB hH (by kernel_rfl)),(aB hH (by kernel_rfl)),(eI l7 (eI (aB hH (by kernel_rfl)) l7)),(aB hH (by kernel_rfl)),(aB hH (by kernel_rfl)),(aB hH (by kernel_rfl)),l11,l12,l13,(aB hH (by kernel_rfl)),l15,l16,(aB hH (by kernel_rfl)),(aB hH (by kernel_rfl)),(aB hH (by kernel_rfl)),l20,(aM hH (by kernel_rfl)),(aM hH (by kernel_rfl)),(show a+1≤r by omega),trivial⟩
 exact Nat.lt_of_le_of_lt (Nat.le_of_eq (m:=(r-(a+1)).toNat) (by kernel_rfl)) (Nat.lt_of_lt_of_eq (show (r-(a+1)).toNat<(r-a).toNat by omega) (by kernel_rfl))
noncomputable def aBm:Hyp:={ eh0.H with e:=[((.v 4),(0,9223372036854775806)),(e4,(3,3)),(e6,(8,15)),(fO,(1,1))]++eh0.H.e,b:=[(e7,true)]++eh0.H.b }
noncomputable def aBC:LT:=(.jump 0 eT0 ⟨[(20,(.v 20)),(12,(.v 12)),(11,(.v 11)),(10,bX),(9,(.v 9)),(18,aXM),(17,aXN),(13,aXO),(16,aXP),(8,(.v 8)),(7,(.v 7)),(15,aXQ),(14,(.v 14)),(6,(.v 6)),(5,(.v 5)),(19,dE),(4,bB)],[],[(6,aXR),(5,bF)]⟩)
theorem aYg:(cE Try.prog G Gh eD ehs [] 3000 0 5 { eh0 with H:=aBm }).map LT.bare=some aBC:=by kernel_rfl
theorem aYw {ρ:Env} (hV:ρ=(eV x0 x1 x2 n o q r a b c d f g h i j k l m s t u v y A B C P Q L M)) (hB:aO x0 x1 x2 n o q r A B C P Q) (hJ:eJ0 n o q r a b c d f g h i j k l m s t u v y A B C P Q L M) (hH:Hyp.ok aBm ρ) (hF0:0≤a∧a≤9223372036854775806) (hG0:a<r) :
 eW x0 x1 x2 ρ aBC:=by
 simp only [eW,aBC,LT.holds,aQ]
 have hB3:=hB
 have hJ3:=hJ
 simp only [aO] at hB3
 simp only [eJ0] at hJ3
 obtain ⟨b0,b1,b2,b3,c0,c1,c2,c3,c4,_⟩:=hB3
 obtain ⟨l4,l5,l6,l7,l8,l9,l10,l11,l12,l13,l14,l15,l16,l17,l18,l19,l20,m5,m6,hk,_⟩:=hJ3
 refine ⟨dU,⟨n,o,q,r,(E.i ρ bB),b,c,d,f,g,(E.i ρ bX),i,j,(E.i ρ aXO),l,(E.i ρ aXQ),(E.i ρ aXP),(E.i ρ aXN),(E.i ρ aXM),(E.i ρ dE),y,A,B,C,P,Q,(E.a ρ bF),(E.a ρ aXR),?_,hB,?_⟩,?_⟩ <;> subst hV
 ·kernel_rfl
 ·exact ⟨(show 0≤a+1∧a+1≤9223372036854775807 by omega),l5,l6,l7,l8,l9,(aB hH (by kernel_rfl)),l11,l12,(aB hH (by kernel_rfl)),l14,(aB hH (by kernel_rfl)),(aB hH (by kernel_rfl)),(aB hH (by kernel_rfl)),(aB hH (by kernel_rfl)),(aB hH (by kernel_rfl)),l20,(aM hH (by kernel_rfl)),(aM hH (by kernel_rfl)),(show a+1≤r by omega),trivial⟩
 exact Nat.lt_of_le_of_lt (Nat.le_of_eq (m:=(r-(a+1)).toNat) (by kernel_rfl)) (Nat.lt_of_lt_of_eq (show (r-(a+1)).toNat<(r-a).toNat by omega) (by kernel_rfl))
noncomputable def aBn:Hyp:={ eh0.H with e:=[((.v 4),(0,9223372036854775806)),(e4,(3,3)),(e6,(8,15)),(fO,((-9223372036854775808),0))]++eh0.H.e,b:=[(e7,true)]++eh0.H.b }
noncomputable def aBD:LT:=(.jump 0 eT0 ⟨[(20,(.v 20)),(12,(.v 12)),(11,(.v 11)),(10,bX),(9,dQ),(18,aXM),(17,aXN),(13,aXO),(16,aXP),(8,(.v 8)),(7,(.v 7)),(15,aXQ),(14,(.v 14)),(6,(.v 6)),(5,(.v 5)),(19,dE),(4,bB)],[],[(6,aXR),(5,bF)]⟩)
theorem aYh:(cE Try.prog G Gh eD ehs [] 3000 0 5 { eh0 with H:=aBn }).map LT.bare=some aBD:=by kernel_rfl
theorem aYx {ρ:Env} (hV:ρ=(eV x0 x1 x2 n o q r a b c d f g h i j k l m s t u v y A B C P Q L M)) (hB:aO x0 x1 x2 n o q r A B C P Q) (hJ:eJ0 n o q r a b c d f g h i j k l m s t u v y A B C P Q L M) (hH:Hyp.ok aBn ρ) (hF0:0≤a∧a≤9223372036854775806) (hG0:a<r) :
 eW x0 x1 x2 ρ aBD:=by
 simp only [eW,aBD,LT.holds,aQ]
 have hB3:=hB
 have hJ3:=hJ
 simp only [aO] at hB3
 simp only [eJ0] at hJ3
 obtain ⟨b0,b1,b2,b3,c0,c1,c2,c3,c4,_⟩:=hB3
 obtain ⟨l4,l5,l6,l7,l8,l9,l10,l11,l12,l13,l14,l15,l16,l17,l18,l19,l20,m5,m6,hk,_⟩:=hJ3
 refine ⟨dU,⟨n,o,q,r,(E.i ρ bB),b,c,d,f,(E.i ρ dQ),(E.i ρ bX),i,j,(E.i ρ aXO),l,(E.i ρ aXQ),(E.i ρ aXP),(E.i ρ aXN),(E.i ρ aXM),(E.i ρ dE),y,A,B,C,P,Q,(E.a ρ bF),(E.a ρ aXR),?_,hB,?_⟩,?_⟩ <;> subst hV
 ·kernel_rfl
 ·exact ⟨(show 0≤a+1∧a+1≤9223372036854775807 by omega),l5,l6,l7,l8,(aB hH (by kernel_rfl)),(aB hH (by kernel_rfl)),l11,l12,(aB hH (by kernel_rfl)),l14,(aB hH (by kernel_rfl)),(aB hH (by kernel_rfl)),(aB hH (by kernel_rfl)),(aB hH (by kernel_rfl)),(aB hH (by kernel_rfl)),l20,(aM hH (by kernel_rfl)),(aM hH (by kernel_rfl)),(show a+1≤r by omega),trivial⟩
 exact Nat.lt_of_le_of_lt (Nat.le_of_eq (m:=(r-(a+1)).toNat) (by kernel_rfl)) (Nat.lt_of_lt_of_eq (show (r-(a+1)).toNat<(r-a).toNat by omega) (by kernel_rfl))
noncomputable def aBo:Hyp:={ eh0.H with e:=[((.v 4),(0,9223372036854775806)),(e4,(3,3)),(e6,(8,15)),(fO,(2,9223372036854775807))]++eh0.H.e,b:=[(e7,true)]++eh0.H.b }
noncomputable def aBE:LT:=(.jump 0 eT0 ⟨[(20,(.v 20)),(12,(.v 12)),(11,(.v 11)),(10,bX),(9,dQ),(18,aXM),(17,aXN),(13,aXO),(16,aXP),(8,(.v 8)),(7,(.v 7)),(15,aXQ),(14,(.v 14)),(6,(.v 6)),(5,(.v 5)),(19,dE),(4,bB)],[],[(6,aXR),(5,bF)]⟩)
theorem aYi:(cE Try.prog G Gh eD ehs [] 3000 0 5 { eh0 with H:=aBo }).map LT.bare=some aBE:=by kernel_rfl
theorem aYy {ρ:Env} (hV:ρ=(eV x0 x1 x2 n o q r a b c d f g h i j k l m s t u v y A B C P Q L M)) (hB:aO x0 x1 x2 n o q r A B C P Q) (hJ:eJ0 n o q r a b c d f g h i j k l m s t u v y A B C P Q L M) (hH:Hyp.ok aBo ρ) (hF0:0≤a∧a≤9223372036854775806) (hG0:a<r) :
 eW x0 x1 x2 ρ aBE:=by
 simp only [eW,aBE,LT.holds,aQ]
 have hB3:=hB
 have hJ3:=hJ
 simp only [aO] at hB3
 simp only [eJ0] at hJ3
 obtain ⟨b0,b1,b2,b3,c0,c1,c2,c3,c4,_⟩:=hB3
 obtain ⟨l4,l5,l6,l7,l8,l9,l10,l11,l12,l13,l14,l15,l16,l17,l18,l19,l20,m5,m6,hk,_⟩:=hJ3
 refine ⟨dU,⟨n,o,q,r,(E.i ρ bB),b,c,d,f,(E.i ρ dQ),(E.i ρ bX),i,j,(E.i ρ aXO),l,(E.i ρ aXQ),(E.i ρ aXP),(E.i ρ aXN),(E.i ρ aXM),(E.i ρ dE),y,A,B,C,P,Q,(E.a ρ bF),(E.a ρ aXR),?_,hB,?_⟩,?_⟩ <;> subst hV
 ·kernel_rfl
 ·exact ⟨(show 0≤a+1∧a+1≤9223372036854775807 by omega),l5,l6,l7,l8,(aB hH (by kernel_rfl)),(aB hH (by kernel_rfl)),l11,l12,(aB hH (by kernel_rfl)),l14,(aB hH (by kernel_rfl)),(aB hH (by kernel_rfl)),(aB hH (by kernel_rfl)),(aB hH (by kernel_rfl)),(aB hH (by kernel_rfl)),l20,(aM hH (by kernel_rfl)),(aM hH (by kernel_rfl)),(show a+1≤r by omega),trivial⟩
 exact Nat.lt_of_le_of_lt (Nat.le_of_eq (m:=(r-(a+1)).toNat) (by kernel_rfl)) (Nat.lt_of_lt_of_eq (show (r-(a+1)).toNat<(r-a).toNat by omega) (by kernel_rfl))
noncomputable def bHQ:Hyp:={ eh0.H with e:=[]++eh0.H.e,b:=[(e7,false)]++eh0.H.b }
noncomputable def bHR:LT:=(.ret (.s (.bool (.blit true))) [])
theorem bRK:(cE Try.prog G Gh eD ehs [] 3000 0 5 { eh0 with H:=bHQ }).map LT.bare=some bHR:=by kernel_rfl
theorem bRL {ρ:Env} (hV:ρ=(eV x0 x1 x2 n o q r a b c d f g h i j k l m s t u v y A B C P Q L M)) (hB:aO x0 x1 x2 n o q r A B C P Q) (hJ:eJ0 n o q r a b c d f g h i j k l m s t u v y A B C P Q L M) (hH:Hyp.ok bHQ ρ)  (hG0:¬ a<r) :
 eW x0 x1 x2 ρ bHR:=by
 subst hV
 simp only [eW,bHR,LT.holds,aQ]
 have hB3:=hB
 have hJ3:=hJ
 simp only [aO] at hB3
 simp only [eJ0] at hJ3
 obtain ⟨b0,b1,b2,b3,c0,c1,c2,c3,c4,_⟩:=hB3
 obtain ⟨l4,l5,l6,l7,l8,l9,l10,l11,l12,l13,l14,l15,l16,l17,l18,l19,l20,m5,m6,hk,_⟩:=hJ3
 rfl
end Go.Proofs.Ytcckecfjjccffaa.SignalCommutes
