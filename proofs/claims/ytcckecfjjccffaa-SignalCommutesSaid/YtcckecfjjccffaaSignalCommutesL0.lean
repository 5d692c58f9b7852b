/- A part of the law SignalCommutes, which returns true for every input. A step that touches nothing shared is the same whether the main side takes or gives a byte ahead of it or behind it. No condition. -/
import Derived.Test.YtcckecfjjccffaaSignalCommutesB
namespace Go.Proofs.Ytcckecfjjccffaa.SignalCommutes
open Go.Sx Go.ChangeShapes Go.WideShapes Go.ChangeAt Go.RowKit
set_option linter.unusedVariables false
set_option linter.unusedSimpArgs false
set_option maxRecDepth 100000
set_option maxHeartbeats 40000000
variable {x0:Ext} {x1:Ext} {x2:Ext} {n o q r a b c d f g h i j k l m s t u v y:Int} {A B C P Q L M:Nat→Int}
noncomputable def aBd:Hyp:={ eh0.H with e:=[((.v 4),(0,9223372036854775806)),(e4,(0,0)),(e6,(6,6))]++eh0.H.e,b:=[(e7,true)]++eh0.H.b }
noncomputable def aBt:LT:=(.jump 0 eT0 ⟨[(20,(.v 20)),(12,e66),(11,e70),(10,e83),(9,e58),(18,e88),(17,e90),(13,(.v 13)),(16,(.v 16)),(8,e93),(7,gI),(15,(.v 15)),(14,(.v 14)),(6,aKb),(5,aKc),(19,dE),(4,bB)],[],[(6,gT),(5,bF)]⟩)
theorem aXX:(cE Try.prog G Gh eD ehs [] 3000 0 5 { eh0 with H:=aBd }).map LT.bare=some aBt:=by kernel_rfl
theorem aYn {ρ:Env} (hV:ρ=(eV x0 x1 x2 n o q r a b c d f g h i j k l m s t u v y A B C P Q L M)) (hB:aO x0 x1 x2 n o q r A B C P Q) (hJ:eJ0 n o q r a b c d f g h i j k l m s t u v y A B C P Q L M) (hH:Hyp.ok aBd ρ) (hF0:0≤a∧a≤9223372036854775806) (hG0:a<r) :
 eW x0 x1 x2 ρ aBt:=by
 simp only [eW,aBt,LT.holds,aQ]
 have hB3:=hB
 have hJ3:=hJ
 simp only [aO] at hB3
 simp only [eJ0] at hJ3
 obtain ⟨b0,b1,b2,b3,c0,c1,c2,c3,c4,_⟩:=hB3
 obtain ⟨l4,l5,l6,l7,l8,l9,l10,l11,l12,l13,l14,l15,l16,l17,l18,l19,l20,m5,m6,hk,_⟩:=hJ3
 refine ⟨dU,⟨n,o,q,r,(E.i ρ bB),(E.i ρ aKc),(E.i ρ aKb),(E.i ρ gI),(E.i ρ e93),(E.i ρ e58),(E.i ρ e83),(E.i ρ e70),(E.i ρ e66),k,l,m,s,(E.i ρ e90),(E.i ρ e88),(E.i ρ dE),y,A,B,C,P,Q,(E.a ρ bF),(E.a ρ gT),?_,hB,?_⟩,?_⟩ <;> subst hV
 ·kernel_rfl
 ·exact ⟨(show 0≤a+1∧a+1≤9223372036854775807 by omega),(aB hH (by kernel_rfl)),(aB hH (by kernel_rfl)),(bOr (iO (aB hH (by kernel_rfl)) (aB hH (by kernel_rfl))) (aB hH (by kernel_rfl))),(aB hH (by kernel_rfl)),(aB hH (by kernel_rfl)),(aB hH (by kernel_rfl)),(aB hH (by kernel_rfl)),(aB hH (by kernel_rfl)),l13,l14,l15,l16,(aB hH (by kernel_rfl)),(aB hH (by kernel_rfl)),(aB hH (by kernel_rfl)),l20,(aM hH (by kernel_rfl)),(aM hH (by kernel_rfl)),(show a+1≤r by omega),trivial⟩
 exact Nat.lt_of_le_of_lt (Nat.le_of_eq (m:=(r-(a+1)).toNat) (by kernel_rfl)) (Nat.lt_of_lt_of_eq (show (r-(a+1)).toNat<(r-a).toNat by omega) (by kernel_rfl))
noncomputable def aBe:Hyp:={ eh0.H with e:=[((.v 4),(0,9223372036854775806)),(e4,(0,0)),(e6,(7,7))]++eh0.H.e,b:=[(e7,true)]++eh0.H.b }
noncomputable def aBu:LT:=(.jump 0 eT0 ⟨[(20,(.v 20)),(12,e66),(11,e70),(10,bHo),(9,(.v 9)),(18,e88),(17,e90),(13,(.v 13)),(16,(.v 16)),(8,e93),(7,gI),(15,(.v 15)),(14,(.v 14)),(6,aKb),(5,aKc),(19,dE),(4,bB)],[],[(6,gT),(5,bF)]⟩)
theorem aXY:(cE Try.prog G Gh eD ehs [] 3000 0 5 { eh0 with H:=aBe }).map LT.bare=some aBu:=by kernel_rfl
theorem aYo {ρ:Env} (hV:ρ=(eV x0 x1 x2 n o q r a b c d f g h i j k l m s t u v y A B C P Q L M)) (hB:aO x0 x1 x2 n o q r A B C P Q) (hJ:eJ0 n o q r a b c d f g h i j k l m s t u v y A B C P Q L M) (hH:Hyp.ok aBe ρ) (hF0:0≤a∧a≤9223372036854775806) (hG0:a<r) :
 eW x0 x1 x2 ρ aBu:=by
 simp only [eW,aBu,LT.holds,aQ]
 have hB3:=hB
 have hJ3:=hJ
 simp only [aO] at hB3
 simp only [eJ0] at hJ3
 obtain ⟨b0,b1,b2,b3,c0,c1,c2,c3,c4,_⟩:=hB3
 obtain ⟨l4,l5,l6,l7,l8,l9,l10,l11,l12,l13,l14,l15,l16,l17,l18,l19,l20,m5,m6,hk,_⟩:=hJ3
 refine ⟨dU,⟨n,o,q,r,(E.i ρ bB),(E.i ρ aKc),(E.i ρ aKb),(E.i ρ gI),(E.i ρ e93),g,(E.i ρ bHo),(E.i ρ e70),(E.i ρ e66),k,l,m,s,(E.i ρ e90),(E.i ρ e88),(E.i ρ dE),y,A,B,C,P,Q,(E.a ρ bF),(E.a ρ gT),?_,hB,?_⟩,?_⟩ <;> subst hV
 ·kernel_rfl
 ·exact ⟨(show 0≤a+1∧a+1≤9223372036854775807 by omega),(aB hH (by kernel_rfl)),(aB hH (by kernel_rfl)),(bOr (iO (aB hH (by kernel_rfl)) (aB hH (by kernel_rfl))) (aB hH (by kernel_rfl))),(aB hH (by kernel_rfl)),l9,(aB hH (by kernel_rfl)),(aB hH (by kernel_rfl)),(aB hH (by kernel_rfl)),l13,l14,l15,l16,(aB hH (by kernel_rfl)),(aB hH (by kernel_rfl)),(aB hH (by kernel_rfl)),l20,(aM hH (by kernel_rfl)),(aM hH (by kernel_rfl)),(show a+1≤r by omega),trivial⟩
 exact Nat.lt_of_le_of_lt (Nat.le_of_eq (m:=(r-(a+1)).toNat) (by kernel_rfl)) (Nat.lt_of_lt_of_eq (show (r-(a+1)).toNat<(r-a).toNat by omega) (by kernel_rfl))
noncomputable def aBb:Hyp:={ eh0.H with e:=[((.v 4),(0,9223372036854775806)),(e4,(0,0)),(e6,(0,5)),(e18,(8,10))]++eh0.H.e,b:=[(e7,true)]++eh0.H.b }
noncomputable def aBr:LT:=(.jump 0 eT0 ⟨[(20,(.v 20)),(12,aKd),(11,aKe),(10,e80),(9,(.v 9)),(18,e88),(17,e90),(13,(.v 13)),(16,(.v 16)),(8,bHq),(7,bHr),(15,(.v 15)),(14,bHs),(6,bHt),(5,bHu),(19,dE),(4,bB)],[],[(6,bHw),(5,bF)]⟩)
theorem aXV:(cE Try.prog G Gh eD ehs [] 3000 0 5 { eh0 with H:=aBb }).map LT.bare=some aBr:=by kernel_rfl
theorem aYl {ρ:Env} (hV:ρ=(eV x0 x1 x2 n o q r a b c d f g h i j k l m s t u v y A B C P Q L M)) (hB:aO x0 x1 x2 n o q r A B C P Q) (hJ:eJ0 n o q r a b c d f g h i j k l m s t u v y A B C P Q L M) (hH:Hyp.ok aBb ρ) (hF0:0≤a∧a≤9223372036854775806) (hG0:a<r) :
 eW x0 x1 x2 ρ aBr:=by
 simp only [eW,aBr,LT.holds,aQ]
 have hB3:=hB
 have hJ3:=hJ
 simp only [aO] at hB3
 simp only [eJ0] at hJ3
 obtain ⟨b0,b1,b2,b3,c0,c1,c2,c3,c4,_⟩:=hB3
 obtain ⟨l4,l5,l6,l7,l8,l9,l10,l11,l12,l13,l14,l15,l16,l17,l18,l19,l20,m5,m6,hk,_⟩:=hJ3
 refine ⟨dU,⟨n,o,q,r,(E.i ρ bB),(E.i ρ bHu),(E.i ρ bHt),(E.i ρ bHr),(E.i ρ bHq),g,(E.i ρ e80),(E.i ρ aKe),(E.i ρ aKd),k,(E.i ρ bHs),m,s,(E.i ρ e90),(E.i ρ e88),(E.i ρ dE),y,A,B,C,P,Q,(E.a ρ bF),(E.a ρ bHw),?_,hB,?_⟩,?_⟩ <;> subst hV
 ·kernel_rfl
 ·exact ⟨(show 0≤a+1∧a+1≤9223372036854775807 by omega),(aB hH (by kernel_rfl)),(aB hH (by kernel_rfl)),(eI (eI l7 (eI (aB hH (by kernel_rfl)) l7)) (bOr (iO (aB hH (by kernel_rfl)) (aB hH (by kernel_rfl))) (aB hH (by kernel_rfl)))),(aB hH (by kernel_rfl)),l9,(aB hH (by kernel_rfl)),(aB hH (by kernel_rfl)),(aB hH (by kernel_rfl)),l13,(aB hH (by kernel_rfl)),l15,l16,(aB hH (by kernel_rfl)),(aB hH (by kernel_rfl)),(aB hH (by kernel_rfl)),l20,(aM hH (by kernel_rfl)),(aM hH (by kernel_rfl)),(show a+1≤r by omega),trivial⟩
 exact Nat.lt_of_le_of_lt (Nat.le_of_eq (m:=(r-(a+1)).toNat) (by kernel_rfl)) (Nat.lt_of_lt_of_eq (show (r-(a+1)).toNat<(r-a).toNat by omega) (by kernel_rfl))
noncomputable def aBc:Hyp:={ eh0.H with e:=[((.v 4),(0,9223372036854775806)),(e4,(0,0)),(e6,(8,15)),(e18,(8,10))]++eh0.H.e,b:=[(e7,true)]++eh0.H.b }
noncomputable def aBs:LT:=(.jump 0 eT0 ⟨[(20,(.v 20)),(12,aKd),(11,aKe),(10,e80),(9,(.v 9)),(18,bHA),(17,bHB),(13,bHD),(16,bHG),(8,e93),(7,gI),(15,bHH),(14,(.v 14)),(6,aXA),(5,aXB),(19,dE),(4,bB)],[],[(6,bHJ),(5,bF)]⟩)
theorem aXW:(cE Try.prog G Gh eD ehs [] 3000 0 5 { eh0 with H:=aBc }).map LT.bare=some aBs:=by kernel_rfl
theorem aYm {ρ:Env} (hV:ρ=(eV x0 x1 x2 n o q r a b c d f g h i j k l m s t u v y A B C P Q L M)) (hB:aO x0 x1 x2 n o q r A B C P Q) (hJ:eJ0 n o q r a b c d f g h i j k l m s t u v y A B C P Q L M) (hH:Hyp.ok aBc ρ) (hF0:0≤a∧a≤9223372036854775806) (hG0:a<r) :
 eW x0 x1 x2 ρ aBs:=by
 simp only [eW,aBs,LT.holds,aQ]
 have hB3:=hB
 have hJ3:=hJ
 simp only [aO] at hB3
 simp only [eJ0] at hJ3
 obtain ⟨b0,b1,b2,b3,c0,c1,c2,c3,c4,_⟩:=hB3
 obtain ⟨l4,l5,l6,l7,l8,l9,l10,l11,l12,l13,l14,l15,l16,l17,l18,l19,l20,m5,m6,hk,_⟩:=hJ3
 refine ⟨dU,⟨n,o,q,r,(E.i ρ bB),(E.i ρ aXB),(E.i ρ aXA),(E.i ρ gI),(E.i ρ e93),g,(E.i ρ e80),(E.i ρ aKe),(E.i ρ aKd),(E.i ρ bHD),l,(E.i ρ bHH),(E.i ρ bHG),(E.i ρ bHB),(E.i ρ bHA),(E.i ρ dE),y,A,B,C,P,Q,(E.a ρ bF),(E.a ρ bHJ),?_,hB,?_⟩,?_⟩ <;> subst hV
 ·kernel_rfl
 ·exact ⟨(show 0≤a+1∧a+1≤9223372036854775807 by omega),(aB hH (by kernel_rfl)),(aB hH (by kernel_rfl)),(bOr (iO (aB hH (by kernel_rfl)) (aB hH (by kernel_rfl))) (aB hH (by kernel_rfl))),(aB hH (by kernel_rfl)),l9,(aB hH (by kernel_rfl)),(aB hH (by kernel_rfl)),(aB hH (by kernel_rfl)),(aB hH (by kernel_rfl)),l14,(aB hH (by kernel_rfl)),(aB hH (by kernel_rfl)),(aB hH (by kernel_rfl)),(aB hH (by kernel_rfl)),(aB hH (by kernel_rfl)),l20,(aM hH (by kernel_rfl)),(aM hH (by kernel_rfl)),(show a+1≤r by omega),trivial⟩
 exact Nat.lt_of_le_of_lt (Nat.le_of_eq (m:=(r-(a+1)).toNat) (by kernel_rfl)) (Nat.lt_of_lt_of_eq (show (r-(a+1)).toNat<(r-a).toNat by omega) (by kernel_rfl))
noncomputable def uO:Hyp:={ eh0.H with e:=[((.v 4),(0,9223372036854775806)),(e4,(0,0)),(e6,(0,5)),(e18,(0,7)),(fO,(1,1))]++eh0.H.e,b:=[(e7,true)]++eh0.H.b }
noncomputable def vX:LT:=(.jump 0 eT0 ⟨[(20,(.v 20)),(12,kZ),(11,lA),(10,bX),(9,(.v 9)),(18,e88),(17,e90),(13,(.v 13)),(16,(.v 16)),(8,aAD),(7,aAE),(15,(.v 15)),(14,aAF),(6,aAG),(5,aAH),(19,dE),(4,bB)],[],[(6,aAI),(5,bF)]⟩)
theorem aUJ:(cE Try.prog G Gh eD ehs [] 3000 0 5 { eh0 with H:=uO }).map LT.bare=some vX:=by kernel_rfl
theorem aVs {ρ:Env} (hV:ρ=(eV x0 x1 x2 n o q r a b c d f g h i j k l m s t u v y A B C P Q L M)) (hB:aO x0 x1 x2 n o q r A B C P Q) (hJ:eJ0 n o q r a b c d f g h i j k l m s t u v y A B C P Q L M) (hH:Hyp.ok uO ρ) (hF0:0≤a∧a≤9223372036854775806) (hG0:a<r) :
 eW x0 x1 x2 ρ vX:=by
 simp only [eW,vX,LT.holds,aQ]
 have hB3:=hB
 have hJ3:=hJ
 simp only [aO] at hB3
 simp only [eJ0] at hJ3
 obtain ⟨b0,b1,b2,b3,c0,c1,c2,c3,c4,_⟩:=hB3
 obtain ⟨l4,l5,l6,l7,l8,l9,l10,l11,l12,l13,l14,l15,l16,l17,l18,l19,l20,m5,m6,hk,_⟩:=hJ3
 refine ⟨dU,⟨n,o,q,r,(E.i ρ bB),(E.i ρ aAH),(E.i ρ aAG),(E.i ρ aAE),(E.i ρ aAD),g,(E.i ρ bX),(E.i ρ lA),(E.i ρ kZ),k,(E.i ρ aAF),m,s,(E.i ρ e90),(E.i ρ e88),(E.i ρ dE),y,A,B,C,P,Q,(E.a ρ bF),(E.a ρ aAI),?_,hB,?_⟩,?_⟩ <;> subst hV
 ·kernel_rfl
 ·exact ⟨(show 0≤a+1∧a+1≤9223372036854775807 by omega),(aB hH (by kernel_rfl)),(aB hH (by kernel_rfl)),(eI (eI l7 (eI (aB hH (by kernel_rfl)) l7)) (bOr (iO (aB hH (by kernel_rfl)) (aB hH (by kernel_rfl))) (aB hH (by kernel_rfl)))),(aB hH (by kernel_rfl)),l9,(aB hH (by kernel_rfl)),(aB hH (by kernel_rfl)),(aB hH (by kernel_rfl)),l13,(aB hH (by kernel_rfl)),l15,l16,(aB hH (by kernel_rfl)),(aB hH (by kernel_rfl)),(aB hH (by kernel_rfl)),l20,(aM hH (by kernel_rfl)),(aM hH (by kernel_rfl)),(show a+1≤r by omega),trivial⟩
 exact Nat.lt_of_le_of_lt (Nat.le_of_eq (m:=(r-(a+1)).toNat) (by kernel_rfl)) (Nat.lt_of_lt_of_eq (show (r-(a+1)).toNat<(r-a).toNat by omega) (by kernel_rfl))
noncomputable def uP:Hyp:={ eh0.H with e:=[((.v 4),(0,9223372036854775806)),(e4,(0,0)),(e6,(0,5)),(e18,(0,7)),(fO,((-9223372036854775808),0))]++eh0.H.e,b:=[(e7,true)]++eh0.H.b }
noncomputable def vY:LT:=(.jump 0 eT0 ⟨[(20,(.v 20)),(12,kZ),(11,lA),(10,bX),(9,dQ),(18,e88),(17,e90),(13,(.v 13)),(16,(.v 16)),(8,aAD),(7,aAE),(15,(.v 15)),(14,aAF),(6,aAG),(5,aAH),(19,dE),(4,bB)],[],[(6,aAI),(5,bF)]⟩)
theorem aUK:(cE Try.prog G Gh eD ehs [] 3000 0 5 { eh0 with H:=uP }).map LT.bare=some vY:=by kernel_rfl
theorem aVt {ρ:Env} (hV:ρ=(eV x0 x1 x2 n o q r a b c d f g h i j k l m s t u v y A B C P Q L M)) (hB:aO x0 x1 x2 n o q r A B C P Q) (hJ:eJ0 n o q r a b c d f g h i j k l m s t u v y A B C P Q L M) (hH:Hyp.ok uP ρ) (hF0:0≤a∧a≤9223372036854775806) (hG0:a<r) :
 eW x0 x1 x2 ρ vY:=by
 simp only [eW,vY,LT.holds,aQ]
 have hB3:=hB
 have hJ3:=hJ
 simp only [aO] at hB3
 simp only [eJ0] at hJ3
 obtain ⟨b0,b1,b2,b3,c0,c1,c2,c3,c4,_⟩:=hB3
 obtain ⟨l4,l5,l6,l7,l8,l9,l10,l11,l12,l13,l14,l15,l16,l17,l18,l19,l20,m5,m6,hk,_⟩:=hJ3
 refine ⟨dU,⟨n,o,q,r,(E.i ρ bB),(E.i ρ aAH),(E.i ρ aAG),(E.i ρ aAE),(E.i ρ aAD),(E.i ρ dQ),(E.i ρ bX),(E.i ρ lA),(E.i ρ kZ),k,(E.i ρ aAF),m,s,(E.i ρ e90),(E.i ρ e88),(E.i ρ dE),y,A,B,C,P,Q,(E.a ρ bF),(E.a ρ aAI),?_,hB,?_⟩,?_⟩ <;> subst hV
 ·kernel_rfl
 ·exact ⟨(show 0≤a+1∧a+1≤9223372036854775807 by omega),(aB hH (by kernel_rfl)),(aB hH (by kernel_rfl)),(eI (eI l7 (eI (aB hH (by kernel_rfl)) l7)) (bOr (iO (aB hH (by kernel_rfl)) (aB hH (by kernel_rfl))) (aB hH (by kernel_rfl)))),(aB hH (by kernel_rfl)),(aB hH (by kernel_rfl)),(aB hH (by kernel_rfl)),(aB hH (by kernel_rfl)),(aB hH (by kernel_rfl)),l13,(aB hH (by kernel_rfl)),l15,l16,(aB hH (by kernel_rfl)),(aB hH (by kernel_rfl)),(aB hH (by kernel_rfl)),l20,(aM hH (by kernel_rfl)),(aM hH (by kernel_rfl)),(show a+1≤r by omega),trivial⟩
 exact Nat.lt_of_le_of_lt (Nat.le_of_eq (m:=(r-(a+1)).toNat) (by kernel_rfl)) (Nat.lt_of_lt_of_eq (show (r-(a+1)).toNat<(r-a).toNat by omega) (by kernel_rfl))
noncomputable def uQ:Hyp:={ eh0.H with e:=[((.v 4),(0,9223372036854775806)),(e4,(0,0)),(e6,(0,5)),(e18,(0,7)),(fO,(2,9223372036854775807))]++eh0.H.e,b:=[(e7,true)]++eh0.H.b }
noncomputable def vZ:LT:=(.jump 0 eT0 ⟨[(20,(.v 20)),(12,kZ),(11,lA),(10,bX),(9,dQ),(18,e88),(17,e90),(13,(.v 13)),(16,(.v 16)),(8,aAD),(7,aAE),(15,(.v 15)),(14,aAF),(6,aAG),(5,aAH),(19,dE),(4,bB)],[],[(6,aAI),(5,bF)]⟩)
theorem aUL:(cE Try.prog G Gh eD ehs [] 3000 0 5 { eh0 with H:=uQ }).map LT.bare=some vZ:=by kernel_rfl
theorem aVu {ρ:Env} (hV:ρ=(eV x0 x1 x2 n o q r a b c d f g h i j k l m s t u v y A B C P Q L M)) (hB:aO x0 x1 x2 n o q r A B C P Q) (hJ:eJ0 n o q r a b c d f g h i j k l m s t u v y A B C P Q L M) (hH:Hyp.ok uQ ρ) (hF0:0≤a∧a≤9223372036854775806) (hG0:a<r) :
 eW x0 x1 x2 ρ vZ:=by
 simp only [eW,vZ,LT.holds,aQ]
 have hB3:=hB
 have hJ3:=hJ
 simp only [aO] at hB3
 simp only [eJ0] at hJ3
 obtain ⟨b0,b1,b2,b3,c0,c1,c2,c3,c4,_⟩:=hB3
 obtain ⟨l4,l5,l6,l7,l8,l9,l10,l11,l12,l13,l14,l15,l16,l17,l18,l19,l20,m5,m6,hk,_⟩:=hJ3
 refine ⟨dU,⟨n,o,q,r,(E.i ρ bB),(E.i ρ aAH),(E.i ρ aAG),(E.i ρ aAE),(E.i ρ aAD),(E.i ρ dQ),(E.i ρ bX),(E.i ρ lA),(E.i ρ kZ),k,(E.i ρ aAF),m,s,(E.i ρ e90),(E.i ρ e88),(E.i ρ dE),y,A,B,C,P,Q,(E.a ρ bF),(E.a ρ aAI),?_,hB,?_⟩,?_⟩ <;> subst hV
 ·kernel_rfl
 ·exact ⟨(show 0≤a+1∧a+1≤9223372036854775807 by omega),(aB hH (by kernel_rfl)),(aB hH (by kernel_rfl)),(eI (eI l7 (eI (aB hH (by kernel_rfl)) l7)) (bOr (iO (aB hH (by kernel_rfl)) (aB hH (by kernel_rfl))) (aB hH (by kernel_rfl)))),(aB hH (by kernel_rfl)),(aB hH (by kernel_rfl)),(aB hH (by kernel_rfl)),(aB hH (by kernel_rfl)),(aB hH (by kernel_rfl)),l13,(aB hH (by kernel_rfl)),l15,l16,(aB hH (by kernel_rfl)),(aB hH (by kernel_rfl)),(aB hH (by kernel_rfl)),l20,(aM hH (by kernel_rfl)),(aM hH (by kernel_rfl)),(show a+1≤r by omega),trivial⟩
 exact Nat.lt_of_le_of_lt (Nat.le_of_eq (m:=(r-(a+1)).toNat) (by kernel_rfl)) (Nat.lt_of_lt_of_eq (show (r-(a+1)).toNat<(r-a).toNat by omega) (by kernel_rfl))
noncomputable def uR:Hyp:={ eh0.H with e:=[((.v 4),(0,9223372036854775806)),(e4,(0,0)),(e6,(0,5)),(e18,(11,15)),(fO,(1,1))]++eh0.H.e,b:=[(e7,true)]++eh0.H.b }
noncomputable def wA:LT:=(.jump 0 eT0 ⟨[(20,(.v 20)),(12,lB),(11,lC),(10,bX),(9,(.v 9)),(18,e88),(17,e90),(13,(.v 13)),(16,(.v 16)),(8,aAJ),(7,aAK),(15,(.v 15)),(14,aAL),(6,aAM),(5,aAN),(19,dE),(4,bB)],[],[(6,aAO),(5,bF)]⟩)
theorem aUM:(cE Try.prog G Gh eD ehs [] 3000 0 5 { eh0 with H:=uR }).map LT.bare=some wA:=by kernel_rfl
theorem aVv {ρ:Env} (hV:ρ=(eV x0 x1 x2 n o q r a b c d f g h i j k l m s t u v y A B C P Q L M)) (hB:aO x0 x1 x2 n o q r A B C P Q) (hJ:eJ0 n o q r a b c d f g h i j k l m s t u v y A B C P Q L M) (hH:Hyp.ok uR ρ) (hF0:0≤a∧a≤9223372036854775806) (hG0:a<r) :
 eW x0 x1 x2 ρ wA:=by
 simp only [eW,wA,LT.holds,aQ]
 have hB3:=hB
 have hJ3:=hJ
 simp only [aO] at hB3
 simp only [eJ0] at hJ3
 obtain ⟨b0,b1,b2,b3,c0,c1,c2,c3,c4,_⟩:=hB3
 obtain ⟨l4,l5,l6,l7,l8,l9,l10,l11,l12,l13,l14,l15,l16,l17,l18,l19,l20,m5,m6,hk,_⟩:=hJ3
 refine ⟨dU,⟨n,o,q,r,(E.i ρ bB),(E.i ρ aAN),(E.i ρ aAM),(E.i ρ aAK),(E.i ρ aAJ),g,(E.i ρ bX),(E.i ρ lC),(E.i ρ lB),k,(E.i ρ aAL),m,s,(E.i ρ e90),(E.i ρ e88),(E.i ρ dE),y,A,B,C,P,Q,(E.a ρ bF),(E.a ρ aAO),?_,hB,?_⟩,?_⟩ <;> subst hV
 ·kernel_rfl
 ·exact ⟨(show 0≤a+1∧a+1≤9223372036854775807 by omega),(aB hH (by kernel_rfl)),(aB hH (by kernel_rfl)),(eI (eI l7 (eI (aB hH (by kernel_rfl)) l7)) (bOr (iO (aB hH (by kernel_rfl)) (aB hH (by kernel_rfl))) (aB hH (by kernel_rfl)))),(aB hH (by kernel_rfl)),l9,(aB hH (by kernel_rfl)),(aB hH (by kernel_rfl)),(aB hH (by kernel_rfl)),l13,(aB hH (by kernel_rfl)),l15,l16,(aB hH (by kernel_rfl)),(aB hH (by kernel_rfl)),(aB hH (by kernel_rfl)),l20,(aM hH (by kernel_rfl)),(aM hH (by kernel_rfl)),(show a+1≤r by omega),trivial⟩
 exact Nat.lt_of_le_of_lt (Nat.le_of_eq (m:=(r-(a+1)).toNat) (by kernel_rfl)) (Nat.lt_of_lt_of_eq (show (r-(a+1)).toNat<(r-a).toNat by omega) (by kernel_rfl))
noncomputable def uS:Hyp:={ eh0.H with e:=[((.v 4),(0,9223372036854775806)),(e4,(0,0)),(e6,(0,5)),(e18,(11,15)),(fO,((-9223372036854775808),0))]++eh0.H.e,b:=[(e7,true)]++eh0.H.b }
noncomputable def wB:LT:=(.jump 0 eT0 ⟨[(20,(.v 20)),(12,lB),(11,lC),(10,bX),(9,dQ),(18,e88),(17,e90),(13,(.v 13)),(16,(.v 16)),(8,aAJ),(7,aAK),(15,(.v 15)),(14,aAL),(6,aAM),(5,aAN),(19,dE),(4,bB)],[],[(6,aAO),(5,bF)]⟩)
theorem aUN:(cE Try.prog G Gh eD ehs [] 3000 0 5 { eh0 with H:=uS }).map LT.bare=some wB:=by kernel_rfl
theorem aVw {ρ:Env} (hV:ρ=(eV x0 x1 x2 n o q r a b c d f g h i j k l m s t u v y A B C P Q L M)) (hB:aO x0 x1 x2 n o q r A B C P Q) (hJ:eJ0 n o q r a b c d f g h i j k l m s t u v y A B C P Q L M) (hH:Hyp.ok uS ρ) (hF0:0≤a∧a≤9223372036854775806) (hG0:a<r) :
 eW x0 x1 x2 ρ wB:=by
 simp only [eW,wB,LT.holds,aQ]
 have hB3:=hB
 have hJ3:=hJ
 simp only [aO] at hB3
 simp only [eJ0] at hJ3
 obtain ⟨b0,b1,b2,b3,c0,c1,c2,c3,c4,_⟩:=hB3
 obtain ⟨l4,l5,l6,l7,l8,l9,l10,l11,l12,l13,l14,l15,l16,l17,l18,l19,l20,m5,m6,hk,_⟩:=hJ3
 refine ⟨dU,⟨n,o,q,r,(E.i ρ bB),(E.i ρ aAN),(E.i ρ aAM),(E.i ρ aAK),(E.i ρ aAJ),(E.i ρ dQ),(E.i ρ bX),(E.i ρ lC),(E.i ρ lB),k,(E.i ρ aAL),m,s,(E.i ρ e90),(E.i ρ e88),(E.i ρ dE),y,A,B,C,P,Q,(E.a ρ bF),(E.a ρ aAO),?_,hB,?_⟩,?_⟩ <;> subst hV
 ·kernel_rfl
 ·exact ⟨(show 0≤a+1∧a+1≤9223372036854775807 by omega),(aB hH (by kernel_rfl)),(aB hH (by kernel_rfl)),(eI (eI l7 (eI (aB hH (by kernel_rfl)) l7)) (bOr (iO (aB hH (by kernel_rfl)) (aB hH (by kernel_rfl))) (aB hH (by kernel_rfl)))),(aB hH (by kernel_rfl)),(aB hH (by kernel_rfl)),(aB hH (by kernel_rfl)),(aB hH (by kernel_rfl)),(aB hH (by kernel_rfl)),l13,(aB hH (by kernel_rfl)),l15,l16,(aB hH (by kernel_rfl)),(aB hH (by kernel_rfl)),(aB hH (by kernel_rfl)),l20,(aM hH (by kernel_rfl)),(aM hH (by kernel_rfl)),(show a+1≤r by omega),trivial⟩
 exact Nat.lt_of_le_of_lt (Nat.le_of_eq (m:=(r-(a+1)).toNat) (by kernel_rfl)) (Nat.lt_of_lt_of_eq (show (r-(a+1)).toNat<(r-a).toNat by omega) (by kernel_rfl))
noncomputable def uT:Hyp:={ eh0.H with e:=[((.v 4),(0,9223372036854775806)),(e4,(0,0)),(e6,(0,5)),(e18,(11,15)),(fO,(2,9223372036854775807))]++eh0.H.e,b:=[(e7,true)]++eh0.H.b }
noncomputable def wC:LT:=(.jump 0 eT0 ⟨[(20,(.v 20)),(12,lB),(11,lC),(10,bX),(9,dQ),(18,e88),(17,e90),(13,(.v 13)),(16,(.v 16)),(8,aAJ),(7,aAK),(15,(.v 15)),(14,aAL),(6,aAM),(5,aAN),(19,dE),(4,bB)],[],[(6,aAO),(5,bF)]⟩)
theorem aUO:(cE Try.prog G Gh eD ehs [] 3000 0 5 { eh0 with H:=uT }).map LT.bare=some wC:=by kernel_rfl
theorem aVx {ρ:Env} (hV:ρ=(eV x0 x1 x2 n o q r a b c d f g h i j k l m s t u v y A B C P Q L M)) (hB:aO x0 x1 x2 n o q r A B C P Q) (hJ:eJ0 n o q r a b c d f g h i j k l m s t u v y A B C P Q L M) (hH:Hyp.ok uT ρ) (hF0:0≤a∧a≤9223372036854775806) (hG0:a<r) :
 eW x0 x1 x2 ρ wC:=by
 simp only [eW,wC,LT.holds,aQ]
 have hB3:=hB
 have hJ3:=hJ
 simp only [aO] at hB3
 simp only [eJ0] at hJ3
 obtain ⟨b0,b1,b2,b3,c0,c1,c2,c3,c4,_⟩:=hB3
 obtain ⟨l4,l5,l6,l7,l8,l9,l10,l11,l12,l13,l14,l15,l16,l17,l18,l19,l20,m5,m6,hk,_⟩:=hJ3
 refine ⟨dU,⟨n,o,q,r,(E.i ρ bB),(E.i ρ aAN),(E.i ρ aAM),(E.i ρ aAK),(E.i ρ aAJ),(E.i ρ dQ),(E.i ρ bX),(E.i ρ lC),(E.i ρ lB),k,(E.i ρ aAL),m,s,(E.i ρ e90),(E.i ρ e88),(E.i ρ dE),y,A,B,C,P,Q,(E.a ρ bF),(E.a ρ aAO),?_,hB,?_⟩,?_⟩ <;> subst hV
 ·kernel_rfl
 ·exact ⟨(show 0≤a+1∧a+1≤9223372036854775807 by omega),(aB hH (by kernel_rfl)),(aB hH (by kernel_rfl)),(eI (eI l7 (eI (aB hH (by kernel_rfl)) l7)) (bOr (iO (aB hH (by kernel_rfl)) (aB hH (by kernel_rfl))) (aB hH (by kernel_rfl)))),(aB hH (by kernel_rfl)),(aB hH (by kernel_rfl)),(aB hH (by kernel_rfl)),(aB hH (by kernel_rfl)),(aB hH (by kernel_rfl)),l13,(aB hH (by kernel_rfl)),l15,l16,(aB hH (by kernel_rfl)),(aB hH (by kernel_rfl)),(aB hH (by kernel_rfl)),l20,(aM hH (by kernel_rfl)),(aM hH (by kernel_rfl)),(show a+1≤r by omega),trivial⟩
 exact Nat.lt_of_le_of_lt (Nat.le_of_eq (m:=(r-(a+1)).toNat) (by kernel_rfl)) (Nat.lt_of_lt_of_eq (show (r-(a+1)).toNat<(r-a).toNat by omega) (by kernel_rfl))
noncomputable def uU:Hyp:={ eh0.H with e:=[((.v 4),(0,9223372036854775806)),(e4,(0,0)),(e6,(8,15)),(e18,(0,7)),(fO,(1,1))]++eh0.H.e,b:=[(e7,true)]++eh0.H.b }
noncomputable def wE:LT:=(.jump 0 eT0 ⟨[(20,(.v 20)),(12,kZ),(11,lA),(10,bX),(9,(.v 9)),(18,aAP),(17,aAQ),(13,aAR),(16,aAS),(8,e93),(7,gI),(15,aAT),(14,(.v 14)),(6,uK),(5,uL),(19,dE),(4,bB)],[],[(6,aAU),(5,bF)]⟩)
theorem aUP:(cE Try.prog G Gh eD ehs [] 3000 0 5 { eh0 with H:=uU }).map LT.bare=some wE:=by kernel_rfl
theorem aVy {ρ:Env} (hV:ρ=(eV x0 x1 x2 n o q r a b c d f g h i j k l m s t u v y A B C P Q L M)) (hB:aO x0 x1 x2 n o q r A B C P Q) (hJ:eJ0 n o q r a b c d f g h i j k l m s t u v y A B C P Q L M) (hH:Hyp.ok uU ρ) (hF0:0≤a∧a≤9223372036854775806) (hG0:a<r) :
 eW x0 x1 x2 ρ wE:=by
 simp only [eW,wE,LT.holds,aQ]
 have hB3:=hB
 have hJ3:=hJ
 simp only [aO] at hB3
 simp only [eJ0] at hJ3
 obtain ⟨b0,b1,b2,b3,c0,c1,c2,c3,c4,_⟩:=hB3
 obtain ⟨l4,l5,l6,l7,l8,l9,l10,l11,l12,l13,l14,l15,l16,l17,l18,l19,l20,m5,m6,hk,_⟩:=hJ3
 refine ⟨dU,⟨n,o,q,r,(E.i ρ bB),(E.i ρ uL),(E.i ρ uK),(E.i ρ gI),(E.i ρ e93),g,(E.i ρ bX),(E.i ρ lA),(E.i ρ kZ),(E.i ρ aAR),l,(E.i ρ aAT),(E.i ρ aAS),(E.i ρ aAQ),(E.i ρ aAP),(E.i ρ dE),y,A,B,C,P,Q,(E.a ρ bF),(E.a ρ aAU),?_,hB,?_⟩,?_⟩ <;> subst hV
 ·kernel_rfl
 ·exact ⟨(show 0≤a+1∧a+1≤9223372036854775807 by omega),(aB hH (by kernel_rfl)),(aB hH (by kernel_rfl)),(bOr (iO (aB hH (by kernel_rfl)) (aB hH (by kernel_rfl))) (aB hH (by kernel_rfl))),(aB hH (by kernel_rfl)),l9,(aB hH (by kernel_rfl)),(aB hH (by kernel_rfl)),(aB hH (by kernel_rfl)),(aB hH (by kernel_rfl)),l14,(aB hH (by kernel_rfl)),(aB hH (by kernel_rfl)),(aB hH (by kernel_rfl)),(aB hH (by kernel_rfl)),(aB hH (by kernel_rfl)),l20,(aM hH (by kernel_rfl)),(aM hH (by kernel_rfl)),(show a+1≤r by omega),trivial⟩
 exact Nat.lt_of_le_of_lt (Nat.le_of_eq (m:=(r-(a+1)).toNat) (by kernel_rfl)) (Nat.lt_of_lt_of_eq (show (r-(a+1)).toNat<(r-a).toNat by omega) (by kernel_rfl))
noncomputable def uV:Hyp:={ eh0.H with e:=[((.v 4),(0,9223372036854775806)),(e4,(0,0)),(e6,(8,15)),(e18,(0,7)),(fO,((-9223372036854775808),0))]++eh0.H.e,b:=[(e7,true)]++eh0.H.b }
noncomputable def wF:LT:=(.jump 0 eT0 ⟨[(20,(.v 20)),(12,kZ),(11,lA),(10,bX),(9,dQ),(18,aAP),(17,aAQ),(13,aAR),(16,aAS),(8,e93),(7,gI),(15,aAT),(14,(.v 14)),(6,uK),(5,uL),(19,dE),(4,bB)],[],[(6,aAU),(5,bF)]⟩)
theorem aUQ:(cE Try.prog G Gh eD ehs [] 3000 0 5 { eh0 with H:=uV }).map LT.bare=some wF:=by kernel_rfl
theorem aVz {ρ:Env} (hV:ρ=(eV x0 x1 x2 n o q r a b c d f g h i j k l m s t u v y A B C P Q L M)) (hB:aO x0 x1 x2 n o q r A B C P Q) (hJ:eJ0 n o q r a b c d f g h i j k l m s t u v y A B C P Q L M) (hH:Hyp.ok uV ρ) (hF0:0≤a∧a≤9223372036854775806) (hG0:a<r) :
 eW x0 x1 x2 ρ wF:=by
 simp only [eW,wF,LT.holds,aQ]
 have hB3:=hB
 have hJ3:=hJ
 simp only [aO] at hB3
 simp only [eJ0] at hJ3
 obtain ⟨b0,b1,b2,b3,c0,c1,c2,c3,c4,_⟩:=hB3
 obtain ⟨l4,l5,l6,l7,l8,l9,l10,l11,l12,l13,l14,l15,l16,l17,l18,l19,l20,m5,m6,hk,_⟩:=hJ3
 refine ⟨dU,⟨n,o,q,r,(E.i ρ bB),(E.i ρ uL),(E.i ρ uK),(E.i ρ gI),(E.i ρ e93),(E.i ρ dQ),(E.i ρ bX),(E.i ρ lA),(E.i ρ kZ),(E.i ρ aAR),l,(E.i ρ aAT),(E.i ρ aAS),(E.i ρ aAQ),(E.i ρ aAP),(E.i ρ dE),y,A,B,C,P,Q,(E.a ρ bF),(E.a ρ aAU),?_,hB,?_⟩,?_⟩ <;> subst hV
 ·kernel_rfl
 ·exact ⟨(show 0≤a+1∧a+1≤9223372036854775807 by omega),(aB hH (by kernel_rfl)),(aB hH (by kernel_rfl)),(bOr (iO (aB hH (by kernel_rfl)) (aB hH (by kernel_rfl))) (aB hH (by kernel_rfl))),(aB hH (by kernel_rfl)),(aB hH (by kernel_rfl)),(aB hH (by kernel_rfl)),(aB hH (by kernel_rfl)),(aB hH (by kernel_rfl)),(aB hH (by kernel_rfl)),l14,(aB hH (by kernel_rfl)),(aB hH (by kernel_rfl)),(aB hH (by kernel_rfl)),(aB hH (by kernel_rfl)),(aB hH (by kernel_rfl)),l20,(aM hH (by kernel_rfl)),(aM hH (by kernel_rfl)),(show a+1≤r by omega),trivial⟩
 exact Nat.lt_of_le_of_lt (Nat.le_of_eq (m:=(r-(a+1)).toNat) (by kernel_rfl)) (Nat.lt_of_lt_of_eq (show (r-(a+1)).toNat<(r-a).toNat by omega) (by kernel_rfl))
noncomputable def uW:Hyp:={ eh0.H with e:=[((.v 4),(0,9223372036854775806)),(e4,(0,0)),(e6,(8,15)),(e18,(0,7)),(fO,(2,9223372036854775807))]++eh0.H.e,b:=[(e7,true)]++eh0.H.b }
noncomputable def wG:LT:=(.jump 0 eT0 ⟨[(20,(.v 20)),(12,kZ),(11,lA),(10,bX),(9,dQ),(18,aAP),(17,aAQ),(13,aAR),(16,aAS),(8,e93),(7,gI),(15,aAT),(14,(.v 14)),(6,uK),(5,uL),(19,dE),(4,bB)],[],[(6,aAU),(5,bF)]⟩)
theorem aUR:(cE Try.prog G Gh eD ehs [] 3000 0 5 { eh0 with H:=uW }).map LT.bare=some wG:=by kernel_rfl
theorem aVA {ρ:Env} (hV:ρ=(eV x0 x1 x2 n o q r a b c d f g h i j k l m s t u v y A B C P Q L M)) (hB:aO x0 x1 x2 n o q r A B C P Q) (hJ:eJ0 n o q r a b c d f g h i j k l m s t u v y A B C P Q L M) (hH:Hyp.ok uW ρ) (hF0:0≤a∧a≤9223372036854775806) (hG0:a<r) :
 eW x0 x1 x2 ρ wG:=by
 simp only [eW,wG,LT.holds,aQ]
 have hB3:=hB
 have hJ3:=hJ
 simp only [aO] at hB3
 simp only [eJ0] at hJ3
 obtain ⟨b0,b1,b2,b3,c0,c1,c2,c3,c4,_⟩:=hB3
 obtain ⟨l4,l5,l6,l7,l8,l9,l10,l11,l12,l13,l14,l15,l16,l17,l18,l19,l20,m5,m6,hk,_⟩:=hJ3
 refine ⟨dU,⟨n,o,q,r,(E.i ρ bB),(E.i ρ uL),(E.i ρ uK),(E.i ρ gI),(E.i ρ e93),(E.i ρ dQ),(E.i ρ bX),(E.i ρ lA),(E.i ρ kZ),(E.i ρ aAR),l,(E.i ρ aAT),(E.i ρ aAS),(E.i ρ aAQ),(E.i ρ aAP),(E.i ρ dE),y,A,B,C,P,Q,(E.a ρ bF),(E.a ρ aAU),?_,hB,?_⟩,?_⟩ <;> subst hV
 ·kernel_rfl
 ·exact ⟨(show 0≤a+1∧a+1≤9223372036854775807 by omega),(aB hH (by kernel_rfl)),(aB hH (by kernel_rfl)),(bOr (iO (aB hH (by kernel_rfl)) (aB hH (by kernel_rfl))) (aB hH (by kernel_rfl))),(aB hH (by kernel_rfl)),(aB hH (by kernel_rfl)),(aB hH (by kernel_rfl)),(aB hH (by kernel_rfl)),(aB hH (by kernel_rfl)),(aB hH (by kernel_rfl)),l14,(aB hH (by kernel_rfl)),(aB hH (by kernel_rfl)),(aB hH (by kernel_rfl)),(aB hH (by kernel_rfl)),(aB hH (by kernel_rfl)),l20,(aM hH (by kernel_rfl)),(aM hH (by kernel_rfl)),(show a+1≤r by omega),trivial⟩
 exact Nat.lt_of_le_of_lt (Nat.le_of_eq (m:=(r-(a+1)).toNat) (by kernel_rfl)) (Nat.lt_of_lt_of_eq (show (r-(a+1)).toNat<(r-a).toNat by omega) (by kernel_rfl))
end Go.Proofs.Ytcckecfjjccffaa.SignalCommutes
