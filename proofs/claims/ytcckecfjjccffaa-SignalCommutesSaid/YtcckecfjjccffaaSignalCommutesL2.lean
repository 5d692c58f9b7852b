/- A part of the law SignalCommutes, which returns true for every input. A step that touches nothing shared is the same whether the main side takes or gives a byte ahead of it or behind it. No condition. -/
import Derived.Test.YtcckecfjjccffaaSignalCommutesB
namespace Go.Proofs.Ytcckecfjjccffaa.SignalCommutes
open Go.Sx Go.ChangeShapes Go.WideShapes Go.ChangeAt Go.RowKit
set_option linter.unusedVariables false
set_option linter.unusedSimpArgs false
set_option maxRecDepth 100000
set_option maxHeartbeats 40000000
variable {x0:Ext} {x1:Ext} {x2:Ext} {n o q r a b c d f g h i j k l m s t u v y:Int} {A B C P Q L M:Nat→Int}
noncomputable def vG:Hyp:={ eh0.H with e:=[((.v 4),(0,9223372036854775806)),(e4,(1,1)),(e6,(8,15)),(e18,(0,7)),(fO,(1,1))]++eh0.H.e,b:=[(e7,true)]++eh0.H.b }
noncomputable def wQ:LT:=(.jump 0 eT0 ⟨[(20,iC),(12,kZ),(11,lA),(10,bX),(9,(.v 9)),(18,aAP),(17,aAQ),(13,aAR),(16,aAS),(8,e93),(7,gI),(15,aAT),(14,(.v 14)),(6,uK),(5,uL),(19,iM),(4,bB)],[],[(6,aAU),(5,bF)]⟩)
theorem aVb:(cE Try.prog G Gh eD ehs [] 3000 0 5 { eh0 with H:=vG }).map LT.bare=some wQ:=by kernel_rfl
theorem aVK {ρ:Env} (hV:ρ=(eV x0 x1 x2 n o q r a b c d f g h i j k l m s t u v y A B C P Q L M)) (hB:aO x0 x1 x2 n o q r A B C P Q) (hJ:eJ0 n o q r a b c d f g h i j k l m s t u v y A B C P Q L M) (hH:Hyp.ok vG ρ) (hF0:0≤a∧a≤9223372036854775806) (hG0:a<r) :
 eW x0 x1 x2 ρ wQ:=by
 simp only [eW,wQ,LT.holds,aQ]
 have hB3:=hB
 have hJ3:=hJ
 simp only [aO] at hB3
 simp only [eJ0] at hJ3
 obtain ⟨b0,b1,b2,b3,c0,c1,c2,c3,c4,_⟩:=hB3
 obtain ⟨l4,l5,l6,l7,l8,l9,l10,l11,l12,l13,l14,l15,l16,l17,l18,l19,l20,m5,m6,hk,_⟩:=hJ3
 refine ⟨dU,⟨n,o,q,r,(E.i ρ bB),(E.i ρ uL),(E.i ρ uK),(E.i ρ gI),(E.i ρ e93),g,(E.i ρ bX),(E.i ρ lA),(E.i ρ kZ),(E.i ρ aAR),l,(E.i ρ aAT),(E.i ρ aAS),(E.i ρ aAQ),(E.i ρ aAP),(E.i ρ iM),(E.i ρ iC),A,B,C,P,Q,(E.a ρ bF),(E.a ρ aAU),?_,hB,?_⟩,?_⟩ <;> subst hV
 ·kernel_rfl
 ·exact ⟨(show 0≤a+1∧a+1≤9223372036854775807 by omega),(aB hH (by kernel_rfl)),(aB hH (by kernel_rfl)),(bOr (iO (aB hH (by kernel_rfl)) (aB hH (by kernel_rfl))) (aB hH (by kernel_rfl))),(aB hH (by kernel_rfl)),l9,(aB hH (by kernel_rfl)),(aB hH (by kernel_rfl)),(aB hH (by kernel_rfl)),(aB hH (by kernel_rfl)),l14,(aB hH (by kernel_rfl)),(aB hH (by kernel_rfl)),(aB hH (by kernel_rfl)),(aB hH (by kernel_rfl)),(aB hH (by kernel_rfl)),(aB hH (by kernel_rfl)),(aM hH (by kernel_rfl)),(aM hH (by kernel_rfl)),(show a+1≤r by omega),trivial⟩
 exact Nat.lt_of_le_of_lt (Nat.le_of_eq (m:=(r-(a+1)).toNat) (by kernel_rfl)) (Nat.lt_of_lt_of_eq (show (r-(a+1)).toNat<(r-a).toNat by omega) (by kernel_rfl))
noncomputable def vH:Hyp:={ eh0.H with e:=[((.v 4),(0,9223372036854775806)),(e4,(1,1)),(e6,(8,15)),(e18,(0,7)),(fO,((-9223372036854775808),0))]++eh0.H.e,b:=[(e7,true)]++eh0.H.b }
noncomputable def wR:LT:=(.jump 0 eT0 ⟨[(20,iC),(12,kZ),(11,lA),(10,bX),(9,dQ),(18,aAP),(17,aAQ),(13,aAR),(16,aAS),(8,e93),(7,gI),(15,aAT),(14,(.v 14)),(6,uK),(5,uL),(19,iM),(4,bB)],[],[(6,aAU),(5,bF)]⟩)
theorem aVc:(cE Try.prog G Gh eD ehs [] 3000 0 5 { eh0 with H:=vH }).map LT.bare=some wR:=by kernel_rfl
theorem aVL {ρ:Env} (hV:ρ=(eV x0 x1 x2 n o q r a b c d f g h i j k l m s t u v y A B C P Q L M)) (hB:aO x0 x1 x2 n o q r A B C P Q) (hJ:eJ0 n o q r a b c d f g h i j k l m s t u v y A B C P Q L M) (hH:Hyp.ok vH ρ) (hF0:0≤a∧a≤9223372036854775806) (hG0:a<r) :
 eW x0 x1 x2 ρ wR:=by
 simp only [eW,wR,LT.holds,aQ]
 have hB3:=hB
 have hJ3:=hJ
 simp only [aO] at hB3
 simp only [eJ0] at hJ3
 obtain ⟨b0,b1,b2,b3,c0,c1,c2,c3,c4,_⟩:=hB3
 obtain ⟨l4,l5,l6,l7,l8,l9,l10,l11,l12,l13,l14,l15,l16,l17,l18,l19,l20,m5,m6,hk,_⟩:=hJ3
 refine ⟨dU,⟨n,o,q,r,(E.i ρ bB),(E.i ρ uL),(E.i ρ uK),(E.i ρ gI),(E.i ρ e93),(E.i ρ dQ),(E.i ρ bX),(E.i ρ lA),(E.i ρ kZ),(E.i ρ aAR),l,(E.i ρ aAT),(E.i ρ aAS),(E.i ρ aAQ),(E.i ρ aAP),(E.i ρ iM),(E.i ρ iC),A,B,C,P,Q,(E.a ρ bF),(E.a ρ aAU),?_,hB,?_⟩,?_⟩ <;> subst hV
 ·kernel_rfl
 ·exact ⟨(show 0≤a+1∧a+1≤9223372036854775807 by omega),(aB hH (by kernel_rfl)),(aB hH (by kernel_rfl)),(bOr (iO (aB hH (by kernel_rfl)) (aB hH (by kernel_rfl))) (aB hH (by kernel_rfl))),(aB hH (by kernel_rfl)),(aB hH (by kernel_rfl)),(aB hH (by kernel_rfl)),(aB hH (by kernel_rfl)),(aB hH (by kernel_rfl)),(aB hH (by kernel_rfl)),l14,(aB hH (by kernel_rfl)),(aB hH (by kernel_rfl)),(aB hH (by kernel_rfl)),(aB hH (by kernel_rfl)),(aB hH (by kernel_rfl)),(aB hH (by kernel_rfl)),(aM hH (by kernel_rfl)),(aM hH (by kernel_rfl)),(show a+1≤r by omega),trivial⟩
 exact Nat.lt_of_le_of_lt (Nat.le_of_eq (m:=(r-(a+1)).toNat) (by kernel_rfl)) (Nat.lt_of_lt_of_eq (show (r-(a+1)).toNat<(r-a).toNat by omega) (by kernel_rfl))
noncomputable def vI:Hyp:={ eh0.H with e:=[((.v 4),(0,9223372036854775806)),(e4,(1,1)),(e6,(8,15)),(e18,(0,7)),(fO,(2,9223372036854775807))]++eh0.H.e,b:=[(e7,true)]++eh0.H.b }
noncomputable def wS:LT:=(.jump 0 eT0 ⟨[(20,iC),(12,kZ),(11,lA),(10,bX),(9,dQ),(18,aAP),(17,aAQ),(13,aAR),(16,aAS),(8,e93),(7,gI),(15,aAT),(14,(.v 14)),(6,uK),(5,uL),(19,iM),(4,bB)],[],[(6,aAU),(5,bF)]⟩)
theorem aVd:(cE Try.prog G Gh eD ehs [] 3000 0 5 { eh0 with H:=vI }).map LT.bare=some wS:=by kernel_rfl
theorem aVM {ρ:Env} (hV:ρ=(eV x0 x1 x2 n o q r a b c d f g h i j k l m s t u v y A B C P Q L M)) (hB:aO x0 x1 x2 n o q r A B C P Q) (hJ:eJ0 n o q r a b c d f g h i j k l m s t u v y A B C P Q L M) (hH:Hyp.ok vI ρ) (hF0:0≤a∧a≤9223372036854775806) (hG0:a<r) :
 eW x0 x1 x2 ρ wS:=by
 simp only [eW,wS,LT.holds,aQ]
 have hB3:=hB
 have hJ3:=hJ
 simp only [aO] at hB3
 simp only [eJ0] at hJ3
 obtain ⟨b0,b1,b2,b3,c0,c1,c2,c3,c4,_⟩:=hB3
 obtain ⟨l4,l5,l6,l7,l8,l9,l10,l11,l12,l13,l14,l15,l16,l17,l18,l19,l20,m5,m6,hk,_⟩:=hJ3
 refine ⟨dU,⟨n,o,q,r,(E.i ρ bB),(E.i ρ uL),(E.i ρ uK),(E.i ρ gI),(E.i ρ e93),(E.i ρ dQ),(E.i ρ bX),(E.i ρ lA),(E.i ρ kZ),(E.i ρ aAR),l,(E.i ρ aAT),(E.i ρ aAS),(E.i ρ aAQ),(E.i ρ aAP),(E.i ρ iM),(E.i ρ iC),A,B,C,P,Q,(E.a ρ bF),(E.a ρ aAU),?_,hB,?_⟩,?_⟩ <;> subst hV
 ·kernel_rfl
 ·exact ⟨(show 0≤a+1∧a+1≤9223372036854775807 by omega),(aB hH (by kernel_rfl)),(aB hH (by kernel_rfl)),(bOr (iO (aB hH (by kernel_rfl)) (aB hH (by kernel_rfl))) (aB hH (by kernel_rfl))),(aB hH (by kernel_rfl)),(aB hH (by kernel_rfl)),(aB hH (by kernel_rfl)),(aB hH (by kernel_rfl)),(aB hH (by kernel_rfl)),(aB hH (by kernel_rfl)),l14,(aB hH (by kernel_rfl)),(aB hH (by kernel_rfl)),(aB hH (by kernel_rfl)),(aB hH (by kernel_rfl)),(aB hH (by kernel_rfl)),(aB hH (by kernel_rfl)),(aM hH (by kernel_rfl)),(aM hH (by kernel_rfl)),(show a+1≤r by omega),trivial⟩
 exact Nat.lt_of_le_of_lt (Nat.le_of_eq (m:=(r-(a+1)).toNat) (by kernel_rfl)) (Nat.lt_of_lt_of_eq (show (r-(a+1)).toNat<(r-a).toNat by omega) (by kernel_rfl))
noncomputable def vJ:Hyp:={ eh0.H with e:=[((.v 4),(0,9223372036854775806)),(e4,(1,1)),(e6,(8,15)),(e18,(11,15)),(fO,(1,1))]++eh0.H.e,b:=[(e7,true)]++eh0.H.b }
noncomputable def wT:LT:=(.jump 0 eT0 ⟨[(20,iC),(12,lB),(11,lC),(10,bX),(9,(.v 9)),(18,aAV),(17,aAW),(13,aAX),(16,aAY),(8,e93),(7,gI),(15,aAZ),(14,(.v 14)),(6,uM),(5,uN),(19,iM),(4,bB)],[],[(6,aBa),(5,bF)]⟩)
theorem aVe:(cE Try.prog G Gh eD ehs [] 3000 0 5 { eh0 with H:=vJ }).map LT.bare=some wT:=by kernel_rfl
theorem aVN {ρ:Env} (hV:ρ=(eV x0 x1 x2 n o q r a b c d f g h i j k l m s t u v y A B C P Q L M)) (hB:aO x0 x1 x2 n o q r A B C P Q) (hJ:eJ0 n o q r a b c d f g h i j k l m s t u v y A B C P Q L M) (hH:Hyp.ok vJ ρ) (hF0:0≤a∧a≤9223372036854775806) (hG0:a<r) :
 eW x0 x1 x2 ρ wT:=by
 simp only [eW,wT,LT.holds,aQ]
 have hB3:=hB
 have hJ3:=hJ
 simp only [aO] at hB3
 simp only [eJ0] at hJ3
 obtain ⟨b0,b1,b2,b3,c0,c1,c2,c3,c4,_⟩:=hB3
 obtain ⟨l4,l5,l6,l7,l8,l9,l10,l11,l12,l13,l14,l15,l16,l17,l18,l19,l20,m5,m6,hk,_⟩:=hJ3
 refine ⟨dU,⟨n,o,q,r,(E.i ρ bB),(E.i ρ uN),(E.i ρ uM),(E.i ρ gI),(E.i ρ e93),g,(E.i ρ bX),(E.i ρ lC),(E.i ρ lB),(E.i ρ aAX),l,(E.i ρ aAZ),(E.i ρ aAY),(E.i ρ aAW),(E.i ρ aAV),(E.i ρ iM),(E.i ρ iC),A,B,C,P,Q,(E.a ρ bF),(E.a ρ aBa),?_,hB,?_⟩,?_⟩ <;> subst hV
 ·kernel_rfl
 ·exact ⟨(show 0≤a+1∧a+1≤9223372036854775807 by omega),(aB hH (by kernel_rfl)),(aB hH (by kernel_rfl)),(bOr (iO (aB hH (by kernel_rfl)) (aB hH (by kernel_rfl))) (aB hH (by kernel_rfl))),(aB hH (by kernel_rfl)),l9,(aB hH (by kernel_rfl)),(aB hH (by kernel_rfl)),(aB hH (by kernel_rfl)),(aB hH (by kernel_rfl)),l14,(aB hH (by kernel_rfl)),(aB hH (by kernel_rfl)),(aB hH (by kernel_rfl)),(aB hH (by kernel_rfl)),(aB hH (by kernel_rfl)),(aB hH (by kernel_rfl)),(aM hH (by kernel_rfl)),(aM hH (by kernel_rfl)),(show a+1≤r by omega),trivial⟩
 exact Nat.lt_of_le_of_lt (Nat.le_of_eq (m:=(r-(a+1)).toNat) (by kernel_rfl)) (Nat.lt_of_lt_of_eq (show (r-(a+1)).toNat<(r-a).toNat by omega) (by kernel_rfl))
noncomputable def vK:Hyp:={ eh0.H with e:=[((.v 4),(0,9223372036854775806)),(e4,(1,1)),(e6,(8,15)),(e18,(11,15)),(fO,((-9223372036854775808),0))]++eh0.H.e,b:=[(e7,true)]++eh0.H.b }
noncomputable def wU:LT:=(.jump 0 eT0 ⟨[(20,iC),(12,lB),(11,lC),(10,bX),(9,dQ),(18,aAV),(17,aAW),(13,aAX),(16,aAY),(8,e93),(7,gI),(15,aAZ),(14,(.v 14)),(6,uM),(5,uN),(19,iM),(4,bB)],[],[(6,aBa),(5,bF)]⟩)
theorem aVf:(cE Try.prog G Gh eD ehs [] 3000 0 5 { eh0 with H:=vK }).map LT.bare=some wU:=by kernel_rfl
theorem aVO {ρ:Env} (hV:ρ=(eV x0 x1 x2 n o q r a b c d f g h i j k l m s t u v y A B C P Q L M)) (hB:aO x0 x1 x2 n o q r A B C P Q) (hJ:eJ0 n o q r a b c d f g h i j k l m s t u v y A B C P Q L M) (hH:Hyp.ok vK ρ) (hF0:0≤a∧a≤9223372036854775806) (hG0:a<r) :
 eW x0 x1 x2 ρ wU:=by
 simp only [eW,wU,LT.holds,aQ]
 have hB3:=hB
 have hJ3:=hJ
 simp only [aO] at hB3
 simp only [eJ0] at hJ3
 obtain ⟨b0,b1,b2,b3,c0,c1,c2,c3,c4,_⟩:=hB3
 obtain ⟨l4,l5,l6,l7,l8,l9,l10,l11,l12,l13,l14,l15,l16,l17,l18,l19,l20,m5,m6,hk,_⟩:=hJ3
 refine ⟨dU,⟨n,o,q,r,(E.i ρ bB),(E.i ρ uN),(E.i ρ uM),(E.i ρ gI),(E.i ρ e93),(E.i ρ dQ),(E.i ρ bX),(E.i ρ lC),(E.i ρ lB),(E.i ρ aAX),l,(E.i ρ aAZ),(E.i ρ aAY),(E.i ρ aAW),(E.i ρ aAV),(E.i ρ iM),(E.i ρ iC),A,B,C,P,Q,(E.a ρ bF),(E.a ρ aBa),?_,hB,?_⟩,?_⟩ <;> subst hV
 ·kernel_rfl
 ·exact ⟨(show 0≤a+1∧a+1≤9223372036854775807 by omega),(aB hH (by kernel_rfl)),(aB hH (by kernel_rfl)),(bOr (iO (aB hH (by kernel_rfl)) (aB hH (by kernel_rfl))) (aB hH (by kernel_rfl))),(aB hH (by kernel_rfl)),(aB hH (by kernel_rfl)),(aB hH (by kernel_rfl)),(aB hH (by kernel_rfl)),(aB hH (by kernel_rfl)),(aB hH (by kernel_rfl)),l14,(aB hH (by kernel_rfl)),(aB hH (by kernel_rfl)),(aB hH (by kernel_rfl)),(aB hH (by kernel_rfl)),(aB hH (by kernel_rfl)),(aB hH (by kernel_rfl)),(aM hH (by kernel_rfl)),(aM hH (by kernel_rfl)),(show a+1≤r by omega),trivial⟩
 exact Nat.lt_of_le_of_lt (Nat.le_of_eq (m:=(r-(a+1)).toNat) (by kernel_rfl)) (Nat.lt_of_lt_of_eq (show (r-(a+1)).toNat<(r-a).toNat by omega) (by kernel_rfl))
noncomputable def vL:Hyp:={ eh0.H with e:=[((.v 4),(0,9223372036854775806)),(e4,(1,1)),(e6,(8,15)),(e18,(11,15)),(fO,(2,9223372036854775807))]++eh0.H.e,b:=[(e7,true)]++eh0.H.b }
noncomputable def wV:LT:=(.jump 0 eT0 ⟨[(20,iC),(12,lB),(11,lC),(10,bX),(9,dQ),(18,aAV),(17,aAW),(13,aAX),(16,aAY),(8,e93),(7,gI),(15,aAZ),(14,(.v 14)),(6,uM),(5,uN),(19,iM),(4,bB)],[],[(6,aBa),(5,bF)]⟩)
theorem aVg:(cE Try.prog G Gh eD ehs [] 3000 0 5 { eh0 with H:=vL }).map LT.bare=some wV:=by kernel_rfl
theorem aVP {ρ:Env} (hV:ρ=(eV x0 x1 x2 n o q r a b c d f g h i j k l m s t u v y A B C P Q L M)) (hB:aO x0 x1 x2 n o q r A B C P Q) (hJ:eJ0 n o q r a b c d f g h i j k l m s t u v y A B C P Q L M) (hH:Hyp.ok vL ρ) (hF0:0≤a∧a≤9223372036854775806) (hG0:a<r) :
 eW x0 x1 x2 ρ wV:=by
 simp only [eW,wV,LT.holds,aQ]
 have hB3:=hB
 have hJ3:=hJ
 simp only [aO] at hB3
 simp only [eJ0] at hJ3
 obtain ⟨b0,b1,b2,b3,c0,c1,c2,c3,c4,_⟩:=hB3
 obtain ⟨l4,l5,l6,l7,l8,l9,l10,l11,l12,l13,l14,l15,l16,l17,l18,l19,l20,m5,m6,hk,_⟩:=hJ3
 refine ⟨dU,⟨n,o,q,r,(E.i ρ bB),(E.i ρ uN),(E.i ρ uM),(E.i ρ gI),(E.i ρ e93),(E.i ρ dQ),(E.i ρ bX),(E.i ρ lC),(E.i ρ lB),(E.i ρ aAX),l,(E.i ρ aAZ),(E.i ρ aAY),(E.i ρ aAW),(E.i ρ aAV),(E.i ρ iM),(E.i ρ iC),A,B,C,P,Q,(E.a ρ bF),(E.a ρ aBa),?_,hB,?_⟩,?_⟩ <;> subst hV
 ·kernel_rfl
 ·exact ⟨(show 0≤a+1∧a+1≤9223372036854775807 by omega),(aB hH (by kernel_rfl)),(aB hH (by kernel_rfl)),(bOr (iO (aB hH (by kernel_rfl)) (aB hH (by kernel_rfl))) (aB hH (by kernel_rfl))),(aB hH (by kernel_rfl)),(aB hH (by kernel_rfl)),(aB hH (by kernel_rfl)),(aB hH (by kernel_rfl)),(aB hH (by kernel_rfl)),(aB hH (by kernel_rfl)),l14,(aB hH (by kernel_rfl)),(aB hH (by kernel_rfl)),(aB hH (by kernel_rfl)),(aB hH (by kernel_rfl)),(aB hH (by kernel_rfl)),(aB hH (by kernel_rfl)),(aM hH (by kernel_rfl)),(aM hH (by kernel_rfl)),(show a+1≤r by omega),trivial⟩
 exact Nat.lt_of_le_of_lt (Nat.le_of_eq (m:=(r-(a+1)).toNat) (by kernel_rfl)) (Nat.lt_of_lt_of_eq (show (r-(a+1)).toNat<(r-a).toNat by omega) (by kernel_rfl))
noncomputable def vM:Hyp:={ eh0.H with e:=[((.v 4),(0,9223372036854775806)),(e4,(2,2)),(fH,(188,188))]++eh0.H.e,b:=[(e7,true)]++eh0.H.b }
noncomputable def wW:LT:=(.jump 0 eT0 ⟨[(20,(.v 20)),(12,(.v 12)),(11,(.v 11)),(10,(.v 10)),(9,(.v 9)),(18,(.v 18)),(17,(.v 17)),(13,(.v 13)),(16,(.v 16)),(8,(.v 8)),(7,(.v 7)),(15,(.v 15)),(14,(.v 14)),(6,(.v 6)),(5,(.v 5)),(19,bRu),(4,bB)],[],[(6,gT),(5,bF)]⟩)
theorem aVh:(cE Try.prog G Gh eD ehs [] 3000 0 5 { eh0 with H:=vM }).map LT.bare=some wW:=by kernel_rfl
theorem aVQ {ρ:Env} (hV:ρ=(eV x0 x1 x2 n o q r a b c d f g h i j k l m s t u v y A B C P Q L M)) (hB:aO x0 x1 x2 n o q r A B C P Q) (hJ:eJ0 n o q r a b c d f g h i j k l m s t u v y A B C P Q L M) (hH:Hyp.ok vM ρ) (hF0:0≤a∧a≤9223372036854775806) (hG0:a<r) :
 eW x0 x1 x2 ρ wW:=by
 simp only [eW,wW,LT.holds,aQ]
 have hB3:=hB
 have hJ3:=hJ
 simp only [aO] at hB3
 simp only [eJ0] at hJ3
 obtain ⟨b0,b1,b2,b3,c0,c1,c2,c3,c4,_⟩:=hB3
 obtain ⟨l4,l5,l6,l7,l8,l9,l10,l11,l12,l13,l14,l15,l16,l17,l18,l19,l20,m5,m6,hk,_⟩:=hJ3
 refine ⟨dU,⟨n,o,q,r,(E.i ρ bB),b,c,d,f,g,h,i,j,k,l,m,s,t,u,(E.i ρ bRu),y,A,B,C,P,Q,(E.a ρ bF),(E.a ρ gT),?_,hB,?_⟩,?_⟩ <;> subst hV
 ·kernel_rfl
 ·exact ⟨(show 0≤a+1∧a+1≤9223372036854775807 by omega),l5,l6,l7,l8,l9,l10,l11,l12,l13,l14,l15,l16,l17,l18,(aB hH (by kernel_rfl)),l20,(aM hH (by kernel_rfl)),(aM hH (by kernel_rfl)),(show a+1≤r by omega),trivial⟩
 exact Nat.lt_of_le_of_lt (Nat.le_of_eq (m:=(r-(a+1)).toNat) (by kernel_rfl)) (Nat.lt_of_lt_of_eq (show (r-(a+1)).toNat<(r-a).toNat by omega) (by kernel_rfl))
noncomputable def vN:Hyp:={ eh0.H with e:=[((.v 4),(0,9223372036854775806)),(e4,(2,2)),(fH,(190,190))]++eh0.H.e,b:=[(e7,true)]++eh0.H.b }
noncomputable def wX:LT:=(.jump 0 eT0 ⟨[(20,(.v 20)),(12,(.v 12)),(11,(.v 11)),(10,(.v 10)),(9,(.v 9)),(18,(.v 18)),(17,(.v 17)),(13,(.v 13)),(16,(.v 16)),(8,(.v 8)),(7,(.v 7)),(15,(.v 15)),(14,(.v 14)),(6,(.v 6)),(5,(.v 5)),(19,bRv),(4,bB)],[],[(6,gT),(5,bF)]⟩)
theorem aVi:(cE Try.prog G Gh eD ehs [] 3000 0 5 { eh0 with H:=vN }).map LT.bare=some wX:=by kernel_rfl
theorem aVR {ρ:Env} (hV:ρ=(eV x0 x1 x2 n o q r a b c d f g h i j k l m s t u v y A B C P Q L M)) (hB:aO x0 x1 x2 n o q r A B C P Q) (hJ:eJ0 n o q r a b c d f g h i j k l m s t u v y A B C P Q L M) (hH:Hyp.ok vN ρ) (hF0:0≤a∧a≤9223372036854775806) (hG0:a<r) :
 eW x0 x1 x2 ρ wX:=by
 simp only [eW,wX,LT.holds,aQ]
 have hB3:=hB
 have hJ3:=hJ
 simp only [aO] at hB3
 simp only [eJ0] at hJ3
 obtain ⟨b0,b1,b2,b3,c0,c1,c2,c3,c4,_⟩:=hB3
 obtain ⟨l4,l5,l6,l7,l8,l9,l10,l11,l12,l13,l14,l15,l16,l17,l18,l19,l20,m5,m6,hk,_⟩:=hJ3
 refine ⟨dU,⟨n,o,q,r,(E.i ρ bB),b,c,d,f,g,h,i,j,k,l,m,s,t,u,(E.i ρ bRv),y,A,B,C,P,Q,(E.a ρ bF),(E.a ρ gT),?_,hB,?_⟩,?_⟩ <;> subst hV
 ·kernel_rfl
 ·exact ⟨(show 0≤a+1∧a+1≤9223372036854775807 by omega),l5,l6,l7,l8,l9,l10,l11,l12,l13,l14,l15,l16,l17,l18,(aB hH (by kernel_rfl)),l20,(aM hH (by kernel_rfl)),(aM hH (by kernel_rfl)),(show a+1≤r by omega),trivial⟩
 exact Nat.lt_of_le_of_lt (Nat.le_of_eq (m:=(r-(a+1)).toNat) (by kernel_rfl)) (Nat.lt_of_lt_of_eq (show (r-(a+1)).toNat<(r-a).toNat by omega) (by kernel_rfl))
noncomputable def vO:Hyp:={ eh0.H with e:=[((.v 4),(0,9223372036854775806)),(e4,(2,2)),(fH,(0,187)),(fO,(1,1))]++eh0.H.e,b:=[(e7,true)]++eh0.H.b }
noncomputable def wY:LT:=(.jump 0 eT0 ⟨[(20,(.v 20)),(12,(.v 12)),(11,(.v 11)),(10,bX),(9,(.v 9)),(18,(.v 18)),(17,(.v 17)),(13,(.v 13)),(16,(.v 16)),(8,(.v 8)),(7,(.v 7)),(15,(.v 15)),(14,(.v 14)),(6,(.v 6)),(5,(.v 5)),(19,aXC),(4,bB)],[],[(6,gT),(5,bF)]⟩)
theorem aVj:(cE Try.prog G Gh eD ehs [] 3000 0 5 { eh0 with H:=vO }).map LT.bare=some wY:=by kernel_rfl
theorem aVS {ρ:Env} (hV:ρ=(eV x0 x1 x2 n o q r a b c d f g h i j k l m s t u v y A B C P Q L M)) (hB:aO x0 x1 x2 n o q r A B C P Q) (hJ:eJ0 n o q r a b c d f g h i j k l m s t u v y A B C P Q L M) (hH:Hyp.ok vO ρ) (hF0:0≤a∧a≤9223372036854775806) (hG0:a<r) :
 eW x0 x1 x2 ρ wY:=by
 simp only [eW,wY,LT.holds,aQ]
 have hB3:=hB
 have hJ3:=hJ
 simp only [aO] at hB3
 simp only [eJ0] at hJ3
 obtain ⟨b0,b1,b2,b3,c0,c1,c2,c3,c4,_⟩:=hB3
 obtain ⟨l4,l5,l6,l7,l8,l9,l10,l11,l12,l13,l14,l15,l16,l17,l18,l19,l20,m5,m6,hk,_⟩:=hJ3
 refine ⟨dU,⟨n,o,q,r,(E.i ρ bB),b,c,d,f,g,(E.i ρ bX),i,j,k,l,m,s,t,u,(E.i ρ aXC),y,A,B,C,P,Q,(E.a ρ bF),(E.a ρ gT),?_,hB,?_⟩,?_⟩ <;> subst hV
 ·kernel_rfl
 ·exact ⟨(show 0≤a+1∧a+1≤9223372036854775807 by omega),l5,l6,l7,l8,l9,(aB hH (by kernel_rfl)),l11,l12,l13,l14,l15,l16,l17,l18,(aB hH (by kernel_rfl)),l20,(aM hH (by kernel_rfl)),(aM hH (by kernel_rfl)),(show a+1≤r by omega),trivial⟩
 exact Nat.lt_of_le_of_lt (Nat.le_of_eq (m:=(r-(a+1)).toNat) (by kernel_rfl)) (Nat.lt_of_lt_of_eq (show (r-(a+1)).toNat<(r-a).toNat by omega) (by kernel_rfl))
noncomputable def vP:Hyp:={ eh0.H with e:=[((.v 4),(0,9223372036854775806)),(e4,(2,2)),(fH,(0,187)),(fO,((-9223372036854775808),0))]++eh0.H.e,b:=[(e7,true)]++eh0.H.b }
noncomputable def wZ:LT:=(.jump 0 eT0 ⟨[(20,(.v 20)),(12,(.v 12)),(11,(.v 11)),(10,bX),(9,dQ),(18,(.v 18)),(17,(.v 17)),(13,(.v 13)),(16,(.v 16)),(8,(.v 8)),(7,(.v 7)),(15,(.v 15)),(14,(.v 14)),(6,(.v 6)),(5,(.v 5)),(19,aXC),(4,bB)],[],[(6,gT),(5,bF)]⟩)
theorem aVk:(cE Try.prog G Gh eD ehs [] 3000 0 5 { eh0 with H:=vP }).map LT.bare=some wZ:=by kernel_rfl
theorem aVT {ρ:Env} (hV:ρ=(eV x0 x1 x2 n o q r a b c d f g h i j k l m s t u v y A B C P Q L M)) (hB:aO x0 x1 x2 n o q r A B C P Q) (hJ:eJ0 n o q r a b c d f g h i j k l m s t u v y A B C P Q L M) (hH:Hyp.ok vP ρ) (hF0:0≤a∧a≤9223372036854775806) (hG0:a<r) :
 eW x0 x1 x2 ρ wZ:=by
 simp only [eW,wZ,LT.holds,aQ]
 have hB3:=hB
 have hJ3:=hJ
 simp only [aO] at hB3
 simp only [eJ0] at hJ3
 obtain ⟨b0,b1,b2,b3,c0,c1,c2,c3,c4,_⟩:=hB3
 obtain ⟨l4,l5,l6,l7,l8,l9,l10,l11,l12,l13,l14,l15,l16,l17,l18,l19,l20,m5,m6,hk,_⟩:=hJ3
 refine ⟨dU,⟨n,o,q,r,(E.i ρ bB),b,c,d,f,(E.i ρ dQ),(E.i ρ bX),i,j,k,l,m,s,t,u,(E.i ρ aXC),y,A,B,C,P,Q,(E.a ρ bF),(E.a ρ gT),?_,hB,?_⟩,?_⟩ <;> subst hV
 ·kernel_rfl
 ·exact ⟨(show 0≤a+1∧a+1≤9223372036854775807 by omega),l5,l6,l7,l8,(aB hH (by kernel_rfl)),(aB hH (by kernel_rfl)),l11,l12,l13,l14,l15,l16,l17,l18,(aB hH (by kernel_rfl)),l20,(aM hH (by kernel_rfl)),(aM hH (by kernel_rfl)),(show a+1≤r by omega),trivial⟩
 exact Nat.lt_of_le_of_lt (Nat.le_of_eq (m:=(r-(a+1)).toNat) (by kernel_rfl)) (Nat.lt_of_lt_of_eq (show (r-(a+1)).toNat<(r-a).toNat by omega) (by kernel_rfl))
noncomputable def vQ:Hyp:={ eh0.H with e:=[((.v 4),(0,9223372036854775806)),(e4,(2,2)),(fH,(0,187)),(fO,(2,9223372036854775807))]++eh0.H.e,b:=[(e7,true)]++eh0.H.b }
noncomputable def xA:LT:=(.jump 0 eT0 ⟨[(20,(.v 20)),(12,(.v 12)),(11,(.v 11)),(10,bX),(9,dQ),(18,(.v 18)),(17,(.v 17)),(13,(.v 13)),(16,(.v 16)),(8,(.v 8)),(7,(.v 7)),(15,(.v 15)),(14,(.v 14)),(6,(.v 6)),(5,(.v 5)),(19,aXC),(4,bB)],[],[(6,gT),(5,bF)]⟩)
theorem aVl:(cE Try.prog G Gh eD ehs [] 3000 0 5 { eh0 with H:=vQ }).map LT.bare=some xA:=by kernel_rfl
theorem aVU {ρ:Env} (hV:ρ=(eV x0 x1 x2 n o q r a b c d f g h i j k l m s t u v y A B C P Q L M)) (hB:aO x0 x1 x2 n o q r A B C P Q) (hJ:eJ0 n o q r a b c d f g h i j k l m s t u v y A B C P Q L M) (hH:Hyp.ok vQ ρ) (hF0:0≤a∧a≤9223372036854775806) (hG0:a<r) :
 eW x0 x1 x2 ρ xA:=by
 simp only [eW,xA,LT.holds,aQ]
 have hB3:=hB
 have hJ3:=hJ
 simp only [aO] at hB3
 simp only [eJ0] at hJ3
 obtain ⟨b0,b1,b2,b3,c0,c1,c2,c3,c4,_⟩:=hB3
 obtain ⟨l4,l5,l6,l7,l8,l9,l10,l11,l12,l13,l14,l15,l16,l17,l18,l19,l20,m5,m6,hk,_⟩:=hJ3
 refine ⟨dU,⟨n,o,q,r,(E.i ρ bB),b,c,d,f,(E.i ρ dQ),(E.i ρ bX),i,j,k,l,m,s,t,u,(E.i ρ aXC),y,A,B,C,P,Q,(E.a ρ bF),(E.a ρ gT),?_,hB,?_⟩,?_⟩ <;> subst hV
 ·kernel_rfl
 ·exact ⟨(show 0≤a+1∧a+1≤9223372036854775807 by omega),l5,l6,l7,l8,(aB hH (by kernel_rfl)),(aB hH (by kernel_rfl)),l11,l12,l13,l14,l15,l16,l17,l18,(aB hH (by kernel_rfl)),l20,(aM hH (by kernel_rfl)),(aM hH (by kernel_rfl)),(show a+1≤r by omega),trivial⟩
 exact Nat.lt_of_le_of_lt (Nat.le_of_eq (m:=(r-(a+1)).toNat) (by kernel_rfl)) (Nat.lt_of_lt_of_eq (show (r-(a+1)).toNat<(r-a).toNat by omega) (by kernel_rfl))
noncomputable def vR:Hyp:={ eh0.H with e:=[((.v 4),(0,9223372036854775806)),(e4,(2,2)),(fH,(189,189)),(fO,(1,1))]++eh0.H.e,b:=[(e7,true)]++eh0.H.b }
noncomputable def xB:LT:=(.jump 0 eT0 ⟨[(20,(.v 20)),(12,(.v 12)),(11,(.v 11)),(10,bX),(9,(.v 9)),(18,(.v 18)),(17,(.v 17)),(13,(.v 13)),(16,(.v 16)),(8,(.v 8)),(7,(.v 7)),(15,(.v 15)),(14,(.v 14)),(6,(.v 6)),(5,(.v 5)),(19,dE),(4,bB)],[],[(6,gT),(5,bF)]⟩)
theorem aVm:(cE Try.prog G Gh eD ehs [] 3000 0 5 { eh0 with H:=vR }).map LT.bare=some xB:=by kernel_rfl
theorem aVV {ρ:Env} (hV:ρ=(eV x0 x1 x2 n o q r a b c d f g h i j k l m s t u v y A B C P Q L M)) (hB:aO x0 x1 x2 n o q r A B C P Q) (hJ:eJ0 n o q r a b c d f g h i j k l m s t u v y A B C P Q L M) (hH:Hyp.ok vR ρ) (hF0:0≤a∧a≤9223372036854775806) (hG0:a<r) :
 eW x0 x1 x2 ρ xB:=by
 simp only [eW,xB,LT.holds,aQ]
 have hB3:=hB
 have hJ3:=hJ
 simp only [aO] at hB3
 simp only [eJ0] at hJ3
 obtain ⟨b0,b1,b2,b3,c0,c1,c2,c3,c4,_⟩:=hB3
 obtain ⟨l4,l5,l6,l7,l8,l9,l10,l11,l12,l13,l14,l15,l16,l17,l18,l19,l20,m5,m6,hk,_⟩:=hJ3
 refine ⟨dU,⟨n,o,q,r,(E.i ρ bB),b,c,d,f,g,(E.i ρ bX),i,j,k,l,m,s,t,u,(E.i ρ dE),y,A,B,C,P,Q,(E.a ρ bF),(E.a ρ gT),?_,hB,?_⟩,?_⟩ <;> subst hV
 ·kernel_rfl
 ·exact ⟨(show 0≤a+1∧a+1≤9223372036854775807 by omega),l5,l6,l7,l8,l9,(aB hH (by kernel_rfl)),l11,l12,l13,l14,l15,l16,l17,l18,(aB hH (by kernel_rfl)),l20,(aM hH (by kernel_rfl)),(aM hH (by kernel_rfl)),(show a+1≤r by omega),trivial⟩
 exact Nat.lt_of_le_of_lt (Nat.le_of_eq (m:=(r-(a+1)).toNat) (by kernel_rfl)) (Nat.lt_of_lt_of_eq (show (r-(a+1)).toNat<(r-a).toNat by omega) (by kernel_rfl))
noncomputable def vS:Hyp:={ eh0.H with e:=[((.v 4),(0,9223372036854775806)),(e4,(2,2)),(fH,(189,189)),(fO,((-9223372036854775808),0))]++eh0.H.e,b:=[(e7,true)]++eh0.H.b }
noncomputable def xC:LT:=(.jump 0 eT0 ⟨[(20,(.v 20)),(12,(.v 12)),(11,(.v 11)),(10,bX),(9,dQ),(18,(.v 18)),(17,(.v 17)),(13,(.v 13)),(16,(.v 16)),(8,(.v 8)),(7,(.v 7)),(15,(.v 15)),(14,(.v 14)),(6,(.v 6)),(5,(.v 5)),(19,dE),(4,bB)],[],[(6,gT),(5,bF)]⟩)
theorem aVn:(cE Try.prog G Gh eD ehs [] 3000 0 5 { eh0 with H:=vS }).map LT.bare=some xC:=by kernel_rfl
theorem aVW {ρ:Env} (hV:ρ=(eV x0 x1 x2 n o q r a b c d f g h i j k l m s t u v y A B C P Q L M)) (hB:aO x0 x1 x2 n o q r A B C P Q) (hJ:eJ0 n o q r a b c d f g h i j k l m s t u v y A B C P Q L M) (hH:Hyp.ok vS ρ) (hF0:0≤a∧a≤9223372036854775806) (hG0:a<r) :
 eW x0 x1 x2 ρ xC:=by
 simp only [eW,xC,LT.holds,aQ]
 have hB3:=hB
 have hJ3:=hJ
 simp only [aO] at hB3
 simp only [eJ0] at hJ3
 obtain ⟨b0,b1,b2,b3,c0,c1,c2,c3,c4,_⟩:=hB3
 obtain ⟨l4,l5,l6,l7,l8,l9,l10,l11,l12,l13,l14,l15,l16,l17,l18,l19,l20,m5,m6,hk,_⟩:=hJ3
 refine ⟨dU,⟨n,o,q,r,(E.i ρ bB),b,c,d,f,(E.i ρ dQ),(E.i ρ bX),i,j,k,l,m,s,t,u,(E.i ρ dE),y,A,B,C,P,Q,(E.a ρ bF),(E.a ρ gT),?_,hB,?_⟩,?_⟩ <;> subst hV
 ·kernel_rfl
 ·exact ⟨(show 0≤a+1∧a+1≤9223372036854775807 by omega),l5,l6,l7,l8,(aB hH (by kernel_rfl)),(aB hH (by kernel_rfl)),l11,l12,l13,l14,l15,l16,l17,l18,(aB hH (by kernel_rfl)),l20,(aM hH (by kernel_rfl)),(aM hH (by kernel_rfl)),(show a+1≤r by omega),trivial⟩
 exact Nat.lt_of_le_of_lt (Nat.le_of_eq (m:=(r-(a+1)).toNat) (by kernel_rfl)) (Nat.lt_of_lt_of_eq (show (r-(a+1)).toNat<(r-a).toNat by omega) (by kernel_rfl))
end Go.Proofs.Ytcckecfjjccffaa.SignalCommutes
