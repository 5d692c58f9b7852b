/- A part of the law SignalCommutes, which returns true for every input. A step that touches nothing shared is the same whether the main side takes or gives a byte ahead of it or behind it. No condition. -/
import Derived.Test.YtcckecfjjccffaaSignalCommutesB
namespace Go.Proofs.Ytcckecfjjccffaa.SignalCommutes
open Go.Sx Go.ChangeShapes Go.WideShapes Go.ChangeAt Go.RowKit
set_option linter.unusedVariables false
set_option linter.unusedSimpArgs false
set_option maxRecDepth 100000
set_option maxHeartbeats 40000000
variable {x0:Ext} {x1:Ext} {x2:Ext} {n o q r a b c d f g h i j k l m s t u v y:Int} {A B C P Q L M:Nat→Int}
noncomputable def uX:Hyp:={ eh0.H with e:=[((.v 4),(0,9223372036854775806)),(e4,(0,0)),(e6,(8,15)),(e18,(11,15)),(fO,(1,1))]++eh0.H.e,b:=[(e7,true)]++eh0.H.b }
noncomputable def wH:LT:=(.jump 0 eT0 ⟨[(20,(.v 20)),(12,lB),(11,lC),(10,bX),(9,(.v 9)),(18,aAV),(17,aAW),(13,aAX),(16,aAY),(8,e93),(7,gI),(15,aAZ),(14,(.v 14)),(6,uM),(5,uN),(19,dE),(4,bB)],[],[(6,aBa),(5,bF)]⟩)
theorem aUS:(cE Try.prog G Gh eD ehs [] 3000 0 5 { eh0 with H:=uX }).map LT.bare=some wH:=by kernel_rfl
theorem aVB {ρ:Env} (hV:ρ=(eV x0 x1 x2 n o q r a b c d f g h i j k l m s t u v y A B C P Q L M)) (hB:aO x0 x1 x2 n o q r A B C P Q) (hJ:eJ0 n o q r a b c d f g h i j k l m s t u v y A B C P Q L M) (hH:Hyp.ok uX ρ) (hF0:0≤a∧a≤9223372036854775806) (hG0:a<r) :
 eW x0 x1 x2 ρ wH:=by
 simp only [eW,wH,LT.holds,aQ]
 have hB3:=hB
 have hJ3:=hJ
 simp only [aO] at hB3
 simp only [eJ0] at hJ3
 obtain ⟨b0,b1,b2,b3,c0,c1,c2,c3,c4,_⟩:=hB3
 obtain ⟨l4,l5,l6,l7,l8,l9,l10,l11,l12,l13,l14,l15,l16,l17,l18,l19,l20,m5,m6,hk,_⟩:=hJ3
 refine ⟨dU,⟨n,o,q,r,(E.i ρ bB),(E.i ρ uN),(E.i ρ uM),(E.i ρ gI),(E.i ρ e93),g,(E.i ρ bX),(E.i ρ lC),(E.i ρ lB),(E.i ρ aAX),l,(E.i ρ aAZ),(E.i ρ aAY),(E.i ρ aAW),(E.i ρ aAV),(E.i ρ dE),y,A,B,C,P,Q,(E.a ρ bF),(E.a ρ aBa),?_,hB,?_⟩,?_⟩ <;> subst hV
 ·kernel_rfl
 ·exact ⟨(show 0≤a+1∧a+1≤9223372036854775807 by omega),(aB hH (by kernel_rfl)),(aB hH (by kernel_rfl)),(bOr (iO (aB hH (by kernel_rfl)) (aB hH (by kernel_rfl))) (aB hH (by kernel_rfl))),(aB hH (by kernel_rfl)),l9,(aB hH (by kernel_rfl)),(aB hH (by kernel_rfl)),(aB hH (by kernel_rfl)),(aB hH (by kernel_rfl)),l14,(aB hH (by kernel_rfl)),(aB hH (by kernel_rfl)),(aB hH (by kernel_rfl)),(aB hH (by kernel_rfl)),(aB hH (by kernel_rfl)),l20,(aM hH (by kernel_rfl)),(aM hH (by kernel_rfl)),(show a+1≤r by omega),trivial⟩
 exact Nat.lt_of_le_of_lt (Nat.le_of_eq (m:=(r-(a+1)).toNat) (by kernel_rfl)) (Nat.lt_of_lt_of_eq (show (r-(a+1)).toNat<(r-a).toNat by omega) (by kernel_rfl))
noncomputable def uY:Hyp:={ eh0.H with e:=[((.v 4),(0,9223372036854775806)),(e4,(0,0)),(e6,(8,15)),(e18,(11,15)),(fO,((-9223372036854775808),0))]++eh0.H.e,b:=[(e7,true)]++eh0.H.b }
noncomputable def wI:LT:=(.jump 0 eT0 ⟨[(20,(.v 20)),(12,lB),(11,lC),(10,bX),(9,dQ),(18,aAV),(17,aAW),(13,aAX),(16,aAY),(8,e93),(7,gI),(15,aAZ),(14,(.v 14)),(6,uM),(5,uN),(19,dE),(4,bB)],[],[(6,aBa),(5,bF)]⟩)
theorem aUT:(cE Try.prog G Gh eD ehs [] 3000 0 5 { eh0 with H:=uY }).map LT.bare=some wI:=by kernel_rfl
theorem aVC {ρ:Env} (hV:ρ=(eV x0 x1 x2 n o q r a b c d f g h i j k l m s t u v y A B C P Q L M)) (hB:aO x0 x1 x2 n o q r A B C P Q) (hJ:eJ0 n o q r a b c d f g h i j k l m s t u v y A B C P Q L M) (hH:Hyp.ok uY ρ) (hF0:0≤a∧a≤9223372036854775806) (hG0:a<r) :
 eW x0 x1 x2 ρ wI:=by
 simp only [eW,wI,LT.holds,aQ]
 have hB3:=hB
 have hJ3:=hJ
 simp only [aO] at hB3
 simp only [eJ0] at hJ3
 obtain ⟨b0,b1,b2,b3,c0,c1,c2,c3,c4,_⟩:=hB3
 obtain ⟨l4,l5,l6,l7,l8,l9,l10,l11,l12,l13,l14,l15,l16,l17,l18,l19,l20,m5,m6,hk,_⟩:=hJ3
 refine ⟨dU,⟨n,o,q,r,(E.i ρ bB),(E.i ρ uN),(E.i ρ uM),(E.i ρ gI),(E.i ρ e93),(E.i ρ dQ),(E.i ρ bX),(E.i ρ lC),(E.i ρ lB),(E.i ρ aAX),l,(E.i ρ aAZ),(E.i ρ aAY),(E.i ρ aAW),(E.i ρ aAV),(E.i ρ dE),y,A,B,C,P,Q,(E.a ρ bF),(E.a ρ aBa),?_,hB,?_⟩,?_⟩ <;> subst hV
 ·kernel_rfl
 ·exact ⟨(show 0≤a+1∧a+1≤9223372036854775807 by omega),(aB hH (by kernel_rfl)),(aB hH (by kernel_rfl)),(bOr (iO (aB hH (by kernel_rfl)) (aB hH (by kernel_rfl))) (aB hH (by kernel_rfl))),(aB hH (by kernel_rfl)),(aB hH (by kernel_rfl)),(aB hH (by kernel_rfl)),(aB hH (by kernel_rfl)),(aB hH (by kernel_rfl)),(aB hH (by kernel_rfl)),l14,(aB hH (by kernel_rfl)),(aB hH (by kernel_rfl)),(aB hH (by kernel_rfl)),(aB hH (by kernel_rfl)),(aB hH (by kernel_rfl)),l20,(aM hH (by kernel_rfl)),(aM hH (by kernel_rfl)),(show a+1≤r by omega),trivial⟩
 exact Nat.lt_of_le_of_lt (Nat.le_of_eq (m:=(r-(a+1)).toNat) (by kernel_rfl)) (Nat.lt_of_lt_of_eq (show (r-(a+1)).toNat<(r-a).toNat by omega) (by kernel_rfl))
noncomputable def uZ:Hyp:={ eh0.H with e:=[((.v 4),(0,9223372036854775806)),(e4,(0,0)),(e6,(8,15)),(e18,(11,15)),(fO,(2,9223372036854775807))]++eh0.H.e,b:=[(e7,true)]++eh0.H.b }
noncomputable def wJ:LT:=(.jump 0 eT0 ⟨[(20,(.v 20)),(12,lB),(11,lC),(10,bX),(9,dQ),(18,aAV),(17,aAW),(13,aAX),(16,aAY),(8,e93),(7,gI),(15,aAZ),(14,(.v 14)),(6,uM),(5,uN),(19,dE),(4,bB)],[],[(6,aBa),(5,bF)]⟩)
theorem aUU:(cE Try.prog G Gh eD ehs [] 3000 0 5 { eh0 with H:=uZ }).map LT.bare=some wJ:=by kernel_rfl
theorem aVD {ρ:Env} (hV:ρ=(eV x0 x1 x2 n o q r a b c d f g h i j k l m s t u v y A B C P Q L M)) (hB:aO x0 x1 x2 n o q r A B C P Q) (hJ:eJ0 n o q r a b c d f g h i j k l m s t u v y A B C P Q L M) (hH:Hyp.ok uZ ρ) (hF0:0≤a∧a≤9223372036854775806) (hG0:a<r) :
 eW x0 x1 x2 ρ wJ:=by
 simp only [eW,wJ,LT.holds,aQ]
 have hB3:=hB
 have hJ3:=hJ
 simp only [aO] at hB3
 simp only [eJ0] at hJ3
 obtain ⟨b0,b1,b2,b3,c0,c1,c2,c3,c4,_⟩:=hB3
 obtain ⟨l4,l5,l6,l7,l8,l9,l10,l11,l12,l13,l14,l15,l16,l17,l18,l19,l20,m5,m6,hk,_⟩:=hJ3
 refine ⟨dU,⟨n,o,q,r,(E.i ρ bB),(E.i ρ uN),(E.i ρ uM),(E.i ρ gI),(E.i ρ e93),(E.i ρ dQ),(E.i ρ bX),(E.i ρ lC),(E.i ρ lB),(E.i ρ aAX),l,(E.i ρ aAZ),(E.i ρ aAY),(E.i ρ aAW),(E.i ρ aAV),(E.i ρ dE),y,A,B,C,P,Q,(E.a ρ bF),(E.a ρ aBa),?_,hB,?_⟩,?_⟩ <;> subst hV
 ·kernel_rfl
 ·exact ⟨(show 0≤a+1∧a+1≤9223372036854775807 by omega),(aB hH (by kernel_rfl)),(aB hH (by kernel_rfl)),(bOr (iO (aB hH (by kernel_rfl)) (aB hH (by kernel_rfl))) (aB hH (by kernel_rfl))),(aB hH (by kernel_rfl)),(aB hH (by kernel_rfl)),(aB hH (by kernel_rfl)),(aB hH (by kernel_rfl)),(aB hH (by kernel_rfl)),(aB hH (by kernel_rfl)),l14,(aB hH (by kernel_rfl)),(aB hH (by kernel_rfl)),(aB hH (by kernel_rfl)),(aB hH (by kernel_rfl)),(aB hH (by kernel_rfl)),l20,(aM hH (by kernel_rfl)),(aM hH (by kernel_rfl)),(show a+1≤r by omega),trivial⟩
 exact Nat.lt_of_le_of_lt (Nat.le_of_eq (m:=(r-(a+1)).toNat) (by kernel_rfl)) (Nat.lt_of_lt_of_eq (show (r-(a+1)).toNat<(r-a).toNat by omega) (by kernel_rfl))
noncomputable def aBh:Hyp:={ eh0.H with e:=[((.v 4),(0,9223372036854775806)),(e4,(1,1)),(e6,(6,6))]++eh0.H.e,b:=[(e7,true)]++eh0.H.b }
noncomputable def aBx:LT:=(.jump 0 eT0 ⟨[(20,iC),(12,e66),(11,e70),(10,e83),(9,e58),(18,e88),(17,e90),(13,(.v 13)),(16,(.v 16)),(8,e93),(7,gI),(15,(.v 15)),(14,(.v 14)),(6,aKb),(5,aKc),(19,iM),(4,bB)],[],[(6,gT),(5,bF)]⟩)
theorem aYb:(cE Try.prog G Gh eD ehs [] 3000 0 5 { eh0 with H:=aBh }).map LT.bare=some aBx:=by kernel_rfl
theorem aYr {ρ:Env} (hV:ρ=(eV x0 x1 x2 n o q r a b c d f g h i j k l m s t u v y A B C P Q L M)) (hB:aO x0 x1 x2 n o q r A B C P Q) (hJ:eJ0 n o q r a b c d f g h i j k l m s t u v y A B C P Q L M) (hH:Hyp.ok aBh ρ) (hF0:0≤a∧a≤9223372036854775806) (hG0:a<r) :
 eW x0 x1 x2 ρ aBx:=by
 simp only [eW,aBx,LT.holds,aQ]
 have hB3:=hB
 have hJ3:=hJ
 simp only [aO] at hB3
 simp only [eJ0] at hJ3
 obtain ⟨b0,b1,b2,b3,c0,c1,c2,c3,c4,_⟩:=hB3
 obtain ⟨l4,l5,l6,l7,l8,l9,l10,l11,l12,l13,l14,l15,l16,l17,l18,l19,l20,m5,m6,hk,_⟩:=hJ3
 refine ⟨dU,⟨n,o,q,r,(E.i ρ bB),(E.i ρ aKc),(E.i ρ aKb),(E.i ρ gI),(E.i ρ e93),(E.i ρ e58),(E.i ρ e83),(E.i ρ e70),(E.i ρ e66),k,l,m,s,(E.i ρ e90),(E.i ρ e88),(E.i ρ iM),(E.i ρ iC),A,B,C,P,Q,(E.a ρ bF),(E.a ρ gT),?_,hB,?_⟩,?_⟩ <;> subst hV
 ·kernel_rfl
 ·exact ⟨(show 0≤a+1∧a+1≤9223372036854775807 by omega),(aB hH (by kernel_rfl)),(aB hH (by kernel_rfl)),(bOr (iO (aB hH (by kernel_rfl)) (aB hH (by kernel_rfl))) (aB hH (by kernel_rfl))),(aB hH (by kernel_rfl)),(aB hH (by kernel_rfl)),(aB hH (by kernel_rfl)),(aB hH (by kernel_rfl)),(aB hH (by kernel_rfl)),l13,l14,l15,l16,(aB hH (by kernel_rfl)),(aB hH (by kernel_rfl)),(aB hH (by kernel_rfl)),(aB hH (by kernel_rfl)),(aM hH (by kernel_rfl)),(aM hH (by kernel_rfl)),(show a+1≤r by omega),trivial⟩
 exact Nat.lt_of_le_of_lt (Nat.le_of_eq (m:=(r-(a+1)).toNat) (by kernel_rfl)) (Nat.lt_of_lt_of_eq (show (r-(a+1)).toNat<(r-a).toNat by omega) (by kernel_rfl))
noncomputable def aBi:Hyp:={ eh0.H with e:=[((.v 4),(0,9223372036854775806)),(e4,(1,1)),(e6,(7,7))]++eh0.H.e,b:=[(e7,true)]++eh0.H.b }
noncomputable def aBy:LT:=(.jump 0 eT0 ⟨[(20,iC),(12,e66),(11,e70),(10,bHo),(9,(.v 9)),(18,e88),(17,e90),(13,(.v 13)),(16,(.v 16)),(8,e93),(7,gI),(15,(.v 15)),(14,(.v 14)),(6,aKb),(5,aKc),(19,iM),(4,bB)],[],[(6,gT),(5,bF)]⟩)
theorem aYc:(cE Try.prog G Gh eD ehs [] 3000 0 5 { eh0 with H:=aBi }).map LT.bare=some aBy:=by kernel_rfl
theorem aYs {ρ:Env} (hV:ρ=(eV x0 x1 x2 n o q r a b c d f g h i j k l m s t u v y A B C P Q L M)) (hB:aO x0 x1 x2 n o q r A B C P Q) (hJ:eJ0 n o q r a b c d f g h i j k l m s t u v y A B C P Q L M) (hH:Hyp.ok aBi ρ) (hF0:0≤a∧a≤9223372036854775806) (hG0:a<r) :
 eW x0 x1 x2 ρ aBy:=by
 simp only [eW,aBy,LT.holds,aQ]
 have hB3:=hB
 have hJ3:=hJ
 simp only [aO] at hB3
 simp only [eJ0] at hJ3
 obtain ⟨b0,b1,b2,b3,c0,c1,c2,c3,c4,_⟩:=hB3
 obtain ⟨l4,l5,l6,l7,l8,l9,l10,l11,l12,l13,l14,l15,l16,l17,l18,l19,l20,m5,m6,hk,_⟩:=hJ3
 refine ⟨dU,⟨n,o,q,r,(E.i ρ bB),(E.i ρ aKc),(E.i ρ aKb),(E.i ρ gI),(E.i ρ e93),g,(E.i ρ bHo),(E.i ρ e70),(E.i ρ e66),k,l,m,s,(E.i ρ e90),(E.i ρ e88),(E.i ρ iM),(E.i ρ iC),A,B,C,P,Q,(E.a ρ bF),(E.a ρ gT),?_,hB,?_⟩,?_⟩ <;> subst hV
 ·kernel_rfl
 ·exact ⟨(show 0≤a+1∧a+1≤9223372036854775807 by omega),(aB hH (by kernel_rfl)),(aB hH (by kernel_rfl)),(bOr (iO (aB hH (by kernel_rfl)) (aB hH (by kernel_rfl))) (aB hH (by kernel_rfl))),(aB hH (by kernel_rfl)),l9,(aB hH (by kernel_rfl)),(aB hH (by kernel_rfl)),(aB hH (by kernel_rfl)),l13,l14,l15,l16,(aB hH (by kernel_rfl)),(aB hH (by kernel_rfl)),(aB hH (by kernel_rfl)),(aB hH (by kernel_rfl)),(aM hH (by kernel_rfl)),(aM hH (by kernel_rfl)),(show a+1≤r by omega),trivial⟩
 exact Nat.lt_of_le_of_lt (Nat.le_of_eq (m:=(r-(a+1)).toNat) (by kernel_rfl)) (Nat.lt_of_lt_of_eq (show (r-(a+1)).toNat<(r-a).toNat by omega) (by kernel_rfl))
noncomputable def aBf:Hyp:={ eh0.H with e:=[((.v 4),(0,9223372036854775806)),(e4,(1,1)),(e6,(0,5)),(e18,(8,10))]++eh0.H.e,b:=[(e7,true)]++eh0.H.b }
noncomputable def aBv:LT:=(.jump 0 eT0 ⟨[(20,iC),(12,aKd),(11,aKe),(10,e80),(9,(.v 9)),(18,e88),(17,e90),(13,(.v 13)),(16,(.v 16)),(8,bHq),(7,bHr),(15,(.v 15)),(14,bHs),(6,bHt),(5,bHu),(19,iM),(4,bB)],[],[(6,bHw),(5,bF)]⟩)
theorem aXZ:(cE Try.prog G Gh eD ehs [] 3000 0 5 { eh0 with H:=aBf }).map LT.bare=some aBv:=by kernel_rfl
theorem aYp {ρ:Env} (hV:ρ=(eV x0 x1 x2 n o q r a b c d f g h i j k l m s t u v y A B C P Q L M)) (hB:aO x0 x1 x2 n o q r A B C P Q) (hJ:eJ0 n o q r a b c d f g h i j k l m s t u v y A B C P Q L M) (hH:Hyp.ok aBf ρ) (hF0:0≤a∧a≤9223372036854775806) (hG0:a<r) :
 eW x0 x1 x2 ρ aBv:=by
 simp only [eW,aBv,LT.holds,aQ]
 have hB3:=hB
 have hJ3:=hJ
 simp only [aO] at hB3
 simp only [eJ0] at hJ3
 obtain ⟨b0,b1,b2,b3,c0,c1,c2,c3,c4,_⟩:=hB3
 obtain ⟨l4,l5,l6,l7,l8,l9,l10,l11,l12,l13,l14,l15,l16,l17,l18,l19,l20,m5,m6,hk,_⟩:=hJ3
 refine ⟨dU,⟨n,o,q,r,(E.i ρ bB),(E.i ρ bHu),(E.i ρ bHt),(E.i ρ bHr),(E.i ρ bHq),g,(E.i ρ e80),(E.i ρ aKe),(E.i ρ aKd),k,(E.i ρ bHs),m,s,(E.i ρ e90),(E.i ρ e88),(E.i ρ iM),(E.i ρ iC),A,B,C,P,Q,(E.a ρ bF),(E.a ρ bHw),?_,hB,?_⟩,?_⟩ <;> subst hV
 ·kernel_rfl
 ·exact ⟨(show 0≤a+1∧a+1≤9223372036854775807 by omega),(aB hH (by kernel_rfl)),(aB hH (by kernel_rfl)),(eI (eI l7 (eI (aB hH (by kernel_rfl)) l7)) (bOr (iO (aB hH (by kernel_rfl)) (aB hH (by kernel_rfl))) (aB hH (by kernel_rfl)))),(aB hH (by kernel_rfl)),l9,(aB hH (by kernel_rfl)),(aB hH (by kernel_rfl)),(aB hH (by kernel_rfl)),l13,(aB hH (by kernel_rfl)),l15,l16,(aB hH (by kernel_rfl)),(aB hH (by kernel_rfl)),(aB hH (by kernel_rfl)),(aB hH (by kernel_rfl)),(aM hH (by kernel_rfl)),(aM hH (by kernel_rfl)),(show a+1≤r by omega),trivial⟩
 exact Nat.lt_of_le_of_lt (Nat.le_of_eq (m:=(r-(a+1)).toNat) (by kernel_rfl)) (Nat.lt_of_lt_of_eq (show (r-(a+1)).toNat<(r-a).toNat by omega) (by kernel_rfl))
noncomputable def aBg:Hyp:={ eh0.H with e:=[((.v 4),(0,9223372036854775806)),(e4,(1,1)),(e6,(8,15)),(e18,(8,10))]++eh0.H.e,b:=[(e7,true)]++eh0.H.b }
noncomputable def aBw:LT:=(.jump 0 eT0 ⟨[(20,iC),(12,aKd),(11,aKe),(10,e80),(9,(.v 9)),(18,bHA),(17,bHB),(13,bHD),(16,bHG),(8,e93),(7,gI),(15,bHH),(14,(.v 14)),(6,aXA),(5,aXB),(19,iM),(4,bB)],[],[(6,bHJ),(5,bF)]⟩)
theorem aYa:(cE Try.prog G Gh eD ehs [] 3000 0 5 { eh0 with H:=aBg }).map LT.bare=some aBw:=by kernel_rfl
theorem aYq {ρ:Env} (hV:ρ=(eV x0 x1 x2 n o q r a b c d f g h i j k l m s t u v y A B C P Q L M)) (hB:aO x0 x1 x2 n o q r A B C P Q) (hJ:eJ0 n o q r a b c d f g h i j k l m s t u v y A B C P Q L M) (hH:Hyp.ok aBg ρ) (hF0:0≤a∧a≤9223372036854775806) (hG0:a<r) :
 eW x0 x1 x2 ρ aBw:=by
 simp only [eW,aBw,LT.holds,aQ]
 have hB3:=hB
 have hJ3:=hJ
 simp only [aO] at hB3
 simp only [eJ0] at hJ3
 obtain ⟨b0,b1,b2,b3,c0,c1,c2,c3,c4,_⟩:=hB3
 obtain ⟨l4,l5,l6,l7,l8,l9,l10,l11,l12,l13,l14,l15,l16,l17,l18,l19,l20,m5,m6,hk,_⟩:=hJ3
 refine ⟨dU,⟨n,o,q,r,(E.i ρ bB),(E.i ρ aXB),(E.i ρ aXA),(E.i ρ gI),(E.i ρ e93),g,(E.i ρ e80),(E.i ρ aKe),(E.i ρ aKd),(E.i ρ bHD),l,(E.i ρ bHH),(E.i ρ bHG),(E.i ρ bHB),(E.i ρ bHA),(E.i ρ iM),(E.i ρ iC),A,B,C,P,Q,(E.a ρ bF),(E.a ρ bHJ),?_,hB,?_⟩,?_⟩ <;> subst hV
 ·kernel_rfl
 ·exact ⟨(show 0≤a+1∧a+1≤9223372036854775807 by omega),(aB hH (by kernel_rfl)),(aB hH (by kernel_rfl)),(bOr (iO (aB hH (by kernel_rfl)) (aB hH (by kernel_rfl))) (aB hH (by kernel_rfl))),(aB hH (by kernel_rfl)),l9,(aB hH (by kernel_rfl)),(aB hH (by kernel_rfl)),(aB hH (by kernel_rfl)),(aB hH (by kernel_rfl)),l14,(aB hH (by kernel_rfl)),(aB hH (by kernel_rfl)),(aB hH (by kernel_rfl)),(aB hH (by kernel_rfl)),(aB hH (by kernel_rfl)),(aB hH (by kernel_rfl)),(aM hH (by kernel_rfl)),(aM hH (by kernel_rfl)),(show a+1≤r by omega),trivial⟩
 exact Nat.lt_of_le_of_lt (Nat.le_of_eq (m:=(r-(a+1)).toNat) (by kernel_rfl)) (Nat.lt_of_lt_of_eq (show (r-(a+1)).toNat<(r-a).toNat by omega) (by kernel_rfl))
noncomputable def vA:Hyp:={ eh0.H with e:=[((.v 4),(0,9223372036854775806)),(e4,(1,1)),(e6,(0,5)),(e18,(0,7)),(fO,(1,1))]++eh0.H.e,b:=[(e7,true)]++eh0.H.b }
noncomputable def wK:LT:=(.jump 0 eT0 ⟨[(20,iC),(12,kZ),(11,lA),(10,bX),(9,(.v 9)),(18,e88),(17,e90),(13,(.v 13)),(16,(.v 16)),(8,aAD),(7,aAE),(15,(.v 15)),(14,aAF),(6,aAG),(5,aAH),(19,iM),(4,bB)],[],[(6,aAI),(5,bF)]⟩)
theorem aUV:(cE Try.prog G Gh eD ehs [] 3000 0 5 { eh0 with H:=vA }).map LT.bare=some wK:=by kernel_rfl
theorem aVE {ρ:Env} (hV:ρ=(eV x0 x1 x2 n o q r a b c d f g h i j k l m s t u v y A B C P Q L M)) (hB:aO x0 x1 x2 n o q r A B C P Q) (hJ:eJ0 n o q r a b c d f g h i j k l m s t u v y A B C P Q L M) (hH:Hyp.ok vA ρ) (hF0:0≤a∧a≤9223372036854775806) (hG0:a<r) :
 eW x0 x1 x2 ρ wK:=by
 simp only [eW,wK,LT.holds,aQ]
 have hB3:=hB
 have hJ3:=hJ
 simp only [aO] at hB3
 simp only [eJ0] at hJ3
 obtain ⟨b0,b1,b2,b3,c0,c1,c2,c3,c4,_⟩:=hB3
 obtain ⟨l4,l5,l6,l7,l8,l9,l10,l11,l12,l13,l14,l15,l16,l17,l18,l19,l20,m5,m6,hk,_⟩:=hJ3
 refine ⟨dU,⟨n,o,q,r,(E.i ρ bB),(E.i ρ aAH),(E.i ρ aAG),(E.i ρ aAE),(E.i ρ aAD),g,(E.i ρ bX),(E.i ρ lA),(E.i ρ kZ),k,(E.i ρ aAF),m,s,(E.i ρ e90),(E.i ρ e88),(E.i ρ iM),(E.i ρ iC),A,B,C,P,Q,(E.a ρ bF),(E.a ρ aAI),?_,hB,?_⟩,?_⟩ <;> subst hV
 ·kernel_rfl
 ·exact ⟨(show 0≤a+1∧a+1≤9223372036854775807 by omega),(aB hH (by kernel_rfl)),(aB hH (by kernel_rfl)),(eI (eI l7 (eI (aB hH (by kernel_rfl)) l7)) (bOr (iO (aB hH (by kernel_rfl)) (aB hH (by kernel_rfl))) (aB hH (by kernel_rfl)))),(aB hH (by kernel_rfl)),l9,(aB hH (by kernel_rfl)),(aB hH (by kernel_rfl)),(aB hH (by kernel_rfl)),l13,(aB hH (by kernel_rfl)),l15,l16,(aB hH (by kernel_rfl)),(aB hH (by kernel_rfl)),(aB hH (by kernel_rfl)),(aB hH (by kernel_rfl)),(aM hH (by kernel_rfl)),(aM hH (by kernel_rfl)),(show a+1≤r by omega),trivial⟩
 exact Nat.lt_of_le_of_lt (Nat.le_of_eq (m:=(r-(a+1)).toNat) (by kernel_rfl)) (Nat.lt_of_lt_of_eq (show (r-(a+1)).toNat<(r-a).toNat by omega) (by kernel_rfl))
noncomputable def vB:Hyp:={ eh0.H with e:=[((.v 4),(0,9223372036854775806)),(e4,(1,1)),(e6,(0,5)),(e18,(0,7)),(fO,((-9223372036854775808),0))]++eh0.H.e,b:=[(e7,true)]++eh0.H.b }
noncomputable def wL:LT:=(.jump 0 eT0 ⟨[(20,iC),(12,kZ),(11,lA),(10,bX),(9,dQ),(18,e88),(17,e90),(13,(.v 13)),(16,(.v 16)),(8,aAD),(7,aAE),(15,(.v 15)),(14,aAF),(6,aAG),(5,aAH),(19,iM),(4,bB)],[],[(6,aAI),(5,bF)]⟩)
theorem aUW:(cE Try.prog G Gh eD ehs [] 3000 0 5 { eh0 with H:=vB }).map LT.bare=some wL:=by kernel_rfl
theorem aVF {ρ:Env} (hV:ρ=(eV x0 x1 x2 n o q r a b c d f g h i j k l m s t u v y A B C P Q L M)) (hB:aO x0 x1 x2 n o q r A B C P Q) (hJ:eJ0 n o q r a b c d f g h i j k l m s t u v y A B C P Q L M) (hH:Hyp.ok vB ρ) (hF0:0≤a∧a≤9223372036854775806) (hG0:a<r) :
 eW x0 x1 x2 ρ wL:=by
 simp only [eW,wL,LT.holds,aQ]
 have hB3:=hB
 have hJ3:=hJ
 simp only [aO] at hB3
 simp only [eJ0] at hJ3
 obtain ⟨b0,b1,b2,b3,c0,c1,c2,c3,c4,_⟩:=hB3
 obtain ⟨l4,l5,l6,l7,l8,l9,l10,l11,l12,l13,l14,l15,l16,l17,l18,l19,l20,m5,m6,hk,_⟩:=hJ3
 refine ⟨dU,⟨n,o,q,r,(E.i ρ bB),(E.i ρ aAH),(E.i ρ aAG),(E.i ρ aAE),(E.i ρ aAD),(E.i ρ dQ),(E.i ρ bX),(E.i ρ lA),(E.i ρ kZ),k,(E.i ρ aAF),m,s,(E.i ρ e90),(E.i ρ e88),(E.i ρ iM),(E.i ρ iC),A,B,C,P,Q,(E.a ρ bF),(E.a ρ aAI),?_,hB,?_⟩,?_⟩ <;> subst hV
 ·kernel_rfl
 ·exact ⟨(show 0≤a+1∧a+1≤9223372036854775807 by omega),(aB hH (by kernel_rfl)),(aB hH (by kernel_rfl)),(eI (eI l7 (eI (aB hH (by kernel_rfl)) l7)) (bOr (iO (aB hH (by kernel_rfl)) (aB hH (by kernel_rfl))) (aB hH (by kernel_rfl)))),(aB hH (by kernel_rfl)),(aB hH (by kernel_rfl)),(aB hH (by kernel_rfl)),(aB hH (by kernel_rfl)),(aB hH (by kernel_rfl)),l13,(aB hH (by kernel_rfl)),l15,l16,(aB hH (by kernel_rfl)),(aB hH (by kernel_rfl)),(aB hH (by kernel_rfl)),(aB hH (by kernel_rfl)),(aM hH (by kernel_rfl)),(aM hH (by kernel_rfl)),(show a+1≤r by omega),trivial⟩
 exact Nat.lt_of_le_of_lt (Nat.le_of_eq (m:=(r-(a+1)).toNat) (by kernel_rfl)) (Nat.lt_of_lt_of_eq (show (r-(a+1)).toNat<(r-a).toNat by omega) (by kernel_rfl))
noncomputable def vC:Hyp:={ eh0.H with e:=[((.v 4),(0,9223372036854775806)),(e4,(1,1)),(e6,(0,5)),(e18,(0,7)),(fO,(2,9223372036854775807))]++eh0.H.e,b:=[(e7,true)]++eh0.H.b }
noncomputable def wM:LT:=(.jump 0 eT0 ⟨[(20,iC),(12,kZ),(11,lA),(10,bX),(9,dQ),(18,e88),(17,e90),(13,(.v 13)),(16,(.v 16)),(8,aAD),(7,aAE),(15,(.v 15)),(14,aAF),(6,aAG),(5,aAH),(19,iM),(4,bB)],[],[(6,aAI),(5,bF)]⟩)
theorem aUX:(cE Try.prog G Gh eD ehs [] 3000 0 5 { eh0 with H:=vC }).map LT.bare=some wM:=by kernel_rfl
theorem aVG {ρ:Env} (hV:ρ=(eV x0 x1 x2 n o q r a b c d f g h i j k l m s t u v y A B C P Q L M)) (hB:aO x0 x1 x2 n o q r A B C P Q) (hJ:eJ0 n o q r a b c d f g h i j k l m s t u v y A B C P Q L M) (hH:Hyp.ok vC ρ) (hF0:0≤a∧a≤9223372036854775806) (hG0:a<r) :
 eW x0 x1 x2 ρ wM:=by
 simp only [eW,wM,LT.holds,aQ]
 have hB3:=hB
 have hJ3:=hJ
 simp only [aO] at hB3
 simp only [eJ0] at hJ3
 obtain ⟨b0,b1,b2,b3,c0,c1,c2,c3,c4,_⟩:=hB3
 obtain ⟨l4,l5,l6,l7,l8,l9,l10,l11,l12,l13,l14,l15,l16,l17,l18,l19,l20,m5,m6,hk,_⟩:=hJ3
 refine ⟨dU,⟨n,o,q,r,(E.i ρ bB),(E.i ρ aAH),(E.i ρ aAG),(E.i ρ aAE),(E.i ρ aAD),(E.i ρ dQ),(E.i ρ bX),(E.i ρ lA),(E.i ρ kZ),k,(E.i ρ aAF),m,s,(E.i ρ e90),(E.i ρ e88),(E.i ρ iM),(E.i ρ iC),A,B,C,P,Q,(E.a ρ bF),(E.a ρ aAI),?_,hB,?_⟩,?_⟩ <;> subst hV
 ·kernel_rfl
 ·exact ⟨(show 0≤a+1∧a+1≤9223372036854775807 by omega),(aB hH (by kernel_rfl)),(aB hH (by kernel_rfl)),(eI (eI l7 (eI (aB hH (by kernel_rfl)) l7)) (bOr (iO (aB hH (by kernel_rfl)) (aB hH (by kernel_rfl))) (aB hH (by kernel_rfl)))),(aB hH (by kernel_rfl)),(aB hH (by kernel_rfl)),(aB hH (by kernel_rfl)),(aB hH (by kernel_rfl)),(aB hH (by kernel_rfl)),l13,(aB hH (by kernel_rfl)),l15,l16,(aB hH (by kernel_rfl)),(aB hH (by kernel_rfl)),(aB hH (by kernel_rfl)),(aB hH (by kernel_rfl)),(aM hH (by kernel_rfl)),(aM hH (by kernel_rfl)),(show a+1≤r by omega),trivial⟩
 exact Nat.lt_of_le_of_lt (Nat.le_of_eq (m:=(r-(a+1)).toNat) (by kernel_rfl)) (Nat.lt_of_lt_of_eq (show (r-(a+1)).toNat<(r-a).toNat by omega) (by kernel_rfl))
noncomputable def vD:Hyp:={ eh0.H with e:=[((.v 4),(0,9223372036854775806)),(e4,(1,1)),(e6,(0,5)),(e18,(11,15)),(fO,(1,1))]++eh0.H.e,b:=[(e7,true)]++eh0.H.b }
noncomputable def wN:LT:=(.jump 0 eT0 ⟨[(20,iC),(12,lB),(11,lC),(10,bX),(9,(.v 9)),(18,e88),(17,e90),(13,(.v 13)),(16,(.v 16)),(8,aAJ),(7,aAK),(15,(.v 15)),(14,aAL),(6,aAM),(5,aAN),(19,iM),(4,bB)],[],[(6,aAO),(5,bF)]⟩)
theorem aUY:(cE Try.prog G Gh eD ehs [] 3000 0 5 { eh0 with H:=vD }).map LT.bare=some wN:=by kernel_rfl
theorem aVH {ρ:Env} (hV:ρ=(eV x0 x1 x2 n o q r a b c d f g h i j k l m s t u v y A B C P Q L M)) (hB:aO x0 x1 x2 n o q r A B C P Q) (hJ:eJ0 n o q r a b c d f g h i j k l m s t u v y A B C P Q L M) (hH:Hyp.ok vD ρ) (hF0:0≤a∧a≤9223372036854775806) (hG0:a<r) :
 eW x0 x1 x2 ρ wN:=by
 simp only [eW,wN,LT.holds,aQ]
 have hB3:=hB
 have hJ3:=hJ
 simp only [aO] at hB3
 simp only [eJ0] at hJ3
 obtain ⟨b0,b1,b2,b3,c0,c1,c2,c3,c4,_⟩:=hB3
 obtain ⟨l4,l5,l6,l7,l8,l9,l10,l11,l12,l13,l14,l15,l16,l17,l18,l19,l20,m5,m6,hk,_⟩:=hJ3
 refine ⟨dU,⟨n,o,q,r,(E.i ρ bB),(E.i ρ aAN),(E.i ρ aAM),(E.i ρ aAK),(E.i ρ aAJ),g,(E.i ρ bX),(E.i ρ lC),(E.i ρ lB),k,(E.i ρ aAL),m,s,(E.i ρ e90),(E.i ρ e88),(E.i ρ iM),(E.i ρ iC),A,B,C,P,Q,(E.a ρ bF),(E.a ρ aAO),?_,hB,?_⟩,?_⟩ <;> subst hV
 ·kernel_rfl
 ·exact ⟨(show 0≤a+1∧a+1≤9223372036854775807 by omega),(aB hH (by kernel_rfl)),(aB hH (by kernel_rfl)),(eI (eI l7 (eI (aB hH (by kernel_rfl)) l7)) (bOr (iO (aB hH (by kernel_rfl)) (aB hH (by kernel_rfl))) (aB hH (by kernel_rfl)))),(aB hH (by kernel_rfl)),l9,(aB hH (by kernel_rfl)),(aB hH (by kernel_rfl)),(aB hH (by kernel_rfl)),l13,(aB hH (by kernel_rfl)),l15,l16,(aB hH (by kernel_rfl)),(aB hH (by kernel_rfl)),(aB hH (by kernel_rfl)),(aB hH (by kernel_rfl)),(aM hH (by kernel_rfl)),(aM hH (by kernel_rfl)),(show a+1≤r by omega),trivial⟩
 exact Nat.lt_of_le_of_lt (Nat.le_of_eq (m:=(r-(a+1)).toNat) (by kernel_rfl)) (Nat.lt_of_lt_of_eq (show (r-(a+1)).toNat<(r-a).toNat by omega) (by kernel_rfl))
noncomputable def vE:Hyp:={ eh0.H with e:=[((.v 4),(0,9223372036854775806)),(e4,(1,1)),(e6,(0,5)),(e18,(11,15)),(fO,((-9223372036854775808),0))]++eh0.H.e,b:=[(e7,true)]++eh0.H.b }
noncomputable def wO:LT:=(.jump 0 eT0 ⟨[(20,iC),(12,lB),(11,lC),(10,bX),(9,dQ),(18,e88),(17,e90),(13,(.v 13)),(16,(.v 16)),(8,aAJ),(7,aAK),(15,(.v 15)),(14,aAL),(6,aAM),(5,aAN),(19,iM),(4,bB)],[],[(6,aAO),(5,bF)]⟩)
theorem aUZ:(cE Try.prog G Gh eD ehs [] 3000 0 5 { eh0 with H:=vE }).map LT.bare=some wO:=by kernel_rfl
theorem aVI {ρ:Env} (hV:ρ=(eV x0 x1 x2 n o q r a b c d f g h i j k l m s t u v y A B C P Q L M)) (hB:aO x0 x1 x2 n o q r A B C P Q) (hJ:eJ0 n o q r a b c d f g h i j k l m s t u v y A B C P Q L M) (hH:Hyp.ok vE ρ) (hF0:0≤a∧a≤9223372036854775806) (hG0:a<r) :
 eW x0 x1 x2 ρ wO:=by
 simp only [eW,wO,LT.holds,aQ]
 have hB3:=hB
 have hJ3:=hJ
 simp only [aO] at hB3
 simp only [eJ0] at hJ3
 obtain ⟨b0,b1,b2,b3,c0,c1,c2,c3,c4,_⟩:=hB3
 obtain ⟨l4,l5,l6,l7,l8,l9,l10,l11,l12,l13,l14,l15,l16,l17,l18,l19,l20,m5,m6,hk,_⟩:=hJ3
 refine ⟨dU,⟨n,o,q,r,(E.i ρ bB),(E.i ρ aAN),(E.i ρ aAM),(E.i ρ aAK),(E.i ρ aAJ),(E.i ρ dQ),(E.i ρ bX),(E.i ρ lC),(E.i ρ lB),k,(E.i ρ aAL),m,s,(E.i ρ e90),(E.i ρ e88),(E.i ρ iM),(E.i ρ iC),A,B,C,P,Q,(E.a ρ bF),(E.a ρ aAO),?_,hB,?_⟩,?_⟩ <;> subst hV
 ·kernel_rfl
 ·exact ⟨(show 0≤a+1∧a+1≤9223372036854775807 by omega),(aB hH (by kernel_rfl)),(aB hH (by kernel_rfl)),(eI (eI l7 (eI (aB hH (by kernel_rfl)) l7)) (bOr (iO (aB hH (by kernel_rfl)) (aB hH (by kernel_rfl))) (aB hH (by kernel_rfl)))),(aB hH (by kernel_rfl)),(aB hH (by kernel_rfl)),(aB hH (by kernel_rfl)),(aB hH (by kernel_rfl)),(aB hH (by kernel_rfl)),l13,(aB hH (by kernel_rfl)),l15,l16,(aB hH (by kernel_rfl)),(aB hH (by kernel_rfl)),(aB hH (by kernel_rfl)),(aB hH (by kernel_rfl)),(aM hH (by kernel_rfl)),(aM hH (by kernel_rfl)),(show a+1≤r by omega),trivial⟩
 exact Nat.lt_of_le_of_lt (Nat.le_of_eq (m:=(r-(a+1)).toNat) (by kernel_rfl)) (Nat.lt_of_lt_of_eq (show (r-(a+1)).toNat<(r-a).toNat by omega) (by kernel_rfl))
noncomputable def vF:Hyp:={ eh0.H with e:=[((.v 4),(0,9223372036854775806)),(e4,(1,1)),(e6,(0,5)),(e18,(11,15)),(fO,(2,9223372036854775807))]++eh0.H.e,b:=[(e7,true)]++eh0.H.b }
noncomputable def wP:LT:=(.jump 0 eT0 ⟨[(20,iC),(12,lB),(11,lC),(10,bX),(9,dQ),(18,e88),(17,e90),(13,(.v 13)),(16,(.v 16)),(8,aAJ),(7,aAK),(15,(.v 15)),(14,aAL),(6,aAM),(5,aAN),(19,iM),(4,bB)],[],[(6,aAO),(5,bF)]⟩)
theorem aVa:(cE Try.prog G Gh eD ehs [] 3000 0 5 { eh0 with H:=vF }).map LT.bare=some wP:=by kernel_rfl
theorem aVJ {ρ:Env} (hV:ρ=(eV x0 x1 x2 n o q r a b c d f g h i j k l m s t u v y A B C P Q L M)) (hB:aO x0 x1 x2 n o q r A B C P Q) (hJ:eJ0 n o q r a b c d f g h i j k l m s t u v y A B C P Q L M) (hH:Hyp.ok vF ρ) (hF0:0≤a∧a≤9223372036854775806) (hG0:a<r) :
 eW x0 x1 x2 ρ wP:=by
 simp only [eW,wP,LT.holds,aQ]
 have hB3:=hB
 have hJ3:=hJ
 simp only [aO] at hB3
 simp only [eJ0] at hJ3
 obtain ⟨b0,b1,b2,b3,c0,c1,c2,c3,c4,_⟩:=hB3
 obtain ⟨l4,l5,l6,l7,l8,l9,l10,l11,l12,l13,l14,l15,l16,l17,l18,l19,l20,m5,m6,hk,_⟩:=hJ3
 refine ⟨dU,⟨n,o,q,r,(E.i ρ bB),(E.i ρ aAN),(E.i ρ aAM),(E.i ρ aAK),(E.i ρ aAJ),(E.i ρ dQ),(E.i ρ bX),(E.i ρ lC),(E.i ρ lB),k,(E.i ρ aAL),m,s,(E.i ρ e90),(E.i ρ e88),(E.i ρ iM),(E.i ρ iC),A,B,C,P,Q,(E.a ρ bF),(E.a ρ aAO),?_,hB,?_⟩,?_⟩ <;> subst hV
 ·kernel_rfl
 ·exact ⟨(show 0≤a+1∧a+1≤9223372036854775807 by omega),(aB hH (by kernel_rfl)),(aB hH (by kernel_rfl)),(eI (eI l7 (eI (aB hH (by kernel_rfl)) l7)) (bOr (iO (aB hH (by kernel_rfl)) (aB hH (by kernel_rfl))) (aB hH (by kernel_rfl)))),(aB hH (by kernel_rfl)),(aB hH (by kernel_rfl)),(aB hH (by kernel_rfl)),(aB hH (by kernel_rfl)),(aB hH (by kernel_rfl)),l13,(aB hH (by kernel_rfl)),l15,l16,(aB hH (by kernel_rfl)),(aB hH (by kernel_rfl)),(aB hH (by kernel_rfl)),(aB hH (by kernel_rfl)),(aM hH (by kernel_rfl)),(aM hH (by kernel_rfl)),(show a+1≤r by omega),trivial⟩
 exact Nat.lt_of_le_of_lt (Nat.le_of_eq (m:=(r-(a+1)).toNat) (by kernel_rfl)) (Nat.lt_of_lt_of_eq (show (r-(a+1)).toNat<(r-a).toNat by omega) (by kernel_rfl))
end Go.Proofs.Ytcckecfjjccffaa.SignalCommutes
