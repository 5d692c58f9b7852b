/-
  No cell of these rows narrows 'for every input' (looked for: loops, veiled, ifaces, maps, wideKeys, modest, calm, conditions, laid).
  DERIVED. THE GIVEN ROWS OF THIS SEAT. 6 by the template 'for every input the law returns true; each argument reads behind the call as it read before'; 0 by the template 'total and deterministic' (their statements: YtdhjmnjooekemaaTotals.lean).
  GIVEN WITH THE SEED: the statements are not yours to turn. If you find one false, say at which input.
  Laid BY PROGRAM, IN A SANDBOX (cutbox-rows.mjs): the forced cells as the released guide's own fill.sh prints them over the translation 4871c171a6ad5fb2… (all of the seat's roots in one cut). By AI agents, Wed Nov 11 2026. No macro, syntax, notation, axiom, sorry.
-/
import Derived.Test.YtdhjmnjooekemaaChecked
import GoSem.Claim
import GoSem.ClaimJoined
import GoSem.ClaimMapViews
import Derived.JoinedTies
import Derived.KernelRfl
namespace Go.Proofs.Ytdhjmnjooekemaa
/- THE CELL 'sum', in the pinned program and in every row, IS THE sha256 OF THE DUMP (.gsa) THAT YtdhjmnjooekemaaProg.lean LOADS. Nothing in Lean hashes anything: it is a label: what it is worth is what the hold of that sum in a sandbox is worth. -/
noncomputable def Try.pinned : Pinned := { name := "ytdhjmnjooekemaa", sum := "4871c171a6ad5fb24692a5521c21d7fa481bce4f04c2a836e1162cbadb3be50f", checked := Try.checked }
namespace Rows
def none {H : Type} : Left H := { results := [], args := [] }

/-- 'lanthornlaw21.PlaneStraight': WHATEVER THE INPUT: true; the input reads as it did. -/
def planeStraightSpec : ChangeSpec := { name := "planeStraight", fn := fun _ => fun
  | [d1, d2, d3, d4, d5, d6] => { results := [.lit (.bool true)], args := [d1, d2, d3, d4, d5, d6] }
  | _ => none }
def planeStraightRow : OpenClaim := { program := "ytdhjmnjooekemaa", sum := "4871c171a6ad5fb24692a5521c21d7fa481bce4f04c2a836e1162cbadb3be50f", func := "lanthorn/lanthornlaw21.PlaneStraight", spec := "planeStraight", unfollowed := true, recurses := true, apart := false }
def PlaneStraightSaid : Prop := planeStraightRow.holds Try.pinned (OpenSpec.ofChange planeStraightSpec)

/-- ITS FALSE NEIGHBOUR: 'it returns false'. Refute it at one input. -/
def planeStraightWrong : ChangeSpec := { name := "planeStraight", fn := fun _ => fun
  | [d1, d2, d3, d4, d5, d6] => { results := [.lit (.bool false)], args := [d1, d2, d3, d4, d5, d6] }
  | _ => none }
def PlaneStraightWrongFalsely : Prop := planeStraightRow.holds Try.pinned (OpenSpec.ofChange planeStraightWrong)

/-- 'lanthornlaw21.PlaneGoes': WHATEVER THE INPUT: true; the input reads as it did. -/
def planeGoesSpec : ChangeSpec := { name := "planeGoes", fn := fun _ => fun
  | [d1, d2, d3] => { results := [.lit (.bool true)], args := [d1, d2, d3] }
  | _ => none }
def planeGoesRow : OpenClaim := { program := "ytdhjmnjooekemaa", sum := "4871c171a6ad5fb24692a5521c21d7fa481bce4f04c2a836e1162cbadb3be50f", func := "lanthorn/lanthornlaw21.PlaneGoes", spec := "planeGoes", unfollowed := true, recurses := true, apart := false }
def PlaneGoesSaid : Prop := planeGoesRow.holds Try.pinned (OpenSpec.ofChange planeGoesSpec)

/-- ITS FALSE NEIGHBOUR: 'it returns false'. Refute it at one input. -/
def planeGoesWrong : ChangeSpec := { name := "planeGoes", fn := fun _ => fun
  | [d1, d2, d3] => { results := [.lit (.bool false)], args := [d1, d2, d3] }
  | _ => none }
def PlaneGoesWrongFalsely : Prop := planeGoesRow.holds Try.pinned (OpenSpec.ofChange planeGoesWrong)

/-- 'lanthornlaw21.PlanePoints': WHATEVER THE INPUT: true; the input reads as it did. -/
def planePointsSpec : ChangeSpec := { name := "planePoints", fn := fun _ => fun
  | [d1, d2, d3, d4, d5, d6] => { results := [.lit (.bool true)], args := [d1, d2, d3, d4, d5, d6] }
  | _ => none }
def planePointsRow : OpenClaim := { program := "ytdhjmnjooekemaa", sum := "4871c171a6ad5fb24692a5521c21d7fa481bce4f04c2a836e1162cbadb3be50f", func := "lanthorn/lanthornlaw21.PlanePoints", spec := "planePoints", unfollowed := true, recurses := true, apart := false }
def PlanePointsSaid : Prop := planePointsRow.holds Try.pinned (OpenSpec.ofChange planePointsSpec)

/-- ITS FALSE NEIGHBOUR: 'it returns false'. Refute it at one input. -/
def planePointsWrong : ChangeSpec := { name := "planePoints", fn := fun _ => fun
  | [d1, d2, d3, d4, d5, d6] => { results := [.lit (.bool false)], args := [d1, d2, d3, d4, d5, d6] }
  | _ => none }
def PlanePointsWrongFalsely : Prop := planePointsRow.holds Try.pinned (OpenSpec.ofChange planePointsWrong)

/-- 'lanthornlaw21.PlaneRepeats': WHATEVER THE INPUT: true; the input reads as it did. -/
def planeRepeatsSpec : ChangeSpec := { name := "planeRepeats", fn := fun _ => fun
  | [d1, d2, d3, d4, d5] => { results := [.lit (.bool true)], args := [d1, d2, d3, d4, d5] }
  | _ => none }
def planeRepeatsRow : OpenClaim := { program := "ytdhjmnjooekemaa", sum := "4871c171a6ad5fb24692a5521c21d7fa481bce4f04c2a836e1162cbadb3be50f", func := "lanthorn/lanthornlaw21.PlaneRepeats", spec := "planeRepeats", unfollowed := true, recurses := true, apart := false }
def PlaneRepeatsSaid : Prop := planeRepeatsRow.holds Try.pinned (OpenSpec.ofChange planeRepeatsSpec)

/-- ITS FALSE NEIGHBOUR: 'it returns false'. Refute it at one input. -/
def planeRepeatsWrong : ChangeSpec := { name := "planeRepeats", fn := fun _ => fun
  | [d1, d2, d3, d4, d5] => { results := [.lit (.bool false)], args := [d1, d2, d3, d4, d5] }
  | _ => none }
def PlaneRepeatsWrongFalsely : Prop := planeRepeatsRow.holds Try.pinned (OpenSpec.ofChange planeRepeatsWrong)

/-- 'lanthornlaw21.PlaneDots': WHATEVER THE INPUT: true; the input reads as it did. -/
def planeDotsSpec : ChangeSpec := { name := "planeDots", fn := fun _ => fun
  | [d1, d2, d3] => { results := [.lit (.bool true)], args := [d1, d2, d3] }
  | _ => none }
def planeDotsRow : OpenClaim := { program := "ytdhjmnjooekemaa", sum := "4871c171a6ad5fb24692a5521c21d7fa481bce4f04c2a836e1162cbadb3be50f", func := "lanthorn/lanthornlaw21.PlaneDots", spec := "planeDots", unfollowed := true, recurses := true, apart := false }
def PlaneDotsSaid : Prop := planeDotsRow.holds Try.pinned (OpenSpec.ofChange planeDotsSpec)

/-- ITS FALSE NEIGHBOUR: 'it returns false'. Refute it at one input. -/
def planeDotsWrong : ChangeSpec := { name := "planeDots", fn := fun _ => fun
  | [d1, d2, d3] => { results := [.lit (.bool false)], args := [d1, d2, d3] }
  | _ => none }
def PlaneDotsWrongFalsely : Prop := planeDotsRow.holds Try.pinned (OpenSpec.ofChange planeDotsWrong)

/-- 'lanthornlaw21.PlaneNil': WHATEVER THE INPUT: true; the input reads as it did. -/
def planeNilSpec : ChangeSpec := { name := "planeNil", fn := fun _ => fun
  | [d1, d2, d3] => { results := [.lit (.bool true)], args := [d1, d2, d3] }
  | _ => none }
def planeNilRow : OpenClaim := { program := "ytdhjmnjooekemaa", sum := "4871c171a6ad5fb24692a5521c21d7fa481bce4f04c2a836e1162cbadb3be50f", func := "lanthorn/lanthornlaw21.PlaneNil", spec := "planeNil", unfollowed := true, recurses := true, apart := false }
def PlaneNilSaid : Prop := planeNilRow.holds Try.pinned (OpenSpec.ofChange planeNilSpec)

/-- ITS FALSE NEIGHBOUR: 'it returns false'. Refute it at one input. -/
def planeNilWrong : ChangeSpec := { name := "planeNil", fn := fun _ => fun
  | [d1, d2, d3] => { results := [.lit (.bool false)], args := [d1, d2, d3] }
  | _ => none }
def PlaneNilWrongFalsely : Prop := planeNilRow.holds Try.pinned (OpenSpec.ofChange planeNilWrong)

/- THE SECOND FORM. 'bulk': how many values and letters a reading holds, each counted each time it is reached (what is shared counts as often as it is met; a slice's spare places count too). A statement '..UptoSaid' is the law's where the arguments, and the package variables that the reading takes, are together of bulk at most 1048576: NARROWER than '..Said'. Prove '..Said' where nothing that the law and all that it calls make is longer than what came in: it says more and counts as full. Else prove '..UptoSaid'. A law counts once. -/
mutual
def uptoBulk {H : Type} : DataW H → Nat
  | .lit (.string bytes) => bytes.length + 1
  | .lit _ => 1
  | .nil => 1
  | .ptr d => uptoBulk d + 1
  | .slice elems spare => uptoBulkAll elems + uptoBulkAll spare + 1
  | .agg parts => uptoBulkAll parts + 1
  | .iface _ d => uptoBulk d + 1
  | .map entries => uptoBulkEntries entries + 1
  | .held _ => 1
def uptoBulkAll {H : Type} : List (DataW H) → Nat
  | [] => 0
  | d :: r => uptoBulk d + uptoBulkAll r
def uptoBulkEntries {H : Type} : List (Lit × DataW H) → Nat
  | [] => 0
  | x :: r => uptoBulkEntry x + uptoBulkEntries r
def uptoBulkEntry {H : Type} : Lit × DataW H → Nat
  | (.string bytes, d) => bytes.length + uptoBulk d + 1
  | (_, d) => uptoBulk d + 1
 end
def uptoSmall : (H : Type) → List (DataW H) → Bool := fun _ ds => decide (uptoBulkAll ds ≤ 1048576)
def OpenSpec.upto (s : _root_.Go.ChangeSpec) : _root_.Go.OpenSpec := { _root_.Go.OpenSpec.ofChange s with cond := some uptoSmall }

/-- 'lanthornlaw21.PlaneStraight', WHERE WHAT IT READS IS OF BULK AT MOST 1048576: true; the input reads as it did. -/
def planeStraightUptoRow : OpenClaim := { program := "ytdhjmnjooekemaa", sum := "4871c171a6ad5fb24692a5521c21d7fa481bce4f04c2a836e1162cbadb3be50f", func := "lanthorn/lanthornlaw21.PlaneStraight", spec := "planeStraight", unfollowed := true, recurses := true, apart := false, narrowed := true }
def PlaneStraightUptoSaid : Prop := planeStraightUptoRow.holds Try.pinned (OpenSpec.upto planeStraightSpec)

/-- 'lanthornlaw21.PlaneGoes', WHERE WHAT IT READS IS OF BULK AT MOST 1048576: true; the input reads as it did. -/
def planeGoesUptoRow : OpenClaim := { program := "ytdhjmnjooekemaa", sum := "4871c171a6ad5fb24692a5521c21d7fa481bce4f04c2a836e1162cbadb3be50f", func := "lanthorn/lanthornlaw21.PlaneGoes", spec := "planeGoes", unfollowed := true, recurses := true, apart := false, narrowed := true }
def PlaneGoesUptoSaid : Prop := planeGoesUptoRow.holds Try.pinned (OpenSpec.upto planeGoesSpec)

/-- 'lanthornlaw21.PlanePoints', WHERE WHAT IT READS IS OF BULK AT MOST 1048576: true; the input reads as it did. -/
def planePointsUptoRow : OpenClaim := { program := "ytdhjmnjooekemaa", sum := "4871c171a6ad5fb24692a5521c21d7fa481bce4f04c2a836e1162cbadb3be50f", func := "lanthorn/lanthornlaw21.PlanePoints", spec := "planePoints", unfollowed := true, recurses := true, apart := false, narrowed := true }
def PlanePointsUptoSaid : Prop := planePointsUptoRow.holds Try.pinned (OpenSpec.upto planePointsSpec)

/-- 'lanthornlaw21.PlaneRepeats', WHERE WHAT IT READS IS OF BULK AT MOST 1048576: true; the input reads as it did. -/
def planeRepeatsUptoRow : OpenClaim := { program := "ytdhjmnjooekemaa", sum := "4871c171a6ad5fb24692a5521c21d7fa481bce4f04c2a836e1162cbadb3be50f", func := "lanthorn/lanthornlaw21.PlaneRepeats", spec := "planeRepeats", unfollowed := true, recurses := true, apart := false, narrowed := true }
def PlaneRepeatsUptoSaid : Prop := planeRepeatsUptoRow.holds Try.pinned (OpenSpec.upto planeRepeatsSpec)

/-- 'lanthornlaw21.PlaneDots', WHERE WHAT IT READS IS OF BULK AT MOST 1048576: true; the input reads as it did. -/
def planeDotsUptoRow : OpenClaim := { program := "ytdhjmnjooekemaa", sum := "4871c171a6ad5fb24692a5521c21d7fa481bce4f04c2a836e1162cbadb3be50f", func := "lanthorn/lanthornlaw21.PlaneDots", spec := "planeDots", unfollowed := true, recurses := true, apart := false, narrowed := true }
def PlaneDotsUptoSaid : Prop := planeDotsUptoRow.holds Try.pinned (OpenSpec.upto planeDotsSpec)

/-- 'lanthornlaw21.PlaneNil', WHERE WHAT IT READS IS OF BULK AT MOST 1048576: true; the input reads as it did. -/
def planeNilUptoRow : OpenClaim := { program := "ytdhjmnjooekemaa", sum := "4871c171a6ad5fb24692a5521c21d7fa481bce4f04c2a836e1162cbadb3be50f", func := "lanthorn/lanthornlaw21.PlaneNil", spec := "planeNil", unfollowed := true, recurses := true, apart := false, narrowed := true }
def PlaneNilUptoSaid : Prop := planeNilUptoRow.holds Try.pinned (OpenSpec.upto planeNilSpec)

end Rows
end Go.Proofs.Ytdhjmnjooekemaa
