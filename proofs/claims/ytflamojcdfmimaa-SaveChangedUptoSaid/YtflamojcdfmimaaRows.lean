/-
  No cell of these rows narrows 'for every input' (looked for: loops, veiled, ifaces, maps, wideKeys, modest, calm, conditions, laid).
  DERIVED. THE GIVEN ROWS OF THIS SEAT. 5 by the template 'for every input the law returns true; each argument reads behind the call as it read before'; 0 by the template 'total and deterministic' (their statements: YtflamojcdfmimaaTotals.lean).
  GIVEN WITH THE SEED: the statements are not yours to turn. If you find one false, say at which input.
  Laid BY PROGRAM, IN A SANDBOX (cutbox-rows.mjs): the forced cells as the released guide's own fill.sh prints them over the translation 945e986bb99ca9ba… (all of the seat's roots in one cut). By AI agents, Wed Nov 11 2026. No macro, syntax, notation, axiom, sorry.
-/
import Derived.Test.YtflamojcdfmimaaChecked
import GoSem.Claim
import GoSem.ClaimJoined
import GoSem.ClaimMapViews
import Derived.JoinedTies
import Derived.KernelRfl
namespace Go.Proofs.Ytflamojcdfmimaa
/- THE CELL 'sum', in the pinned program and in every row, IS THE sha256 OF THE DUMP (.gsa) THAT YtflamojcdfmimaaProg.lean LOADS. Nothing in Lean hashes anything: it is a label: what it is worth is what the hold of that sum in a sandbox is worth. -/
noncomputable def Try.pinned : Pinned := { name := "ytflamojcdfmimaa", sum := "945e986bb99ca9ba1a67adf79b68bfb49e1bfe15f95176e423de856f5fd2d699", checked := Try.checked }
namespace Rows
def none {H : Type} : Left H := { results := [], args := [] }

/-- 'lanthornlaw05.SaveWrites': WHATEVER THE INPUT: true; the input reads as it did. -/
def saveWritesSpec : ChangeSpec := { name := "saveWrites", fn := fun _ => fun
  | [d] => { results := [.lit (.bool true)], args := [d] }
  | _ => none }
def saveWritesRow : OpenClaim := { program := "ytflamojcdfmimaa", sum := "945e986bb99ca9ba1a67adf79b68bfb49e1bfe15f95176e423de856f5fd2d699", func := "lanthorn/lanthornlaw05.SaveWrites", spec := "saveWrites", unfollowed := true, recurses := true, apart := false }
def SaveWritesSaid : Prop := saveWritesRow.holds Try.pinned (OpenSpec.ofChange saveWritesSpec)

/-- ITS FALSE NEIGHBOUR: 'it returns false'. Refute it at one input. -/
def saveWritesWrong : ChangeSpec := { name := "saveWrites", fn := fun _ => fun
  | [d] => { results := [.lit (.bool false)], args := [d] }
  | _ => none }
def SaveWritesWrongFalsely : Prop := saveWritesRow.holds Try.pinned (OpenSpec.ofChange saveWritesWrong)

/-- 'lanthornlaw05.SaveChanged': WHATEVER THE INPUT: true; the input reads as it did. -/
def saveChangedSpec : ChangeSpec := { name := "saveChanged", fn := fun _ => fun
  | [d1, d2] => { results := [.lit (.bool true)], args := [d1, d2] }
  | _ => none }
def saveChangedRow : OpenClaim := { program := "ytflamojcdfmimaa", sum := "945e986bb99ca9ba1a67adf79b68bfb49e1bfe15f95176e423de856f5fd2d699", func := "lanthorn/lanthornlaw05.SaveChanged", spec := "saveChanged", unfollowed := true, recurses := true, apart := false }
def SaveChangedSaid : Prop := saveChangedRow.holds Try.pinned (OpenSpec.ofChange saveChangedSpec)

/-- ITS FALSE NEIGHBOUR: 'it returns false'. Refute it at one input. -/
def saveChangedWrong : ChangeSpec := { name := "saveChanged", fn := fun _ => fun
  | [d1, d2] => { results := [.lit (.bool false)], args := [d1, d2] }
  | _ => none }
def SaveChangedWrongFalsely : Prop := saveChangedRow.holds Try.pinned (OpenSpec.ofChange saveChangedWrong)

/-- 'lanthornlaw05.SaveReads': WHATEVER THE INPUT: true; the input reads as it did. -/
def saveReadsSpec : ChangeSpec := { name := "saveReads", fn := fun _ => fun
  | [d1, d2] => { results := [.lit (.bool true)], args := [d1, d2] }
  | _ => none }
def saveReadsRow : OpenClaim := { program := "ytflamojcdfmimaa", sum := "945e986bb99ca9ba1a67adf79b68bfb49e1bfe15f95176e423de856f5fd2d699", func := "lanthorn/lanthornlaw05.SaveReads", spec := "saveReads", unfollowed := true, recurses := true, apart := false }
def SaveReadsSaid : Prop := saveReadsRow.holds Try.pinned (OpenSpec.ofChange saveReadsSpec)

/-- ITS FALSE NEIGHBOUR: 'it returns false'. Refute it at one input. -/
def saveReadsWrong : ChangeSpec := { name := "saveReads", fn := fun _ => fun
  | [d1, d2] => { results := [.lit (.bool false)], args := [d1, d2] }
  | _ => none }
def SaveReadsWrongFalsely : Prop := saveReadsRow.holds Try.pinned (OpenSpec.ofChange saveReadsWrong)

/-- 'lanthornlaw05.SaveNil': WHATEVER THE INPUT: true; the input reads as it did. -/
def saveNilSpec : ChangeSpec := { name := "saveNil", fn := fun _ => fun
  | [d] => { results := [.lit (.bool true)], args := [d] }
  | _ => none }
def saveNilRow : OpenClaim := { program := "ytflamojcdfmimaa", sum := "945e986bb99ca9ba1a67adf79b68bfb49e1bfe15f95176e423de856f5fd2d699", func := "lanthorn/lanthornlaw05.SaveNil", spec := "saveNil", unfollowed := true, recurses := true, apart := false }
def SaveNilSaid : Prop := saveNilRow.holds Try.pinned (OpenSpec.ofChange saveNilSpec)

/-- ITS FALSE NEIGHBOUR: 'it returns false'. Refute it at one input. -/
def saveNilWrong : ChangeSpec := { name := "saveNil", fn := fun _ => fun
  | [d] => { results := [.lit (.bool false)], args := [d] }
  | _ => none }
def SaveNilWrongFalsely : Prop := saveNilRow.holds Try.pinned (OpenSpec.ofChange saveNilWrong)

/-- 'lanthornlaw05.SaveBack': WHATEVER THE INPUT: true; the input reads as it did. -/
def saveBackSpec : ChangeSpec := { name := "saveBack", fn := fun _ => fun
  | [d] => { results := [.lit (.bool true)], args := [d] }
  | _ => none }
def saveBackRow : OpenClaim := { program := "ytflamojcdfmimaa", sum := "945e986bb99ca9ba1a67adf79b68bfb49e1bfe15f95176e423de856f5fd2d699", func := "lanthorn/lanthornlaw05.SaveBack", spec := "saveBack", unfollowed := true, recurses := true, apart := false }
def SaveBackSaid : Prop := saveBackRow.holds Try.pinned (OpenSpec.ofChange saveBackSpec)

/-- ITS FALSE NEIGHBOUR: 'it returns false'. Refute it at one input. -/
def saveBackWrong : ChangeSpec := { name := "saveBack", fn := fun _ => fun
  | [d] => { results := [.lit (.bool false)], args := [d] }
  | _ => none }
def SaveBackWrongFalsely : Prop := saveBackRow.holds Try.pinned (OpenSpec.ofChange saveBackWrong)

/- THE SECOND FORM. 'bulk': how many values and letters a reading holds, each counted each time it is reached (what is shared counts as often as it is met; a slice's spare places count too). A statement '..UptoSaid' is the law's where the arguments, and the package variables that the reading takes, are together of bulk at most 1048576: NARROWER than '..Said'. Prove '..Said' where nothing that the law and all that it calls make is longer than what came in: it says more and counts as full. Else prove '..UptoSaid'. A law counts once. -/
mutual
def uptoBulk {H : Type} : DataW H → Nat
  | .lit (.string bytes) => bytes.length + 1
  | .lit _ => 1
  | .nil => 1
  | .ptr d => uptoBulk d + 1
  | .slice elems spare => uptoBulkAll elems + uptoBulkAll spare + 1
  | .agg parts => uptoBulkAll parts + 1
  | .iface _ d => uptoBulk d + 1
  | .map entries => uptoBulkEntries entries + 1
  | .held _ => 1
def uptoBulkAll {H : Type} : List (DataW H) → Nat
  | [] => 0
  | d :: r => uptoBulk d + uptoBulkAll r
def uptoBulkEntries {H : Type} : List (Lit × DataW H) → Nat
  | [] => 0
  | x :: r => uptoBulkEntry x + uptoBulkEntries r
def uptoBulkEntry {H : Type} : Lit × DataW H → Nat
  | (.string bytes, d) => bytes.length + uptoBulk d + 1
  | (_, d) => uptoBulk d + 1
 end
def uptoSmall : (H : Type) → List (DataW H) → Bool := fun _ ds => decide (uptoBulkAll ds ≤ 1048576)
def OpenSpec.upto (s : _root_.Go.ChangeSpec) : _root_.Go.OpenSpec := { _root_.Go.OpenSpec.ofChange s with cond := some uptoSmall }

/-- 'lanthornlaw05.SaveWrites', WHERE WHAT IT READS IS OF BULK AT MOST 1048576: true; the input reads as it did. -/
def saveWritesUptoRow : OpenClaim := { program := "ytflamojcdfmimaa", sum := "945e986bb99ca9ba1a67adf79b68bfb49e1bfe15f95176e423de856f5fd2d699", func := "lanthorn/lanthornlaw05.SaveWrites", spec := "saveWrites", unfollowed := true, recurses := true, apart := false, narrowed := true }
def SaveWritesUptoSaid : Prop := saveWritesUptoRow.holds Try.pinned (OpenSpec.upto saveWritesSpec)

/-- 'lanthornlaw05.SaveChanged', WHERE WHAT IT READS IS OF BULK AT MOST 1048576: true; the input reads as it did. -/
def saveChangedUptoRow : OpenClaim := { program := "ytflamojcdfmimaa", sum := "945e986bb99ca9ba1a67adf79b68bfb49e1bfe15f95176e423de856f5fd2d699", func := "lanthorn/lanthornlaw05.SaveChanged", spec := "saveChanged", unfollowed := true, recurses := true, apart := false, narrowed := true }
def SaveChangedUptoSaid : Prop := saveChangedUptoRow.holds Try.pinned (OpenSpec.upto saveChangedSpec)

/-- 'lanthornlaw05.SaveReads', WHERE WHAT IT READS IS OF BULK AT MOST 1048576: true; the input reads as it did. -/
def saveReadsUptoRow : OpenClaim := { program := "ytflamojcdfmimaa", sum := "945e986bb99ca9ba1a67adf79b68bfb49e1bfe15f95176e423de856f5fd2d699", func := "lanthorn/lanthornlaw05.SaveReads", spec := "saveReads", unfollowed := true, recurses := true, apart := false, narrowed := true }
def SaveReadsUptoSaid : Prop := saveReadsUptoRow.holds Try.pinned (OpenSpec.upto saveReadsSpec)

/-- 'lanthornlaw05.SaveNil', WHERE WHAT IT READS IS OF BULK AT MOST 1048576: true; the input reads as it did. -/
def saveNilUptoRow : OpenClaim := { program := "ytflamojcdfmimaa", sum := "945e986bb99ca9ba1a67adf79b68bfb49e1bfe15f95176e423de856f5fd2d699", func := "lanthorn/lanthornlaw05.SaveNil", spec := "saveNil", unfollowed := true, recurses := true, apart := false, narrowed := true }
def SaveNilUptoSaid : Prop := saveNilUptoRow.holds Try.pinned (OpenSpec.upto saveNilSpec)

/-- 'lanthornlaw05.SaveBack', WHERE WHAT IT READS IS OF BULK AT MOST 1048576: true; the input reads as it did. -/
def saveBackUptoRow : OpenClaim := { program := "ytflamojcdfmimaa", sum := "945e986bb99ca9ba1a67adf79b68bfb49e1bfe15f95176e423de856f5fd2d699", func := "lanthorn/lanthornlaw05.SaveBack", spec := "saveBack", unfollowed := true, recurses := true, apart := false, narrowed := true }
def SaveBackUptoSaid : Prop := saveBackUptoRow.holds Try.pinned (OpenSpec.upto saveBackSpec)

end Rows
end Go.Proofs.Ytflamojcdfmimaa
