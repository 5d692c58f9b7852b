/-
  No cell of these rows narrows 'for every input' (looked for: loops, veiled, ifaces, maps, wideKeys, modest, calm, conditions, laid).
  DERIVED. THE GIVEN ROWS OF THIS SEAT. 7 by the template 'for every input the law returns true; each argument reads behind the call as it read before'; 0 by the template 'total and deterministic' (their statements: YtcamkhjahdebeaaTotals.lean).
  GIVEN WITH THE SEED: the statements are not yours to turn. If you find one false, say at which input.
  Laid BY PROGRAM, IN A SANDBOX (cutbox-rows.mjs): the forced cells as the released guide's own fill.sh prints them over the translation 696fc43380b3c2f6… (all of the seat's roots in one cut). By AI agents, Wed Nov 11 2026. No macro, syntax, notation, axiom, sorry.
-/
import Derived.Test.YtcamkhjahdebeaaChecked
import GoSem.Claim
import GoSem.ClaimJoined
import GoSem.ClaimMapViews
import Derived.JoinedTies
import Derived.KernelRfl
namespace Go.Proofs.Ytcamkhjahdebeaa
/- THE CELL 'sum', in the pinned program and in every row, IS THE sha256 OF THE DUMP (.gsa) THAT YtcamkhjahdebeaaProg.lean LOADS. Nothing in Lean hashes anything: it is a label: what it is worth is what the hold of that sum in a sandbox is worth. -/
noncomputable def Try.pinned : Pinned := { name := "ytcamkhjahdebeaa", sum := "696fc43380b3c2f65ffa235a5abdf24be0155dfa1c3caa43967d6e6d79038200", checked := Try.checked }
namespace Rows
def none {H : Type} : Left H := { results := [], args := [] }

/-- 'lanthornlaw20.CellDots': WHATEVER THE INPUT: true; the input reads as it did. -/
def cellDotsSpec : ChangeSpec := { name := "cellDots", fn := fun _ => fun
  | [d1, d2, d3] => { results := [.lit (.bool true)], args := [d1, d2, d3] }
  | _ => none }
def cellDotsRow : OpenClaim := { program := "ytcamkhjahdebeaa", sum := "696fc43380b3c2f65ffa235a5abdf24be0155dfa1c3caa43967d6e6d79038200", func := "lanthorn/lanthornlaw20.CellDots", spec := "cellDots", unfollowed := true, recurses := true, apart := false }
def CellDotsSaid : Prop := cellDotsRow.holds Try.pinned (OpenSpec.ofChange cellDotsSpec)

/-- ITS FALSE NEIGHBOUR: 'it returns false'. Refute it at one input. -/
def cellDotsWrong : ChangeSpec := { name := "cellDots", fn := fun _ => fun
  | [d1, d2, d3] => { results := [.lit (.bool false)], args := [d1, d2, d3] }
  | _ => none }
def CellDotsWrongFalsely : Prop := cellDotsRow.holds Try.pinned (OpenSpec.ofChange cellDotsWrong)

/-- 'lanthornlaw20.CellMaps': WHATEVER THE INPUT: true; the input reads as it did. -/
def cellMapsSpec : ChangeSpec := { name := "cellMaps", fn := fun _ => fun
  | [d1, d2, d3, d4, d5] => { results := [.lit (.bool true)], args := [d1, d2, d3, d4, d5] }
  | _ => none }
def cellMapsRow : OpenClaim := { program := "ytcamkhjahdebeaa", sum := "696fc43380b3c2f65ffa235a5abdf24be0155dfa1c3caa43967d6e6d79038200", func := "lanthorn/lanthornlaw20.CellMaps", spec := "cellMaps", unfollowed := true, recurses := true, apart := false }
def CellMapsSaid : Prop := cellMapsRow.holds Try.pinned (OpenSpec.ofChange cellMapsSpec)

/-- ITS FALSE NEIGHBOUR: 'it returns false'. Refute it at one input. -/
def cellMapsWrong : ChangeSpec := { name := "cellMaps", fn := fun _ => fun
  | [d1, d2, d3, d4, d5] => { results := [.lit (.bool false)], args := [d1, d2, d3, d4, d5] }
  | _ => none }
def CellMapsWrongFalsely : Prop := cellMapsRow.holds Try.pinned (OpenSpec.ofChange cellMapsWrong)

/-- 'lanthornlaw20.CellBits': WHATEVER THE INPUT: true; the input reads as it did. -/
def cellBitsSpec : ChangeSpec := { name := "cellBits", fn := fun _ => fun
  | [d1, d2, d3, d4, d5, d6, d7, d8] => { results := [.lit (.bool true)], args := [d1, d2, d3, d4, d5, d6, d7, d8] }
  | _ => none }
def cellBitsRow : OpenClaim := { program := "ytcamkhjahdebeaa", sum := "696fc43380b3c2f65ffa235a5abdf24be0155dfa1c3caa43967d6e6d79038200", func := "lanthorn/lanthornlaw20.CellBits", spec := "cellBits", unfollowed := true, recurses := true, apart := false }
def CellBitsSaid : Prop := cellBitsRow.holds Try.pinned (OpenSpec.ofChange cellBitsSpec)

/-- ITS FALSE NEIGHBOUR: 'it returns false'. Refute it at one input. -/
def cellBitsWrong : ChangeSpec := { name := "cellBits", fn := fun _ => fun
  | [d1, d2, d3, d4, d5, d6, d7, d8] => { results := [.lit (.bool false)], args := [d1, d2, d3, d4, d5, d6, d7, d8] }
  | _ => none }
def CellBitsWrongFalsely : Prop := cellBitsRow.holds Try.pinned (OpenSpec.ofChange cellBitsWrong)

/-- 'lanthornlaw20.CellMoves': WHATEVER THE INPUT: true; the input reads as it did. -/
def cellMovesSpec : ChangeSpec := { name := "cellMoves", fn := fun _ => fun
  | [d1, d2, d3] => { results := [.lit (.bool true)], args := [d1, d2, d3] }
  | _ => none }
def cellMovesRow : OpenClaim := { program := "ytcamkhjahdebeaa", sum := "696fc43380b3c2f65ffa235a5abdf24be0155dfa1c3caa43967d6e6d79038200", func := "lanthorn/lanthornlaw20.CellMoves", spec := "cellMoves", unfollowed := true, recurses := true, apart := false }
def CellMovesSaid : Prop := cellMovesRow.holds Try.pinned (OpenSpec.ofChange cellMovesSpec)

/-- ITS FALSE NEIGHBOUR: 'it returns false'. Refute it at one input. -/
def cellMovesWrong : ChangeSpec := { name := "cellMoves", fn := fun _ => fun
  | [d1, d2, d3] => { results := [.lit (.bool false)], args := [d1, d2, d3] }
  | _ => none }
def CellMovesWrongFalsely : Prop := cellMovesRow.holds Try.pinned (OpenSpec.ofChange cellMovesWrong)

/-- 'lanthornlaw20.CellTurned': WHATEVER THE INPUT: true; the input reads as it did. -/
def cellTurnedSpec : ChangeSpec := { name := "cellTurned", fn := fun _ => fun
  | [d1, d2, d3, d4, d5] => { results := [.lit (.bool true)], args := [d1, d2, d3, d4, d5] }
  | _ => none }
def cellTurnedRow : OpenClaim := { program := "ytcamkhjahdebeaa", sum := "696fc43380b3c2f65ffa235a5abdf24be0155dfa1c3caa43967d6e6d79038200", func := "lanthorn/lanthornlaw20.CellTurned", spec := "cellTurned", unfollowed := true, recurses := true, apart := false }
def CellTurnedSaid : Prop := cellTurnedRow.holds Try.pinned (OpenSpec.ofChange cellTurnedSpec)

/-- ITS FALSE NEIGHBOUR: 'it returns false'. Refute it at one input. -/
def cellTurnedWrong : ChangeSpec := { name := "cellTurned", fn := fun _ => fun
  | [d1, d2, d3, d4, d5] => { results := [.lit (.bool false)], args := [d1, d2, d3, d4, d5] }
  | _ => none }
def CellTurnedWrongFalsely : Prop := cellTurnedRow.holds Try.pinned (OpenSpec.ofChange cellTurnedWrong)

/-- 'lanthornlaw20.CellSees': WHATEVER THE INPUT: true; the input reads as it did. -/
def cellSeesSpec : ChangeSpec := { name := "cellSees", fn := fun _ => fun
  | [d1, d2, d3] => { results := [.lit (.bool true)], args := [d1, d2, d3] }
  | _ => none }
def cellSeesRow : OpenClaim := { program := "ytcamkhjahdebeaa", sum := "696fc43380b3c2f65ffa235a5abdf24be0155dfa1c3caa43967d6e6d79038200", func := "lanthorn/lanthornlaw20.CellSees", spec := "cellSees", unfollowed := true, recurses := true, apart := false }
def CellSeesSaid : Prop := cellSeesRow.holds Try.pinned (OpenSpec.ofChange cellSeesSpec)

/-- ITS FALSE NEIGHBOUR: 'it returns false'. Refute it at one input. -/
def cellSeesWrong : ChangeSpec := { name := "cellSees", fn := fun _ => fun
  | [d1, d2, d3] => { results := [.lit (.bool false)], args := [d1, d2, d3] }
  | _ => none }
def CellSeesWrongFalsely : Prop := cellSeesRow.holds Try.pinned (OpenSpec.ofChange cellSeesWrong)

/-- 'lanthornlaw20.CellNil': WHATEVER THE INPUT: true; the input reads as it did. -/
def cellNilSpec : ChangeSpec := { name := "cellNil", fn := fun _ => fun
  | [d1, d2, d3] => { results := [.lit (.bool true)], args := [d1, d2, d3] }
  | _ => none }
def cellNilRow : OpenClaim := { program := "ytcamkhjahdebeaa", sum := "696fc43380b3c2f65ffa235a5abdf24be0155dfa1c3caa43967d6e6d79038200", func := "lanthorn/lanthornlaw20.CellNil", spec := "cellNil", unfollowed := true, recurses := true, apart := false }
def CellNilSaid : Prop := cellNilRow.holds Try.pinned (OpenSpec.ofChange cellNilSpec)

/-- ITS FALSE NEIGHBOUR: 'it returns false'. Refute it at one input. -/
def cellNilWrong : ChangeSpec := { name := "cellNil", fn := fun _ => fun
  | [d1, d2, d3] => { results := [.lit (.bool false)], args := [d1, d2, d3] }
  | _ => none }
def CellNilWrongFalsely : Prop := cellNilRow.holds Try.pinned (OpenSpec.ofChange cellNilWrong)

/- THE SECOND FORM. 'bulk': how many values and letters a reading holds, each counted each time it is reached (what is shared counts as often as it is met; a slice's spare places count too). A statement '..UptoSaid' is the law's where the arguments, and the package variables that the reading takes, are together of bulk at most 1048576: NARROWER than '..Said'. Prove '..Said' where nothing that the law and all that it calls make is longer than what came in: it says more and counts as full. Else prove '..UptoSaid'. A law counts once. -/
mutual
def uptoBulk {H : Type} : DataW H → Nat
  | .lit (.string bytes) => bytes.length + 1
  | .lit _ => 1
  | .nil => 1
  | .ptr d => uptoBulk d + 1
  | .slice elems spare => uptoBulkAll elems + uptoBulkAll spare + 1
  | .agg parts => uptoBulkAll parts + 1
  | .iface _ d => uptoBulk d + 1
  | .map entries => uptoBulkEntries entries + 1
  | .held _ => 1
def uptoBulkAll {H : Type} : List (DataW H) → Nat
  | [] => 0
  | d :: r => uptoBulk d + uptoBulkAll r
def uptoBulkEntries {H : Type} : List (Lit × DataW H) → Nat
  | [] => 0
  | x :: r => uptoBulkEntry x + uptoBulkEntries r
def uptoBulkEntry {H : Type} : Lit × DataW H → Nat
  | (.string bytes, d) => bytes.length + uptoBulk d + 1
  | (_, d) => uptoBulk d + 1
 end
def uptoSmall : (H : Type) → List (DataW H) → Bool := fun _ ds => decide (uptoBulkAll ds ≤ 1048576)
def OpenSpec.upto (s : _root_.Go.ChangeSpec) : _root_.Go.OpenSpec := { _root_.Go.OpenSpec.ofChange s with cond := some uptoSmall }

/-- 'lanthornlaw20.CellDots', WHERE WHAT IT READS IS OF BULK AT MOST 1048576: true; the input reads as it did. -/
def cellDotsUptoRow : OpenClaim := { program := "ytcamkhjahdebeaa", sum := "696fc43380b3c2f65ffa235a5abdf24be0155dfa1c3caa43967d6e6d79038200", func := "lanthorn/lanthornlaw20.CellDots", spec := "cellDots", unfollowed := true, recurses := true, apart := false, narrowed := true }
def CellDotsUptoSaid : Prop := cellDotsUptoRow.holds Try.pinned (OpenSpec.upto cellDotsSpec)

/-- 'lanthornlaw20.CellMaps', WHERE WHAT IT READS IS OF BULK AT MOST 1048576: true; the input reads as it did. -/
def cellMapsUptoRow : OpenClaim := { program := "ytcamkhjahdebeaa", sum := "696fc43380b3c2f65ffa235a5abdf24be0155dfa1c3caa43967d6e6d79038200", func := "lanthorn/lanthornlaw20.CellMaps", spec := "cellMaps", unfollowed := true, recurses := true, apart := false, narrowed := true }
def CellMapsUptoSaid : Prop := cellMapsUptoRow.holds Try.pinned (OpenSpec.upto cellMapsSpec)

/-- 'lanthornlaw20.CellBits', WHERE WHAT IT READS IS OF BULK AT MOST 1048576: true; the input reads as it did. -/
def cellBitsUptoRow : OpenClaim := { program := "ytcamkhjahdebeaa", sum := "696fc43380b3c2f65ffa235a5abdf24be0155dfa1c3caa43967d6e6d79038200", func := "lanthorn/lanthornlaw20.CellBits", spec := "cellBits", unfollowed := true, recurses := true, apart := false, narrowed := true }
def CellBitsUptoSaid : Prop := cellBitsUptoRow.holds Try.pinned (OpenSpec.upto cellBitsSpec)

/-- 'lanthornlaw20.CellMoves', WHERE WHAT IT READS IS OF BULK AT MOST 1048576: true; the input reads as it did. -/
def cellMovesUptoRow : OpenClaim := { program := "ytcamkhjahdebeaa", sum := "696fc43380b3c2f65ffa235a5abdf24be0155dfa1c3caa43967d6e6d79038200", func := "lanthorn/lanthornlaw20.CellMoves", spec := "cellMoves", unfollowed := true, recurses := true, apart := false, narrowed := true }
def CellMovesUptoSaid : Prop := cellMovesUptoRow.holds Try.pinned (OpenSpec.upto cellMovesSpec)

/-- 'lanthornlaw20.CellTurned', WHERE WHAT IT READS IS OF BULK AT MOST 1048576: true; the input reads as it did. -/
def cellTurnedUptoRow : OpenClaim := { program := "ytcamkhjahdebeaa", sum := "696fc43380b3c2f65ffa235a5abdf24be0155dfa1c3caa43967d6e6d79038200", func := "lanthorn/lanthornlaw20.CellTurned", spec := "cellTurned", unfollowed := true, recurses := true, apart := false, narrowed := true }
def CellTurnedUptoSaid : Prop := cellTurnedUptoRow.holds Try.pinned (OpenSpec.upto cellTurnedSpec)

/-- 'lanthornlaw20.CellSees', WHERE WHAT IT READS IS OF BULK AT MOST 1048576: true; the input reads as it did. -/
def cellSeesUptoRow : OpenClaim := { program := "ytcamkhjahdebeaa", sum := "696fc43380b3c2f65ffa235a5abdf24be0155dfa1c3caa43967d6e6d79038200", func := "lanthorn/lanthornlaw20.CellSees", spec := "cellSees", unfollowed := true, recurses := true, apart := false, narrowed := true }
def CellSeesUptoSaid : Prop := cellSeesUptoRow.holds Try.pinned (OpenSpec.upto cellSeesSpec)

/-- 'lanthornlaw20.CellNil', WHERE WHAT IT READS IS OF BULK AT MOST 1048576: true; the input reads as it did. -/
def cellNilUptoRow : OpenClaim := { program := "ytcamkhjahdebeaa", sum := "696fc43380b3c2f65ffa235a5abdf24be0155dfa1c3caa43967d6e6d79038200", func := "lanthorn/lanthornlaw20.CellNil", spec := "cellNil", unfollowed := true, recurses := true, apart := false, narrowed := true }
def CellNilUptoSaid : Prop := cellNilUptoRow.holds Try.pinned (OpenSpec.upto cellNilSpec)

end Rows
end Go.Proofs.Ytcamkhjahdebeaa
