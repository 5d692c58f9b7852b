/-
  No cell of these rows narrows 'for every input' (looked for: loops, veiled, ifaces, maps, wideKeys, modest, calm, conditions, laid).
  DERIVED. THE GIVEN ROWS OF THIS SEAT. 6 by the template 'for every input the law returns true; each argument reads behind the call as it read before'; 0 by the template 'total and deterministic' (their statements: YtjegnoknenahpaaTotals.lean).
  GIVEN WITH THE SEED: the statements are not yours to turn. If you find one false, say at which input.
  Laid BY PROGRAM, IN A SANDBOX (cutbox-rows.mjs): the forced cells as the released guide's own fill.sh prints them over the translation f8d00574cf54e076… (all of the seat's roots in one cut). By AI agents, Wed Nov 11 2026. No macro, syntax, notation, axiom, sorry.
-/
import Derived.Test.YtjegnoknenahpaaChecked
import GoSem.Claim
import GoSem.ClaimJoined
import GoSem.ClaimMapViews
import Derived.JoinedTies
import Derived.KernelRfl
namespace Go.Proofs.Ytjegnoknenahpaa
/- THE CELL 'sum', in the pinned program and in every row, IS THE sha256 OF THE DUMP (.gsa) THAT YtjegnoknenahpaaProg.lean LOADS. Nothing in Lean hashes anything: it is a label: what it is worth is what the hold of that sum in a sandbox is worth. -/
noncomputable def Try.pinned : Pinned := { name := "ytjegnoknenahpaa", sum := "f8d00574cf54e0761559c37ecdefd49edf98d31d09a8bb529992ce416d518952", checked := Try.checked }
namespace Rows
def none {H : Type} : Left H := { results := [], args := [] }

/-- 'lanthornlaw18.VramTurned': WHATEVER THE INPUT: true; the input reads as it did. -/
def vramTurnedSpec : ChangeSpec := { name := "vramTurned", fn := fun _ => fun
  | [d1, d2, d3] => { results := [.lit (.bool true)], args := [d1, d2, d3] }
  | _ => none }
def vramTurnedRow : OpenClaim := { program := "ytjegnoknenahpaa", sum := "f8d00574cf54e0761559c37ecdefd49edf98d31d09a8bb529992ce416d518952", func := "lanthorn/lanthornlaw18.VramTurned", spec := "vramTurned", apart := false }
def VramTurnedSaid : Prop := vramTurnedRow.holds Try.pinned (OpenSpec.ofChange vramTurnedSpec)

/-- ITS FALSE NEIGHBOUR: 'it returns false'. Refute it at one input. -/
def vramTurnedWrong : ChangeSpec := { name := "vramTurned", fn := fun _ => fun
  | [d1, d2, d3] => { results := [.lit (.bool false)], args := [d1, d2, d3] }
  | _ => none }
def VramTurnedWrongFalsely : Prop := vramTurnedRow.holds Try.pinned (OpenSpec.ofChange vramTurnedWrong)

/-- 'lanthornlaw18.VramRows': WHATEVER THE INPUT: true; the input reads as it did. -/
def vramRowsSpec : ChangeSpec := { name := "vramRows", fn := fun _ => fun
  | [d1, d2, d3] => { results := [.lit (.bool true)], args := [d1, d2, d3] }
  | _ => none }
def vramRowsRow : OpenClaim := { program := "ytjegnoknenahpaa", sum := "f8d00574cf54e0761559c37ecdefd49edf98d31d09a8bb529992ce416d518952", func := "lanthorn/lanthornlaw18.VramRows", spec := "vramRows", apart := false }
def VramRowsSaid : Prop := vramRowsRow.holds Try.pinned (OpenSpec.ofChange vramRowsSpec)

/-- ITS FALSE NEIGHBOUR: 'it returns false'. Refute it at one input. -/
def vramRowsWrong : ChangeSpec := { name := "vramRows", fn := fun _ => fun
  | [d1, d2, d3] => { results := [.lit (.bool false)], args := [d1, d2, d3] }
  | _ => none }
def VramRowsWrongFalsely : Prop := vramRowsRow.holds Try.pinned (OpenSpec.ofChange vramRowsWrong)

/-- 'lanthornlaw18.VramColours': WHATEVER THE INPUT: true; the input reads as it did. -/
def vramColoursSpec : ChangeSpec := { name := "vramColours", fn := fun _ => fun
  | [d1, d2, d3] => { results := [.lit (.bool true)], args := [d1, d2, d3] }
  | _ => none }
def vramColoursRow : OpenClaim := { program := "ytjegnoknenahpaa", sum := "f8d00574cf54e0761559c37ecdefd49edf98d31d09a8bb529992ce416d518952", func := "lanthorn/lanthornlaw18.VramColours", spec := "vramColours", apart := false }
def VramColoursSaid : Prop := vramColoursRow.holds Try.pinned (OpenSpec.ofChange vramColoursSpec)

/-- ITS FALSE NEIGHBOUR: 'it returns false'. Refute it at one input. -/
def vramColoursWrong : ChangeSpec := { name := "vramColours", fn := fun _ => fun
  | [d1, d2, d3] => { results := [.lit (.bool false)], args := [d1, d2, d3] }
  | _ => none }
def VramColoursWrongFalsely : Prop := vramColoursRow.holds Try.pinned (OpenSpec.ofChange vramColoursWrong)

/-- 'lanthornlaw18.VramLoads': WHATEVER THE INPUT: true; the input reads as it did. -/
def vramLoadsSpec : ChangeSpec := { name := "vramLoads", fn := fun _ => fun
  | [d1, d2] => { results := [.lit (.bool true)], args := [d1, d2] }
  | _ => none }
def vramLoadsRow : OpenClaim := { program := "ytjegnoknenahpaa", sum := "f8d00574cf54e0761559c37ecdefd49edf98d31d09a8bb529992ce416d518952", func := "lanthorn/lanthornlaw18.VramLoads", spec := "vramLoads", unfollowed := true, recurses := true, apart := false }
def VramLoadsSaid : Prop := vramLoadsRow.holds Try.pinned (OpenSpec.ofChange vramLoadsSpec)

/-- ITS FALSE NEIGHBOUR: 'it returns false'. Refute it at one input. -/
def vramLoadsWrong : ChangeSpec := { name := "vramLoads", fn := fun _ => fun
  | [d1, d2] => { results := [.lit (.bool false)], args := [d1, d2] }
  | _ => none }
def VramLoadsWrongFalsely : Prop := vramLoadsRow.holds Try.pinned (OpenSpec.ofChange vramLoadsWrong)

/-- 'lanthornlaw18.VramScripts': WHATEVER THE INPUT: true; the input reads as it did. -/
def vramScriptsSpec : ChangeSpec := { name := "vramScripts", fn := fun _ => fun
  | [d] => { results := [.lit (.bool true)], args := [d] }
  | _ => none }
def vramScriptsRow : OpenClaim := { program := "ytjegnoknenahpaa", sum := "f8d00574cf54e0761559c37ecdefd49edf98d31d09a8bb529992ce416d518952", func := "lanthorn/lanthornlaw18.VramScripts", spec := "vramScripts", unfollowed := true, recurses := true, apart := false }
def VramScriptsSaid : Prop := vramScriptsRow.holds Try.pinned (OpenSpec.ofChange vramScriptsSpec)

/-- ITS FALSE NEIGHBOUR: 'it returns false'. Refute it at one input. -/
def vramScriptsWrong : ChangeSpec := { name := "vramScripts", fn := fun _ => fun
  | [d] => { results := [.lit (.bool false)], args := [d] }
  | _ => none }
def VramScriptsWrongFalsely : Prop := vramScriptsRow.holds Try.pinned (OpenSpec.ofChange vramScriptsWrong)

/-- 'lanthornlaw18.VramNil': WHATEVER THE INPUT: true; the input reads as it did. -/
def vramNilSpec : ChangeSpec := { name := "vramNil", fn := fun _ => fun
  | [d1, d2] => { results := [.lit (.bool true)], args := [d1, d2] }
  | _ => none }
def vramNilRow : OpenClaim := { program := "ytjegnoknenahpaa", sum := "f8d00574cf54e0761559c37ecdefd49edf98d31d09a8bb529992ce416d518952", func := "lanthorn/lanthornlaw18.VramNil", spec := "vramNil", unfollowed := true, recurses := true, apart := false }
def VramNilSaid : Prop := vramNilRow.holds Try.pinned (OpenSpec.ofChange vramNilSpec)

/-- ITS FALSE NEIGHBOUR: 'it returns false'. Refute it at one input. -/
def vramNilWrong : ChangeSpec := { name := "vramNil", fn := fun _ => fun
  | [d1, d2] => { results := [.lit (.bool false)], args := [d1, d2] }
  | _ => none }
def VramNilWrongFalsely : Prop := vramNilRow.holds Try.pinned (OpenSpec.ofChange vramNilWrong)

/- THE SECOND FORM. 'bulk': how many values and letters a reading holds, each counted each time it is reached (what is shared counts as often as it is met; a slice's spare places count too). A statement '..UptoSaid' is the law's where the arguments, and the package variables that the reading takes, are together of bulk at most 1048576: NARROWER than '..Said'. Prove '..Said' where nothing that the law and all that it calls make is longer than what came in: it says more and counts as full. Else prove '..UptoSaid'. A law counts once. -/
mutual
def uptoBulk {H : Type} : DataW H → Nat
  | .lit (.string bytes) => bytes.length + 1
  | .lit _ => 1
  | .nil => 1
  | .ptr d => uptoBulk d + 1
  | .slice elems spare => uptoBulkAll elems + uptoBulkAll spare + 1
  | .agg parts => uptoBulkAll parts + 1
  | .iface _ d => uptoBulk d + 1
  | .map entries => uptoBulkEntries entries + 1
  | .held _ => 1
def uptoBulkAll {H : Type} : List (DataW H) → Nat
  | [] => 0
  | d :: r => uptoBulk d + uptoBulkAll r
def uptoBulkEntries {H : Type} : List (Lit × DataW H) → Nat
  | [] => 0
  | x :: r => uptoBulkEntry x + uptoBulkEntries r
def uptoBulkEntry {H : Type} : Lit × DataW H → Nat
  | (.string bytes, d) => bytes.length + uptoBulk d + 1
  | (_, d) => uptoBulk d + 1
 end
def uptoSmall : (H : Type) → List (DataW H) → Bool := fun _ ds => decide (uptoBulkAll ds ≤ 1048576)
def OpenSpec.upto (s : _root_.Go.ChangeSpec) : _root_.Go.OpenSpec := { _root_.Go.OpenSpec.ofChange s with cond := some uptoSmall }

/-- 'lanthornlaw18.VramTurned', WHERE WHAT IT READS IS OF BULK AT MOST 1048576: true; the input reads as it did. -/
def vramTurnedUptoRow : OpenClaim := { program := "ytjegnoknenahpaa", sum := "f8d00574cf54e0761559c37ecdefd49edf98d31d09a8bb529992ce416d518952", func := "lanthorn/lanthornlaw18.VramTurned", spec := "vramTurned", apart := false, narrowed := true }
def VramTurnedUptoSaid : Prop := vramTurnedUptoRow.holds Try.pinned (OpenSpec.upto vramTurnedSpec)

/-- 'lanthornlaw18.VramRows', WHERE WHAT IT READS IS OF BULK AT MOST 1048576: true; the input reads as it did. -/
def vramRowsUptoRow : OpenClaim := { program := "ytjegnoknenahpaa", sum := "f8d00574cf54e0761559c37ecdefd49edf98d31d09a8bb529992ce416d518952", func := "lanthorn/lanthornlaw18.VramRows", spec := "vramRows", apart := false, narrowed := true }
def VramRowsUptoSaid : Prop := vramRowsUptoRow.holds Try.pinned (OpenSpec.upto vramRowsSpec)

/-- 'lanthornlaw18.VramColours', WHERE WHAT IT READS IS OF BULK AT MOST 1048576: true; the input reads as it did. -/
def vramColoursUptoRow : OpenClaim := { program := "ytjegnoknenahpaa", sum := "f8d00574cf54e0761559c37ecdefd49edf98d31d09a8bb529992ce416d518952", func := "lanthorn/lanthornlaw18.VramColours", spec := "vramColours", apart := false, narrowed := true }
def VramColoursUptoSaid : Prop := vramColoursUptoRow.holds Try.pinned (OpenSpec.upto vramColoursSpec)

/-- 'lanthornlaw18.VramLoads', WHERE WHAT IT READS IS OF BULK AT MOST 1048576: true; the input reads as it did. -/
def vramLoadsUptoRow : OpenClaim := { program := "ytjegnoknenahpaa", sum := "f8d00574cf54e0761559c37ecdefd49edf98d31d09a8bb529992ce416d518952", func := "lanthorn/lanthornlaw18.VramLoads", spec := "vramLoads", unfollowed := true, recurses := true, apart := false, narrowed := true }
def VramLoadsUptoSaid : Prop := vramLoadsUptoRow.holds Try.pinned (OpenSpec.upto vramLoadsSpec)

/-- 'lanthornlaw18.VramScripts', WHERE WHAT IT READS IS OF BULK AT MOST 1048576: true; the input reads as it did. -/
def vramScriptsUptoRow : OpenClaim := { program := "ytjegnoknenahpaa", sum := "f8d00574cf54e0761559c37ecdefd49edf98d31d09a8bb529992ce416d518952", func := "lanthorn/lanthornlaw18.VramScripts", spec := "vramScripts", unfollowed := true, recurses := true, apart := false, narrowed := true }
def VramScriptsUptoSaid : Prop := vramScriptsUptoRow.holds Try.pinned (OpenSpec.upto vramScriptsSpec)

/-- 'lanthornlaw18.VramNil', WHERE WHAT IT READS IS OF BULK AT MOST 1048576: true; the input reads as it did. -/
def vramNilUptoRow : OpenClaim := { program := "ytjegnoknenahpaa", sum := "f8d00574cf54e0761559c37ecdefd49edf98d31d09a8bb529992ce416d518952", func := "lanthorn/lanthornlaw18.VramNil", spec := "vramNil", unfollowed := true, recurses := true, apart := false, narrowed := true }
def VramNilUptoSaid : Prop := vramNilUptoRow.holds Try.pinned (OpenSpec.upto vramNilSpec)

end Rows
end Go.Proofs.Ytjegnoknenahpaa
