/-
  No cell of these rows narrows 'for every input' (looked for: loops, veiled, ifaces, maps, wideKeys, modest, calm, conditions, laid).
  DERIVED. THE GIVEN ROWS OF THIS SEAT. 5 by the template 'for every input the law returns true; each argument reads behind the call as it read before'; 0 by the template 'total and deterministic' (their statements: YtngbibifiadgiaaTotals.lean).
  GIVEN WITH THE SEED: the statements are not yours to turn. If you find one false, say at which input.
  Laid BY PROGRAM, IN A SANDBOX (cutbox-rows.mjs): the forced cells as the released guide's own fill.sh prints them over the translation af3b173967ffa7dd… (all of the seat's roots in one cut). By AI agents, Wed Nov 11 2026. No macro, syntax, notation, axiom, sorry.
-/
import Derived.Test.YtngbibifiadgiaaChecked
import GoSem.Claim
import GoSem.ClaimJoined
import GoSem.ClaimMapViews
import Derived.JoinedTies
import Derived.KernelRfl
namespace Go.Proofs.Ytngbibifiadgiaa
/- THE CELL 'sum', in the pinned program and in every row, IS THE sha256 OF THE DUMP (.gsa) THAT YtngbibifiadgiaaProg.lean LOADS. Nothing in Lean hashes anything: it is a label: what it is worth is what the hold of that sum in a sandbox is worth. -/
noncomputable def Try.pinned : Pinned := { name := "ytngbibifiadgiaa", sum := "af3b173967ffa7dd9e6de4dcbb03e78df9adca592b4bf26cd188fa7fb937384f", checked := Try.checked }
namespace Rows
def none {H : Type} : Left H := { results := [], args := [] }

/-- 'lanthornlaw13.TickBoots': WHATEVER THE INPUT: true; the input reads as it did. -/
def tickBootsSpec : ChangeSpec := { name := "tickBoots", fn := fun _ => fun
  | [d] => { results := [.lit (.bool true)], args := [d] }
  | _ => none }
def tickBootsRow : OpenClaim := { program := "ytngbibifiadgiaa", sum := "af3b173967ffa7dd9e6de4dcbb03e78df9adca592b4bf26cd188fa7fb937384f", func := "lanthorn/lanthornlaw13.TickBoots", spec := "tickBoots", apart := false }
def TickBootsSaid : Prop := tickBootsRow.holds Try.pinned (OpenSpec.ofChange tickBootsSpec)

/-- ITS FALSE NEIGHBOUR: 'it returns false'. Refute it at one input. -/
def tickBootsWrong : ChangeSpec := { name := "tickBoots", fn := fun _ => fun
  | [d] => { results := [.lit (.bool false)], args := [d] }
  | _ => none }
def TickBootsWrongFalsely : Prop := tickBootsRow.holds Try.pinned (OpenSpec.ofChange tickBootsWrong)

/-- 'lanthornlaw13.TickTimes': WHATEVER THE INPUT: true; the input reads as it did. -/
def tickTimesSpec : ChangeSpec := { name := "tickTimes", fn := fun _ => fun
  | [d1, d2, d3] => { results := [.lit (.bool true)], args := [d1, d2, d3] }
  | _ => none }
def tickTimesRow : OpenClaim := { program := "ytngbibifiadgiaa", sum := "af3b173967ffa7dd9e6de4dcbb03e78df9adca592b4bf26cd188fa7fb937384f", func := "lanthorn/lanthornlaw13.TickTimes", spec := "tickTimes", apart := false }
def TickTimesSaid : Prop := tickTimesRow.holds Try.pinned (OpenSpec.ofChange tickTimesSpec)

/-- ITS FALSE NEIGHBOUR: 'it returns false'. Refute it at one input. -/
def tickTimesWrong : ChangeSpec := { name := "tickTimes", fn := fun _ => fun
  | [d1, d2, d3] => { results := [.lit (.bool false)], args := [d1, d2, d3] }
  | _ => none }
def TickTimesWrongFalsely : Prop := tickTimesRow.holds Try.pinned (OpenSpec.ofChange tickTimesWrong)

/-- 'lanthornlaw13.TickRuns': WHATEVER THE INPUT: true; the input reads as it did. -/
def tickRunsSpec : ChangeSpec := { name := "tickRuns", fn := fun _ => fun
  | [d] => { results := [.lit (.bool true)], args := [d] }
  | _ => none }
def tickRunsRow : OpenClaim := { program := "ytngbibifiadgiaa", sum := "af3b173967ffa7dd9e6de4dcbb03e78df9adca592b4bf26cd188fa7fb937384f", func := "lanthorn/lanthornlaw13.TickRuns", spec := "tickRuns", unfollowed := true, recurses := true, apart := false }
def TickRunsSaid : Prop := tickRunsRow.holds Try.pinned (OpenSpec.ofChange tickRunsSpec)

/-- ITS FALSE NEIGHBOUR: 'it returns false'. Refute it at one input. -/
def tickRunsWrong : ChangeSpec := { name := "tickRuns", fn := fun _ => fun
  | [d] => { results := [.lit (.bool false)], args := [d] }
  | _ => none }
def TickRunsWrongFalsely : Prop := tickRunsRow.holds Try.pinned (OpenSpec.ofChange tickRunsWrong)

/-- 'lanthornlaw13.TickNil': WHATEVER THE INPUT: true; the input reads as it did. -/
def tickNilSpec : ChangeSpec := { name := "tickNil", fn := fun _ => fun
  | [d1, d2, d3] => { results := [.lit (.bool true)], args := [d1, d2, d3] }
  | _ => none }
def tickNilRow : OpenClaim := { program := "ytngbibifiadgiaa", sum := "af3b173967ffa7dd9e6de4dcbb03e78df9adca592b4bf26cd188fa7fb937384f", func := "lanthorn/lanthornlaw13.TickNil", spec := "tickNil", unfollowed := true, recurses := true, apart := false }
def TickNilSaid : Prop := tickNilRow.holds Try.pinned (OpenSpec.ofChange tickNilSpec)

/-- ITS FALSE NEIGHBOUR: 'it returns false'. Refute it at one input. -/
def tickNilWrong : ChangeSpec := { name := "tickNil", fn := fun _ => fun
  | [d1, d2, d3] => { results := [.lit (.bool false)], args := [d1, d2, d3] }
  | _ => none }
def TickNilWrongFalsely : Prop := tickNilRow.holds Try.pinned (OpenSpec.ofChange tickNilWrong)

/-- 'lanthornlaw13.TickLoads': WHATEVER THE INPUT: true; the input reads as it did. -/
def tickLoadsSpec : ChangeSpec := { name := "tickLoads", fn := fun _ => fun
  | [d1, d2] => { results := [.lit (.bool true)], args := [d1, d2] }
  | _ => none }
def tickLoadsRow : OpenClaim := { program := "ytngbibifiadgiaa", sum := "af3b173967ffa7dd9e6de4dcbb03e78df9adca592b4bf26cd188fa7fb937384f", func := "lanthorn/lanthornlaw13.TickLoads", spec := "tickLoads", unfollowed := true, recurses := true, apart := false }
def TickLoadsSaid : Prop := tickLoadsRow.holds Try.pinned (OpenSpec.ofChange tickLoadsSpec)

/-- ITS FALSE NEIGHBOUR: 'it returns false'. Refute it at one input. -/
def tickLoadsWrong : ChangeSpec := { name := "tickLoads", fn := fun _ => fun
  | [d1, d2] => { results := [.lit (.bool false)], args := [d1, d2] }
  | _ => none }
def TickLoadsWrongFalsely : Prop := tickLoadsRow.holds Try.pinned (OpenSpec.ofChange tickLoadsWrong)

/- THE SECOND FORM. 'bulk': how many values and letters a reading holds, each counted each time it is reached (what is shared counts as often as it is met; a slice's spare places count too). A statement '..UptoSaid' is the law's where the arguments, and the package variables that the reading takes, are together of bulk at most 1048576: NARROWER than '..Said'. Prove '..Said' where nothing that the law and all that it calls make is longer than what came in: it says more and counts as full. Else prove '..UptoSaid'. A law counts once. -/
mutual
def uptoBulk {H : Type} : DataW H → Nat
  | .lit (.string bytes) => bytes.length + 1
  | .lit _ => 1
  | .nil => 1
  | .ptr d => uptoBulk d + 1
  | .slice elems spare => uptoBulkAll elems + uptoBulkAll spare + 1
  | .agg parts => uptoBulkAll parts + 1
  | .iface _ d => uptoBulk d + 1
  | .map entries => uptoBulkEntries entries + 1
  | .held _ => 1
def uptoBulkAll {H : Type} : List (DataW H) → Nat
  | [] => 0
  | d :: r => uptoBulk d + uptoBulkAll r
def uptoBulkEntries {H : Type} : List (Lit × DataW H) → Nat
  | [] => 0
  | x :: r => uptoBulkEntry x + uptoBulkEntries r
def uptoBulkEntry {H : Type} : Lit × DataW H → Nat
  | (.string bytes, d) => bytes.length + uptoBulk d + 1
  | (_, d) => uptoBulk d + 1
 end
def uptoSmall : (H : Type) → List (DataW H) → Bool := fun _ ds => decide (uptoBulkAll ds ≤ 1048576)
def OpenSpec.upto (s : _root_.Go.ChangeSpec) : _root_.Go.OpenSpec := { _root_.Go.OpenSpec.ofChange s with cond := some uptoSmall }

/-- 'lanthornlaw13.TickBoots', WHERE WHAT IT READS IS OF BULK AT MOST 1048576: true; the input reads as it did. -/
def tickBootsUptoRow : OpenClaim := { program := "ytngbibifiadgiaa", sum := "af3b173967ffa7dd9e6de4dcbb03e78df9adca592b4bf26cd188fa7fb937384f", func := "lanthorn/lanthornlaw13.TickBoots", spec := "tickBoots", apart := false, narrowed := true }
def TickBootsUptoSaid : Prop := tickBootsUptoRow.holds Try.pinned (OpenSpec.upto tickBootsSpec)

/-- 'lanthornlaw13.TickTimes', WHERE WHAT IT READS IS OF BULK AT MOST 1048576: true; the input reads as it did. -/
def tickTimesUptoRow : OpenClaim := { program := "ytngbibifiadgiaa", sum := "af3b173967ffa7dd9e6de4dcbb03e78df9adca592b4bf26cd188fa7fb937384f", func := "lanthorn/lanthornlaw13.TickTimes", spec := "tickTimes", apart := false, narrowed := true }
def TickTimesUptoSaid : Prop := tickTimesUptoRow.holds Try.pinned (OpenSpec.upto tickTimesSpec)

/-- 'lanthornlaw13.TickRuns', WHERE WHAT IT READS IS OF BULK AT MOST 1048576: true; the input reads as it did. -/
def tickRunsUptoRow : OpenClaim := { program := "ytngbibifiadgiaa", sum := "af3b173967ffa7dd9e6de4dcbb03e78df9adca592b4bf26cd188fa7fb937384f", func := "lanthorn/lanthornlaw13.TickRuns", spec := "tickRuns", unfollowed := true, recurses := true, apart := false, narrowed := true }
def TickRunsUptoSaid : Prop := tickRunsUptoRow.holds Try.pinned (OpenSpec.upto tickRunsSpec)

/-- 'lanthornlaw13.TickNil', WHERE WHAT IT READS IS OF BULK AT MOST 1048576: true; the input reads as it did. -/
def tickNilUptoRow : OpenClaim := { program := "ytngbibifiadgiaa", sum := "af3b173967ffa7dd9e6de4dcbb03e78df9adca592b4bf26cd188fa7fb937384f", func := "lanthorn/lanthornlaw13.TickNil", spec := "tickNil", unfollowed := true, recurses := true, apart := false, narrowed := true }
def TickNilUptoSaid : Prop := tickNilUptoRow.holds Try.pinned (OpenSpec.upto tickNilSpec)

/-- 'lanthornlaw13.TickLoads', WHERE WHAT IT READS IS OF BULK AT MOST 1048576: true; the input reads as it did. -/
def tickLoadsUptoRow : OpenClaim := { program := "ytngbibifiadgiaa", sum := "af3b173967ffa7dd9e6de4dcbb03e78df9adca592b4bf26cd188fa7fb937384f", func := "lanthorn/lanthornlaw13.TickLoads", spec := "tickLoads", unfollowed := true, recurses := true, apart := false, narrowed := true }
def TickLoadsUptoSaid : Prop := tickLoadsUptoRow.holds Try.pinned (OpenSpec.upto tickLoadsSpec)

end Rows
end Go.Proofs.Ytngbibifiadgiaa
