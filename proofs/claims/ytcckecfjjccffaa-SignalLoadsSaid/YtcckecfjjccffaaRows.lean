/-
  No cell of these rows narrows 'for every input' (looked for: loops, veiled, ifaces, maps, wideKeys, modest, calm, conditions, laid).
  DERIVED. THE GIVEN ROWS OF THIS SEAT. 6 by the template 'for every input the law returns true; each argument reads behind the call as it read before'; 0 by the template 'total and deterministic' (their statements: YtcckecfjjccffaaTotals.lean).
  GIVEN WITH THE SEED: the statements are not yours to turn. If you find one false, say at which input.
  Laid BY PROGRAM, IN A SANDBOX (cutbox-rows.mjs): the forced cells as the released guide's own fill.sh prints them over the translation e09bef2ed21bda12… (all of the seat's roots in one cut). By AI agents, Wed Nov 11 2026. No macro, syntax, notation, axiom, sorry.
-/
import Derived.Test.YtcckecfjjccffaaChecked
import GoSem.Claim
import GoSem.ClaimJoined
import GoSem.ClaimMapViews
import Derived.JoinedTies
import Derived.KernelRfl
namespace Go.Proofs.Ytcckecfjjccffaa
/- THE CELL 'sum', in the pinned program and in every row, IS THE sha256 OF THE DUMP (.gsa) THAT YtcckecfjjccffaaProg.lean LOADS. Nothing in Lean hashes anything: it is a label: what it is worth is what the hold of that sum in a sandbox is worth. -/
noncomputable def Try.pinned : Pinned := { name := "ytcckecfjjccffaa", sum := "e09bef2ed21bda1221a1add42bb92bd966d146799ed58060ad19311e0650b673", checked := Try.checked }
namespace Rows
def none {H : Type} : Left H := { results := [], args := [] }

/-- 'lanthornlaw28.SignalSums': WHATEVER THE INPUT: true; the input reads as it did. -/
def signalSumsSpec : ChangeSpec := { name := "signalSums", fn := fun _ => fun
  | [d1, d2] => { results := [.lit (.bool true)], args := [d1, d2] }
  | _ => none }
def signalSumsRow : OpenClaim := { program := "ytcckecfjjccffaa", sum := "e09bef2ed21bda1221a1add42bb92bd966d146799ed58060ad19311e0650b673", func := "lanthorn/lanthornlaw28.SignalSums", spec := "signalSums", unfollowed := true, recurses := true, apart := false }
def SignalSumsSaid : Prop := signalSumsRow.holds Try.pinned (OpenSpec.ofChange signalSumsSpec)

/-- ITS FALSE NEIGHBOUR: 'it returns false'. Refute it at one input. -/
def signalSumsWrong : ChangeSpec := { name := "signalSums", fn := fun _ => fun
  | [d1, d2] => { results := [.lit (.bool false)], args := [d1, d2] }
  | _ => none }
def SignalSumsWrongFalsely : Prop := signalSumsRow.holds Try.pinned (OpenSpec.ofChange signalSumsWrong)

/-- 'lanthornlaw28.SignalTimes': WHATEVER THE INPUT: true; the input reads as it did. -/
def signalTimesSpec : ChangeSpec := { name := "signalTimes", fn := fun _ => fun
  | [d] => { results := [.lit (.bool true)], args := [d] }
  | _ => none }
def signalTimesRow : OpenClaim := { program := "ytcckecfjjccffaa", sum := "e09bef2ed21bda1221a1add42bb92bd966d146799ed58060ad19311e0650b673", func := "lanthorn/lanthornlaw28.SignalTimes", spec := "signalTimes", unfollowed := true, recurses := true, apart := false }
def SignalTimesSaid : Prop := signalTimesRow.holds Try.pinned (OpenSpec.ofChange signalTimesSpec)

/-- ITS FALSE NEIGHBOUR: 'it returns false'. Refute it at one input. -/
def signalTimesWrong : ChangeSpec := { name := "signalTimes", fn := fun _ => fun
  | [d] => { results := [.lit (.bool false)], args := [d] }
  | _ => none }
def SignalTimesWrongFalsely : Prop := signalTimesRow.holds Try.pinned (OpenSpec.ofChange signalTimesWrong)

/-- 'lanthornlaw28.SignalCommutes': WHATEVER THE INPUT: true; the input reads as it did. -/
def signalCommutesSpec : ChangeSpec := { name := "signalCommutes", fn := fun _ => fun
  | [d1, d2] => { results := [.lit (.bool true)], args := [d1, d2] }
  | _ => none }
def signalCommutesRow : OpenClaim := { program := "ytcckecfjjccffaa", sum := "e09bef2ed21bda1221a1add42bb92bd966d146799ed58060ad19311e0650b673", func := "lanthorn/lanthornlaw28.SignalCommutes", spec := "signalCommutes", unfollowed := true, recurses := true, apart := false }
def SignalCommutesSaid : Prop := signalCommutesRow.holds Try.pinned (OpenSpec.ofChange signalCommutesSpec)

/-- ITS FALSE NEIGHBOUR: 'it returns false'. Refute it at one input. -/
def signalCommutesWrong : ChangeSpec := { name := "signalCommutes", fn := fun _ => fun
  | [d1, d2] => { results := [.lit (.bool false)], args := [d1, d2] }
  | _ => none }
def SignalCommutesWrongFalsely : Prop := signalCommutesRow.holds Try.pinned (OpenSpec.ofChange signalCommutesWrong)

/-- 'lanthornlaw28.SignalLoads': WHATEVER THE INPUT: true; the input reads as it did. -/
def signalLoadsSpec : ChangeSpec := { name := "signalLoads", fn := fun _ => fun
  | [d1, d2] => { results := [.lit (.bool true)], args := [d1, d2] }
  | _ => none }
def signalLoadsRow : OpenClaim := { program := "ytcckecfjjccffaa", sum := "e09bef2ed21bda1221a1add42bb92bd966d146799ed58060ad19311e0650b673", func := "lanthorn/lanthornlaw28.SignalLoads", spec := "signalLoads", unfollowed := true, recurses := true, apart := false }
def SignalLoadsSaid : Prop := signalLoadsRow.holds Try.pinned (OpenSpec.ofChange signalLoadsSpec)

/-- ITS FALSE NEIGHBOUR: 'it returns false'. Refute it at one input. -/
def signalLoadsWrong : ChangeSpec := { name := "signalLoads", fn := fun _ => fun
  | [d1, d2] => { results := [.lit (.bool false)], args := [d1, d2] }
  | _ => none }
def SignalLoadsWrongFalsely : Prop := signalLoadsRow.holds Try.pinned (OpenSpec.ofChange signalLoadsWrong)

/-- 'lanthornlaw28.SignalSaved': WHATEVER THE INPUT: true; the input reads as it did. -/
def signalSavedSpec : ChangeSpec := { name := "signalSaved", fn := fun _ => fun
  | [d1, d2, d3] => { results := [.lit (.bool true)], args := [d1, d2, d3] }
  | _ => none }
def signalSavedRow : OpenClaim := { program := "ytcckecfjjccffaa", sum := "e09bef2ed21bda1221a1add42bb92bd966d146799ed58060ad19311e0650b673", func := "lanthorn/lanthornlaw28.SignalSaved", spec := "signalSaved", unfollowed := true, recurses := true, apart := false }
def SignalSavedSaid : Prop := signalSavedRow.holds Try.pinned (OpenSpec.ofChange signalSavedSpec)

/-- ITS FALSE NEIGHBOUR: 'it returns false'. Refute it at one input. -/
def signalSavedWrong : ChangeSpec := { name := "signalSaved", fn := fun _ => fun
  | [d1, d2, d3] => { results := [.lit (.bool false)], args := [d1, d2, d3] }
  | _ => none }
def SignalSavedWrongFalsely : Prop := signalSavedRow.holds Try.pinned (OpenSpec.ofChange signalSavedWrong)

/-- 'lanthornlaw28.SignalNil': WHATEVER THE INPUT: true; the input reads as it did. -/
def signalNilSpec : ChangeSpec := { name := "signalNil", fn := fun _ => fun
  | [d1, d2] => { results := [.lit (.bool true)], args := [d1, d2] }
  | _ => none }
def signalNilRow : OpenClaim := { program := "ytcckecfjjccffaa", sum := "e09bef2ed21bda1221a1add42bb92bd966d146799ed58060ad19311e0650b673", func := "lanthorn/lanthornlaw28.SignalNil", spec := "signalNil", unfollowed := true, recurses := true, apart := false }
def SignalNilSaid : Prop := signalNilRow.holds Try.pinned (OpenSpec.ofChange signalNilSpec)

/-- ITS FALSE NEIGHBOUR: 'it returns false'. Refute it at one input. -/
def signalNilWrong : ChangeSpec := { name := "signalNil", fn := fun _ => fun
  | [d1, d2] => { results := [.lit (.bool false)], args := [d1, d2] }
  | _ => none }
def SignalNilWrongFalsely : Prop := signalNilRow.holds Try.pinned (OpenSpec.ofChange signalNilWrong)

/- THE SECOND FORM. 'bulk': how many values and letters a reading holds, each counted each time it is reached (what is shared counts as often as it is met; a slice's spare places count too). A statement '..UptoSaid' is the law's where the arguments, and the package variables that the reading takes, are together of bulk at most 1048576: NARROWER than '..Said'. Prove '..Said' where nothing that the law and all that it calls make is longer than what came in: it says more and counts as full. Else prove '..UptoSaid'. A law counts once. -/
mutual
def uptoBulk {H : Type} : DataW H → Nat
  | .lit (.string bytes) => bytes.length + 1
  | .lit _ => 1
  | .nil => 1
  | .ptr d => uptoBulk d + 1
  | .slice elems spare => uptoBulkAll elems + uptoBulkAll spare + 1
  | .agg parts => uptoBulkAll parts + 1
  | .iface _ d => uptoBulk d + 1
  | .map entries => uptoBulkEntries entries + 1
  | .held _ => 1
def uptoBulkAll {H : Type} : List (DataW H) → Nat
  | [] => 0
  | d :: r => uptoBulk d + uptoBulkAll r
def uptoBulkEntries {H : Type} : List (Lit × DataW H) → Nat
  | [] => 0
  | x :: r => uptoBulkEntry x + uptoBulkEntries r
def uptoBulkEntry {H : Type} : Lit × DataW H → Nat
  | (.string bytes, d) => bytes.length + uptoBulk d + 1
  | (_, d) => uptoBulk d + 1
 end
def uptoSmall : (H : Type) → List (DataW H) → Bool := fun _ ds => decide (uptoBulkAll ds ≤ 1048576)
def OpenSpec.upto (s : _root_.Go.ChangeSpec) : _root_.Go.OpenSpec := { _root_.Go.OpenSpec.ofChange s with cond := some uptoSmall }

/-- 'lanthornlaw28.SignalSums', WHERE WHAT IT READS IS OF BULK AT MOST 1048576: true; the input reads as it did. -/
def signalSumsUptoRow : OpenClaim := { program := "ytcckecfjjccffaa", sum := "e09bef2ed21bda1221a1add42bb92bd966d146799ed58060ad19311e0650b673", func := "lanthorn/lanthornlaw28.SignalSums", spec := "signalSums", unfollowed := true, recurses := true, apart := false, narrowed := true }
def SignalSumsUptoSaid : Prop := signalSumsUptoRow.holds Try.pinned (OpenSpec.upto signalSumsSpec)

/-- 'lanthornlaw28.SignalTimes', WHERE WHAT IT READS IS OF BULK AT MOST 1048576: true; the input reads as it did. -/
def signalTimesUptoRow : OpenClaim := { program := "ytcckecfjjccffaa", sum := "e09bef2ed21bda1221a1add42bb92bd966d146799ed58060ad19311e0650b673", func := "lanthorn/lanthornlaw28.SignalTimes", spec := "signalTimes", unfollowed := true, recurses := true, apart := false, narrowed := true }
def SignalTimesUptoSaid : Prop := signalTimesUptoRow.holds Try.pinned (OpenSpec.upto signalTimesSpec)

/-- 'lanthornlaw28.SignalCommutes', WHERE WHAT IT READS IS OF BULK AT MOST 1048576: true; the input reads as it did. -/
def signalCommutesUptoRow : OpenClaim := { program := "ytcckecfjjccffaa", sum := "e09bef2ed21bda1221a1add42bb92bd966d146799ed58060ad19311e0650b673", func := "lanthorn/lanthornlaw28.SignalCommutes", spec := "signalCommutes", unfollowed := true, recurses := true, apart := false, narrowed := true }
def SignalCommutesUptoSaid : Prop := signalCommutesUptoRow.holds Try.pinned (OpenSpec.upto signalCommutesSpec)

/-- 'lanthornlaw28.SignalLoads', WHERE WHAT IT READS IS OF BULK AT MOST 1048576: true; the input reads as it did. -/
def signalLoadsUptoRow : OpenClaim := { program := "ytcckecfjjccffaa", sum := "e09bef2ed21bda1221a1add42bb92bd966d146799ed58060ad19311e0650b673", func := "lanthorn/lanthornlaw28.SignalLoads", spec := "signalLoads", unfollowed := true, recurses := true, apart := false, narrowed := true }
def SignalLoadsUptoSaid : Prop := signalLoadsUptoRow.holds Try.pinned (OpenSpec.upto signalLoadsSpec)

/-- 'lanthornlaw28.SignalSaved', WHERE WHAT IT READS IS OF BULK AT MOST 1048576: true; the input reads as it did. -/
def signalSavedUptoRow : OpenClaim := { program := "ytcckecfjjccffaa", sum := "e09bef2ed21bda1221a1add42bb92bd966d146799ed58060ad19311e0650b673", func := "lanthorn/lanthornlaw28.SignalSaved", spec := "signalSaved", unfollowed := true, recurses := true, apart := false, narrowed := true }
def SignalSavedUptoSaid : Prop := signalSavedUptoRow.holds Try.pinned (OpenSpec.upto signalSavedSpec)

/-- 'lanthornlaw28.SignalNil', WHERE WHAT IT READS IS OF BULK AT MOST 1048576: true; the input reads as it did. -/
def signalNilUptoRow : OpenClaim := { program := "ytcckecfjjccffaa", sum := "e09bef2ed21bda1221a1add42bb92bd966d146799ed58060ad19311e0650b673", func := "lanthorn/lanthornlaw28.SignalNil", spec := "signalNil", unfollowed := true, recurses := true, apart := false, narrowed := true }
def SignalNilUptoSaid : Prop := signalNilUptoRow.holds Try.pinned (OpenSpec.upto signalNilSpec)

end Rows
end Go.Proofs.Ytcckecfjjccffaa
