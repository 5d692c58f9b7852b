/-
  No cell of these rows narrows 'for every input' (looked for: loops, veiled, ifaces, maps, wideKeys, modest, calm, conditions, laid).
  DERIVED. THE GIVEN ROWS OF THIS SEAT. 7 by the template 'for every input the law returns true; each argument reads behind the call as it read before'; 0 by the template 'total and deterministic' (their statements: YtgbncbclhdnbmaaTotals.lean).
  GIVEN WITH THE SEED: the statements are not yours to turn. If you find one false, say at which input.
  Laid BY PROGRAM, IN A SANDBOX (cutbox-rows.mjs): the forced cells as the released guide's own fill.sh prints them over the translation 7a840abd3c1bf366… (all of the seat's roots in one cut). By AI agents, Wed Nov 11 2026. No macro, syntax, notation, axiom, sorry.
-/
import Derived.Test.YtgbncbclhdnbmaaChecked
import GoSem.Claim
import GoSem.ClaimJoined
import GoSem.ClaimMapViews
import Derived.JoinedTies
import Derived.KernelRfl
namespace Go.Proofs.Ytgbncbclhdnbmaa
/- THE CELL 'sum', in the pinned program and in every row, IS THE sha256 OF THE DUMP (.gsa) THAT YtgbncbclhdnbmaaProg.lean LOADS. Nothing in Lean hashes anything: it is a label: what it is worth is what the hold of that sum in a sandbox is worth. -/
noncomputable def Try.pinned : Pinned := { name := "ytgbncbclhdnbmaa", sum := "7a840abd3c1bf3668508738f9add42113ed2bb95b080940035c4b51dfe253a3d", checked := Try.checked }
namespace Rows
def none {H : Type} : Left H := { results := [], args := [] }

/-- 'lanthornlaw23.BlendMath': WHATEVER THE INPUT: true; the input reads as it did. -/
def blendMathSpec : ChangeSpec := { name := "blendMath", fn := fun _ => fun
  | [d1, d2, d3, d4] => { results := [.lit (.bool true)], args := [d1, d2, d3, d4] }
  | _ => none }
def blendMathRow : OpenClaim := { program := "ytgbncbclhdnbmaa", sum := "7a840abd3c1bf3668508738f9add42113ed2bb95b080940035c4b51dfe253a3d", func := "lanthorn/lanthornlaw23.BlendMath", spec := "blendMath", apart := false }
def BlendMathSaid : Prop := blendMathRow.holds Try.pinned (OpenSpec.ofChange blendMathSpec)

/-- ITS FALSE NEIGHBOUR: 'it returns false'. Refute it at one input. -/
def blendMathWrong : ChangeSpec := { name := "blendMath", fn := fun _ => fun
  | [d1, d2, d3, d4] => { results := [.lit (.bool false)], args := [d1, d2, d3, d4] }
  | _ => none }
def BlendMathWrongFalsely : Prop := blendMathRow.holds Try.pinned (OpenSpec.ofChange blendMathWrong)

/-- 'lanthornlaw23.BlendBack': WHATEVER THE INPUT: true; the input reads as it did. -/
def blendBackSpec : ChangeSpec := { name := "blendBack", fn := fun _ => fun
  | [d1, d2] => { results := [.lit (.bool true)], args := [d1, d2] }
  | _ => none }
def blendBackRow : OpenClaim := { program := "ytgbncbclhdnbmaa", sum := "7a840abd3c1bf3668508738f9add42113ed2bb95b080940035c4b51dfe253a3d", func := "lanthorn/lanthornlaw23.BlendBack", spec := "blendBack", apart := false }
def BlendBackSaid : Prop := blendBackRow.holds Try.pinned (OpenSpec.ofChange blendBackSpec)

/-- ITS FALSE NEIGHBOUR: 'it returns false'. Refute it at one input. -/
def blendBackWrong : ChangeSpec := { name := "blendBack", fn := fun _ => fun
  | [d1, d2] => { results := [.lit (.bool false)], args := [d1, d2] }
  | _ => none }
def BlendBackWrongFalsely : Prop := blendBackRow.holds Try.pinned (OpenSpec.ofChange blendBackWrong)

/-- 'lanthornlaw23.BlendBright': WHATEVER THE INPUT: true; the input reads as it did. -/
def blendBrightSpec : ChangeSpec := { name := "blendBright", fn := fun _ => fun
  | [d1, d2] => { results := [.lit (.bool true)], args := [d1, d2] }
  | _ => none }
def blendBrightRow : OpenClaim := { program := "ytgbncbclhdnbmaa", sum := "7a840abd3c1bf3668508738f9add42113ed2bb95b080940035c4b51dfe253a3d", func := "lanthorn/lanthornlaw23.BlendBright", spec := "blendBright", apart := false }
def BlendBrightSaid : Prop := blendBrightRow.holds Try.pinned (OpenSpec.ofChange blendBrightSpec)

/-- ITS FALSE NEIGHBOUR: 'it returns false'. Refute it at one input. -/
def blendBrightWrong : ChangeSpec := { name := "blendBright", fn := fun _ => fun
  | [d1, d2] => { results := [.lit (.bool false)], args := [d1, d2] }
  | _ => none }
def BlendBrightWrongFalsely : Prop := blendBrightRow.holds Try.pinned (OpenSpec.ofChange blendBrightWrong)

/-- 'lanthornlaw23.BlendOrder': WHATEVER THE INPUT: true; the input reads as it did. -/
def blendOrderSpec : ChangeSpec := { name := "blendOrder", fn := fun _ => fun
  | [d1, d2] => { results := [.lit (.bool true)], args := [d1, d2] }
  | _ => none }
def blendOrderRow : OpenClaim := { program := "ytgbncbclhdnbmaa", sum := "7a840abd3c1bf3668508738f9add42113ed2bb95b080940035c4b51dfe253a3d", func := "lanthorn/lanthornlaw23.BlendOrder", spec := "blendOrder", unfollowed := true, recurses := true, apart := false }
def BlendOrderSaid : Prop := blendOrderRow.holds Try.pinned (OpenSpec.ofChange blendOrderSpec)

/-- ITS FALSE NEIGHBOUR: 'it returns false'. Refute it at one input. -/
def blendOrderWrong : ChangeSpec := { name := "blendOrder", fn := fun _ => fun
  | [d1, d2] => { results := [.lit (.bool false)], args := [d1, d2] }
  | _ => none }
def BlendOrderWrongFalsely : Prop := blendOrderRow.holds Try.pinned (OpenSpec.ofChange blendOrderWrong)

/-- 'lanthornlaw23.BlendWindows': WHATEVER THE INPUT: true; the input reads as it did. -/
def blendWindowsSpec : ChangeSpec := { name := "blendWindows", fn := fun _ => fun
  | [d1, d2, d3] => { results := [.lit (.bool true)], args := [d1, d2, d3] }
  | _ => none }
def blendWindowsRow : OpenClaim := { program := "ytgbncbclhdnbmaa", sum := "7a840abd3c1bf3668508738f9add42113ed2bb95b080940035c4b51dfe253a3d", func := "lanthorn/lanthornlaw23.BlendWindows", spec := "blendWindows", unfollowed := true, recurses := true, apart := false }
def BlendWindowsSaid : Prop := blendWindowsRow.holds Try.pinned (OpenSpec.ofChange blendWindowsSpec)

/-- ITS FALSE NEIGHBOUR: 'it returns false'. Refute it at one input. -/
def blendWindowsWrong : ChangeSpec := { name := "blendWindows", fn := fun _ => fun
  | [d1, d2, d3] => { results := [.lit (.bool false)], args := [d1, d2, d3] }
  | _ => none }
def BlendWindowsWrongFalsely : Prop := blendWindowsRow.holds Try.pinned (OpenSpec.ofChange blendWindowsWrong)

/-- 'lanthornlaw23.BlendPlain': WHATEVER THE INPUT: true; the input reads as it did. -/
def blendPlainSpec : ChangeSpec := { name := "blendPlain", fn := fun _ => fun
  | [d1, d2, d3, d4] => { results := [.lit (.bool true)], args := [d1, d2, d3, d4] }
  | _ => none }
def blendPlainRow : OpenClaim := { program := "ytgbncbclhdnbmaa", sum := "7a840abd3c1bf3668508738f9add42113ed2bb95b080940035c4b51dfe253a3d", func := "lanthorn/lanthornlaw23.BlendPlain", spec := "blendPlain", unfollowed := true, recurses := true, apart := false }
def BlendPlainSaid : Prop := blendPlainRow.holds Try.pinned (OpenSpec.ofChange blendPlainSpec)

/-- ITS FALSE NEIGHBOUR: 'it returns false'. Refute it at one input. -/
def blendPlainWrong : ChangeSpec := { name := "blendPlain", fn := fun _ => fun
  | [d1, d2, d3, d4] => { results := [.lit (.bool false)], args := [d1, d2, d3, d4] }
  | _ => none }
def BlendPlainWrongFalsely : Prop := blendPlainRow.holds Try.pinned (OpenSpec.ofChange blendPlainWrong)

/-- 'lanthornlaw23.BlendHidden': WHATEVER THE INPUT: true; the input reads as it did. -/
def blendHiddenSpec : ChangeSpec := { name := "blendHidden", fn := fun _ => fun
  | [d1, d2, d3, d4, d5, d6] => { results := [.lit (.bool true)], args := [d1, d2, d3, d4, d5, d6] }
  | _ => none }
def blendHiddenRow : OpenClaim := { program := "ytgbncbclhdnbmaa", sum := "7a840abd3c1bf3668508738f9add42113ed2bb95b080940035c4b51dfe253a3d", func := "lanthorn/lanthornlaw23.BlendHidden", spec := "blendHidden", unfollowed := true, recurses := true, apart := false }
def BlendHiddenSaid : Prop := blendHiddenRow.holds Try.pinned (OpenSpec.ofChange blendHiddenSpec)

/-- ITS FALSE NEIGHBOUR: 'it returns false'. Refute it at one input. -/
def blendHiddenWrong : ChangeSpec := { name := "blendHidden", fn := fun _ => fun
  | [d1, d2, d3, d4, d5, d6] => { results := [.lit (.bool false)], args := [d1, d2, d3, d4, d5, d6] }
  | _ => none }
def BlendHiddenWrongFalsely : Prop := blendHiddenRow.holds Try.pinned (OpenSpec.ofChange blendHiddenWrong)

/- THE SECOND FORM. 'bulk': how many values and letters a reading holds, each counted each time it is reached (what is shared counts as often as it is met; a slice's spare places count too). A statement '..UptoSaid' is the law's where the arguments, and the package variables that the reading takes, are together of bulk at most 1048576: NARROWER than '..Said'. Prove '..Said' where nothing that the law and all that it calls make is longer than what came in: it says more and counts as full. Else prove '..UptoSaid'. A law counts once. -/
mutual
def uptoBulk {H : Type} : DataW H → Nat
  | .lit (.string bytes) => bytes.length + 1
  | .lit _ => 1
  | .nil => 1
  | .ptr d => uptoBulk d + 1
  | .slice elems spare => uptoBulkAll elems + uptoBulkAll spare + 1
  | .agg parts => uptoBulkAll parts + 1
  | .iface _ d => uptoBulk d + 1
  | .map entries => uptoBulkEntries entries + 1
  | .held _ => 1
def uptoBulkAll {H : Type} : List (DataW H) → Nat
  | [] => 0
  | d :: r => uptoBulk d + uptoBulkAll r
def uptoBulkEntries {H : Type} : List (Lit × DataW H) → Nat
  | [] => 0
  | x :: r => uptoBulkEntry x + uptoBulkEntries r
def uptoBulkEntry {H : Type} : Lit × DataW H → Nat
  | (.string bytes, d) => bytes.length + uptoBulk d + 1
  | (_, d) => uptoBulk d + 1
 end
def uptoSmall : (H : Type) → List (DataW H) → Bool := fun _ ds => decide (uptoBulkAll ds ≤ 1048576)
def OpenSpec.upto (s : _root_.Go.ChangeSpec) : _root_.Go.OpenSpec := { _root_.Go.OpenSpec.ofChange s with cond := some uptoSmall }

/-- 'lanthornlaw23.BlendMath', WHERE WHAT IT READS IS OF BULK AT MOST 1048576: true; the input reads as it did. -/
def blendMathUptoRow : OpenClaim := { program := "ytgbncbclhdnbmaa", sum := "7a840abd3c1bf3668508738f9add42113ed2bb95b080940035c4b51dfe253a3d", func := "lanthorn/lanthornlaw23.BlendMath", spec := "blendMath", apart := false, narrowed := true }
def BlendMathUptoSaid : Prop := blendMathUptoRow.holds Try.pinned (OpenSpec.upto blendMathSpec)

/-- 'lanthornlaw23.BlendBack', WHERE WHAT IT READS IS OF BULK AT MOST 1048576: true; the input reads as it did. -/
def blendBackUptoRow : OpenClaim := { program := "ytgbncbclhdnbmaa", sum := "7a840abd3c1bf3668508738f9add42113ed2bb95b080940035c4b51dfe253a3d", func := "lanthorn/lanthornlaw23.BlendBack", spec := "blendBack", apart := false, narrowed := true }
def BlendBackUptoSaid : Prop := blendBackUptoRow.holds Try.pinned (OpenSpec.upto blendBackSpec)

/-- 'lanthornlaw23.BlendBright', WHERE WHAT IT READS IS OF BULK AT MOST 1048576: true; the input reads as it did. -/
def blendBrightUptoRow : OpenClaim := { program := "ytgbncbclhdnbmaa", sum := "7a840abd3c1bf3668508738f9add42113ed2bb95b080940035c4b51dfe253a3d", func := "lanthorn/lanthornlaw23.BlendBright", spec := "blendBright", apart := false, narrowed := true }
def BlendBrightUptoSaid : Prop := blendBrightUptoRow.holds Try.pinned (OpenSpec.upto blendBrightSpec)

/-- 'lanthornlaw23.BlendOrder', WHERE WHAT IT READS IS OF BULK AT MOST 1048576: true; the input reads as it did. -/
def blendOrderUptoRow : OpenClaim := { program := "ytgbncbclhdnbmaa", sum := "7a840abd3c1bf3668508738f9add42113ed2bb95b080940035c4b51dfe253a3d", func := "lanthorn/lanthornlaw23.BlendOrder", spec := "blendOrder", unfollowed := true, recurses := true, apart := false, narrowed := true }
def BlendOrderUptoSaid : Prop := blendOrderUptoRow.holds Try.pinned (OpenSpec.upto blendOrderSpec)

/-- 'lanthornlaw23.BlendWindows', WHERE WHAT IT READS IS OF BULK AT MOST 1048576: true; the input reads as it did. -/
def blendWindowsUptoRow : OpenClaim := { program := "ytgbncbclhdnbmaa", sum := "7a840abd3c1bf3668508738f9add42113ed2bb95b080940035c4b51dfe253a3d", func := "lanthorn/lanthornlaw23.BlendWindows", spec := "blendWindows", unfollowed := true, recurses := true, apart := false, narrowed := true }
def BlendWindowsUptoSaid : Prop := blendWindowsUptoRow.holds Try.pinned (OpenSpec.upto blendWindowsSpec)

/-- 'lanthornlaw23.BlendPlain', WHERE WHAT IT READS IS OF BULK AT MOST 1048576: true; the input reads as it did. -/
def blendPlainUptoRow : OpenClaim := { program := "ytgbncbclhdnbmaa", sum := "7a840abd3c1bf3668508738f9add42113ed2bb95b080940035c4b51dfe253a3d", func := "lanthorn/lanthornlaw23.BlendPlain", spec := "blendPlain", unfollowed := true, recurses := true, apart := false, narrowed := true }
def BlendPlainUptoSaid : Prop := blendPlainUptoRow.holds Try.pinned (OpenSpec.upto blendPlainSpec)

/-- 'lanthornlaw23.BlendHidden', WHERE WHAT IT READS IS OF BULK AT MOST 1048576: true; the input reads as it did. -/
def blendHiddenUptoRow : OpenClaim := { program := "ytgbncbclhdnbmaa", sum := "7a840abd3c1bf3668508738f9add42113ed2bb95b080940035c4b51dfe253a3d", func := "lanthorn/lanthornlaw23.BlendHidden", spec := "blendHidden", unfollowed := true, recurses := true, apart := false, narrowed := true }
def BlendHiddenUptoSaid : Prop := blendHiddenUptoRow.holds Try.pinned (OpenSpec.upto blendHiddenSpec)

end Rows
end Go.Proofs.Ytgbncbclhdnbmaa
