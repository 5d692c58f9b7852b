/-
  No cell of these rows narrows 'for every input' (looked for: loops, veiled, ifaces, maps, wideKeys, modest, calm, conditions, laid).
  DERIVED. THE GIVEN ROWS OF THIS SEAT. 8 by the template 'for every input the law returns true; each argument reads behind the call as it read before'; 0 by the template 'total and deterministic' (their statements: YthladllkckkjpaaTotals.lean).
  GIVEN WITH THE SEED: the statements are not yours to turn. If you find one false, say at which input.
  Laid BY PROGRAM, IN A SANDBOX (cutbox-rows.mjs): the forced cells as the released guide's own fill.sh prints them over the translation c588d58d1436a988… (all of the seat's roots in one cut). By AI agents, Wed Nov 11 2026. No macro, syntax, notation, axiom, sorry.
-/
import Derived.Test.YthladllkckkjpaaChecked
import GoSem.Claim
import GoSem.ClaimJoined
import GoSem.ClaimMapViews
import Derived.JoinedTies
import Derived.KernelRfl
namespace Go.Proofs.Ythladllkckkjpaa
/- THE CELL 'sum', in the pinned program and in every row, IS THE sha256 OF THE DUMP (.gsa) THAT YthladllkckkjpaaProg.lean LOADS. Nothing in Lean hashes anything: it is a label: what it is worth is what the hold of that sum in a sandbox is worth. -/
noncomputable def Try.pinned : Pinned := { name := "ythladllkckkjpaa", sum := "c588d58d1436a988049e6396cb3998e698b70fba66c590a74b01c1bdbc8c3083", checked := Try.checked }
namespace Rows
def none {H : Type} : Left H := { results := [], args := [] }

/-- 'lanthornlaw22.SpriteLines': WHATEVER THE INPUT: true; the input reads as it did. -/
def spriteLinesSpec : ChangeSpec := { name := "spriteLines", fn := fun _ => fun
  | [d1, d2, d3, d4] => { results := [.lit (.bool true)], args := [d1, d2, d3, d4] }
  | _ => none }
def spriteLinesRow : OpenClaim := { program := "ythladllkckkjpaa", sum := "c588d58d1436a988049e6396cb3998e698b70fba66c590a74b01c1bdbc8c3083", func := "lanthorn/lanthornlaw22.SpriteLines", spec := "spriteLines", unfollowed := true, recurses := true, apart := false }
def SpriteLinesSaid : Prop := spriteLinesRow.holds Try.pinned (OpenSpec.ofChange spriteLinesSpec)

/-- ITS FALSE NEIGHBOUR: 'it returns false'. Refute it at one input. -/
def spriteLinesWrong : ChangeSpec := { name := "spriteLines", fn := fun _ => fun
  | [d1, d2, d3, d4] => { results := [.lit (.bool false)], args := [d1, d2, d3, d4] }
  | _ => none }
def SpriteLinesWrongFalsely : Prop := spriteLinesRow.holds Try.pinned (OpenSpec.ofChange spriteLinesWrong)

/-- 'lanthornlaw22.SpriteOf': WHATEVER THE INPUT: true; the input reads as it did. -/
def spriteOfSpec : ChangeSpec := { name := "spriteOf", fn := fun _ => fun
  | [d1, d2, d3, d4, d5] => { results := [.lit (.bool true)], args := [d1, d2, d3, d4, d5] }
  | _ => none }
def spriteOfRow : OpenClaim := { program := "ythladllkckkjpaa", sum := "c588d58d1436a988049e6396cb3998e698b70fba66c590a74b01c1bdbc8c3083", func := "lanthorn/lanthornlaw22.SpriteOf", spec := "spriteOf", unfollowed := true, recurses := true, apart := false }
def SpriteOfSaid : Prop := spriteOfRow.holds Try.pinned (OpenSpec.ofChange spriteOfSpec)

/-- ITS FALSE NEIGHBOUR: 'it returns false'. Refute it at one input. -/
def spriteOfWrong : ChangeSpec := { name := "spriteOf", fn := fun _ => fun
  | [d1, d2, d3, d4, d5] => { results := [.lit (.bool false)], args := [d1, d2, d3, d4, d5] }
  | _ => none }
def SpriteOfWrongFalsely : Prop := spriteOfRow.holds Try.pinned (OpenSpec.ofChange spriteOfWrong)

/-- 'lanthornlaw22.SpriteNumbers': WHATEVER THE INPUT: true; the input reads as it did. -/
def spriteNumbersSpec : ChangeSpec := { name := "spriteNumbers", fn := fun _ => fun
  | [d1, d2, d3, d4, d5] => { results := [.lit (.bool true)], args := [d1, d2, d3, d4, d5] }
  | _ => none }
def spriteNumbersRow : OpenClaim := { program := "ythladllkckkjpaa", sum := "c588d58d1436a988049e6396cb3998e698b70fba66c590a74b01c1bdbc8c3083", func := "lanthorn/lanthornlaw22.SpriteNumbers", spec := "spriteNumbers", unfollowed := true, recurses := true, apart := false }
def SpriteNumbersSaid : Prop := spriteNumbersRow.holds Try.pinned (OpenSpec.ofChange spriteNumbersSpec)

/-- ITS FALSE NEIGHBOUR: 'it returns false'. Refute it at one input. -/
def spriteNumbersWrong : ChangeSpec := { name := "spriteNumbers", fn := fun _ => fun
  | [d1, d2, d3, d4, d5] => { results := [.lit (.bool false)], args := [d1, d2, d3, d4, d5] }
  | _ => none }
def SpriteNumbersWrongFalsely : Prop := spriteNumbersRow.holds Try.pinned (OpenSpec.ofChange spriteNumbersWrong)

/-- 'lanthornlaw22.SpriteLimits': WHATEVER THE INPUT: true; the input reads as it did. -/
def spriteLimitsSpec : ChangeSpec := { name := "spriteLimits", fn := fun _ => fun
  | [d1, d2, d3, d4] => { results := [.lit (.bool true)], args := [d1, d2, d3, d4] }
  | _ => none }
def spriteLimitsRow : OpenClaim := { program := "ythladllkckkjpaa", sum := "c588d58d1436a988049e6396cb3998e698b70fba66c590a74b01c1bdbc8c3083", func := "lanthorn/lanthornlaw22.SpriteLimits", spec := "spriteLimits", unfollowed := true, recurses := true, apart := false }
def SpriteLimitsSaid : Prop := spriteLimitsRow.holds Try.pinned (OpenSpec.ofChange spriteLimitsSpec)

/-- ITS FALSE NEIGHBOUR: 'it returns false'. Refute it at one input. -/
def spriteLimitsWrong : ChangeSpec := { name := "spriteLimits", fn := fun _ => fun
  | [d1, d2, d3, d4] => { results := [.lit (.bool false)], args := [d1, d2, d3, d4] }
  | _ => none }
def SpriteLimitsWrongFalsely : Prop := spriteLimitsRow.holds Try.pinned (OpenSpec.ofChange spriteLimitsWrong)

/-- 'lanthornlaw22.SpriteFront': WHATEVER THE INPUT: true; the input reads as it did. -/
def spriteFrontSpec : ChangeSpec := { name := "spriteFront", fn := fun _ => fun
  | [d1, d2, d3, d4, d5] => { results := [.lit (.bool true)], args := [d1, d2, d3, d4, d5] }
  | _ => none }
def spriteFrontRow : OpenClaim := { program := "ythladllkckkjpaa", sum := "c588d58d1436a988049e6396cb3998e698b70fba66c590a74b01c1bdbc8c3083", func := "lanthorn/lanthornlaw22.SpriteFront", spec := "spriteFront", unfollowed := true, recurses := true, apart := false }
def SpriteFrontSaid : Prop := spriteFrontRow.holds Try.pinned (OpenSpec.ofChange spriteFrontSpec)

/-- ITS FALSE NEIGHBOUR: 'it returns false'. Refute it at one input. -/
def spriteFrontWrong : ChangeSpec := { name := "spriteFront", fn := fun _ => fun
  | [d1, d2, d3, d4, d5] => { results := [.lit (.bool false)], args := [d1, d2, d3, d4, d5] }
  | _ => none }
def SpriteFrontWrongFalsely : Prop := spriteFrontRow.holds Try.pinned (OpenSpec.ofChange spriteFrontWrong)

/-- 'lanthornlaw22.SpriteTurned': WHATEVER THE INPUT: true; the input reads as it did. -/
def spriteTurnedSpec : ChangeSpec := { name := "spriteTurned", fn := fun _ => fun
  | [d1, d2, d3, d4, d5] => { results := [.lit (.bool true)], args := [d1, d2, d3, d4, d5] }
  | _ => none }
def spriteTurnedRow : OpenClaim := { program := "ythladllkckkjpaa", sum := "c588d58d1436a988049e6396cb3998e698b70fba66c590a74b01c1bdbc8c3083", func := "lanthorn/lanthornlaw22.SpriteTurned", spec := "spriteTurned", unfollowed := true, recurses := true, apart := false }
def SpriteTurnedSaid : Prop := spriteTurnedRow.holds Try.pinned (OpenSpec.ofChange spriteTurnedSpec)

/-- ITS FALSE NEIGHBOUR: 'it returns false'. Refute it at one input. -/
def spriteTurnedWrong : ChangeSpec := { name := "spriteTurned", fn := fun _ => fun
  | [d1, d2, d3, d4, d5] => { results := [.lit (.bool false)], args := [d1, d2, d3, d4, d5] }
  | _ => none }
def SpriteTurnedWrongFalsely : Prop := spriteTurnedRow.holds Try.pinned (OpenSpec.ofChange spriteTurnedWrong)

/-- 'lanthornlaw22.SpriteFirst': WHATEVER THE INPUT: true; the input reads as it did. -/
def spriteFirstSpec : ChangeSpec := { name := "spriteFirst", fn := fun _ => fun
  | [d1, d2, d3, d4, d5] => { results := [.lit (.bool true)], args := [d1, d2, d3, d4, d5] }
  | _ => none }
def spriteFirstRow : OpenClaim := { program := "ythladllkckkjpaa", sum := "c588d58d1436a988049e6396cb3998e698b70fba66c590a74b01c1bdbc8c3083", func := "lanthorn/lanthornlaw22.SpriteFirst", spec := "spriteFirst", unfollowed := true, recurses := true, apart := false }
def SpriteFirstSaid : Prop := spriteFirstRow.holds Try.pinned (OpenSpec.ofChange spriteFirstSpec)

/-- ITS FALSE NEIGHBOUR: 'it returns false'. Refute it at one input. -/
def spriteFirstWrong : ChangeSpec := { name := "spriteFirst", fn := fun _ => fun
  | [d1, d2, d3, d4, d5] => { results := [.lit (.bool false)], args := [d1, d2, d3, d4, d5] }
  | _ => none }
def SpriteFirstWrongFalsely : Prop := spriteFirstRow.holds Try.pinned (OpenSpec.ofChange spriteFirstWrong)

/-- 'lanthornlaw22.SpriteNil': WHATEVER THE INPUT: true; the input reads as it did. -/
def spriteNilSpec : ChangeSpec := { name := "spriteNil", fn := fun _ => fun
  | [d1, d2, d3] => { results := [.lit (.bool true)], args := [d1, d2, d3] }
  | _ => none }
def spriteNilRow : OpenClaim := { program := "ythladllkckkjpaa", sum := "c588d58d1436a988049e6396cb3998e698b70fba66c590a74b01c1bdbc8c3083", func := "lanthorn/lanthornlaw22.SpriteNil", spec := "spriteNil", unfollowed := true, recurses := true, apart := false }
def SpriteNilSaid : Prop := spriteNilRow.holds Try.pinned (OpenSpec.ofChange spriteNilSpec)

/-- ITS FALSE NEIGHBOUR: 'it returns false'. Refute it at one input. -/
def spriteNilWrong : ChangeSpec := { name := "spriteNil", fn := fun _ => fun
  | [d1, d2, d3] => { results := [.lit (.bool false)], args := [d1, d2, d3] }
  | _ => none }
def SpriteNilWrongFalsely : Prop := spriteNilRow.holds Try.pinned (OpenSpec.ofChange spriteNilWrong)

/- THE SECOND FORM. 'bulk': how many values and letters a reading holds, each counted each time it is reached (what is shared counts as often as it is met; a slice's spare places count too). A statement '..UptoSaid' is the law's where the arguments, and the package variables that the reading takes, are together of bulk at most 1048576: NARROWER than '..Said'. Prove '..Said' where nothing that the law and all that it calls make is longer than what came in: it says more and counts as full. Else prove '..UptoSaid'. A law counts once. -/
mutual
def uptoBulk {H : Type} : DataW H → Nat
  | .lit (.string bytes) => bytes.length + 1
  | .lit _ => 1
  | .nil => 1
  | .ptr d => uptoBulk d + 1
  | .slice elems spare => uptoBulkAll elems + uptoBulkAll spare + 1
  | .agg parts => uptoBulkAll parts + 1
  | .iface _ d => uptoBulk d + 1
  | .map entries => uptoBulkEntries entries + 1
  | .held _ => 1
def uptoBulkAll {H : Type} : List (DataW H) → Nat
  | [] => 0
  | d :: r => uptoBulk d + uptoBulkAll r
def uptoBulkEntries {H : Type} : List (Lit × DataW H) → Nat
  | [] => 0
  | x :: r => uptoBulkEntry x + uptoBulkEntries r
def uptoBulkEntry {H : Type} : Lit × DataW H → Nat
  | (.string bytes, d) => bytes.length + uptoBulk d + 1
  | (_, d) => uptoBulk d + 1
 end
def uptoSmall : (H : Type) → List (DataW H) → Bool := fun _ ds => decide (uptoBulkAll ds ≤ 1048576)
def OpenSpec.upto (s : _root_.Go.ChangeSpec) : _root_.Go.OpenSpec := { _root_.Go.OpenSpec.ofChange s with cond := some uptoSmall }

/-- 'lanthornlaw22.SpriteLines', WHERE WHAT IT READS IS OF BULK AT MOST 1048576: true; the input reads as it did. -/
def spriteLinesUptoRow : OpenClaim := { program := "ythladllkckkjpaa", sum := "c588d58d1436a988049e6396cb3998e698b70fba66c590a74b01c1bdbc8c3083", func := "lanthorn/lanthornlaw22.SpriteLines", spec := "spriteLines", unfollowed := true, recurses := true, apart := false, narrowed := true }
def SpriteLinesUptoSaid : Prop := spriteLinesUptoRow.holds Try.pinned (OpenSpec.upto spriteLinesSpec)

/-- 'lanthornlaw22.SpriteOf', WHERE WHAT IT READS IS OF BULK AT MOST 1048576: true; the input reads as it did. -/
def spriteOfUptoRow : OpenClaim := { program := "ythladllkckkjpaa", sum := "c588d58d1436a988049e6396cb3998e698b70fba66c590a74b01c1bdbc8c3083", func := "lanthorn/lanthornlaw22.SpriteOf", spec := "spriteOf", unfollowed := true, recurses := true, apart := false, narrowed := true }
def SpriteOfUptoSaid : Prop := spriteOfUptoRow.holds Try.pinned (OpenSpec.upto spriteOfSpec)

/-- 'lanthornlaw22.SpriteNumbers', WHERE WHAT IT READS IS OF BULK AT MOST 1048576: true; the input reads as it did. -/
def spriteNumbersUptoRow : OpenClaim := { program := "ythladllkckkjpaa", sum := "c588d58d1436a988049e6396cb3998e698b70fba66c590a74b01c1bdbc8c3083", func := "lanthorn/lanthornlaw22.SpriteNumbers", spec := "spriteNumbers", unfollowed := true, recurses := true, apart := false, narrowed := true }
def SpriteNumbersUptoSaid : Prop := spriteNumbersUptoRow.holds Try.pinned (OpenSpec.upto spriteNumbersSpec)

/-- 'lanthornlaw22.SpriteLimits', WHERE WHAT IT READS IS OF BULK AT MOST 1048576: true; the input reads as it did. -/
def spriteLimitsUptoRow : OpenClaim := { program := "ythladllkckkjpaa", sum := "c588d58d1436a988049e6396cb3998e698b70fba66c590a74b01c1bdbc8c3083", func := "lanthorn/lanthornlaw22.SpriteLimits", spec := "spriteLimits", unfollowed := true, recurses := true, apart := false, narrowed := true }
def SpriteLimitsUptoSaid : Prop := spriteLimitsUptoRow.holds Try.pinned (OpenSpec.upto spriteLimitsSpec)

/-- 'lanthornlaw22.SpriteFront', WHERE WHAT IT READS IS OF BULK AT MOST 1048576: true; the input reads as it did. -/
def spriteFrontUptoRow : OpenClaim := { program := "ythladllkckkjpaa", sum := "c588d58d1436a988049e6396cb3998e698b70fba66c590a74b01c1bdbc8c3083", func := "lanthorn/lanthornlaw22.SpriteFront", spec := "spriteFront", unfollowed := true, recurses := true, apart := false, narrowed := true }
def SpriteFrontUptoSaid : Prop := spriteFrontUptoRow.holds Try.pinned (OpenSpec.upto spriteFrontSpec)

/-- 'lanthornlaw22.SpriteTurned', WHERE WHAT IT READS IS OF BULK AT MOST 1048576: true; the input reads as it did. -/
def spriteTurnedUptoRow : OpenClaim := { program := "ythladllkckkjpaa", sum := "c588d58d1436a988049e6396cb3998e698b70fba66c590a74b01c1bdbc8c3083", func := "lanthorn/lanthornlaw22.SpriteTurned", spec := "spriteTurned", unfollowed := true, recurses := true, apart := false, narrowed := true }
def SpriteTurnedUptoSaid : Prop := spriteTurnedUptoRow.holds Try.pinned (OpenSpec.upto spriteTurnedSpec)

/-- 'lanthornlaw22.SpriteFirst', WHERE WHAT IT READS IS OF BULK AT MOST 1048576: true; the input reads as it did. -/
def spriteFirstUptoRow : OpenClaim := { program := "ythladllkckkjpaa", sum := "c588d58d1436a988049e6396cb3998e698b70fba66c590a74b01c1bdbc8c3083", func := "lanthorn/lanthornlaw22.SpriteFirst", spec := "spriteFirst", unfollowed := true, recurses := true, apart := false, narrowed := true }
def SpriteFirstUptoSaid : Prop := spriteFirstUptoRow.holds Try.pinned (OpenSpec.upto spriteFirstSpec)

/-- 'lanthornlaw22.SpriteNil', WHERE WHAT IT READS IS OF BULK AT MOST 1048576: true; the input reads as it did. -/
def spriteNilUptoRow : OpenClaim := { program := "ythladllkckkjpaa", sum := "c588d58d1436a988049e6396cb3998e698b70fba66c590a74b01c1bdbc8c3083", func := "lanthorn/lanthornlaw22.SpriteNil", spec := "spriteNil", unfollowed := true, recurses := true, apart := false, narrowed := true }
def SpriteNilUptoSaid : Prop := spriteNilUptoRow.holds Try.pinned (OpenSpec.upto spriteNilSpec)

end Rows
end Go.Proofs.Ythladllkckkjpaa
