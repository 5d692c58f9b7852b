/- The whole of the law VramRows, which returns true for every input. Words that are written one behind the other are read in the same order from the same address. No condition. -/
import Derived.Test.YtjegnoknenahpaaVramRowse00
import Derived.Test.YtjegnoknenahpaaVramRowse01
import Derived.Test.YtjegnoknenahpaaVramRowse02
import Derived.Test.YtjegnoknenahpaaVramRowse03
import Derived.Test.YtjegnoknenahpaaVramRowse10
import Derived.Test.YtjegnoknenahpaaVramRowse11
import Derived.Test.YtjegnoknenahpaaVramRowse12
import Derived.Test.YtjegnoknenahpaaVramRowse13
import Derived.Test.YtjegnoknenahpaaVramRowse20
import Derived.Test.YtjegnoknenahpaaVramRowse21
import Derived.Test.YtjegnoknenahpaaVramRowse22
import Derived.Test.YtjegnoknenahpaaVramRowse23
import Derived.Test.YtjegnoknenahpaaVramRowse30
import Derived.Test.YtjegnoknenahpaaVramRowse31
import Derived.Test.YtjegnoknenahpaaVramRowse32
import Derived.Test.YtjegnoknenahpaaVramRowse33
namespace Go.Proofs.Ytjegnoknenahpaa.VramRows
open Go.Sx Go.ChangeShapes Go.WideShapes Go.ChangeAt Go.RowKit
set_option linter.unusedVariables false
set_option linter.unusedSimpArgs false
set_option maxRecDepth 100000
theorem calls (a0 : Int) (w0 : (Lit.int .u8 a0).wf = true) (a1 : Int) (w1 : (Lit.int .u16 a1).wf = true) (x0 : Ext) (w : World) (g0 : XFit x0 w [some .u16]) :
    Calls Try.prog 4 #[.int .u8 a0, .int .u16 a1, x0.v] w fun r w' => r = .returned (.bool true) ∧ Below w.heap.size w w' := by
  rcases (show a0 / 4 % 4 = 0 ∨ a0 / 4 % 4 = 1 ∨ a0 / 4 % 4 = 2 ∨ a0 / 4 % 4 = 3 by omega) with h | h | h | h
  · rcases (show a0 % 4 = 0 ∨ a0 % 4 = 1 ∨ a0 % 4 = 2 ∨ a0 % 4 = 3 by omega) with k | k | k | k
    · exact E00.ecalls a0 w0 a1 w1 x0 k h w g0
    · exact E01.ecalls a0 w0 a1 w1 x0 k h w g0
    · exact E02.ecalls a0 w0 a1 w1 x0 k h w g0
    · exact E03.ecalls a0 w0 a1 w1 x0 k h w g0
  · rcases (show a0 % 4 = 0 ∨ a0 % 4 = 1 ∨ a0 % 4 = 2 ∨ a0 % 4 = 3 by omega) with k | k | k | k
    · exact E10.ecalls a0 w0 a1 w1 x0 k h w g0
    · exact E11.ecalls a0 w0 a1 w1 x0 k h w g0
    · exact E12.ecalls a0 w0 a1 w1 x0 k h w g0
    · exact E13.ecalls a0 w0 a1 w1 x0 k h w g0
  · rcases (show a0 % 4 = 0 ∨ a0 % 4 = 1 ∨ a0 % 4 = 2 ∨ a0 % 4 = 3 by omega) with k | k | k | k
    · exact E20.ecalls a0 w0 a1 w1 x0 k h w g0
    · exact E21.ecalls a0 w0 a1 w1 x0 k h w g0
    · exact E22.ecalls a0 w0 a1 w1 x0 k h w g0
    · exact E23.ecalls a0 w0 a1 w1 x0 k h w g0
  · rcases (show a0 % 4 = 0 ∨ a0 % 4 = 1 ∨ a0 % 4 = 2 ∨ a0 % 4 = 3 by omega) with k | k | k | k
    · exact E30.ecalls a0 w0 a1 w1 x0 k h w g0
    · exact E31.ecalls a0 w0 a1 w1 x0 k h w g0
    · exact E32.ecalls a0 w0 a1 w1 x0 k h w g0
    · exact E33.ecalls a0 w0 a1 w1 x0 k h w g0

theorem own : ownKnob Try.prog.godebug = none := by kernel_rfl
theorem lifted (os : Os) (started : os.Started) (H : Type) (enc : TypeId × Value → H) :
    ReturnsInHanded {} Try.checked os 4 .any (Rows.vramRowsSpec.pre6 enc Try.prog Try.f4 Rows.vramRowsRow.domain false) (Rows.vramRowsSpec.post enc Try.prog Try.f4 false true false false) := by
  refine returnsInHanded_of_change (C := Try.checked) own started (by kernel_rfl) Try.func4
    (ChangeSpec.witness6 (enc := enc) (C := Try.checked) false ⟨#[], #[.int .u8 0, .int .u16 0, .slice none 0 0], []⟩ 8 (by kernel_rfl) (by kernel_rfl) (by kernel_rfl) (by kernel_rfl)) ?_
  intro W base args ds gs before hval0 hW hcnd _
  have hval : ∀ (j : Nat) t v, Try.f4.params[j]? = some t → args[j]? = some v → Value.okWide Try.prog W .any base t v := hval0
  have hW' := hW
  obtain ⟨p, q, hA0, hV, rfl, hfz, hnd⟩ := hW
  have hA1 : DataW.TrodAll enc Try.prog W 0 (fun _ => true) true Try.f4.params.toList args.toList ds p := hA0
  rw [Try.params4] at hA1 hval
  obtain ⟨v0, vs0, d0, ds0, p0, q0, hargs, rfl, rfl, h0, r0⟩ := trodAll_cons hA1
  obtain ⟨v1, vs1, d1, ds1, p1, q1, rfl, rfl, rfl, h1, r1⟩ := trodAll_cons r0
  obtain ⟨v2, vs2, d2, ds2, p2, q2, rfl, rfl, rfl, h2, r2⟩ := trodAll_cons r1
  obtain ⟨rfl, rfl, rfl⟩ := trodAll_nil r2
  obtain rfl : args = #[v0, v1, v2] := by cases args; simp_all
  obtain ⟨a0, rfl, rfl, rfl, w0⟩ := open_int Try.underlying5 (hval 0 5 v0 rfl rfl) h0
  obtain ⟨a1, rfl, rfl, rfl, w1⟩ := open_int Try.underlying22 (hval 1 22 v1 rfl rfl) h1
  obtain ⟨x0, rfl, g0⟩ := open_slc [some .u16] 4 Try.underlying26 (by kernel_rfl) (by kernel_rfl) (by decide) (hval 2 26 v2 rfl rfl) h2
  obtain ⟨rfl, rfl⟩ := trodVars_none hV

  refine (calls a0 w0 a1 w1 x0 W g0).mono fun e W' ⟨he, hb⟩ => ⟨_, he, ?_⟩
  exact law_post (by kernel_rfl) (by kernel_rfl) rfl (by kernel_rfl) Try.underlying4 rfl hW' hb
theorem over : Rows.vramRowsRow.holds Try.pinned (OpenSpec.ofChange Rows.vramRowsSpec) :=
  OpenClaim.holds_of_wide 4 Try.f4 rfl rfl rfl rfl rfl rfl rfl ⟨rfl, rfl, rfl, rfl, rfl⟩ rfl rfl rfl rfl rfl (by kernel_rfl) Try.func4 (by kernel_rfl)
    (of_decide_eq_true (by kernel_rfl)) (by unfold Func.isWrapper; first | (rw [if_pos (by decide +kernel)]; kernel_rfl) | (rw [if_neg (by decide +kernel)]; exact ⟨rfl, rfl⟩))
    (fun os started H enc _ => lifted os started H enc)
theorem proved : Rows.VramRowsSaid := over
#print axioms proved
end Go.Proofs.Ytjegnoknenahpaa.VramRows
