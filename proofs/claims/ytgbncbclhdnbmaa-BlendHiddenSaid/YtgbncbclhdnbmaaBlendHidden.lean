/- The whole of the law BlendHidden, which returns true for every input. What is not shown, or not seen, does not matter. No condition. -/
import Derived.Test.YtgbncbclhdnbmaaBlendHiddene0a
import Derived.Test.YtgbncbclhdnbmaaBlendHiddene0b
import Derived.Test.YtgbncbclhdnbmaaBlendHiddene0c
import Derived.Test.YtgbncbclhdnbmaaBlendHiddene1aa
import Derived.Test.YtgbncbclhdnbmaaBlendHiddene1ab
import Derived.Test.YtgbncbclhdnbmaaBlendHiddene1ac
import Derived.Test.YtgbncbclhdnbmaaBlendHiddene1ba
import Derived.Test.YtgbncbclhdnbmaaBlendHiddene1bb
import Derived.Test.YtgbncbclhdnbmaaBlendHiddene1bc
import Derived.Test.YtgbncbclhdnbmaaBlendHiddene2a
import Derived.Test.YtgbncbclhdnbmaaBlendHiddene2b
import Derived.Test.YtgbncbclhdnbmaaBlendHiddene2c
import Derived.Test.YtgbncbclhdnbmaaBlendHiddene3a
import Derived.Test.YtgbncbclhdnbmaaBlendHiddene3b
import Derived.Test.YtgbncbclhdnbmaaBlendHiddene3c
import Derived.Test.YtgbncbclhdnbmaaBlendHiddene4a
import Derived.Test.YtgbncbclhdnbmaaBlendHiddene4b
import Derived.Test.YtgbncbclhdnbmaaBlendHiddene4c
import Derived.Test.YtgbncbclhdnbmaaBlendHiddene5a
import Derived.Test.YtgbncbclhdnbmaaBlendHiddene5b
import Derived.Test.YtgbncbclhdnbmaaBlendHiddene5c
import Derived.Test.YtgbncbclhdnbmaaBlendHiddene6a
import Derived.Test.YtgbncbclhdnbmaaBlendHiddene6b
import Derived.Test.YtgbncbclhdnbmaaBlendHiddene6c
import Derived.Test.YtgbncbclhdnbmaaBlendHiddene7a
import Derived.Test.YtgbncbclhdnbmaaBlendHiddene7b
import Derived.Test.YtgbncbclhdnbmaaBlendHiddene7c
import Derived.Test.YtgbncbclhdnbmaaBlendHiddeno
namespace Go.Proofs.Ytgbncbclhdnbmaa.BlendHidden
open Go.Sx Go.ChangeShapes Go.WideShapes Go.ChangeAt Go.RowKit
set_option linter.unusedVariables false
set_option linter.unusedSimpArgs false
set_option maxRecDepth 100000
theorem calls (c0 : List Value) (l0 : c0.length = pcTotal Pc0) (f0 : PcFit c0 0 Pc0) (c1 : List Value) (l1 : c1.length = pcTotal Pc1) (f1 : PcFit c1 0 Pc1) (a2 : Int) (w2 : (Lit.int .i64 a2).wf = true) (a3 : Int) (w3 : (Lit.int .i64 a3).wf = true) (c4 : List Value) (l4 : c4.length = pcTotal Pc4) (f4 : PcFit c4 0 Pc4) (a5 : Int) (w5 : (Lit.int .u16 a5).wf = true) (w : World) :
    Calls Try.prog 9 #[.agg c0.toArray, .agg c1.toArray, .int .i64 a2, .int .i64 a3, .agg c4.toArray, .int .u16 a5] w fun r w' => r = .returned (.bool true) ∧ Below w.heap.size w w' := by
  have hr := bounds_i64 w2
  have hl := bounds_i64 w3
  rcases (show (-9223372036854775808 ≤ a3 ∧ a3 ≤ -1) ∨ a3 = 0 ∨ a3 = 1 ∨ a3 = 2 ∨ a3 = 3 ∨ a3 = 4 ∨ (5 ≤ a3 ∧ a3 ≤ 9223372036854775807) by omega) with g | rfl | rfl | rfl | rfl | rfl | g
  · exact pa_calls c0 l0 f0 c1 l1 f1 a2 w2 a3 g c4 l4 f4 a5 w5 w
  · rcases (show (-9223372036854775808 ≤ a2 ∧ a2 ≤ -1) ∨ (0 ≤ a2 ∧ a2 ≤ 255) ∨ (256 ≤ a2 ∧ a2 ≤ 9223372036854775807) by omega) with h | h | h
    · exact ol0a_calls c0 l0 f0 c1 l1 f1 a2 h c4 l4 f4 a5 w5 w
    · rcases (show arrOf c0 0 64 5 % 8 = 0 ∨ arrOf c0 0 64 5 % 8 = 1 ∨ arrOf c0 0 64 5 % 8 = 2 ∨ arrOf c0 0 64 5 % 8 = 3 ∨ arrOf c0 0 64 5 % 8 = 4 ∨ arrOf c0 0 64 5 % 8 = 5 ∨ arrOf c0 0 64 5 % 8 = 6 ∨ arrOf c0 0 64 5 % 8 = 7 by have := Int.emod_nonneg (arrOf c0 0 64 5) (show (8 : Int) ≠ 0 by decide); have := Int.emod_lt_of_pos (arrOf c0 0 64 5) (show (0 : Int) < 8 by decide); omega) with hm | hm | hm | hm | hm | hm | hm | hm
      · exact e0l0_calls c0 l0 f0 c1 l1 f1 a2 h c4 l4 f4 a5 w5 hm w
      · rcases (show arrOf c0 0 64 5 / 8 % 2 = 0 ∨ arrOf c0 0 64 5 / 8 % 2 = 1 by omega) with h1 | h1
        · exact e1al0_calls c0 l0 f0 c1 l1 f1 a2 h c4 l4 f4 a5 w5 hm h1 w
        · exact e1bl0_calls c0 l0 f0 c1 l1 f1 a2 h c4 l4 f4 a5 w5 hm h1 w
      · exact e2l0_calls c0 l0 f0 c1 l1 f1 a2 h c4 l4 f4 a5 w5 hm w
      · exact e3l0_calls c0 l0 f0 c1 l1 f1 a2 h c4 l4 f4 a5 w5 hm w
      · exact e4l0_calls c0 l0 f0 c1 l1 f1 a2 h c4 l4 f4 a5 w5 hm w
      · exact e5l0_calls c0 l0 f0 c1 l1 f1 a2 h c4 l4 f4 a5 w5 hm w
      · exact e6l0_calls c0 l0 f0 c1 l1 f1 a2 h c4 l4 f4 a5 w5 hm w
      · exact e7l0_calls c0 l0 f0 c1 l1 f1 a2 h c4 l4 f4 a5 w5 hm w
    · exact ol0b_calls c0 l0 f0 c1 l1 f1 a2 h c4 l4 f4 a5 w5 w
  · rcases (show (-9223372036854775808 ≤ a2 ∧ a2 ≤ -1) ∨ (0 ≤ a2 ∧ a2 ≤ 255) ∨ (256 ≤ a2 ∧ a2 ≤ 9223372036854775807) by omega) with h | h | h
    · exact ol1a_calls c0 l0 f0 c1 l1 f1 a2 h c4 l4 f4 a5 w5 w
    · rcases (show arrOf c0 0 64 5 % 8 = 0 ∨ arrOf c0 0 64 5 % 8 = 1 ∨ arrOf c0 0 64 5 % 8 = 2 ∨ arrOf c0 0 64 5 % 8 = 3 ∨ arrOf c0 0 64 5 % 8 = 4 ∨ arrOf c0 0 64 5 % 8 = 5 ∨ arrOf c0 0 64 5 % 8 = 6 ∨ arrOf c0 0 64 5 % 8 = 7 by have := Int.emod_nonneg (arrOf c0 0 64 5) (show (8 : Int) ≠ 0 by decide); have := Int.emod_lt_of_pos (arrOf c0 0 64 5) (show (0 : Int) < 8 by decide); omega) with hm | hm | hm | hm | hm | hm | hm | hm
      · exact e0l1_calls c0 l0 f0 c1 l1 f1 a2 h c4 l4 f4 a5 w5 hm w
      · rcases (show arrOf c0 0 64 5 / 8 % 2 = 0 ∨ arrOf c0 0 64 5 / 8 % 2 = 1 by omega) with h1 | h1
        · exact e1al1_calls c0 l0 f0 c1 l1 f1 a2 h c4 l4 f4 a5 w5 hm h1 w
        · exact e1bl1_calls c0 l0 f0 c1 l1 f1 a2 h c4 l4 f4 a5 w5 hm h1 w
      · exact e2l1_calls c0 l0 f0 c1 l1 f1 a2 h c4 l4 f4 a5 w5 hm w
      · exact e3l1_calls c0 l0 f0 c1 l1 f1 a2 h c4 l4 f4 a5 w5 hm w
      · exact e4l1_calls c0 l0 f0 c1 l1 f1 a2 h c4 l4 f4 a5 w5 hm w
      · exact e5l1_calls c0 l0 f0 c1 l1 f1 a2 h c4 l4 f4 a5 w5 hm w
      · exact e6l1_calls c0 l0 f0 c1 l1 f1 a2 h c4 l4 f4 a5 w5 hm w
      · exact e7l1_calls c0 l0 f0 c1 l1 f1 a2 h c4 l4 f4 a5 w5 hm w
    · exact ol1b_calls c0 l0 f0 c1 l1 f1 a2 h c4 l4 f4 a5 w5 w
  · rcases (show (-9223372036854775808 ≤ a2 ∧ a2 ≤ -1) ∨ (0 ≤ a2 ∧ a2 ≤ 255) ∨ (256 ≤ a2 ∧ a2 ≤ 9223372036854775807) by omega) with h | h | h
    · exact ol2a_calls c0 l0 f0 c1 l1 f1 a2 h c4 l4 f4 a5 w5 w
    · rcases (show arrOf c0 0 64 5 % 8 = 0 ∨ arrOf c0 0 64 5 % 8 = 1 ∨ arrOf c0 0 64 5 % 8 = 2 ∨ arrOf c0 0 64 5 % 8 = 3 ∨ arrOf c0 0 64 5 % 8 = 4 ∨ arrOf c0 0 64 5 % 8 = 5 ∨ arrOf c0 0 64 5 % 8 = 6 ∨ arrOf c0 0 64 5 % 8 = 7 by have := Int.emod_nonneg (arrOf c0 0 64 5) (show (8 : Int) ≠ 0 by decide); have := Int.emod_lt_of_pos (arrOf c0 0 64 5) (show (0 : Int) < 8 by decide); omega) with hm | hm | hm | hm | hm | hm | hm | hm
      · exact e0l2_calls c0 l0 f0 c1 l1 f1 a2 h c4 l4 f4 a5 w5 hm w
      · rcases (show arrOf c0 0 64 5 / 8 % 2 = 0 ∨ arrOf c0 0 64 5 / 8 % 2 = 1 by omega) with h1 | h1
        · exact e1al2_calls c0 l0 f0 c1 l1 f1 a2 h c4 l4 f4 a5 w5 hm h1 w
        · exact e1bl2_calls c0 l0 f0 c1 l1 f1 a2 h c4 l4 f4 a5 w5 hm h1 w
      · exact e2l2_calls c0 l0 f0 c1 l1 f1 a2 h c4 l4 f4 a5 w5 hm w
      · exact e3l2_calls c0 l0 f0 c1 l1 f1 a2 h c4 l4 f4 a5 w5 hm w
      · exact e4l2_calls c0 l0 f0 c1 l1 f1 a2 h c4 l4 f4 a5 w5 hm w
      · exact e5l2_calls c0 l0 f0 c1 l1 f1 a2 h c4 l4 f4 a5 w5 hm w
      · exact e6l2_calls c0 l0 f0 c1 l1 f1 a2 h c4 l4 f4 a5 w5 hm w
      · exact e7l2_calls c0 l0 f0 c1 l1 f1 a2 h c4 l4 f4 a5 w5 hm w
    · exact ol2b_calls c0 l0 f0 c1 l1 f1 a2 h c4 l4 f4 a5 w5 w
  · rcases (show (-9223372036854775808 ≤ a2 ∧ a2 ≤ -1) ∨ (0 ≤ a2 ∧ a2 ≤ 255) ∨ (256 ≤ a2 ∧ a2 ≤ 9223372036854775807) by omega) with h | h | h
    · exact ol3a_calls c0 l0 f0 c1 l1 f1 a2 h c4 l4 f4 a5 w5 w
    · rcases (show arrOf c0 0 64 5 % 8 = 0 ∨ arrOf c0 0 64 5 % 8 = 1 ∨ arrOf c0 0 64 5 % 8 = 2 ∨ arrOf c0 0 64 5 % 8 = 3 ∨ arrOf c0 0 64 5 % 8 = 4 ∨ arrOf c0 0 64 5 % 8 = 5 ∨ arrOf c0 0 64 5 % 8 = 6 ∨ arrOf c0 0 64 5 % 8 = 7 by have := Int.emod_nonneg (arrOf c0 0 64 5) (show (8 : Int) ≠ 0 by decide); have := Int.emod_lt_of_pos (arrOf c0 0 64 5) (show (0 : Int) < 8 by decide); omega) with hm | hm | hm | hm | hm | hm | hm | hm
      · exact e0l3_calls c0 l0 f0 c1 l1 f1 a2 h c4 l4 f4 a5 w5 hm w
      · rcases (show arrOf c0 0 64 5 / 8 % 2 = 0 ∨ arrOf c0 0 64 5 / 8 % 2 = 1 by omega) with h1 | h1
        · exact e1al3_calls c0 l0 f0 c1 l1 f1 a2 h c4 l4 f4 a5 w5 hm h1 w
        · exact e1bl3_calls c0 l0 f0 c1 l1 f1 a2 h c4 l4 f4 a5 w5 hm h1 w
      · exact e2l3_calls c0 l0 f0 c1 l1 f1 a2 h c4 l4 f4 a5 w5 hm w
      · exact e3l3_calls c0 l0 f0 c1 l1 f1 a2 h c4 l4 f4 a5 w5 hm w
      · exact e4l3_calls c0 l0 f0 c1 l1 f1 a2 h c4 l4 f4 a5 w5 hm w
      · exact e5l3_calls c0 l0 f0 c1 l1 f1 a2 h c4 l4 f4 a5 w5 hm w
      · exact e6l3_calls c0 l0 f0 c1 l1 f1 a2 h c4 l4 f4 a5 w5 hm w
      · exact e7l3_calls c0 l0 f0 c1 l1 f1 a2 h c4 l4 f4 a5 w5 hm w
    · exact ol3b_calls c0 l0 f0 c1 l1 f1 a2 h c4 l4 f4 a5 w5 w
  · rcases (show (-9223372036854775808 ≤ a2 ∧ a2 ≤ -1) ∨ (0 ≤ a2 ∧ a2 ≤ 255) ∨ (256 ≤ a2 ∧ a2 ≤ 9223372036854775807) by omega) with h | h | h
    · exact ol4a_calls c0 l0 f0 c1 l1 f1 a2 h c4 l4 f4 a5 w5 w
    · rcases (show arrOf c0 0 64 5 % 8 = 0 ∨ arrOf c0 0 64 5 % 8 = 1 ∨ arrOf c0 0 64 5 % 8 = 2 ∨ arrOf c0 0 64 5 % 8 = 3 ∨ arrOf c0 0 64 5 % 8 = 4 ∨ arrOf c0 0 64 5 % 8 = 5 ∨ arrOf c0 0 64 5 % 8 = 6 ∨ arrOf c0 0 64 5 % 8 = 7 by have := Int.emod_nonneg (arrOf c0 0 64 5) (show (8 : Int) ≠ 0 by decide); have := Int.emod_lt_of_pos (arrOf c0 0 64 5) (show (0 : Int) < 8 by decide); omega) with hm | hm | hm | hm | hm | hm | hm | hm
      · exact e0l4_calls c0 l0 f0 c1 l1 f1 a2 h c4 l4 f4 a5 w5 hm w
      · rcases (show arrOf c0 0 64 5 / 8 % 2 = 0 ∨ arrOf c0 0 64 5 / 8 % 2 = 1 by omega) with h1 | h1
        · exact e1al4_calls c0 l0 f0 c1 l1 f1 a2 h c4 l4 f4 a5 w5 hm h1 w
        · exact e1bl4_calls c0 l0 f0 c1 l1 f1 a2 h c4 l4 f4 a5 w5 hm h1 w
      · exact e2l4_calls c0 l0 f0 c1 l1 f1 a2 h c4 l4 f4 a5 w5 hm w
      · exact e3l4_calls c0 l0 f0 c1 l1 f1 a2 h c4 l4 f4 a5 w5 hm w
      · exact e4l4_calls c0 l0 f0 c1 l1 f1 a2 h c4 l4 f4 a5 w5 hm w
      · exact e5l4_calls c0 l0 f0 c1 l1 f1 a2 h c4 l4 f4 a5 w5 hm w
      · exact e6l4_calls c0 l0 f0 c1 l1 f1 a2 h c4 l4 f4 a5 w5 hm w
      · exact e7l4_calls c0 l0 f0 c1 l1 f1 a2 h c4 l4 f4 a5 w5 hm w
    · exact ol4b_calls c0 l0 f0 c1 l1 f1 a2 h c4 l4 f4 a5 w5 w
  · exact pb_calls c0 l0 f0 c1 l1 f1 a2 w2 a3 g c4 l4 f4 a5 w5 w

theorem own : ownKnob Try.prog.godebug = none := by kernel_rfl
theorem lifted (os : Os) (started : os.Started) (H : Type) (enc : TypeId × Value → H) :
    ReturnsInHanded {} Try.checked os 9 .any (Rows.blendHiddenSpec.pre6 enc Try.prog Try.f9 Rows.blendHiddenRow.domain false) (Rows.blendHiddenSpec.post enc Try.prog Try.f9 false true false false) := by
  refine returnsInHanded_of_change (C := Try.checked) own started (by kernel_rfl) Try.func9
    (ChangeSpec.witness6 (enc := enc) (C := Try.checked) false ⟨#[], #[.agg #[.int .u8 0, .int .u8 0, .int .u8 0, .int .u8 0, .int .u8 0, .int .u8 0, .int .u8 0, .int .u8 0, .int .u8 0, .int .u8 0, .int .u8 0, .int .u8 0, .int .u8 0, .int .u8 0, .int .u8 0, .int .u8 0, .int .u8 0, .int .u8 0, .int .u8 0, .int .u8 0, .int .u8 0, .int .u8 0, .int .u8 0, .int .u8 0, .int .u8 0, .int .u8 0, .int .u8 0, .int .u8 0, .int .u8 0, .int .u8 0, .int .u8 0, .int .u8 0, .int .u8 0, .int .u8 0, .int .u8 0, .int .u8 0, .int .u8 0, .int .u8 0, .int .u8 0, .int .u8 0, .int .u8 0, .int .u8 0, .int .u8 0, .int .u8 0, .int .u8 0, .int .u8 0, .int .u8 0, .int .u8 0, .int .u8 0, .int .u8 0, .int .u8 0, .int .u8 0, .int .u8 0, .int .u8 0, .int .u8 0, .int .u8 0, .int .u8 0, .int .u8 0, .int .u8 0, .int .u8 0, .int .u8 0, .int .u8 0, .int .u8 0, .int .u8 0, .int .u16 0, .int .u16 0, .int .u16 0, .int .u16 0, .int .u16 0, .int .u16 0, .int .u16 0, .int .u16 0, .int .i16 0, .int .i16 0, .int .i16 0, .int .i16 0, .int .i16 0, .int .i16 0, .int .i16 0, .int .i16 0, .int .u16 0], .agg #[.bool false, .int .u8 0, .int .u8 0, .int .u16 0, .bool false, .int .u8 0, .int .u8 0, .int .u16 0, .bool false, .int .u8 0, .int .u8 0, .int .u16 0, .bool false, .int .u8 0, .int .u8 0, .int .u16 0, .bool false, .int .u8 0, .int .u8 0, .int .u16 0], .int .i64 0, .int .i64 0, .agg #[.bool false, .int .u8 0, .int .u8 0, .int .u16 0], .int .u16 0], []⟩ 8 (by kernel_rfl) (by kernel_rfl) (by kernel_rfl) (by kernel_rfl)) ?_
  intro W base args ds gs before hval0 hW hcnd _
  have hval : ∀ (j : Nat) t v, Try.f9.params[j]? = some t → args[j]? = some v → Value.okWide Try.prog W .any base t v := hval0
  have hW' := hW
  obtain ⟨p, q, hA0, hV, rfl, hfz, hnd⟩ := hW
  have hA1 : DataW.TrodAll enc Try.prog W 0 (fun _ => true) true Try.f9.params.toList args.toList ds p := hA0
  rw [Try.params9] at hA1 hval
  obtain ⟨v0, vs0, d0, ds0, p0, q0, hargs, rfl, rfl, h0, r0⟩ := trodAll_cons hA1
  obtain ⟨v1, vs1, d1, ds1, p1, q1, rfl, rfl, rfl, h1, r1⟩ := trodAll_cons r0
  obtain ⟨v2, vs2, d2, ds2, p2, q2, rfl, rfl, rfl, h2, r2⟩ := trodAll_cons r1
  obtain ⟨v3, vs3, d3, ds3, p3, q3, rfl, rfl, rfl, h3, r3⟩ := trodAll_cons r2
  obtain ⟨v4, vs4, d4, ds4, p4, q4, rfl, rfl, rfl, h4, r4⟩ := trodAll_cons r3
  obtain ⟨v5, vs5, d5, ds5, p5, q5, rfl, rfl, rfl, h5, r5⟩ := trodAll_cons r4
  obtain ⟨rfl, rfl, rfl⟩ := trodAll_nil r5
  obtain rfl : args = #[v0, v1, v2, v3, v4, v5] := by cases args; simp_all
  obtain ⟨c0, rfl, l0, f0⟩ := open_pc Pc0 8 (by kernel_rfl) (by kernel_rfl) (by kernel_rfl) (hval 0 33 v0 rfl rfl) h0
  obtain ⟨c1, rfl, l1, f1⟩ := open_pc Pc1 8 (by kernel_rfl) (by kernel_rfl) (by kernel_rfl) (hval 1 51 v1 rfl rfl) h1
  obtain ⟨a2, rfl, rfl, rfl, w2⟩ := open_int Try.underlying3 (hval 2 3 v2 rfl rfl) h2
  obtain ⟨a3, rfl, rfl, rfl, w3⟩ := open_int Try.underlying3 (hval 3 3 v3 rfl rfl) h3
  obtain ⟨c4, rfl, l4, f4⟩ := open_pc Pc4 8 (by kernel_rfl) (by kernel_rfl) (by kernel_rfl) (hval 4 49 v4 rfl rfl) h4
  obtain ⟨a5, rfl, rfl, rfl, w5⟩ := open_int Try.underlying22 (hval 5 22 v5 rfl rfl) h5
  obtain ⟨rfl, rfl⟩ := trodVars_none hV

  refine (calls c0 l0 f0 c1 l1 f1 a2 w2 a3 w3 c4 l4 f4 a5 w5 W).mono fun e W' ⟨he, hb⟩ => ⟨_, he, ?_⟩
  exact law_post (by kernel_rfl) (by kernel_rfl) rfl (by kernel_rfl) Try.underlying4 rfl hW' hb
theorem over : Rows.blendHiddenRow.holds Try.pinned (OpenSpec.ofChange Rows.blendHiddenSpec) :=
  OpenClaim.holds_of_wide 9 Try.f9 rfl rfl rfl rfl rfl rfl rfl ⟨rfl, rfl, rfl, rfl, rfl⟩ rfl rfl rfl rfl rfl (by kernel_rfl) Try.func9 (by kernel_rfl)
    (of_decide_eq_true (by kernel_rfl)) (by unfold Func.isWrapper; first | (rw [if_pos (by decide +kernel)]; kernel_rfl) | (rw [if_neg (by decide +kernel)]; exact ⟨rfl, rfl⟩))
    (fun os started H enc _ => lifted os started H enc)
theorem proved : Rows.BlendHiddenSaid := over
#print axioms proved
end Go.Proofs.Ytgbncbclhdnbmaa.BlendHidden
