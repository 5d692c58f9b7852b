/- The whole of the law BlendPlain, which returns true for every input. Without a region and a math bit the colour is that of the layer in front, or what lies behind. No condition. -/
import Derived.Test.YtgbncbclhdnbmaaBlendPlaine0
import Derived.Test.YtgbncbclhdnbmaaBlendPlaine1a
import Derived.Test.YtgbncbclhdnbmaaBlendPlaine1b
import Derived.Test.YtgbncbclhdnbmaaBlendPlaine2
import Derived.Test.YtgbncbclhdnbmaaBlendPlaine3
import Derived.Test.YtgbncbclhdnbmaaBlendPlaine4
import Derived.Test.YtgbncbclhdnbmaaBlendPlaine5
import Derived.Test.YtgbncbclhdnbmaaBlendPlaine6
import Derived.Test.YtgbncbclhdnbmaaBlendPlaine7
import Derived.Test.YtgbncbclhdnbmaaBlendPlaino
namespace Go.Proofs.Ytgbncbclhdnbmaa.BlendPlain
open Go.Sx Go.ChangeShapes Go.WideShapes Go.ChangeAt Go.RowKit
set_option linter.unusedVariables false
set_option linter.unusedSimpArgs false
set_option maxRecDepth 100000
theorem calls (c0 : List Value) (l0 : c0.length = pcTotal Pc0) (f0 : PcFit c0 0 Pc0) (c1 : List Value) (l1 : c1.length = pcTotal Pc1) (f1 : PcFit c1 0 Pc1) (a2 : Int) (w2 : (Lit.int .i64 a2).wf = true) (a3 : Int) (w3 : (Lit.int .u16 a3).wf = true) (w : World) :
    Calls Try.prog 8 #[.agg c0.toArray, .agg c1.toArray, .int .i64 a2, .int .u16 a3] w fun r w' => r = .returned (.bool true) ∧ Below w.heap.size w w' := by
  have hr := bounds_i64 w2
  rcases (show (-9223372036854775808 ≤ a2 ∧ a2 ≤ -1) ∨ (0 ≤ a2 ∧ a2 ≤ 255) ∨ (256 ≤ a2 ∧ a2 ≤ 9223372036854775807) by omega) with h | h | h
  · exact oa_calls c0 l0 f0 c1 l1 f1 a2 h a3 w3 w
  ·
    rcases (show arrOf c0 0 64 5 % 8 = 0 ∨ arrOf c0 0 64 5 % 8 = 1 ∨ arrOf c0 0 64 5 % 8 = 2 ∨ arrOf c0 0 64 5 % 8 = 3 ∨ arrOf c0 0 64 5 % 8 = 4 ∨ arrOf c0 0 64 5 % 8 = 5 ∨ arrOf c0 0 64 5 % 8 = 6 ∨ arrOf c0 0 64 5 % 8 = 7 by have := Int.emod_nonneg (arrOf c0 0 64 5) (show (8 : Int) ≠ 0 by decide); have := Int.emod_lt_of_pos (arrOf c0 0 64 5) (show (0 : Int) < 8 by decide); omega) with hm | hm | hm | hm | hm | hm | hm | hm
    · exact e0_calls c0 l0 f0 c1 l1 f1 a2 h a3 w3 hm w
    · rcases (show arrOf c0 0 64 5 / 8 % 2 = 0 ∨ arrOf c0 0 64 5 / 8 % 2 = 1 by omega) with h1 | h1
      · exact e1a_calls c0 l0 f0 c1 l1 f1 a2 h a3 w3 hm h1 w
      · exact e1b_calls c0 l0 f0 c1 l1 f1 a2 h a3 w3 hm h1 w
    · exact e2_calls c0 l0 f0 c1 l1 f1 a2 h a3 w3 hm w
    · exact e3_calls c0 l0 f0 c1 l1 f1 a2 h a3 w3 hm w
    · exact e4_calls c0 l0 f0 c1 l1 f1 a2 h a3 w3 hm w
    · exact e5_calls c0 l0 f0 c1 l1 f1 a2 h a3 w3 hm w
    · exact e6_calls c0 l0 f0 c1 l1 f1 a2 h a3 w3 hm w
    · exact e7_calls c0 l0 f0 c1 l1 f1 a2 h a3 w3 hm w
  · exact ob_calls c0 l0 f0 c1 l1 f1 a2 h a3 w3 w

theorem own : ownKnob Try.prog.godebug = none := by kernel_rfl
theorem lifted (os : Os) (started : os.Started) (H : Type) (enc : TypeId × Value → H) :
    ReturnsInHanded {} Try.checked os 8 .any (Rows.blendPlainSpec.pre6 enc Try.prog Try.f8 Rows.blendPlainRow.domain false) (Rows.blendPlainSpec.post enc Try.prog Try.f8 false true false false) := by
  refine returnsInHanded_of_change (C := Try.checked) own started (by kernel_rfl) Try.func8
    (ChangeSpec.witness6 (enc := enc) (C := Try.checked) false ⟨#[], #[.agg #[.int .u8 0, .int .u8 0, .int .u8 0, .int .u8 0, .int .u8 0, .int .u8 0, .int .u8 0, .int .u8 0, .int .u8 0, .int .u8 0, .int .u8 0, .int .u8 0, .int .u8 0, .int .u8 0, .int .u8 0, .int .u8 0, .int .u8 0, .int .u8 0, .int .u8 0, .int .u8 0, .int .u8 0, .int .u8 0, .int .u8 0, .int .u8 0, .int .u8 0, .int .u8 0, .int .u8 0, .int .u8 0, .int .u8 0, .int .u8 0, .int .u8 0, .int .u8 0, .int .u8 0, .int .u8 0, .int .u8 0, .int .u8 0, .int .u8 0, .int .u8 0, .int .u8 0, .int .u8 0, .int .u8 0, .int .u8 0, .int .u8 0, .int .u8 0, .int .u8 0, .int .u8 0, .int .u8 0, .int .u8 0, .int .u8 0, .int .u8 0, .int .u8 0, .int .u8 0, .int .u8 0, .int .u8 0, .int .u8 0, .int .u8 0, .int .u8 0, .int .u8 0, .int .u8 0, .int .u8 0, .int .u8 0, .int .u8 0, .int .u8 0, .int .u8 0, .int .u16 0, .int .u16 0, .int .u16 0, .int .u16 0, .int .u16 0, .int .u16 0, .int .u16 0, .int .u16 0, .int .i16 0, .int .i16 0, .int .i16 0, .int .i16 0, .int .i16 0, .int .i16 0, .int .i16 0, .int .i16 0, .int .u16 0], .agg #[.bool false, .int .u8 0, .int .u8 0, .int .u16 0, .bool false, .int .u8 0, .int .u8 0, .int .u16 0, .bool false, .int .u8 0, .int .u8 0, .int .u16 0, .bool false, .int .u8 0, .int .u8 0, .int .u16 0, .bool false, .int .u8 0, .int .u8 0, .int .u16 0], .int .i64 0, .int .u16 0], []⟩ 8 (by kernel_rfl) (by kernel_rfl) (by kernel_rfl) (by kernel_rfl)) ?_
  intro W base args ds gs before hval0 hW hcnd _
  have hval : ∀ (j : Nat) t v, Try.f8.params[j]? = some t → args[j]? = some v → Value.okWide Try.prog W .any base t v := hval0
  have hW' := hW
  obtain ⟨p, q, hA0, hV, rfl, hfz, hnd⟩ := hW
  have hA1 : DataW.TrodAll enc Try.prog W 0 (fun _ => true) true Try.f8.params.toList args.toList ds p := hA0
  rw [Try.params8] at hA1 hval
  obtain ⟨v0, vs0, d0, ds0, p0, q0, hargs, rfl, rfl, h0, r0⟩ := trodAll_cons hA1
  obtain ⟨v1, vs1, d1, ds1, p1, q1, rfl, rfl, rfl, h1, r1⟩ := trodAll_cons r0
  obtain ⟨v2, vs2, d2, ds2, p2, q2, rfl, rfl, rfl, h2, r2⟩ := trodAll_cons r1
  obtain ⟨v3, vs3, d3, ds3, p3, q3, rfl, rfl, rfl, h3, r3⟩ := trodAll_cons r2
  obtain ⟨rfl, rfl, rfl⟩ := trodAll_nil r3
  obtain rfl : args = #[v0, v1, v2, v3] := by cases args; simp_all
  obtain ⟨c0, rfl, l0, f0⟩ := open_pc Pc0 8 (by kernel_rfl) (by kernel_rfl) (by kernel_rfl) (hval 0 33 v0 rfl rfl) h0
  obtain ⟨c1, rfl, l1, f1⟩ := open_pc Pc1 8 (by kernel_rfl) (by kernel_rfl) (by kernel_rfl) (hval 1 51 v1 rfl rfl) h1
  obtain ⟨a2, rfl, rfl, rfl, w2⟩ := open_int Try.underlying3 (hval 2 3 v2 rfl rfl) h2
  obtain ⟨a3, rfl, rfl, rfl, w3⟩ := open_int Try.underlying22 (hval 3 22 v3 rfl rfl) h3
  obtain ⟨rfl, rfl⟩ := trodVars_none hV

  refine (calls c0 l0 f0 c1 l1 f1 a2 w2 a3 w3 W).mono fun e W' ⟨he, hb⟩ => ⟨_, he, ?_⟩
  exact law_post (by kernel_rfl) (by kernel_rfl) rfl (by kernel_rfl) Try.underlying4 rfl hW' hb
theorem over : Rows.blendPlainRow.holds Try.pinned (OpenSpec.ofChange Rows.blendPlainSpec) :=
  OpenClaim.holds_of_wide 8 Try.f8 rfl rfl rfl rfl rfl rfl rfl ⟨rfl, rfl, rfl, rfl, rfl⟩ rfl rfl rfl rfl rfl (by kernel_rfl) Try.func8 (by kernel_rfl)
    (of_decide_eq_true (by kernel_rfl)) (by unfold Func.isWrapper; first | (rw [if_pos (by decide +kernel)]; kernel_rfl) | (rw [if_neg (by decide +kernel)]; exact ⟨rfl, rfl⟩))
    (fun os started H enc _ => lifted os started H enc)
theorem proved : Rows.BlendPlainSaid := over
#print axioms proved
end Go.Proofs.Ytgbncbclhdnbmaa.BlendPlain
