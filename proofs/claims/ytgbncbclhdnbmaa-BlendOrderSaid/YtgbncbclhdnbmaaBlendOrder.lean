/- The whole of the law BlendOrder, which returns true for every input. The ranks are told in the document's order, left early, and again. No condition. -/
import Derived.Test.YtgbncbclhdnbmaaBlendOrdere0
import Derived.Test.YtgbncbclhdnbmaaBlendOrdere1a
import Derived.Test.YtgbncbclhdnbmaaBlendOrdere1b
import Derived.Test.YtgbncbclhdnbmaaBlendOrdere2
import Derived.Test.YtgbncbclhdnbmaaBlendOrdere3
import Derived.Test.YtgbncbclhdnbmaaBlendOrdere4
import Derived.Test.YtgbncbclhdnbmaaBlendOrdere5
import Derived.Test.YtgbncbclhdnbmaaBlendOrdere6
import Derived.Test.YtgbncbclhdnbmaaBlendOrdere7
namespace Go.Proofs.Ytgbncbclhdnbmaa.BlendOrder
open Go.Sx Go.ChangeShapes Go.WideShapes Go.ChangeAt Go.RowKit
set_option linter.unusedVariables false
set_option linter.unusedSimpArgs false
set_option maxRecDepth 100000
theorem calls (c0 : List Value) (l0 : c0.length = pcTotal Pc0) (f0 : PcFit c0 0 Pc0) (a1 : Int) (w1 : (Lit.int .i64 a1).wf = true) (w : World) :
    Calls Try.prog 6 #[.agg c0.toArray, .int .i64 a1] w fun r w' => r = .returned (.bool true) ∧ Below w.heap.size w w' := by
  rcases (show arrOf c0 0 64 5 % 8 = 0 ∨ arrOf c0 0 64 5 % 8 = 1 ∨ arrOf c0 0 64 5 % 8 = 2 ∨ arrOf c0 0 64 5 % 8 = 3 ∨ arrOf c0 0 64 5 % 8 = 4 ∨ arrOf c0 0 64 5 % 8 = 5 ∨ arrOf c0 0 64 5 % 8 = 6 ∨ arrOf c0 0 64 5 % 8 = 7 by have := Int.emod_nonneg (arrOf c0 0 64 5) (show (8 : Int) ≠ 0 by decide); have := Int.emod_lt_of_pos (arrOf c0 0 64 5) (show (0 : Int) < 8 by decide); omega) with h | h | h | h | h | h | h | h
  · exact e0_calls c0 l0 f0 a1 w1 h w
  · rcases (show arrOf c0 0 64 5 / 8 % 2 = 0 ∨ arrOf c0 0 64 5 / 8 % 2 = 1 by omega) with h1 | h1
    · exact e1a_calls c0 l0 f0 a1 w1 h h1 w
    · exact e1b_calls c0 l0 f0 a1 w1 h h1 w
  · exact e2_calls c0 l0 f0 a1 w1 h w
  · exact e3_calls c0 l0 f0 a1 w1 h w
  · exact e4_calls c0 l0 f0 a1 w1 h w
  · exact e5_calls c0 l0 f0 a1 w1 h w
  · exact e6_calls c0 l0 f0 a1 w1 h w
  · exact e7_calls c0 l0 f0 a1 w1 h w

theorem own : ownKnob Try.prog.godebug = none := by kernel_rfl
theorem lifted (os : Os) (started : os.Started) (H : Type) (enc : TypeId × Value → H) :
    ReturnsInHanded {} Try.checked os 6 .any (Rows.blendOrderSpec.pre6 enc Try.prog Try.f6 Rows.blendOrderRow.domain false) (Rows.blendOrderSpec.post enc Try.prog Try.f6 false true false false) := by
  refine returnsInHanded_of_change (C := Try.checked) own started (by kernel_rfl) Try.func6
    (ChangeSpec.witness6 (enc := enc) (C := Try.checked) false ⟨#[], #[.agg #[.int .u8 0, .int .u8 0, .int .u8 0, .int .u8 0, .int .u8 0, .int .u8 0, .int .u8 0, .int .u8 0, .int .u8 0, .int .u8 0, .int .u8 0, .int .u8 0, .int .u8 0, .int .u8 0, .int .u8 0, .int .u8 0, .int .u8 0, .int .u8 0, .int .u8 0, .int .u8 0, .int .u8 0, .int .u8 0, .int .u8 0, .int .u8 0, .int .u8 0, .int .u8 0, .int .u8 0, .int .u8 0, .int .u8 0, .int .u8 0, .int .u8 0, .int .u8 0, .int .u8 0, .int .u8 0, .int .u8 0, .int .u8 0, .int .u8 0, .int .u8 0, .int .u8 0, .int .u8 0, .int .u8 0, .int .u8 0, .int .u8 0, .int .u8 0, .int .u8 0, .int .u8 0, .int .u8 0, .int .u8 0, .int .u8 0, .int .u8 0, .int .u8 0, .int .u8 0, .int .u8 0, .int .u8 0, .int .u8 0, .int .u8 0, .int .u8 0, .int .u8 0, .int .u8 0, .int .u8 0, .int .u8 0, .int .u8 0, .int .u8 0, .int .u8 0, .int .u16 0, .int .u16 0, .int .u16 0, .int .u16 0, .int .u16 0, .int .u16 0, .int .u16 0, .int .u16 0, .int .i16 0, .int .i16 0, .int .i16 0, .int .i16 0, .int .i16 0, .int .i16 0, .int .i16 0, .int .i16 0, .int .u16 0], .int .i64 0], []⟩ 8 (by kernel_rfl) (by kernel_rfl) (by kernel_rfl) (by kernel_rfl)) ?_
  intro W base args ds gs before hval0 hW hcnd _
  have hval : ∀ (j : Nat) t v, Try.f6.params[j]? = some t → args[j]? = some v → Value.okWide Try.prog W .any base t v := hval0
  have hW' := hW
  obtain ⟨p, q, hA0, hV, rfl, hfz, hnd⟩ := hW
  have hA1 : DataW.TrodAll enc Try.prog W 0 (fun _ => true) true Try.f6.params.toList args.toList ds p := hA0
  rw [Try.params6] at hA1 hval
  obtain ⟨v0, vs0, d0, ds0, p0, q0, hargs, rfl, rfl, h0, r0⟩ := trodAll_cons hA1
  obtain ⟨v1, vs1, d1, ds1, p1, q1, rfl, rfl, rfl, h1, r1⟩ := trodAll_cons r0
  obtain ⟨rfl, rfl, rfl⟩ := trodAll_nil r1
  obtain rfl : args = #[v0, v1] := by cases args; simp_all
  obtain ⟨c0, rfl, l0, f0⟩ := open_pc Pc0 8 (by kernel_rfl) (by kernel_rfl) (by kernel_rfl) (hval 0 33 v0 rfl rfl) h0
  obtain ⟨a1, rfl, rfl, rfl, w1⟩ := open_int Try.underlying3 (hval 1 3 v1 rfl rfl) h1
  obtain ⟨rfl, rfl⟩ := trodVars_none hV

  refine (calls c0 l0 f0 a1 w1 W).mono fun e W' ⟨he, hb⟩ => ⟨_, he, ?_⟩
  exact law_post (by kernel_rfl) (by kernel_rfl) rfl (by kernel_rfl) Try.underlying4 rfl hW' hb
theorem over : Rows.blendOrderRow.holds Try.pinned (OpenSpec.ofChange Rows.blendOrderSpec) :=
  OpenClaim.holds_of_wide 6 Try.f6 rfl rfl rfl rfl rfl rfl rfl ⟨rfl, rfl, rfl, rfl, rfl⟩ rfl rfl rfl rfl rfl (by kernel_rfl) Try.func6 (by kernel_rfl)
    (of_decide_eq_true (by kernel_rfl)) (by unfold Func.isWrapper; first | (rw [if_pos (by decide +kernel)]; kernel_rfl) | (rw [if_neg (by decide +kernel)]; exact ⟨rfl, rfl⟩))
    (fun os started H enc _ => lifted os started H enc)
theorem proved : Rows.BlendOrderSaid := over
#print axioms proved
end Go.Proofs.Ytgbncbclhdnbmaa.BlendOrder
