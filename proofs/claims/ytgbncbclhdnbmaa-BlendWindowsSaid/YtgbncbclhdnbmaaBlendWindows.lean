/- The whole of the law BlendWindows, which returns true for every input. What lies within each layer's window, and where it is shown, is what the document says. No condition. -/
import Derived.Test.YtgbncbclhdnbmaaBlendWindowsea
import Derived.Test.YtgbncbclhdnbmaaBlendWindowse0
import Derived.Test.YtgbncbclhdnbmaaBlendWindowse1
import Derived.Test.YtgbncbclhdnbmaaBlendWindowse2
import Derived.Test.YtgbncbclhdnbmaaBlendWindowse3
import Derived.Test.YtgbncbclhdnbmaaBlendWindowse4
import Derived.Test.YtgbncbclhdnbmaaBlendWindowse5
import Derived.Test.YtgbncbclhdnbmaaBlendWindowseg
namespace Go.Proofs.Ytgbncbclhdnbmaa.BlendWindows
open Go.Sx Go.ChangeShapes Go.WideShapes Go.ChangeAt Go.RowKit
set_option linter.unusedVariables false
set_option linter.unusedSimpArgs false
set_option maxRecDepth 100000
theorem calls (c0 : List Value) (l0 : c0.length = pcTotal Pc0) (f0 : PcFit c0 0 Pc0) (a1 : Int) (w1 : (Lit.int .i64 a1).wf = true) (a2 : Bool) (w : World) :
    Calls Try.prog 7 #[.agg c0.toArray, .int .i64 a1, .bool a2] w fun r w' => r = .returned (.bool true) ∧ Below w.heap.size w w' := by
  have hr := bounds_i64 w1
  rcases (show (-9223372036854775808 ≤ a1 ∧ a1 ≤ -1) ∨ a1 = 0 ∨ a1 = 1 ∨ a1 = 2 ∨ a1 = 3 ∨ a1 = 4 ∨ a1 = 5 ∨ (6 ≤ a1 ∧ a1 ≤ 9223372036854775807) by omega) with h | rfl | rfl | rfl | rfl | rfl | rfl | h
  · exact eacalls c0 l0 f0 a1 h  a2 w
  · exact e0xcalls c0 l0 f0 a2 w
  · exact e1xcalls c0 l0 f0 a2 w
  · exact e2xcalls c0 l0 f0 a2 w
  · exact e3xcalls c0 l0 f0 a2 w
  · exact e4xcalls c0 l0 f0 a2 w
  · exact e5xcalls c0 l0 f0 a2 w
  · exact egcalls c0 l0 f0 a1 h  a2 w

theorem own : ownKnob Try.prog.godebug = none := by kernel_rfl
theorem lifted (os : Os) (started : os.Started) (H : Type) (enc : TypeId × Value → H) :
    ReturnsInHanded {} Try.checked os 7 .any (Rows.blendWindowsSpec.pre6 enc Try.prog Try.f7 Rows.blendWindowsRow.domain false) (Rows.blendWindowsSpec.post enc Try.prog Try.f7 false true false false) := by
  refine returnsInHanded_of_change (C := Try.checked) own started (by kernel_rfl) Try.func7
    (ChangeSpec.witness6 (enc := enc) (C := Try.checked) false ⟨#[], #[.agg #[.int .u8 0, .int .u8 0, .int .u8 0, .int .u8 0, .int .u8 0, .int .u8 0, .int .u8 0, .int .u8 0, .int .u8 0, .int .u8 0, .int .u8 0, .int .u8 0, .int .u8 0, .int .u8 0, .int .u8 0, .int .u8 0, .int .u8 0, .int .u8 0, .int .u8 0, .int .u8 0, .int .u8 0, .int .u8 0, .int .u8 0, .int .u8 0, .int .u8 0, .int .u8 0, .int .u8 0, .int .u8 0, .int .u8 0, .int .u8 0, .int .u8 0, .int .u8 0, .int .u8 0, .int .u8 0, .int .u8 0, .int .u8 0, .int .u8 0, .int .u8 0, .int .u8 0, .int .u8 0, .int .u8 0, .int .u8 0, .int .u8 0, .int .u8 0, .int .u8 0, .int .u8 0, .int .u8 0, .int .u8 0, .int .u8 0, .int .u8 0, .int .u8 0, .int .u8 0, .int .u8 0, .int .u8 0, .int .u8 0, .int .u8 0, .int .u8 0, .int .u8 0, .int .u8 0, .int .u8 0, .int .u8 0, .int .u8 0, .int .u8 0, .int .u8 0, .int .u16 0, .int .u16 0, .int .u16 0, .int .u16 0, .int .u16 0, .int .u16 0, .int .u16 0, .int .u16 0, .int .i16 0, .int .i16 0, .int .i16 0, .int .i16 0, .int .i16 0, .int .i16 0, .int .i16 0, .int .i16 0, .int .u16 0], .int .i64 0, .bool false], []⟩ 8 (by kernel_rfl) (by kernel_rfl) (by kernel_rfl) (by kernel_rfl)) ?_
  intro W base args ds gs before hval0 hW hcnd _
  have hval : ∀ (j : Nat) t v, Try.f7.params[j]? = some t → args[j]? = some v → Value.okWide Try.prog W .any base t v := hval0
  have hW' := hW
  obtain ⟨p, q, hA0, hV, rfl, hfz, hnd⟩ := hW
  have hA1 : DataW.TrodAll enc Try.prog W 0 (fun _ => true) true Try.f7.params.toList args.toList ds p := hA0
  rw [Try.params7] at hA1 hval
  obtain ⟨v0, vs0, d0, ds0, p0, q0, hargs, rfl, rfl, h0, r0⟩ := trodAll_cons hA1
  obtain ⟨v1, vs1, d1, ds1, p1, q1, rfl, rfl, rfl, h1, r1⟩ := trodAll_cons r0
  obtain ⟨v2, vs2, d2, ds2, p2, q2, rfl, rfl, rfl, h2, r2⟩ := trodAll_cons r1
  obtain ⟨rfl, rfl, rfl⟩ := trodAll_nil r2
  obtain rfl : args = #[v0, v1, v2] := by cases args; simp_all
  obtain ⟨c0, rfl, l0, f0⟩ := open_pc Pc0 8 (by kernel_rfl) (by kernel_rfl) (by kernel_rfl) (hval 0 33 v0 rfl rfl) h0
  obtain ⟨a1, rfl, rfl, rfl, w1⟩ := open_int Try.underlying3 (hval 1 3 v1 rfl rfl) h1
  obtain ⟨a2, rfl, rfl, rfl⟩ := open_bool Try.underlying4 (hval 2 4 v2 rfl rfl) h2
  obtain ⟨rfl, rfl⟩ := trodVars_none hV

  refine (calls c0 l0 f0 a1 w1 a2 W).mono fun e W' ⟨he, hb⟩ => ⟨_, he, ?_⟩
  exact law_post (by kernel_rfl) (by kernel_rfl) rfl (by kernel_rfl) Try.underlying4 rfl hW' hb
theorem over : Rows.blendWindowsRow.holds Try.pinned (OpenSpec.ofChange Rows.blendWindowsSpec) :=
  OpenClaim.holds_of_wide 7 Try.f7 rfl rfl rfl rfl rfl rfl rfl ⟨rfl, rfl, rfl, rfl, rfl⟩ rfl rfl rfl rfl rfl (by kernel_rfl) Try.func7 (by kernel_rfl)
    (of_decide_eq_true (by kernel_rfl)) (by unfold Func.isWrapper; first | (rw [if_pos (by decide +kernel)]; kernel_rfl) | (rw [if_neg (by decide +kernel)]; exact ⟨rfl, rfl⟩))
    (fun os started H enc _ => lifted os started H enc)
theorem proved : Rows.BlendWindowsSaid := over
#print axioms proved
end Go.Proofs.Ytgbncbclhdnbmaa.BlendWindows
