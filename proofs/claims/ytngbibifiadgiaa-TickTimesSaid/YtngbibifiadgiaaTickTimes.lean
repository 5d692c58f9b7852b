/- The whole of the law TickTimes, which returns true for every input. A timer that is on has made its tally one more behind each period times its target cycles, and not ahead of that; what was read is gone. No condition. -/
import Derived.Test.YtngbibifiadgiaaTickTimese0
import Derived.Test.YtngbibifiadgiaaTickTimese1
import Derived.Test.YtngbibifiadgiaaTickTimese2
import Derived.Test.YtngbibifiadgiaaTickTimesen
import Derived.Test.YtngbibifiadgiaaTickTimeseg
import Derived.Test.YtngbibifiadgiaaTickTimeseu
import Derived.Test.YtngbibifiadgiaaTickTimesev
namespace Go.Proofs.Ytngbibifiadgiaa.TickTimes
open Go.Sx Go.ChangeShapes Go.WideShapes Go.ChangeAt Go.RowKit
set_option linter.unusedVariables false
set_option linter.unusedSimpArgs false
set_option maxRecDepth 100000
theorem calls (a0 : Int) (w0 : (Lit.int .i64 a0).wf = true) (a1 : Int) (w1 : (Lit.int .u8 a1).wf = true) (a2 : Int) (w2 : (Lit.int .i64 a2).wf = true) (w : World) :
    Calls Try.prog 4 #[.int .i64 a0, .int .u8 a1, .int .i64 a2] w fun r w' => r = .returned (.bool true) ∧ Below w.heap.size w w' := by
  have hr0 := bounds_i64 w0
  have hr := bounds_i64 w2
  rcases (show (-9223372036854775808 ≤ a2 ∧ a2 ≤ -1) ∨ (41 ≤ a2 ∧ a2 ≤ 9223372036854775807) ∨ (0 ≤ a2 ∧ a2 ≤ 40) by omega) with h | h | h
  · exact en_calls a0 w0 a1 w1 a2 h w
  · exact eg_calls a0 w0 a1 w1 a2 h w
  · rcases (show a0 = 0 ∨ a0 = 1 ∨ a0 = 2 ∨ (-9223372036854775808 ≤ a0 ∧ a0 ≤ -1) ∨ (3 ≤ a0 ∧ a0 ≤ 9223372036854775807) by omega) with rfl | rfl | rfl | h1 | h1
    · exact e0_calls a1 w1 a2 h w
    · exact e1_calls a1 w1 a2 h w
    · exact e2_calls a1 w1 a2 h w
    · exact eu_calls a0 h1 a1 w1 a2 h w
    · exact ev_calls a0 h1 a1 w1 a2 h w

theorem own : ownKnob Try.prog.godebug = none := by kernel_rfl
theorem lifted (os : Os) (started : os.Started) (H : Type) (enc : TypeId × Value → H) :
    ReturnsInHanded {} Try.checked os 4 .any (Rows.tickTimesSpec.pre6 enc Try.prog Try.f4 Rows.tickTimesRow.domain false) (Rows.tickTimesSpec.post enc Try.prog Try.f4 false true false false) := by
  refine returnsInHanded_of_change (C := Try.checked) own started (by kernel_rfl) Try.func4
    (ChangeSpec.witness6 (enc := enc) (C := Try.checked) false ⟨#[], #[.int .i64 0, .int .u8 0, .int .i64 0], []⟩ 8 (by kernel_rfl) (by kernel_rfl) (by kernel_rfl) (by kernel_rfl)) ?_
  intro W base args ds gs before hval0 hW hcnd _
  have hval : ∀ (j : Nat) t v, Try.f4.params[j]? = some t → args[j]? = some v → Value.okWide Try.prog W .any base t v := hval0
  have hW' := hW
  obtain ⟨p, q, hA0, hV, rfl, hfz, hnd⟩ := hW
  have hA1 : DataW.TrodAll enc Try.prog W 0 (fun _ => true) true Try.f4.params.toList args.toList ds p := hA0
  rw [Try.params4] at hA1 hval
  obtain ⟨v0, vs0, d0, ds0, p0, q0, hargs, rfl, rfl, h0, r0⟩ := trodAll_cons hA1
  obtain ⟨v1, vs1, d1, ds1, p1, q1, rfl, rfl, rfl, h1, r1⟩ := trodAll_cons r0
  obtain ⟨v2, vs2, d2, ds2, p2, q2, rfl, rfl, rfl, h2, r2⟩ := trodAll_cons r1
  obtain ⟨rfl, rfl, rfl⟩ := trodAll_nil r2
  obtain rfl : args = #[v0, v1, v2] := by cases args; simp_all
  obtain ⟨a0, rfl, rfl, rfl, w0⟩ := open_int Try.underlying3 (hval 0 3 v0 rfl rfl) h0
  obtain ⟨a1, rfl, rfl, rfl, w1⟩ := open_int Try.underlying5 (hval 1 5 v1 rfl rfl) h1
  obtain ⟨a2, rfl, rfl, rfl, w2⟩ := open_int Try.underlying3 (hval 2 3 v2 rfl rfl) h2
  obtain ⟨rfl, rfl⟩ := trodVars_none hV

  refine (calls a0 w0 a1 w1 a2 w2 W).mono fun e W' ⟨he, hb⟩ => ⟨_, he, ?_⟩
  exact law_post (by kernel_rfl) (by kernel_rfl) rfl (by kernel_rfl) Try.underlying4 rfl hW' hb
theorem over : Rows.tickTimesRow.holds Try.pinned (OpenSpec.ofChange Rows.tickTimesSpec) :=
  OpenClaim.holds_of_wide 4 Try.f4 rfl rfl rfl rfl rfl rfl rfl ⟨rfl, rfl, rfl, rfl, rfl⟩ rfl rfl rfl rfl rfl (by kernel_rfl) Try.func4 (by kernel_rfl)
    (of_decide_eq_true (by kernel_rfl)) (by unfold Func.isWrapper; first | (rw [if_pos (by decide +kernel)]; kernel_rfl) | (rw [if_neg (by decide +kernel)]; exact ⟨rfl, rfl⟩))
    (fun os started H enc _ => lifted os started H enc)
theorem proved : Rows.TickTimesSaid := over
#print axioms proved
end Go.Proofs.Ytngbibifiadgiaa.TickTimes
