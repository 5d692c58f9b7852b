/- The whole of the law CellTurned, which returns true for every input. A map all of whose words are turned has its tiles' dots the other way about (tiles whose bits don't lie in the map). No condition. -/
import Derived.Test.YtcamkhjahdebeaaCellTurnede0
import Derived.Test.YtcamkhjahdebeaaCellTurnede1
import Derived.Test.YtcamkhjahdebeaaCellTurnedt
namespace Go.Proofs.Ytcamkhjahdebeaa.CellTurned
open Go.Sx Go.ChangeShapes Go.WideShapes Go.ChangeAt Go.RowKit
set_option linter.unusedVariables false
set_option linter.unusedSimpArgs false
set_option maxRecDepth 100000
theorem calls (x0 : Ext) (a1 : Int) (w1 : (Lit.int .u16 a1).wf = true) (a2 : Int) (w2 : (Lit.int .i64 a2).wf = true) (a3 : Int) (w3 : (Lit.int .i64 a3).wf = true) (a4 : Int) (w4 : (Lit.int .u8 a4).wf = true) (w : World) (g0 : XFit x0 w [some .u16]) :
    Calls Try.prog 7 #[x0.v, .int .u16 a1, .int .i64 a2, .int .i64 a3, .int .u8 a4] w fun r w' => r = .returned (.bool true) ∧ Below w.heap.size w w' := by
  have hr := bounds_i64 w2
  have hs := bounds_i64 w3
  rcases (show (-9223372036854775808 ≤ a2 ∧ a2 ≤ -1) ∨ (8 ≤ a2 ∧ a2 ≤ 9223372036854775807) ∨ (0 ≤ a2 ∧ a2 ≤ 7) by omega) with h | h | h
  · exact tacalls x0 a1 w1 a2 h a3 w3 a4 w4 w g0
  · exact tbcalls x0 a1 w1 a2 h a3 w3 a4 w4 w g0
  · rcases (show (-9223372036854775808 ≤ a3 ∧ a3 ≤ -1) ∨ (8 ≤ a3 ∧ a3 ≤ 9223372036854775807) ∨ (0 ≤ a3 ∧ a3 ≤ 7) by omega) with h1 | h1 | h1
    · exact tccalls x0 a1 w1 a2 h a3 h1 a4 w4 w g0
    · exact tdcalls x0 a1 w1 a2 h a3 h1 a4 w4 w g0
    · rcases (show a4 % 2 = 0 ∨ a4 % 2 = 1 by omega) with h2 | h2
      · exact e0_calls x0 a1 w1 a2 h a3 h1 a4 w4 h2 w g0
      · exact e1_calls x0 a1 w1 a2 h a3 h1 a4 w4 h2 w g0

theorem own : ownKnob Try.prog.godebug = none := by kernel_rfl
theorem lifted (os : Os) (started : os.Started) (H : Type) (enc : TypeId × Value → H) :
    ReturnsInHanded {} Try.checked os 7 .any (Rows.cellTurnedSpec.pre6 enc Try.prog Try.f7 Rows.cellTurnedRow.domain false) (Rows.cellTurnedSpec.post enc Try.prog Try.f7 false true false false) := by
  refine returnsInHanded_of_change (C := Try.checked) own started (by kernel_rfl) Try.func7
    (ChangeSpec.witness6 (enc := enc) (C := Try.checked) false ⟨#[], #[.slice none 0 0, .int .u16 0, .int .i64 0, .int .i64 0, .int .u8 0], []⟩ 8 (by kernel_rfl) (by kernel_rfl) (by kernel_rfl) (by kernel_rfl)) ?_
  intro W base args ds gs before hval0 hW hcnd _
  have hval : ∀ (j : Nat) t v, Try.f7.params[j]? = some t → args[j]? = some v → Value.okWide Try.prog W .any base t v := hval0
  have hW' := hW
  obtain ⟨p, q, hA0, hV, rfl, hfz, hnd⟩ := hW
  have hA1 : DataW.TrodAll enc Try.prog W 0 (fun _ => true) true Try.f7.params.toList args.toList ds p := hA0
  rw [Try.params7] at hA1 hval
  obtain ⟨v0, vs0, d0, ds0, p0, q0, hargs, rfl, rfl, h0, r0⟩ := trodAll_cons hA1
  obtain ⟨v1, vs1, d1, ds1, p1, q1, rfl, rfl, rfl, h1, r1⟩ := trodAll_cons r0
  obtain ⟨v2, vs2, d2, ds2, p2, q2, rfl, rfl, rfl, h2, r2⟩ := trodAll_cons r1
  obtain ⟨v3, vs3, d3, ds3, p3, q3, rfl, rfl, rfl, h3, r3⟩ := trodAll_cons r2
  obtain ⟨v4, vs4, d4, ds4, p4, q4, rfl, rfl, rfl, h4, r4⟩ := trodAll_cons r3
  obtain ⟨rfl, rfl, rfl⟩ := trodAll_nil r4
  obtain rfl : args = #[v0, v1, v2, v3, v4] := by cases args; simp_all
  obtain ⟨x0, rfl, g0⟩ := open_slc [some .u16] 4 Try.underlying22 (by kernel_rfl) (by kernel_rfl) (by decide) (hval 0 22 v0 rfl rfl) h0
  obtain ⟨a1, rfl, rfl, rfl, w1⟩ := open_int Try.underlying27 (hval 1 27 v1 rfl rfl) h1
  obtain ⟨a2, rfl, rfl, rfl, w2⟩ := open_int Try.underlying3 (hval 2 3 v2 rfl rfl) h2
  obtain ⟨a3, rfl, rfl, rfl, w3⟩ := open_int Try.underlying3 (hval 3 3 v3 rfl rfl) h3
  obtain ⟨a4, rfl, rfl, rfl, w4⟩ := open_int Try.underlying5 (hval 4 5 v4 rfl rfl) h4
  obtain ⟨rfl, rfl⟩ := trodVars_none hV

  refine (calls x0 a1 w1 a2 w2 a3 w3 a4 w4 W g0).mono fun e W' ⟨he, hb⟩ => ⟨_, he, ?_⟩
  exact law_post (by kernel_rfl) (by kernel_rfl) rfl (by kernel_rfl) Try.underlying4 rfl hW' hb
theorem over : Rows.cellTurnedRow.holds Try.pinned (OpenSpec.ofChange Rows.cellTurnedSpec) :=
  OpenClaim.holds_of_wide 7 Try.f7 rfl rfl rfl rfl rfl rfl rfl ⟨rfl, rfl, rfl, rfl, rfl⟩ rfl rfl rfl rfl rfl (by kernel_rfl) Try.func7 (by kernel_rfl)
    (of_decide_eq_true (by kernel_rfl)) (by unfold Func.isWrapper; first | (rw [if_pos (by decide +kernel)]; kernel_rfl) | (rw [if_neg (by decide +kernel)]; exact ⟨rfl, rfl⟩))
    (fun os started H enc _ => lifted os started H enc)
theorem proved : Rows.CellTurnedSaid := over
#print axioms proved
end Go.Proofs.Ytcamkhjahdebeaa.CellTurned
