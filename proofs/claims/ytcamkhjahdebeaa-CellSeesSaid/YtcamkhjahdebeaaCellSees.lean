/- The whole of the law CellSees, which returns true for every input. A dot that is seen has a number above 0, a priority of 0 or 1, a colour of 15 bits; one that is not is empty. No condition. -/
import Derived.Test.YtcamkhjahdebeaaCellSeese00
import Derived.Test.YtcamkhjahdebeaaCellSeese02
import Derived.Test.YtcamkhjahdebeaaCellSeese04
import Derived.Test.YtcamkhjahdebeaaCellSeese05
import Derived.Test.YtcamkhjahdebeaaCellSeese06
import Derived.Test.YtcamkhjahdebeaaCellSeese10
import Derived.Test.YtcamkhjahdebeaaCellSeese12
import Derived.Test.YtcamkhjahdebeaaCellSeese14
import Derived.Test.YtcamkhjahdebeaaCellSeese16
import Derived.Test.YtcamkhjahdebeaaCellSeese20
import Derived.Test.YtcamkhjahdebeaaCellSeese22
import Derived.Test.YtcamkhjahdebeaaCellSeese24
import Derived.Test.YtcamkhjahdebeaaCellSeese26
import Derived.Test.YtcamkhjahdebeaaCellSeese30
import Derived.Test.YtcamkhjahdebeaaCellSeese32
import Derived.Test.YtcamkhjahdebeaaCellSeese34
import Derived.Test.YtcamkhjahdebeaaCellSeese36
import Derived.Test.YtcamkhjahdebeaaCellSeeseab
namespace Go.Proofs.Ytcamkhjahdebeaa.CellSees
open Go.Sx Go.ChangeShapes Go.WideShapes Go.ChangeAt Go.RowKit
set_option linter.unusedVariables false
set_option linter.unusedSimpArgs false
set_option maxRecDepth 100000
theorem calls (x0 : Ext) (x1 : Ext) (x2 : Ext) (c1 : List Value) (l1 : c1.length = pcTotal Pc1) (f1 : PcFit c1 0 Pc1) (z2 : Int) (hz2 : -9223372036854775808 ≤ z2 ∧ z2 ≤ 9223372036854775807) (c2 : List Value) (l2 : c2.length = pcTotal Pc2) (f2 : PcFit c2 0 Pc2) (w : World) (g0 : XFit x0 w [some .u16]) (g1 : XFit x1 w [some .u8]) (g2 : XFit x2 w [some .u16]) :
    Calls Try.prog 8 #[.agg #[x0.v, x1.v, x2.v], .agg c1.toArray, .agg (.int .i64 z2 :: c2).toArray] w fun r w' => r = .returned (.bool true) ∧ Below w.heap.size w w' := by
  have hr := hz2
  rcases (show z2 = 0 ∨ z2 = 1 ∨ z2 = 2 ∨ z2 = 3 ∨ (-9223372036854775808 ≤ z2 ∧ z2 ≤ -1) ∨ (4 ≤ z2 ∧ z2 ≤ 9223372036854775807) by omega) with rfl | rfl | rfl | rfl | h | h
  · rcases (show arrOf c1 0 64 5 % 8 = 0 ∨ arrOf c1 0 64 5 % 8 = 1 ∨ arrOf c1 0 64 5 % 8 = 2 ∨ arrOf c1 0 64 5 % 8 = 3 ∨ arrOf c1 0 64 5 % 8 = 4 ∨ arrOf c1 0 64 5 % 8 = 5 ∨ arrOf c1 0 64 5 % 8 = 6 ∨ arrOf c1 0 64 5 % 8 = 7 by have := Int.emod_nonneg (arrOf c1 0 64 5) (show (8 : Int) ≠ 0 by decide); have := Int.emod_lt_of_pos (arrOf c1 0 64 5) (show (0 : Int) < 8 by decide); omega) with h | h | h | h | h | h | h | h
    · exact e0_0_calls x0 x1 x2 c1 l1 f1 c2 l2 f2 h w g0 g1 g2
    · exact e0_1_calls x0 x1 x2 c1 l1 f1 c2 l2 f2 h w g0 g1 g2
    · exact e0_2_calls x0 x1 x2 c1 l1 f1 c2 l2 f2 h w g0 g1 g2
    · exact e0_3_calls x0 x1 x2 c1 l1 f1 c2 l2 f2 h w g0 g1 g2
    · exact e0_4_calls x0 x1 x2 c1 l1 f1 c2 l2 f2 h w g0 g1 g2
    · exact e0_5_calls x0 x1 x2 c1 l1 f1 c2 l2 f2 h w g0 g1 g2
    · exact e0_6_calls x0 x1 x2 c1 l1 f1 c2 l2 f2 h w g0 g1 g2
    · exact e0_7_calls x0 x1 x2 c1 l1 f1 c2 l2 f2 h w g0 g1 g2
  · rcases (show arrOf c1 0 64 5 % 8 = 0 ∨ arrOf c1 0 64 5 % 8 = 1 ∨ arrOf c1 0 64 5 % 8 = 2 ∨ arrOf c1 0 64 5 % 8 = 3 ∨ arrOf c1 0 64 5 % 8 = 4 ∨ arrOf c1 0 64 5 % 8 = 5 ∨ arrOf c1 0 64 5 % 8 = 6 ∨ arrOf c1 0 64 5 % 8 = 7 by have := Int.emod_nonneg (arrOf c1 0 64 5) (show (8 : Int) ≠ 0 by decide); have := Int.emod_lt_of_pos (arrOf c1 0 64 5) (show (0 : Int) < 8 by decide); omega) with h | h | h | h | h | h | h | h
    · exact e1_0_calls x0 x1 x2 c1 l1 f1 c2 l2 f2 h w g0 g1 g2
    · exact e1_1_calls x0 x1 x2 c1 l1 f1 c2 l2 f2 h w g0 g1 g2
    · exact e1_2_calls x0 x1 x2 c1 l1 f1 c2 l2 f2 h w g0 g1 g2
    · exact e1_3_calls x0 x1 x2 c1 l1 f1 c2 l2 f2 h w g0 g1 g2
    · exact e1_4_calls x0 x1 x2 c1 l1 f1 c2 l2 f2 h w g0 g1 g2
    · exact e1_5_calls x0 x1 x2 c1 l1 f1 c2 l2 f2 h w g0 g1 g2
    · exact e1_6_calls x0 x1 x2 c1 l1 f1 c2 l2 f2 h w g0 g1 g2
    · exact e1_7_calls x0 x1 x2 c1 l1 f1 c2 l2 f2 h w g0 g1 g2
  · rcases (show arrOf c1 0 64 5 % 8 = 0 ∨ arrOf c1 0 64 5 % 8 = 1 ∨ arrOf c1 0 64 5 % 8 = 2 ∨ arrOf c1 0 64 5 % 8 = 3 ∨ arrOf c1 0 64 5 % 8 = 4 ∨ arrOf c1 0 64 5 % 8 = 5 ∨ arrOf c1 0 64 5 % 8 = 6 ∨ arrOf c1 0 64 5 % 8 = 7 by have := Int.emod_nonneg (arrOf c1 0 64 5) (show (8 : Int) ≠ 0 by decide); have := Int.emod_lt_of_pos (arrOf c1 0 64 5) (show (0 : Int) < 8 by decide); omega) with h | h | h | h | h | h | h | h
    · exact e2_0_calls x0 x1 x2 c1 l1 f1 c2 l2 f2 h w g0 g1 g2
    · exact e2_1_calls x0 x1 x2 c1 l1 f1 c2 l2 f2 h w g0 g1 g2
    · exact e2_2_calls x0 x1 x2 c1 l1 f1 c2 l2 f2 h w g0 g1 g2
    · exact e2_3_calls x0 x1 x2 c1 l1 f1 c2 l2 f2 h w g0 g1 g2
    · exact e2_4_calls x0 x1 x2 c1 l1 f1 c2 l2 f2 h w g0 g1 g2
    · exact e2_5_calls x0 x1 x2 c1 l1 f1 c2 l2 f2 h w g0 g1 g2
    · exact e2_6_calls x0 x1 x2 c1 l1 f1 c2 l2 f2 h w g0 g1 g2
    · exact e2_7_calls x0 x1 x2 c1 l1 f1 c2 l2 f2 h w g0 g1 g2
  · rcases (show arrOf c1 0 64 5 % 8 = 0 ∨ arrOf c1 0 64 5 % 8 = 1 ∨ arrOf c1 0 64 5 % 8 = 2 ∨ arrOf c1 0 64 5 % 8 = 3 ∨ arrOf c1 0 64 5 % 8 = 4 ∨ arrOf c1 0 64 5 % 8 = 5 ∨ arrOf c1 0 64 5 % 8 = 6 ∨ arrOf c1 0 64 5 % 8 = 7 by have := Int.emod_nonneg (arrOf c1 0 64 5) (show (8 : Int) ≠ 0 by decide); have := Int.emod_lt_of_pos (arrOf c1 0 64 5) (show (0 : Int) < 8 by decide); omega) with h | h | h | h | h | h | h | h
    · exact e3_0_calls x0 x1 x2 c1 l1 f1 c2 l2 f2 h w g0 g1 g2
    · exact e3_1_calls x0 x1 x2 c1 l1 f1 c2 l2 f2 h w g0 g1 g2
    · exact e3_2_calls x0 x1 x2 c1 l1 f1 c2 l2 f2 h w g0 g1 g2
    · exact e3_3_calls x0 x1 x2 c1 l1 f1 c2 l2 f2 h w g0 g1 g2
    · exact e3_4_calls x0 x1 x2 c1 l1 f1 c2 l2 f2 h w g0 g1 g2
    · exact e3_5_calls x0 x1 x2 c1 l1 f1 c2 l2 f2 h w g0 g1 g2
    · exact e3_6_calls x0 x1 x2 c1 l1 f1 c2 l2 f2 h w g0 g1 g2
    · exact e3_7_calls x0 x1 x2 c1 l1 f1 c2 l2 f2 h w g0 g1 g2
  · exact ea_0_calls x0 x1 x2 c1 l1 f1 z2 h c2 l2 f2 w g0 g1 g2
  · exact eb_0_calls x0 x1 x2 c1 l1 f1 z2 h c2 l2 f2 w g0 g1 g2

theorem own : ownKnob Try.prog.godebug = none := by kernel_rfl
theorem lifted (os : Os) (started : os.Started) (H : Type) (enc : TypeId × Value → H) :
    ReturnsInHanded {} Try.checked os 8 .any (Rows.cellSeesSpec.pre6 enc Try.prog Try.f8 Rows.cellSeesRow.domain false) (Rows.cellSeesSpec.post enc Try.prog Try.f8 false true false false) := by
  refine returnsInHanded_of_change (C := Try.checked) own started (by kernel_rfl) Try.func8
    (ChangeSpec.witness6 (enc := enc) (C := Try.checked) false ⟨#[], #[.agg #[.slice none 0 0, .slice none 0 0, .slice none 0 0], .agg #[.int .u8 0, .int .u8 0, .int .u8 0, .int .u8 0, .int .u8 0, .int .u8 0, .int .u8 0, .int .u8 0, .int .u8 0, .int .u8 0, .int .u8 0, .int .u8 0, .int .u8 0, .int .u8 0, .int .u8 0, .int .u8 0, .int .u8 0, .int .u8 0, .int .u8 0, .int .u8 0, .int .u8 0, .int .u8 0, .int .u8 0, .int .u8 0, .int .u8 0, .int .u8 0, .int .u8 0, .int .u8 0, .int .u8 0, .int .u8 0, .int .u8 0, .int .u8 0, .int .u8 0, .int .u8 0, .int .u8 0, .int .u8 0, .int .u8 0, .int .u8 0, .int .u8 0, .int .u8 0, .int .u8 0, .int .u8 0, .int .u8 0, .int .u8 0, .int .u8 0, .int .u8 0, .int .u8 0, .int .u8 0, .int .u8 0, .int .u8 0, .int .u8 0, .int .u8 0, .int .u8 0, .int .u8 0, .int .u8 0, .int .u8 0, .int .u8 0, .int .u8 0, .int .u8 0, .int .u8 0, .int .u8 0, .int .u8 0, .int .u8 0, .int .u8 0, .int .u16 0, .int .u16 0, .int .u16 0, .int .u16 0, .int .u16 0, .int .u16 0, .int .u16 0, .int .u16 0, .int .i16 0, .int .i16 0, .int .i16 0, .int .i16 0, .int .i16 0, .int .i16 0, .int .i16 0, .int .i16 0, .int .u16 0], .agg #[.int .i64 0, .int .i64 0, .int .i64 0, .int .i64 0]], []⟩ 8 (by kernel_rfl) (by kernel_rfl) (by kernel_rfl) (by kernel_rfl)) ?_
  intro W base args ds gs before hval0 hW hcnd _
  have hval : ∀ (j : Nat) t v, Try.f8.params[j]? = some t → args[j]? = some v → Value.okWide Try.prog W .any base t v := hval0
  have hW' := hW
  obtain ⟨p, q, hA0, hV, rfl, hfz, hnd⟩ := hW
  have hA1 : DataW.TrodAll enc Try.prog W 0 (fun _ => true) true Try.f8.params.toList args.toList ds p := hA0
  rw [Try.params8] at hA1 hval
  obtain ⟨v0, vs0, d0, ds0, p0, q0, hargs, rfl, rfl, h0, r0⟩ := trodAll_cons hA1
  obtain ⟨v1, vs1, d1, ds1, p1, q1, rfl, rfl, rfl, h1, r1⟩ := trodAll_cons r0
  obtain ⟨v2, vs2, d2, ds2, p2, q2, rfl, rfl, rfl, h2, r2⟩ := trodAll_cons r1
  obtain ⟨rfl, rfl, rfl⟩ := trodAll_nil r2
  obtain rfl : args = #[v0, v1, v2] := by cases args; simp_all
  obtain ⟨x0, x1, x2, rfl, g0, g1, g2⟩ := open_rows 4 Try.underlying25 (by kernel_rfl) ⟨rfl, rfl, rfl⟩ Try.underlying22 Try.underlying23 Try.underlying22 ⟨by kernel_rfl, by kernel_rfl, by kernel_rfl⟩ ⟨by kernel_rfl, by kernel_rfl, by kernel_rfl⟩ ⟨by kernel_rfl, by kernel_rfl, by kernel_rfl⟩ (hval 0 25 v0 rfl rfl) h0
  obtain ⟨c1, rfl, l1, f1⟩ := open_pc Pc1 8 (by kernel_rfl) (by kernel_rfl) (by kernel_rfl) (hval 1 32 v1 rfl rfl) h1
  obtain ⟨c2, rfl, l2, f2⟩ := open_pc (.num .i64 :: Pc2) 8 (by kernel_rfl) (by kernel_rfl) (by kernel_rfl) (hval 2 34 v2 rfl rfl) h2
  obtain ⟨z2, c2, rfl, hz2, l2, f2⟩ := pc_split l2 f2
  obtain ⟨rfl, rfl⟩ := trodVars_none hV

  refine (calls x0 x1 x2 c1 l1 f1 z2 hz2 c2 l2 f2 W g0 g1 g2).mono fun e W' ⟨he, hb⟩ => ⟨_, he, ?_⟩
  exact law_post (by kernel_rfl) (by kernel_rfl) rfl (by kernel_rfl) Try.underlying4 rfl hW' hb
theorem over : Rows.cellSeesRow.holds Try.pinned (OpenSpec.ofChange Rows.cellSeesSpec) :=
  OpenClaim.holds_of_wide 8 Try.f8 rfl rfl rfl rfl rfl rfl rfl ⟨rfl, rfl, rfl, rfl, rfl⟩ rfl rfl rfl rfl rfl (by kernel_rfl) Try.func8 (by kernel_rfl)
    (of_decide_eq_true (by kernel_rfl)) (by unfold Func.isWrapper; first | (rw [if_pos (by decide +kernel)]; kernel_rfl) | (rw [if_neg (by decide +kernel)]; exact ⟨rfl, rfl⟩))
    (fun os started H enc _ => lifted os started H enc)
theorem proved : Rows.CellSeesSaid := over
#print axioms proved
end Go.Proofs.Ytcamkhjahdebeaa.CellSees
