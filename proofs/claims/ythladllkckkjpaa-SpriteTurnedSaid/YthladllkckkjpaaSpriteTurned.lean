/- The whole of the law SpriteTurned, which returns true for every input. A sprite that is turned about has its dots the other way about. No condition. -/
import Derived.Test.YthladllkckkjpaaSpriteTurneditt
import Derived.Test.YthladllkckkjpaaSpriteTurneditf
import Derived.Test.YthladllkckkjpaaSpriteTurnedift
import Derived.Test.YthladllkckkjpaaSpriteTurnediff
import Derived.Test.YthladllkckkjpaaSpriteTurnedo
namespace Go.Proofs.Ythladllkckkjpaa.SpriteTurned
open Go.Sx Go.ChangeShapes Go.WideShapes Go.ChangeAt Go.RowKit
set_option linter.unusedVariables false
set_option linter.unusedSimpArgs false
set_option maxRecDepth 100000
theorem calls (x0 : Ext) (x1 : Ext) (x2 : Ext) (c1 : List Value) (l1 : c1.length = pcTotal Pc1) (f1 : PcFit c1 0 Pc1) (c2 : List Value) (l2 : c2.length = pcTotal Pc2) (f2 : PcFit c2 0 Pc2) (a3 : Int) (w3 : (Lit.int .i64 a3).wf = true) (a4 : Int) (w4 : (Lit.int .i64 a4).wf = true) (w : World) (g0 : XFit x0 w [some .u16]) (g1 : XFit x1 w [some .u8]) (g2 : XFit x2 w [some .u16]) :
    Calls Try.prog 8 #[.agg #[x0.v, x1.v, x2.v], .agg c1.toArray, .agg c2.toArray, .int .i64 a3, .int .i64 a4] w fun r w' => r = .returned (.bool true) ∧ Below w.heap.size w w' := by
  have b6 : -9223372036854775808 ≤ intV (c2.getD 0 Go.undef) ∧ intV (c2.getD 0 Go.undef) ≤ 9223372036854775807 := num_rng (f2)
  have b8 : -9223372036854775808 ≤ intV (c2.getD 2 Go.undef) ∧ intV (c2.getD 2 Go.undef) ≤ 9223372036854775807 := num_rng (f2.tail.tail)
  have b9 : -9223372036854775808 ≤ intV (c2.getD 3 Go.undef) ∧ intV (c2.getD 3 Go.undef) ≤ 9223372036854775807 := num_rng (f2.tail.tail.tail)
  have b13 : -9223372036854775808 ≤ a3 ∧ a3 ≤ 9223372036854775807 := bounds_i64 w3
  have b14 : -9223372036854775808 ≤ a4 ∧ a4 ≤ 9223372036854775807 := bounds_i64 w4
  by_cases qoa : a3 < 0
  · exact oacalls x0 x1 x2 c1 l1 f1 c2 l2 f2 a3 w3 a4 w4 ⟨by omega, by omega⟩ w g0 g1 g2
  by_cases qob : a4 < 0
  · exact obcalls x0 x1 x2 c1 l1 f1 c2 l2 f2 a3 w3 a4 w4 ⟨by omega, by omega⟩ w g0 g1 g2
  by_cases qoc : intV (c2.getD 0 Go.undef) < -256
  · exact occalls x0 x1 x2 c1 l1 f1 c2 l2 f2 a3 w3 a4 w4 ⟨by omega, by omega⟩ w g0 g1 g2
  by_cases qod : 255 < intV (c2.getD 0 Go.undef)
  · exact odcalls x0 x1 x2 c1 l1 f1 c2 l2 f2 a3 w3 a4 w4 ⟨by omega, by omega⟩ w g0 g1 g2
  by_cases qoe : 64 < intV (c2.getD 2 Go.undef)
  · exact oecalls x0 x1 x2 c1 l1 f1 c2 l2 f2 a3 w3 a4 w4 ⟨by omega, by omega⟩ w g0 g1 g2
  by_cases qof : 64 < intV (c2.getD 3 Go.undef)
  · exact ofcalls x0 x1 x2 c1 l1 f1 c2 l2 f2 a3 w3 a4 w4 ⟨by omega, by omega⟩ w g0 g1 g2
  by_cases qog : intV (c2.getD 2 Go.undef) ≤ a3
  · exact ogcalls x0 x1 x2 c1 l1 f1 c2 l2 f2 a3 w3 a4 w4 qog w g0 g1 g2
  by_cases qoh : intV (c2.getD 3 Go.undef) ≤ a4
  · exact ohcalls x0 x1 x2 c1 l1 f1 c2 l2 f2 a3 w3 a4 w4 qoh w g0 g1 g2
  cases hb1 : boolV (c2.getD 8 Go.undef) <;> cases hb2 : boolV (c2.getD 9 Go.undef)
  · exact iffcalls x0 x1 x2 c1 l1 f1 c2 l2 f2 a3 w3 a4 w4 ⟨by omega, by omega⟩ ⟨by omega, by omega⟩ ⟨by omega, by omega⟩ ⟨by omega, by omega⟩ ⟨by omega, by omega⟩ ⟨by omega, by omega⟩ ⟨by omega, by omega⟩ ⟨by omega, by omega⟩ ⟨by omega, by omega⟩ ⟨by omega, by omega⟩ qog qoh hb1 hb2 (by omega) (by omega) w g0 g1 g2
  · exact iftcalls x0 x1 x2 c1 l1 f1 c2 l2 f2 a3 w3 a4 w4 ⟨by omega, by omega⟩ ⟨by omega, by omega⟩ ⟨by omega, by omega⟩ ⟨by omega, by omega⟩ ⟨by omega, by omega⟩ ⟨by omega, by omega⟩ ⟨by omega, by omega⟩ ⟨by omega, by omega⟩ ⟨by omega, by omega⟩ ⟨by omega, by omega⟩ qog qoh hb1 hb2 (by omega) (by omega) w g0 g1 g2
  · exact itfcalls x0 x1 x2 c1 l1 f1 c2 l2 f2 a3 w3 a4 w4 ⟨by omega, by omega⟩ ⟨by omega, by omega⟩ ⟨by omega, by omega⟩ ⟨by omega, by omega⟩ ⟨by omega, by omega⟩ ⟨by omega, by omega⟩ ⟨by omega, by omega⟩ ⟨by omega, by omega⟩ ⟨by omega, by omega⟩ ⟨by omega, by omega⟩ qog qoh hb1 hb2 (by omega) (by omega) w g0 g1 g2
  · exact ittcalls x0 x1 x2 c1 l1 f1 c2 l2 f2 a3 w3 a4 w4 ⟨by omega, by omega⟩ ⟨by omega, by omega⟩ ⟨by omega, by omega⟩ ⟨by omega, by omega⟩ ⟨by omega, by omega⟩ ⟨by omega, by omega⟩ ⟨by omega, by omega⟩ ⟨by omega, by omega⟩ ⟨by omega, by omega⟩ ⟨by omega, by omega⟩ qog qoh hb1 hb2 (by omega) (by omega) w g0 g1 g2

theorem own : ownKnob Try.prog.godebug = none := by kernel_rfl
theorem lifted (os : Os) (started : os.Started) (H : Type) (enc : TypeId × Value → H) :
    ReturnsInHanded {} Try.checked os 8 .any (Rows.spriteTurnedSpec.pre6 enc Try.prog Try.f8 Rows.spriteTurnedRow.domain false) (Rows.spriteTurnedSpec.post enc Try.prog Try.f8 false true false false) := by
  refine returnsInHanded_of_change (C := Try.checked) own started (by kernel_rfl) Try.func8
    (ChangeSpec.witness6 (enc := enc) (C := Try.checked) false ⟨#[], #[.agg #[.slice none 0 0, .slice none 0 0, .slice none 0 0], .agg #[.int .u8 0, .int .u8 0, .int .u8 0, .int .u8 0, .int .u8 0, .int .u8 0, .int .u8 0, .int .u8 0, .int .u8 0, .int .u8 0, .int .u8 0, .int .u8 0, .int .u8 0, .int .u8 0, .int .u8 0, .int .u8 0, .int .u8 0, .int .u8 0, .int .u8 0, .int .u8 0, .int .u8 0, .int .u8 0, .int .u8 0, .int .u8 0, .int .u8 0, .int .u8 0, .int .u8 0, .int .u8 0, .int .u8 0, .int .u8 0, .int .u8 0, .int .u8 0, .int .u8 0, .int .u8 0, .int .u8 0, .int .u8 0, .int .u8 0, .int .u8 0, .int .u8 0, .int .u8 0, .int .u8 0, .int .u8 0, .int .u8 0, .int .u8 0, .int .u8 0, .int .u8 0, .int .u8 0, .int .u8 0, .int .u8 0, .int .u8 0, .int .u8 0, .int .u8 0, .int .u8 0, .int .u8 0, .int .u8 0, .int .u8 0, .int .u8 0, .int .u8 0, .int .u8 0, .int .u8 0, .int .u8 0, .int .u8 0, .int .u8 0, .int .u8 0, .int .u16 0, .int .u16 0, .int .u16 0, .int .u16 0, .int .u16 0, .int .u16 0, .int .u16 0, .int .u16 0, .int .i16 0, .int .i16 0, .int .i16 0, .int .i16 0, .int .i16 0, .int .i16 0, .int .i16 0, .int .i16 0, .int .u16 0], .agg #[.int .i64 0, .int .i64 0, .int .i64 0, .int .i64 0, .int .u8 0, .int .u8 0, .int .u8 0, .bool false, .bool false, .bool false], .int .i64 0, .int .i64 0], []⟩ 8 (by kernel_rfl) (by kernel_rfl) (by kernel_rfl) (by kernel_rfl)) ?_
  intro W base args ds gs before hval0 hW hcnd _
  have hval : ∀ (j : Nat) t v, Try.f8.params[j]? = some t → args[j]? = some v → Value.okWide Try.prog W .any base t v := hval0
  have hW' := hW
  obtain ⟨p, q, hA0, hV, rfl, hfz, hnd⟩ := hW
  have hA1 : DataW.TrodAll enc Try.prog W 0 (fun _ => true) true Try.f8.params.toList args.toList ds p := hA0
  rw [Try.params8] at hA1 hval
  obtain ⟨v0, vs0, d0, ds0, p0, q0, hargs, rfl, rfl, h0, r0⟩ := trodAll_cons hA1
  obtain ⟨v1, vs1, d1, ds1, p1, q1, rfl, rfl, rfl, h1, r1⟩ := trodAll_cons r0
  obtain ⟨v2, vs2, d2, ds2, p2, q2, rfl, rfl, rfl, h2, r2⟩ := trodAll_cons r1
  obtain ⟨v3, vs3, d3, ds3, p3, q3, rfl, rfl, rfl, h3, r3⟩ := trodAll_cons r2
  obtain ⟨v4, vs4, d4, ds4, p4, q4, rfl, rfl, rfl, h4, r4⟩ := trodAll_cons r3
  obtain ⟨rfl, rfl, rfl⟩ := trodAll_nil r4
  obtain rfl : args = #[v0, v1, v2, v3, v4] := by cases args; simp_all
  obtain ⟨x0, x1, x2, rfl, g0, g1, g2⟩ := open_rows 4 Try.underlying25 (by kernel_rfl) ⟨rfl, rfl, rfl⟩ Try.underlying22 Try.underlying23 Try.underlying22 ⟨by kernel_rfl, by kernel_rfl, by kernel_rfl⟩ ⟨by kernel_rfl, by kernel_rfl, by kernel_rfl⟩ ⟨by kernel_rfl, by kernel_rfl, by kernel_rfl⟩ (hval 0 25 v0 rfl rfl) h0
  obtain ⟨c1, rfl, l1, f1⟩ := open_pc Pc1 8 (by kernel_rfl) (by kernel_rfl) (by kernel_rfl) (hval 1 32 v1 rfl rfl) h1
  obtain ⟨c2, rfl, l2, f2⟩ := open_pc Pc2 8 (by kernel_rfl) (by kernel_rfl) (by kernel_rfl) (hval 2 56 v2 rfl rfl) h2
  obtain ⟨a3, rfl, rfl, rfl, w3⟩ := open_int Try.underlying3 (hval 3 3 v3 rfl rfl) h3
  obtain ⟨a4, rfl, rfl, rfl, w4⟩ := open_int Try.underlying3 (hval 4 3 v4 rfl rfl) h4
  obtain ⟨rfl, rfl⟩ := trodVars_none hV

  refine (calls x0 x1 x2 c1 l1 f1 c2 l2 f2 a3 w3 a4 w4 W g0 g1 g2).mono fun e W' ⟨he, hb⟩ => ⟨_, he, ?_⟩
  exact law_post (by kernel_rfl) (by kernel_rfl) rfl (by kernel_rfl) Try.underlying4 rfl hW' hb
theorem over : Rows.spriteTurnedRow.holds Try.pinned (OpenSpec.ofChange Rows.spriteTurnedSpec) :=
  OpenClaim.holds_of_wide 8 Try.f8 rfl rfl rfl rfl rfl rfl rfl ⟨rfl, rfl, rfl, rfl, rfl⟩ rfl rfl rfl rfl rfl (by kernel_rfl) Try.func8 (by kernel_rfl)
    (of_decide_eq_true (by kernel_rfl)) (by unfold Func.isWrapper; first | (rw [if_pos (by decide +kernel)]; kernel_rfl) | (rw [if_neg (by decide +kernel)]; exact ⟨rfl, rfl⟩))
    (fun os started H enc _ => lifted os started H enc)
theorem proved : Rows.SpriteTurnedSaid := over
#print axioms proved
end Go.Proofs.Ythladllkckkjpaa.SpriteTurned
