/- The law PlaneStraight returns true for every input. With the matrix that changes nothing the point at a place is that place, moved. It is run by symbols (SxA, SxB); what is left is arithmetic. No condition. -/
import Derived.Test.YtdhjmnjooekemaaRows
import Derived.Test.YtdhjmnjooekemaaSxB
namespace Go.Proofs.Ytdhjmnjooekemaa.PlaneStraight
open Go.Sx Go.ChangeShapes Go.WideShapes Go.ChangeAt Go.RowKit
set_option linter.unusedVariables false
set_option linter.unusedSimpArgs false
set_option maxRecDepth 100000
noncomputable def G : Ctx := inl Try.prog (ctx []) 3000 6 8
def Hy : Hyp := ⟨[(.v 0, (-32768, 32767)), (.v 1, (-32768, 32767)), (.v 2, (-32768, 32767)), (.v 3, (-32768, 32767)), (.v 4, (-9223372036854775808, 9223372036854775807)), (.v 5, (-9223372036854775808, 9223372036854775807))], [], [], [], []⟩
def Ls : List SV := [.s (.int .i16 (.v 0)), .s (.int .i16 (.v 1)), .s (.int .i16 (.v 2)), .s (.int .i16 (.v 3)), .s (.int .i64 (.v 4)), .s (.int .i64 (.v 5))]
def I0 : Interp := ⟨fun _ _ _ _ => 0, fun _ _ _ _ => false, fun _ _ _ _ _ => 0⟩
theorem G_ok : CtxOK Try.prog I0 G := inl_ok (ctx_ok (fun p hp => by cases hp)) (by kernel_rfl) 3000 6 8
def e0 : E := .lt (.v 4) (.lit 0)
def e1 : E := .lt (.lit 255) (.v 4)
def e2 : E := .or e0 e1
def e3 : E := .lt (.v 5) (.lit 0)
def e4 : E := .or e2 e3
def e5 : E := .lt (.lit 255) (.v 5)
def e6 : E := .or e4 e5
def e7 : E := .le (.lit 256) (.v 4)
def e8 : E := .or e0 e7
def e9 : E := .or e8 e3
def e10 : E := .le (.lit 256) (.v 5)
def e11 : E := .or e9 e10
def e12 : E := .add (.v 4) (.v 0)
def e13 : E := .sub e12 (.v 2)
def e14 : E := .mul e13 (.lit 256)
def e15 : E := .mul (.v 2) (.lit 256)
def e16 : E := .add e14 e15
def e17 : E := .div e16 (.lit 256)
def e18 : E := .ite e11 (.lit 0) e17
def e19 : E := .eq e18 (.lit 0)
def e20 : E := .add (.v 5) (.v 1)
def e21 : E := .sub e20 (.v 3)
def e22 : E := .mul e21 (.lit 256)
def e23 : E := .mul (.v 3) (.lit 256)
def e24 : E := .add e22 e23
def e25 : E := .div e24 (.lit 256)
def e26 : E := .ite e11 (.lit 0) e25
def e27 : E := .eq e26 (.lit 0)
def e28 : E := .and e19 e27
def e29 : E := .eq e18 e12
def e30 : E := .eq e26 e20
def e31 : E := .and e29 e30
def e32 : E := .ite e6 e28 e31
theorem erun : enter Try.prog G 3000 6 3 Hy Ls [] = some ([], .s (.bool e32), none) := by kernel_rfl

theorem vc (a0 : Int) (a1 : Int) (a2 : Int) (a3 : Int) (a4 : Int) (a5 : Int) (b0 : -32768 ≤ a0 ∧ a0 ≤ 32767) (b1 : -32768 ≤ a1 ∧ a1 ≤ 32767) (b2 : -32768 ≤ a2 ∧ a2 ≤ 32767) (b3 : -32768 ≤ a3 ∧ a3 ≤ 32767) (b4 : -9223372036854775808 ≤ a4 ∧ a4 ≤ 9223372036854775807) (b5 : -9223372036854775808 ≤ a5 ∧ a5 ≤ 9223372036854775807) : e32.b ⟨[a0, a1, a2, a3, a4, a5], [], [], [], I0⟩ = true := by
  simp only [e0, e1, e2, e3, e4, e5, e6, e7, e8, e9, e10, e11, e12, e13, e14, e15, e16, e17, e18, e19, e20, e21, e22, e23, e24, e25, e26, e27, e28, e29, e30, e31, e32, i_v, b_bv, i_lit, b_blit, i_add, i_sub, i_mul, i_div, i_mod, i_tdiv, i_tmod, i_ite, b_ite, b_lt, b_le, b_eq, b_not, b_and, b_or, b_iff, i_sel, a_tab, i_pow2, List.getD_cons_zero, List.getD_cons_succ, decide_eq_true_eq, decide_eq_false_iff_not, Bool.and_eq_true, Bool.or_eq_true, Bool.not_eq_true', Bool.not_eq_false', Bool.and_eq_false_iff, Bool.or_eq_false_iff, Bool.not_not, ite_tt, ite_ff, iff_tt, iff_ff]
  omega
theorem calls (a0 : Int) (a1 : Int) (a2 : Int) (a3 : Int) (a4 : Int) (a5 : Int) (w0 : (Lit.int .i16 a0).wf = true) (w1 : (Lit.int .i16 a1).wf = true) (w2 : (Lit.int .i16 a2).wf = true) (w3 : (Lit.int .i16 a3).wf = true) (w4 : (Lit.int .i64 a4).wf = true) (w5 : (Lit.int .i64 a5).wf = true) (w : World) :
    Calls Try.prog 3 #[.int .i16 a0, .int .i16 a1, .int .i16 a2, .int .i16 a3, .int .i64 a4, .int .i64 a5] w fun r w' => r = .returned (.bool true) ∧ Below w.heap.size w w' := by
  have b0 := bounds_i16 w0
  have b1 := bounds_i16 w1
  have b2 := bounds_i16 w2
  have b3 := bounds_i16 w3
  have b4 := bounds_i64 w4
  have b5 := bounds_i64 w5
  refine law_true (ρ := ⟨[a0, a1, a2, a3, a4, a5], [], [], [], I0⟩) G_ok (by kernel_rfl) erun rfl ⟨?_, by simp [Hy], by simp [Hy], by simp [Hy], by simp [Hy]⟩ (by intro e he; cases he) (vc a0 a1 a2 a3 a4 a5 b0 b1 b2 b3 b4 b5) w
  simp [Hy, inR, i_v]; omega
theorem own : ownKnob Try.prog.godebug = none := by kernel_rfl
theorem lifted (os : Os) (started : os.Started) (H : Type) (enc : TypeId × Value → H) :
    ReturnsInHanded {} Try.checked os 3 .any (Rows.planeStraightSpec.pre6 enc Try.prog Try.f3 Rows.planeStraightRow.domain false) (Rows.planeStraightSpec.post enc Try.prog Try.f3 false true false false) := by
  refine returnsInHanded_of_change (C := Try.checked) own started (by kernel_rfl) Try.func3
    (ChangeSpec.witness6 (enc := enc) (C := Try.checked) false ⟨#[], #[.int .i16 0, .int .i16 0, .int .i16 0, .int .i16 0, .int .i64 0, .int .i64 0], []⟩ 8 (by kernel_rfl) (by kernel_rfl) (by kernel_rfl) (by kernel_rfl)) ?_
  intro W base args ds gs before hval0 hW hcnd _
  have hval : ∀ (j : Nat) t v, Try.f3.params[j]? = some t → args[j]? = some v → Value.okWide Try.prog W .any base t v := hval0
  have hW' := hW
  obtain ⟨p, q, hA0, hV, rfl, hfz, hnd⟩ := hW
  have hA1 : DataW.TrodAll enc Try.prog W 0 (fun _ => true) true Try.f3.params.toList args.toList ds p := hA0
  rw [Try.params3] at hA1 hval
  obtain ⟨v0, vs0, d0, ds0, p0, q0, hargs, rfl, rfl, h0, r0⟩ := trodAll_cons hA1
  obtain ⟨v1, vs1, d1, ds1, p1, q1, rfl, rfl, rfl, h1, r1⟩ := trodAll_cons r0
  obtain ⟨v2, vs2, d2, ds2, p2, q2, rfl, rfl, rfl, h2, r2⟩ := trodAll_cons r1
  obtain ⟨v3, vs3, d3, ds3, p3, q3, rfl, rfl, rfl, h3, r3⟩ := trodAll_cons r2
  obtain ⟨v4, vs4, d4, ds4, p4, q4, rfl, rfl, rfl, h4, r4⟩ := trodAll_cons r3
  obtain ⟨v5, vs5, d5, ds5, p5, q5, rfl, rfl, rfl, h5, r5⟩ := trodAll_cons r4
  obtain ⟨rfl, rfl, rfl⟩ := trodAll_nil r5
  obtain rfl : args = #[v0, v1, v2, v3, v4, v5] := by cases args; simp_all
  obtain ⟨a0, rfl, rfl, rfl, w0⟩ := open_int Try.underlying22 (hval 0 22 v0 rfl rfl) h0
  obtain ⟨a1, rfl, rfl, rfl, w1⟩ := open_int Try.underlying22 (hval 1 22 v1 rfl rfl) h1
  obtain ⟨a2, rfl, rfl, rfl, w2⟩ := open_int Try.underlying22 (hval 2 22 v2 rfl rfl) h2
  obtain ⟨a3, rfl, rfl, rfl, w3⟩ := open_int Try.underlying22 (hval 3 22 v3 rfl rfl) h3
  obtain ⟨a4, rfl, rfl, rfl, w4⟩ := open_int Try.underlying3 (hval 4 3 v4 rfl rfl) h4
  obtain ⟨a5, rfl, rfl, rfl, w5⟩ := open_int Try.underlying3 (hval 5 3 v5 rfl rfl) h5
  obtain ⟨rfl, rfl⟩ := trodVars_none hV
  clear hA0 hval0
  refine (calls a0 a1 a2 a3 a4 a5 w0 w1 w2 w3 w4 w5 W).mono fun e W' ⟨he, hb⟩ => ⟨_, he, ?_⟩
  exact law_post (by kernel_rfl) (by kernel_rfl) rfl (by kernel_rfl) Try.underlying4 rfl hW' hb
theorem over : Rows.planeStraightRow.holds Try.pinned (OpenSpec.ofChange Rows.planeStraightSpec) :=
  OpenClaim.holds_of_wide 3 Try.f3 rfl rfl rfl rfl rfl rfl rfl ⟨rfl, rfl, rfl, rfl, rfl⟩ rfl rfl rfl rfl rfl (by kernel_rfl) Try.func3 (by kernel_rfl)
    (of_decide_eq_true (by kernel_rfl)) (by unfold Func.isWrapper; first | (rw [if_pos (by decide +kernel)]; kernel_rfl) | (rw [if_neg (by decide +kernel)]; exact ⟨rfl, rfl⟩))
    (fun os started H enc _ => lifted os started H enc)
theorem proved : Rows.PlaneStraightSaid := over
#print axioms proved
end Go.Proofs.Ytdhjmnjooekemaa.PlaneStraight
