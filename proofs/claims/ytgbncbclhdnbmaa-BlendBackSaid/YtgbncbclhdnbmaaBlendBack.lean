/- The law BlendBack returns true for every input. What is added and taken away is back. It is run by symbols (SxA, SxB); what is left is arithmetic. No condition. -/
import Derived.Test.YtgbncbclhdnbmaaRows
import Derived.Test.YtgbncbclhdnbmaaSxB
namespace Go.Proofs.Ytgbncbclhdnbmaa.BlendBack
open Go.Sx Go.ChangeShapes Go.WideShapes Go.ChangeAt Go.RowKit
set_option linter.unusedVariables false
set_option linter.unusedSimpArgs false
set_option maxRecDepth 100000
noncomputable def G : Ctx := inl Try.prog (ctx []) 3000 6 8
def Hy : Hyp := ⟨[(.v 0, (0, 65535)), (.v 1, (0, 65535))], [], [], [], []⟩
def Ls : List SV := [.s (.int .u16 (.v 0)), .s (.int .u16 (.v 1))]
def I0 : Interp := ⟨fun _ _ _ _ => 0, fun _ _ _ _ => false, fun _ _ _ _ _ => 0⟩
theorem G_ok : CtxOK Try.prog I0 G := inl_ok (ctx_ok (fun p hp => by cases hp)) (by kernel_rfl) 3000 6 8
def e0 : E := .mod (.v 0) (.lit 32)
def e1 : E := .mod (.v 1) (.lit 32)
def e2 : E := .add e0 e1
def e3 : E := .lt (.lit 31) e2
def e4 : E := .mod (.v 0) (.lit 32768)
def e5 : E := .div e4 (.lit 32)
def e6 : E := .mod e5 (.lit 32)
def e7 : E := .mod (.v 1) (.lit 32768)
def e8 : E := .div e7 (.lit 32)
def e9 : E := .mod e8 (.lit 32)
def e10 : E := .add e6 e9
def e11 : E := .lt (.lit 31) e10
def e12 : E := .or e3 e11
def e13 : E := .div e4 (.lit 1024)
def e14 : E := .div e7 (.lit 1024)
def e15 : E := .add e13 e14
def e16 : E := .lt (.lit 31) e15
def e17 : E := .or e12 e16
def e18 : E := .not e17
def e19 : E := .ite e3 (.lit 31) e2
def e20 : E := .ite e11 (.lit 31) e10
def e21 : E := .mul e20 (.lit 32)
def e22 : E := .add e19 e21
def e23 : E := .ite e16 (.lit 31) e15
def e24 : E := .mul e23 (.lit 1024)
def e25 : E := .add e22 e24
def e26 : E := .mod e25 (.lit 32)
def e27 : E := .sub (.lit 0) e1
def e28 : E := .add e26 e27
def e29 : E := .lt e28 (.lit 0)
def e30 : E := .ite e29 (.lit 0) e28
def e31 : E := .div e25 (.lit 32)
def e32 : E := .mod e31 (.lit 32)
def e33 : E := .sub (.lit 0) e9
def e34 : E := .add e32 e33
def e35 : E := .lt e34 (.lit 0)
def e36 : E := .ite e35 (.lit 0) e34
def e37 : E := .mul e36 (.lit 32)
def e38 : E := .add e30 e37
def e39 : E := .div e25 (.lit 1024)
def e40 : E := .sub (.lit 0) e14
def e41 : E := .add e39 e40
def e42 : E := .lt e41 (.lit 0)
def e43 : E := .ite e42 (.lit 0) e41
def e44 : E := .mul e43 (.lit 1024)
def e45 : E := .add e38 e44
def e46 : E := .eq e45 e4
def e47 : E := .not e46
def e48 : E := .and e18 e47
def e49 : E := .not e48
def e50 : E := .add e0 e0
def e51 : E := .div e50 (.lit 2)
def e52 : E := .add e6 e6
def e53 : E := .div e52 (.lit 2)
def e54 : E := .mul e53 (.lit 32)
def e55 : E := .add e51 e54
def e56 : E := .add e13 e13
def e57 : E := .div e56 (.lit 2)
def e58 : E := .mul e57 (.lit 1024)
def e59 : E := .add e55 e58
def e60 : E := .eq e59 e4
def e61 : E := .sub (.lit 0) e0
def e62 : E := .add e0 e61
def e63 : E := .lt e62 (.lit 0)
def e64 : E := .ite e63 (.lit 0) e62
def e65 : E := .sub (.lit 0) e6
def e66 : E := .add e6 e65
def e67 : E := .lt e66 (.lit 0)
def e68 : E := .ite e67 (.lit 0) e66
def e69 : E := .mul e68 (.lit 32)
def e70 : E := .add e64 e69
def e71 : E := .sub (.lit 0) e13
def e72 : E := .add e13 e71
def e73 : E := .lt e72 (.lit 0)
def e74 : E := .ite e73 (.lit 0) e72
def e75 : E := .mul e74 (.lit 1024)
def e76 : E := .add e70 e75
def e77 : E := .eq e76 (.lit 0)
def e78 : E := .and e60 e77
def e79 : E := .add e1 e0
def e80 : E := .lt (.lit 31) e79
def e81 : E := .ite e80 (.lit 31) e79
def e82 : E := .add e9 e6
def e83 : E := .lt (.lit 31) e82
def e84 : E := .ite e83 (.lit 31) e82
def e85 : E := .mul e84 (.lit 32)
def e86 : E := .add e81 e85
def e87 : E := .add e14 e13
def e88 : E := .lt (.lit 31) e87
def e89 : E := .ite e88 (.lit 31) e87
def e90 : E := .mul e89 (.lit 1024)
def e91 : E := .add e86 e90
def e92 : E := .eq e25 e91
def e93 : E := .and e78 e92
def e94 : E := .and e49 e93
theorem erun : enter Try.prog G 3000 6 4 Hy Ls [] = some ([], .s (.bool e94), none) := by kernel_rfl

theorem vc (a0 : Int) (a1 : Int) (b0 : 0 ≤ a0 ∧ a0 ≤ 65535) (b1 : 0 ≤ a1 ∧ a1 ≤ 65535) : e94.b ⟨[a0, a1], [], [], [], I0⟩ = true := by
  have h1 : e49.b ⟨[a0, a1], [], [], [], I0⟩ = true := by
    simp only [e0, e1, e2, e3, e4, e5, e6, e7, e8, e9, e10, e11, e12, e13, e14, e15, e16, e17, e18, e19, e20, e21, e22, e23, e24, e25, e26, e27, e28, e29, e30, e31, e32, e33, e34, e35, e36, e37, e38, e39, e40, e41, e42, e43, e44, e45, e46, e47, e48, e49, e50, e51, e52, e53, e54, e55, e56, e57, e58, e59, e60, e61, e62, e63, e64, e65, e66, e67, e68, e69, e70, e71, e72, e73, e74, e75, e76, e77, e78, e79, e80, e81, e82, e83, e84, e85, e86, e87, e88, e89, e90, e91, e92, e93, e94, i_v, b_bv, i_lit, b_blit, i_add, i_sub, i_mul, i_div, i_mod, i_tdiv, i_tmod, i_ite, b_ite, b_lt, b_le, b_eq, b_not, b_and, b_or, b_iff, i_sel, a_tab, i_pow2, List.getD_cons_zero, List.getD_cons_succ, decide_eq_true_eq, decide_eq_false_iff_not, Bool.and_eq_true, Bool.or_eq_true, Bool.not_eq_true', Bool.not_eq_false', Bool.and_eq_false_iff, Bool.or_eq_false_iff, Bool.not_not]
    by_cases h1 : 31 < a0 % 32 + a1 % 32
    · exact Or.inl (Or.inl (Or.inl h1))
    by_cases h2 : 31 < a0 % 32768 / 32 % 32 + a1 % 32768 / 32 % 32
    · exact Or.inl (Or.inl (Or.inr h2))
    by_cases h3 : 31 < a0 % 32768 / 1024 + a1 % 32768 / 1024
    · exact Or.inl (Or.inr h3)
    refine Or.inr ?_
    simp only [if_neg h1, if_neg h2, if_neg h3]
    have hA : a0 % 32768 = a0 % 32 + a0 % 32768 / 32 % 32 * 32 + a0 % 32768 / 1024 * 1024 := by omega
    have k1 : 0 ≤ a0 % 32 ∧ 0 ≤ a1 % 32 ∧ 0 ≤ a0 % 32768 / 32 % 32 ∧ 0 ≤ a1 % 32768 / 32 % 32 ∧ 0 ≤ a0 % 32768 / 1024 ∧ 0 ≤ a1 % 32768 / 1024 := by omega
    clear b0 b1
    generalize a0 % 32 = x1 at *
    generalize a1 % 32 = y1 at *
    generalize a0 % 32768 / 32 % 32 = x2 at *
    generalize a1 % 32768 / 32 % 32 = y2 at *
    generalize a0 % 32768 / 1024 = x3 at *
    generalize a1 % 32768 / 1024 = y3 at *
    have c1 : (x1 + y1 + (x2 + y2) * 32 + (x3 + y3) * 1024) % 32 = x1 + y1 := by omega
    have c2 : (x1 + y1 + (x2 + y2) * 32 + (x3 + y3) * 1024) / 32 % 32 = x2 + y2 := by omega
    have c3 : (x1 + y1 + (x2 + y2) * 32 + (x3 + y3) * 1024) / 1024 = x3 + y3 := by omega
    rw [c1, c2, c3, hA]
    omega
  have h2 : e60.b ⟨[a0, a1], [], [], [], I0⟩ = true := by
    simp only [e0, e1, e2, e3, e4, e5, e6, e7, e8, e9, e10, e11, e12, e13, e14, e15, e16, e17, e18, e19, e20, e21, e22, e23, e24, e25, e26, e27, e28, e29, e30, e31, e32, e33, e34, e35, e36, e37, e38, e39, e40, e41, e42, e43, e44, e45, e46, e47, e48, e49, e50, e51, e52, e53, e54, e55, e56, e57, e58, e59, e60, e61, e62, e63, e64, e65, e66, e67, e68, e69, e70, e71, e72, e73, e74, e75, e76, e77, e78, e79, e80, e81, e82, e83, e84, e85, e86, e87, e88, e89, e90, e91, e92, e93, e94, i_v, b_bv, i_lit, b_blit, i_add, i_sub, i_mul, i_div, i_mod, i_tdiv, i_tmod, i_ite, b_ite, b_lt, b_le, b_eq, b_not, b_and, b_or, b_iff, i_sel, a_tab, i_pow2, List.getD_cons_zero, List.getD_cons_succ, decide_eq_true_eq, decide_eq_false_iff_not, Bool.and_eq_true, Bool.or_eq_true, Bool.not_eq_true', Bool.not_eq_false', Bool.and_eq_false_iff, Bool.or_eq_false_iff, Bool.not_not]
    omega
  have h3 : e77.b ⟨[a0, a1], [], [], [], I0⟩ = true := by
    simp only [e0, e1, e2, e3, e4, e5, e6, e7, e8, e9, e10, e11, e12, e13, e14, e15, e16, e17, e18, e19, e20, e21, e22, e23, e24, e25, e26, e27, e28, e29, e30, e31, e32, e33, e34, e35, e36, e37, e38, e39, e40, e41, e42, e43, e44, e45, e46, e47, e48, e49, e50, e51, e52, e53, e54, e55, e56, e57, e58, e59, e60, e61, e62, e63, e64, e65, e66, e67, e68, e69, e70, e71, e72, e73, e74, e75, e76, e77, e78, e79, e80, e81, e82, e83, e84, e85, e86, e87, e88, e89, e90, e91, e92, e93, e94, i_v, b_bv, i_lit, b_blit, i_add, i_sub, i_mul, i_div, i_mod, i_tdiv, i_tmod, i_ite, b_ite, b_lt, b_le, b_eq, b_not, b_and, b_or, b_iff, i_sel, a_tab, i_pow2, List.getD_cons_zero, List.getD_cons_succ, decide_eq_true_eq, decide_eq_false_iff_not, Bool.and_eq_true, Bool.or_eq_true, Bool.not_eq_true', Bool.not_eq_false', Bool.and_eq_false_iff, Bool.or_eq_false_iff, Bool.not_not]
    omega
  have h4 : e92.b ⟨[a0, a1], [], [], [], I0⟩ = true := by
    simp only [e0, e1, e2, e3, e4, e5, e6, e7, e8, e9, e10, e11, e12, e13, e14, e15, e16, e17, e18, e19, e20, e21, e22, e23, e24, e25, e26, e27, e28, e29, e30, e31, e32, e33, e34, e35, e36, e37, e38, e39, e40, e41, e42, e43, e44, e45, e46, e47, e48, e49, e50, e51, e52, e53, e54, e55, e56, e57, e58, e59, e60, e61, e62, e63, e64, e65, e66, e67, e68, e69, e70, e71, e72, e73, e74, e75, e76, e77, e78, e79, e80, e81, e82, e83, e84, e85, e86, e87, e88, e89, e90, e91, e92, e93, e94, i_v, b_bv, i_lit, b_blit, i_add, i_sub, i_mul, i_div, i_mod, i_tdiv, i_tmod, i_ite, b_ite, b_lt, b_le, b_eq, b_not, b_and, b_or, b_iff, i_sel, a_tab, i_pow2, List.getD_cons_zero, List.getD_cons_succ, decide_eq_true_eq, decide_eq_false_iff_not, Bool.and_eq_true, Bool.or_eq_true, Bool.not_eq_true', Bool.not_eq_false', Bool.and_eq_false_iff, Bool.or_eq_false_iff, Bool.not_not]
    omega
  rw [e94, e93, e78, b_and, b_and, b_and, h1, h2, h3, h4]; rfl
theorem calls (a0 : Int) (a1 : Int) (w0 : (Lit.int .u16 a0).wf = true) (w1 : (Lit.int .u16 a1).wf = true) (w : World) :
    Calls Try.prog 4 #[.int .u16 a0, .int .u16 a1] w fun r w' => r = .returned (.bool true) ∧ Below w.heap.size w w' := by
  have b0 := bounds_u16 w0
  have b1 := bounds_u16 w1
  refine law_true (ρ := ⟨[a0, a1], [], [], [], I0⟩) G_ok (by kernel_rfl) erun rfl ⟨?_, by simp [Hy], by simp [Hy], by simp [Hy], by simp [Hy]⟩ (by intro e he; cases he) (vc a0 a1 b0 b1) w
  simp [Hy, inR, i_v]; omega
theorem own : ownKnob Try.prog.godebug = none := by kernel_rfl
theorem lifted (os : Os) (started : os.Started) (H : Type) (enc : TypeId × Value → H) :
    ReturnsInHanded {} Try.checked os 4 .any (Rows.blendBackSpec.pre6 enc Try.prog Try.f4 Rows.blendBackRow.domain false) (Rows.blendBackSpec.post enc Try.prog Try.f4 false true false false) := by
  refine returnsInHanded_of_change (C := Try.checked) own started (by kernel_rfl) Try.func4
    (ChangeSpec.witness6 (enc := enc) (C := Try.checked) false ⟨#[], #[.int .u16 0, .int .u16 0], []⟩ 8 (by kernel_rfl) (by kernel_rfl) (by kernel_rfl) (by kernel_rfl)) ?_
  intro W base args ds gs before hval0 hW hcnd _
  have hval : ∀ (j : Nat) t v, Try.f4.params[j]? = some t → args[j]? = some v → Value.okWide Try.prog W .any base t v := hval0
  have hW' := hW
  obtain ⟨p, q, hA0, hV, rfl, hfz, hnd⟩ := hW
  have hA1 : DataW.TrodAll enc Try.prog W 0 (fun _ => true) true Try.f4.params.toList args.toList ds p := hA0
  rw [Try.params4] at hA1 hval
  obtain ⟨v0, vs0, d0, ds0, p0, q0, hargs, rfl, rfl, h0, r0⟩ := trodAll_cons hA1
  obtain ⟨v1, vs1, d1, ds1, p1, q1, rfl, rfl, rfl, h1, r1⟩ := trodAll_cons r0
  obtain ⟨rfl, rfl, rfl⟩ := trodAll_nil r1
  obtain rfl : args = #[v0, v1] := by cases args; simp_all
  obtain ⟨a0, rfl, rfl, rfl, w0⟩ := open_int Try.underlying22 (hval 0 22 v0 rfl rfl) h0
  obtain ⟨a1, rfl, rfl, rfl, w1⟩ := open_int Try.underlying22 (hval 1 22 v1 rfl rfl) h1
  obtain ⟨rfl, rfl⟩ := trodVars_none hV
  clear hA0 hval0
  refine (calls a0 a1 w0 w1 W).mono fun e W' ⟨he, hb⟩ => ⟨_, he, ?_⟩
  exact law_post (by kernel_rfl) (by kernel_rfl) rfl (by kernel_rfl) Try.underlying4 rfl hW' hb
theorem over : Rows.blendBackRow.holds Try.pinned (OpenSpec.ofChange Rows.blendBackSpec) :=
  OpenClaim.holds_of_wide 4 Try.f4 rfl rfl rfl rfl rfl rfl rfl ⟨rfl, rfl, rfl, rfl, rfl⟩ rfl rfl rfl rfl rfl (by kernel_rfl) Try.func4 (by kernel_rfl)
    (of_decide_eq_true (by kernel_rfl)) (by unfold Func.isWrapper; first | (rw [if_pos (by decide +kernel)]; kernel_rfl) | (rw [if_neg (by decide +kernel)]; exact ⟨rfl, rfl⟩))
    (fun os started H enc _ => lifted os started H enc)
theorem proved : Rows.BlendBackSaid := over
#print axioms proved
end Go.Proofs.Ytgbncbclhdnbmaa.BlendBack
