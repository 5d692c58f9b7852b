/- The law BlendMath returns true for every input. Two colours together are what the document says. It is run by symbols (SxA, SxB); what is left is arithmetic. No condition. -/
import Derived.Test.YtgbncbclhdnbmaaRows
import Derived.Test.YtgbncbclhdnbmaaSxB
namespace Go.Proofs.Ytgbncbclhdnbmaa.BlendMath
open Go.Sx Go.ChangeShapes Go.WideShapes Go.ChangeAt Go.RowKit
set_option linter.unusedVariables false
set_option linter.unusedSimpArgs false
set_option maxRecDepth 100000
noncomputable def G : Ctx := inl Try.prog (ctx []) 3000 6 8
def Hy : Hyp := ⟨[(.v 0, (0, 65535)), (.v 1, (0, 65535))], [], [], [], []⟩
def Ls : List SV := [.s (.int .u16 (.v 0)), .s (.int .u16 (.v 1)), .s (.bool (.bv 0)), .s (.bool (.bv 1))]
def I0 : Interp := ⟨fun _ _ _ _ => 0, fun _ _ _ _ => false, fun _ _ _ _ _ => 0⟩
theorem G_ok : CtxOK Try.prog I0 G := inl_ok (ctx_ok (fun p hp => by cases hp)) (by kernel_rfl) 3000 6 8
def e0 : E := .mod (.v 0) (.lit 32)
def e1 : E := .mod (.v 1) (.lit 32)
def e2 : E := .sub (.lit 0) e1
def e3 : E := .ite (.bv 0) e2 e1
def e4 : E := .add e0 e3
def e5 : E := .lt e4 (.lit 0)
def e6 : E := .ite e5 (.lit 0) e4
def e7 : E := .div e6 (.lit 2)
def e8 : E := .ite (.bv 1) e7 e6
def e9 : E := .lt (.lit 31) e8
def e10 : E := .ite e9 (.lit 31) e8
def e11 : E := .div (.v 0) (.lit 32)
def e12 : E := .mod e11 (.lit 32)
def e13 : E := .div (.v 1) (.lit 32)
def e14 : E := .mod e13 (.lit 32)
def e15 : E := .sub (.lit 0) e14
def e16 : E := .ite (.bv 0) e15 e14
def e17 : E := .add e12 e16
def e18 : E := .lt e17 (.lit 0)
def e19 : E := .ite e18 (.lit 0) e17
def e20 : E := .div e19 (.lit 2)
def e21 : E := .ite (.bv 1) e20 e19
def e22 : E := .lt (.lit 31) e21
def e23 : E := .ite e22 (.lit 31) e21
def e24 : E := .mul e23 (.lit 32)
def e25 : E := .add e10 e24
def e26 : E := .div (.v 0) (.lit 1024)
def e27 : E := .mod e26 (.lit 32)
def e28 : E := .div (.v 1) (.lit 1024)
def e29 : E := .mod e28 (.lit 32)
def e30 : E := .sub (.lit 0) e29
def e31 : E := .ite (.bv 0) e30 e29
def e32 : E := .add e27 e31
def e33 : E := .lt e32 (.lit 0)
def e34 : E := .ite e33 (.lit 0) e32
def e35 : E := .div e34 (.lit 2)
def e36 : E := .ite (.bv 1) e35 e34
def e37 : E := .lt (.lit 31) e36
def e38 : E := .ite e37 (.lit 31) e36
def e39 : E := .mul e38 (.lit 1024)
def e40 : E := .add e25 e39
def e41 : E := .sub e0 e1
def e42 : E := .add e0 e1
def e43 : E := .ite (.bv 0) e41 e42
def e44 : E := .lt e43 (.lit 0)
def e45 : E := .ite e44 (.lit 0) e43
def e46 : E := .div e45 (.lit 2)
def e47 : E := .ite (.bv 1) e46 e45
def e48 : E := .lt (.lit 31) e47
def e49 : E := .ite e48 (.lit 31) e47
def e50 : E := .sub e12 e14
def e51 : E := .add e12 e14
def e52 : E := .ite (.bv 0) e50 e51
def e53 : E := .lt e52 (.lit 0)
def e54 : E := .ite e53 (.lit 0) e52
def e55 : E := .div e54 (.lit 2)
def e56 : E := .ite (.bv 1) e55 e54
def e57 : E := .lt (.lit 31) e56
def e58 : E := .ite e57 (.lit 31) e56
def e59 : E := .mul e58 (.lit 32)
def e60 : E := .add e49 e59
def e61 : E := .sub e27 e29
def e62 : E := .add e27 e29
def e63 : E := .ite (.bv 0) e61 e62
def e64 : E := .lt e63 (.lit 0)
def e65 : E := .ite e64 (.lit 0) e63
def e66 : E := .div e65 (.lit 2)
def e67 : E := .ite (.bv 1) e66 e65
def e68 : E := .lt (.lit 31) e67
def e69 : E := .ite e68 (.lit 31) e67
def e70 : E := .mul e69 (.lit 1024)
def e71 : E := .add e60 e70
def e72 : E := .eq e40 e71
theorem erun : enter Try.prog G 3000 6 3 Hy Ls [] = some ([], .s (.bool e72), none) := by kernel_rfl

theorem vc (a0 : Int) (a1 : Int) (a2 : Bool) (a3 : Bool) : e72.b ⟨[a0, a1], [a2, a3], [], [], I0⟩ = true := by
  simp only [e0, e1, e2, e3, e4, e5, e6, e7, e8, e9, e10, e11, e12, e13, e14, e15, e16, e17, e18, e19, e20, e21, e22, e23, e24, e25, e26, e27, e28, e29, e30, e31, e32, e33, e34, e35, e36, e37, e38, e39, e40, e41, e42, e43, e44, e45, e46, e47, e48, e49, e50, e51, e52, e53, e54, e55, e56, e57, e58, e59, e60, e61, e62, e63, e64, e65, e66, e67, e68, e69, e70, e71, e72, i_v, b_bv, i_lit, b_blit, i_add, i_sub, i_mul, i_div, i_mod, i_tdiv, i_tmod, i_ite, b_ite, b_lt, b_le, b_eq, b_not, b_and, b_or, b_iff, i_sel, a_tab, i_pow2, List.getD_cons_zero, List.getD_cons_succ, decide_eq_true_eq]
  cases a2 <;> cases a3 <;> simp only [if_true, if_false, Bool.false_eq_true]
  all_goals omega
theorem calls (a0 : Int) (a1 : Int) (a2 : Bool) (a3 : Bool) (w0 : (Lit.int .u16 a0).wf = true) (w1 : (Lit.int .u16 a1).wf = true) (w : World) :
    Calls Try.prog 3 #[.int .u16 a0, .int .u16 a1, .bool a2, .bool a3] w fun r w' => r = .returned (.bool true) ∧ Below w.heap.size w w' := by
  have b0 := bounds_u16 w0
  have b1 := bounds_u16 w1
  refine law_true (ρ := ⟨[a0, a1], [a2, a3], [], [], I0⟩) G_ok (by kernel_rfl) erun rfl ⟨?_, by simp [Hy], by simp [Hy], by simp [Hy], by simp [Hy]⟩ (by intro e he; cases he) (vc a0 a1 a2 a3) w
  simp [Hy, inR, i_v]; omega
theorem own : ownKnob Try.prog.godebug = none := by kernel_rfl
theorem lifted (os : Os) (started : os.Started) (H : Type) (enc : TypeId × Value → H) :
    ReturnsInHanded {} Try.checked os 3 .any (Rows.blendMathSpec.pre6 enc Try.prog Try.f3 Rows.blendMathRow.domain false) (Rows.blendMathSpec.post enc Try.prog Try.f3 false true false false) := by
  refine returnsInHanded_of_change (C := Try.checked) own started (by kernel_rfl) Try.func3
    (ChangeSpec.witness6 (enc := enc) (C := Try.checked) false ⟨#[], #[.int .u16 0, .int .u16 0, .bool false, .bool false], []⟩ 8 (by kernel_rfl) (by kernel_rfl) (by kernel_rfl) (by kernel_rfl)) ?_
  intro W base args ds gs before hval0 hW hcnd _
  have hval : ∀ (j : Nat) t v, Try.f3.params[j]? = some t → args[j]? = some v → Value.okWide Try.prog W .any base t v := hval0
  have hW' := hW
  obtain ⟨p, q, hA0, hV, rfl, hfz, hnd⟩ := hW
  have hA1 : DataW.TrodAll enc Try.prog W 0 (fun _ => true) true Try.f3.params.toList args.toList ds p := hA0
  rw [Try.params3] at hA1 hval
  obtain ⟨v0, vs0, d0, ds0, p0, q0, hargs, rfl, rfl, h0, r0⟩ := trodAll_cons hA1
  obtain ⟨v1, vs1, d1, ds1, p1, q1, rfl, rfl, rfl, h1, r1⟩ := trodAll_cons r0
  obtain ⟨v2, vs2, d2, ds2, p2, q2, rfl, rfl, rfl, h2, r2⟩ := trodAll_cons r1
  obtain ⟨v3, vs3, d3, ds3, p3, q3, rfl, rfl, rfl, h3, r3⟩ := trodAll_cons r2
  obtain ⟨rfl, rfl, rfl⟩ := trodAll_nil r3
  obtain rfl : args = #[v0, v1, v2, v3] := by cases args; simp_all
  obtain ⟨a0, rfl, rfl, rfl, w0⟩ := open_int Try.underlying22 (hval 0 22 v0 rfl rfl) h0
  obtain ⟨a1, rfl, rfl, rfl, w1⟩ := open_int Try.underlying22 (hval 1 22 v1 rfl rfl) h1
  obtain ⟨a2, rfl, rfl, rfl⟩ := open_bool Try.underlying4 (hval 2 4 v2 rfl rfl) h2
  obtain ⟨a3, rfl, rfl, rfl⟩ := open_bool Try.underlying4 (hval 3 4 v3 rfl rfl) h3
  obtain ⟨rfl, rfl⟩ := trodVars_none hV
  clear hA0 hval0
  refine (calls a0 a1 a2 a3 w0 w1 W).mono fun e W' ⟨he, hb⟩ => ⟨_, he, ?_⟩
  exact law_post (by kernel_rfl) (by kernel_rfl) rfl (by kernel_rfl) Try.underlying4 rfl hW' hb
theorem over : Rows.blendMathRow.holds Try.pinned (OpenSpec.ofChange Rows.blendMathSpec) :=
  OpenClaim.holds_of_wide 3 Try.f3 rfl rfl rfl rfl rfl rfl rfl ⟨rfl, rfl, rfl, rfl, rfl⟩ rfl rfl rfl rfl rfl (by kernel_rfl) Try.func3 (by kernel_rfl)
    (of_decide_eq_true (by kernel_rfl)) (by unfold Func.isWrapper; first | (rw [if_pos (by decide +kernel)]; kernel_rfl) | (rw [if_neg (by decide +kernel)]; exact ⟨rfl, rfl⟩))
    (fun os started H enc _ => lifted os started H enc)
theorem proved : Rows.BlendMathSaid := over
#print axioms proved
end Go.Proofs.Ytgbncbclhdnbmaa.BlendMath
