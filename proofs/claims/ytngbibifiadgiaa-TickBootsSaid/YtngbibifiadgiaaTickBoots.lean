/- The law TickBoots returns true for every input. The start-up program's bytes. It is run by symbols (SxA, SxB); what is left is arithmetic. No condition. -/
import Derived.Test.YtngbibifiadgiaaRows
import Derived.Test.YtngbibifiadgiaaSxB
namespace Go.Proofs.Ytngbibifiadgiaa.TickBoots
open Go.Sx Go.ChangeShapes Go.WideShapes Go.ChangeAt Go.RowKit
set_option linter.unusedVariables false
set_option linter.unusedSimpArgs false
set_option maxRecDepth 100000
noncomputable def G : Ctx := inl Try.prog (ctx []) 3000 6 8
def Hy : Hyp := ⟨[(.v 0, (-9223372036854775808, 9223372036854775807))], [], [], [], []⟩
def Ls : List SV := [.s (.int .i64 (.v 0))]
def I0 : Interp := ⟨fun _ _ _ _ => 0, fun _ _ _ _ => false, fun _ _ _ _ _ => 0⟩
theorem G_ok : CtxOK Try.prog I0 G := inl_ok (ctx_ok (fun p hp => by cases hp)) (by kernel_rfl) 3000 6 8
def e0 : E := .lt (.v 0) (.lit 0)
def e1 : E := .lt (.lit 63) (.v 0)
def e2 : E := .or e0 e1
def e3 : E := .le (.lit 64) (.v 0)
def e4 : E := .or e0 e3
def e5 : E := .sel (.tab [205, 239, 189, 143, 165, 244, 120, 90, 244, 208, 251, 186, 246, 218, 0, 205, 0, 141, 0, 216, 244, 61, 62, 244, 240, 9, 228, 244, 208, 248, 205, 0, 31, 246, 0, 228, 245, 215, 0, 252, 208, 2, 171, 1, 216, 244, 61, 208, 229, 61, 47, 226, 0, 0, 0, 0, 0, 0, 0, 0, 0, 0, 192, 255]) (.v 0)
def e6 : E := .ite e4 (.lit 0) e5
def e7 : E := .eq e6 (.lit 0)
def e8 : E := .ite e4 (.lit 3) (.lit 0)
def e9 : E := .eq e8 (.lit 3)
def e10 : E := .and e7 e9
def e11 : E := .eq e6 e5
def e12 : E := .eq e8 (.lit 0)
def e13 : E := .and e11 e12
def e14 : E := .ite e2 e10 e13
theorem erun : enter Try.prog G 3000 6 3 Hy Ls [] = some ([], .s (.bool e14), none) := by kernel_rfl

theorem vc (a0 : Int) (b0 : -9223372036854775808 ≤ a0 ∧ a0 ≤ 9223372036854775807) : e14.b ⟨[a0], [], [], [], I0⟩ = true := by
  have h64 : (64 ≤ a0) ↔ (63 < a0) := by omega
  simp only [e0, e1, e2, e3, e4, e5, e6, e7, e8, e9, e10, e11, e12, e13, e14, i_v, b_bv, i_lit, b_blit, i_add, i_sub, i_mul, i_div, i_mod, i_tdiv, i_tmod, i_ite, b_ite, b_lt, b_le, b_eq, b_not, b_and, b_or, b_iff, i_sel, a_tab, i_pow2, List.getD_cons_zero, List.getD_cons_succ, decide_eq_true_eq, decide_eq_false_iff_not, Bool.and_eq_true, Bool.or_eq_true, Bool.not_eq_true', Bool.not_eq_false', Bool.and_eq_false_iff, Bool.or_eq_false_iff, Bool.not_not, h64]
  by_cases h : a0 < 0 ∨ 63 < a0 <;> simp [h]
theorem calls (a0 : Int) (w0 : (Lit.int .i64 a0).wf = true) (w : World) :
    Calls Try.prog 3 #[.int .i64 a0] w fun r w' => r = .returned (.bool true) ∧ Below w.heap.size w w' := by
  have b0 := bounds_i64 w0
  refine law_true (ρ := ⟨[a0], [], [], [], I0⟩) G_ok (by kernel_rfl) erun rfl ⟨?_, by simp [Hy], by simp [Hy], by simp [Hy], by simp [Hy]⟩ (by intro e he; cases he) (vc a0 b0) w
  simp [Hy, inR, i_v]; omega
theorem own : ownKnob Try.prog.godebug = none := by kernel_rfl
theorem lifted (os : Os) (started : os.Started) (H : Type) (enc : TypeId × Value → H) :
    ReturnsInHanded {} Try.checked os 3 .any (Rows.tickBootsSpec.pre6 enc Try.prog Try.f3 Rows.tickBootsRow.domain false) (Rows.tickBootsSpec.post enc Try.prog Try.f3 false true false false) := by
  refine returnsInHanded_of_change (C := Try.checked) own started (by kernel_rfl) Try.func3
    (ChangeSpec.witness6 (enc := enc) (C := Try.checked) false ⟨#[], #[.int .i64 0], []⟩ 8 (by kernel_rfl) (by kernel_rfl) (by kernel_rfl) (by kernel_rfl)) ?_
  intro W base args ds gs before hval0 hW hcnd _
  have hval : ∀ (j : Nat) t v, Try.f3.params[j]? = some t → args[j]? = some v → Value.okWide Try.prog W .any base t v := hval0
  have hW' := hW
  obtain ⟨p, q, hA0, hV, rfl, hfz, hnd⟩ := hW
  have hA1 : DataW.TrodAll enc Try.prog W 0 (fun _ => true) true Try.f3.params.toList args.toList ds p := hA0
  rw [Try.params3] at hA1 hval
  obtain ⟨v0, vs0, d0, ds0, p0, q0, hargs, rfl, rfl, h0, r0⟩ := trodAll_cons hA1
  obtain ⟨rfl, rfl, rfl⟩ := trodAll_nil r0
  obtain rfl : args = #[v0] := by cases args; simp_all
  obtain ⟨a0, rfl, rfl, rfl, w0⟩ := open_int Try.underlying3 (hval 0 3 v0 rfl rfl) h0
  obtain ⟨rfl, rfl⟩ := trodVars_none hV
  clear hA0 hval0
  refine (calls a0 w0 W).mono fun e W' ⟨he, hb⟩ => ⟨_, he, ?_⟩
  exact law_post (by kernel_rfl) (by kernel_rfl) rfl (by kernel_rfl) Try.underlying4 rfl hW' hb
theorem over : Rows.tickBootsRow.holds Try.pinned (OpenSpec.ofChange Rows.tickBootsSpec) :=
  OpenClaim.holds_of_wide 3 Try.f3 rfl rfl rfl rfl rfl rfl rfl ⟨rfl, rfl, rfl, rfl, rfl⟩ rfl rfl rfl rfl rfl (by kernel_rfl) Try.func3 (by kernel_rfl)
    (of_decide_eq_true (by kernel_rfl)) (by unfold Func.isWrapper; first | (rw [if_pos (by decide +kernel)]; kernel_rfl) | (rw [if_neg (by decide +kernel)]; exact ⟨rfl, rfl⟩))
    (fun os started H enc _ => lifted os started H enc)
theorem proved : Rows.TickBootsSaid := over
#print axioms proved
end Go.Proofs.Ytngbibifiadgiaa.TickBoots
