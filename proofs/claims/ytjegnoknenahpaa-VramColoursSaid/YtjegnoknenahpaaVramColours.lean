/- The law VramColours returns true for every input. A colour stands when both its bytes were written, without its top bit, and is read as it stands. It is run by symbols (SxA, SxB, SxC); what is left is arithmetic. No condition. -/
import Derived.Test.YtjegnoknenahpaaRows
import Derived.Test.YtjegnoknenahpaaSxC
namespace Go.Proofs.Ytjegnoknenahpaa.VramColours
open Go.Sx Go.ChangeShapes Go.WideShapes Go.ChangeAt Go.RowKit
set_option linter.unusedVariables false
set_option linter.unusedSimpArgs false
set_option maxRecDepth 100000
noncomputable def G : Ctx := inl Try.prog (ctx []) 3000 20 8
noncomputable def Gh : HintCtx := inlH Try.prog (ctx []) 3000 20 8
theorem G_ok (xs : Nat → Nat → Ext) : CtxOK Try.prog (Iv xs) G := inl_ok (ctx_ok (fun p hp => by cases hp)) (by kernel_rfl) 3000 20 8
def eHy : Hyp := ⟨[(.v 0, (0, 255)), (.v 1, (0, 255)), (.v 2, (0, 255))], [], [], [], [], []⟩
def eLs : List SV := [.s (.int .u8 (.v 0)), .s (.int .u8 (.v 1)), .s (.int .u8 (.v 2))]
def e0 : E := .div (.v 1) (.lit 256)
def e1 : E := .mod (.v 2) (.lit 128)
def e2 : E := .add e0 e1
def e3 : E := .eq e2 e1
def e4 : E := .mul (.v 0) (.lit 2)
def e5 : E := .add e4 (.lit 1)
def e6 : E := .div e5 (.lit 2)
def e7 : E := .eq e6 (.v 0)
def e8 : E := .mul e1 (.lit 256)
def e9 : E := .add (.v 1) e8
def e10 : E := .ite e7 e9 (.lit 0)
def e11 : E := .mod e10 (.lit 256)
def e12 : E := .eq e11 (.v 1)
def e13 : E := .and e3 e12
def e14 : E := .eq e10 e9
def e15 : E := .and e13 e14
theorem erun : enter Try.prog G Gh 3000 20 5 eHy eLs [] = some ([], .s (.bool e15), none) := by kernel_rfl
theorem evc (a0 a1 a2 : Int) (b0 : 0 ≤ a0 ∧ a0 ≤ 255) (b1 : 0 ≤ a1 ∧ a1 ≤ 255) (b2 : 0 ≤ a2 ∧ a2 ≤ 255) : E.b (⟨[a0, a1, a2], [], [], [], Iv (fun _ _ => Ext.none)⟩ : Env) e15 = true := by
  simp only [e0, e1, e2, e3, e4, e5, e6, e7, e8, e9, e10, e11, e12, e13, e14, e15, i_v, b_bv, i_lit, b_blit, i_add, i_sub, i_mul, i_div, i_mod, i_tdiv, i_tmod, i_ite, b_ite, b_lt, b_le, b_eq, b_not, b_and, b_or, b_iff, i_sel, a_tab, i_pow2, List.getD_cons_zero, List.getD_cons_succ, decide_eq_true_eq, decide_eq_false_iff_not, Bool.and_eq_true, Bool.or_eq_true, Bool.not_eq_true', Bool.not_eq_false', Bool.and_eq_false_iff, Bool.or_eq_false_iff, Bool.not_not, ite_tt, ite_ff, iff_tt, iff_ff, a_av, a_ite, a_upd]
  omega
theorem ecalls (a0 : Int) (w0 : (Lit.int .u8 a0).wf = true) (a1 : Int) (w1 : (Lit.int .u8 a1).wf = true) (a2 : Int) (w2 : (Lit.int .u8 a2).wf = true) (w : World) :
    Calls Try.prog 5 #[.int .u8 a0, .int .u8 a1, .int .u8 a2] w fun r w' => r = .returned (.bool true) ∧ Below w.heap.size w w' := by
  have hargs : (eLs.map (SV.conc (⟨[a0, a1, a2], [], [], [], Iv (fun _ _ => Ext.none)⟩ : Env) Loc.id)).toArray = #[.int .u8 a0, .int .u8 a1, .int .u8 a2] := by
    refine congrArg List.toArray ?_
    exact (cons_eq rfl (cons_eq rfl (cons_eq rfl rfl)))
  rw [← hargs]
  have hok : Hyp.ok eHy (⟨[a0, a1, a2], [], [], [], Iv (fun _ _ => Ext.none)⟩ : Env) := by
    refine ⟨?_, ?_, ?_, by simp [eHy], ?_, by simp [eHy]⟩
    · simp [eHy]
    · intro p hp
      simp only [eHy, List.mem_cons, List.not_mem_nil, or_false] at hp
      rcases hp with rfl | rfl | rfl
      · exact bounds_u8 w0
      · exact bounds_u8 w1
      · exact bounds_u8 w2
    · simp [eHy]
    · simp [eHy]
  exact law_true (ρ := (⟨[a0, a1, a2], [], [], [], Iv (fun _ _ => Ext.none)⟩ : Env)) (G_ok _) (by kernel_rfl) erun rfl
    hok (by intro e he; cases he) (evc (a0) (a1) (a2) (bounds_u8 w0) (bounds_u8 w1) (bounds_u8 w2)) w (fun i j => Ext.none_ok _)
theorem own : ownKnob Try.prog.godebug = none := by kernel_rfl
theorem lifted (os : Os) (started : os.Started) (H : Type) (enc : TypeId × Value → H) :
    ReturnsInHanded {} Try.checked os 5 .any (Rows.vramColoursSpec.pre6 enc Try.prog Try.f5 Rows.vramColoursRow.domain false) (Rows.vramColoursSpec.post enc Try.prog Try.f5 false true false false) := by
  refine returnsInHanded_of_change (C := Try.checked) own started (by kernel_rfl) Try.func5
    (ChangeSpec.witness6 (enc := enc) (C := Try.checked) false ⟨#[], #[.int .u8 0, .int .u8 0, .int .u8 0], []⟩ 8 (by kernel_rfl) (by kernel_rfl) (by kernel_rfl) (by kernel_rfl)) ?_
  intro W base args ds gs before hval0 hW hcnd _
  have hval : ∀ (j : Nat) t v, Try.f5.params[j]? = some t → args[j]? = some v → Value.okWide Try.prog W .any base t v := hval0
  have hW' := hW
  obtain ⟨p, q, hA0, hV, rfl, hfz, hnd⟩ := hW
  have hA1 : DataW.TrodAll enc Try.prog W 0 (fun _ => true) true Try.f5.params.toList args.toList ds p := hA0
  rw [Try.params5] at hA1 hval
  obtain ⟨v0, vs0, d0, ds0, p0, q0, hargs, rfl, rfl, h0, r0⟩ := trodAll_cons hA1
  obtain ⟨v1, vs1, d1, ds1, p1, q1, rfl, rfl, rfl, h1, r1⟩ := trodAll_cons r0
  obtain ⟨v2, vs2, d2, ds2, p2, q2, rfl, rfl, rfl, h2, r2⟩ := trodAll_cons r1
  obtain ⟨rfl, rfl, rfl⟩ := trodAll_nil r2
  obtain rfl : args = #[v0, v1, v2] := by cases args; simp_all
  obtain ⟨a0, rfl, rfl, rfl, w0⟩ := open_int Try.underlying5 (hval 0 5 v0 rfl rfl) h0
  obtain ⟨a1, rfl, rfl, rfl, w1⟩ := open_int Try.underlying5 (hval 1 5 v1 rfl rfl) h1
  obtain ⟨a2, rfl, rfl, rfl, w2⟩ := open_int Try.underlying5 (hval 2 5 v2 rfl rfl) h2
  obtain ⟨rfl, rfl⟩ := trodVars_none hV

  refine (ecalls a0 w0 a1 w1 a2 w2 W).mono fun e W' ⟨he, hb⟩ => ⟨_, he, ?_⟩
  exact law_post (by kernel_rfl) (by kernel_rfl) rfl (by kernel_rfl) Try.underlying4 rfl hW' hb
theorem over : Rows.vramColoursRow.holds Try.pinned (OpenSpec.ofChange Rows.vramColoursSpec) :=
  OpenClaim.holds_of_wide 5 Try.f5 rfl rfl rfl rfl rfl rfl rfl ⟨rfl, rfl, rfl, rfl, rfl⟩ rfl rfl rfl rfl rfl (by kernel_rfl) Try.func5 (by kernel_rfl)
    (of_decide_eq_true (by kernel_rfl)) (by unfold Func.isWrapper; first | (rw [if_pos (by decide +kernel)]; kernel_rfl) | (rw [if_neg (by decide +kernel)]; exact ⟨rfl, rfl⟩))
    (fun os started H enc _ => lifted os started H enc)
theorem proved : Rows.VramColoursSaid := over
#print axioms proved
end Go.Proofs.Ytjegnoknenahpaa.VramColours
