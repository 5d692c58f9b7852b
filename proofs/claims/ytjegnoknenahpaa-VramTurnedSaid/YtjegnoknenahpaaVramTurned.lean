/- The law VramTurned returns true for every input. An address is turned as the document says, and no two addresses to the same place. It is run by symbols (SxA, SxB, SxC); what is left is arithmetic. No condition. -/
import Derived.Test.YtjegnoknenahpaaRows
import Derived.Test.YtjegnoknenahpaaSxC
namespace Go.Proofs.Ytjegnoknenahpaa.VramTurned
open Go.Sx Go.ChangeShapes Go.WideShapes Go.ChangeAt Go.RowKit
set_option linter.unusedVariables false
set_option linter.unusedSimpArgs false
set_option maxRecDepth 100000
noncomputable def G : Ctx := inl Try.prog (ctx []) 3000 20 8
noncomputable def Gh : HintCtx := inlH Try.prog (ctx []) 3000 20 8
theorem G_ok (xs : Nat → Nat → Ext) : CtxOK Try.prog (Iv xs) G := inl_ok (ctx_ok (fun p hp => by cases hp)) (by kernel_rfl) 3000 20 8
def e0_Hy : Hyp := ⟨[(.v 0, (0, 255)), (.v 1, (0, 65535)), (.v 2, (0, 65535)), ((.mod (.div (.v 0) (.lit 4)) (.lit 4)), (0, 0))], [], [], [], [], []⟩
def e0_Ls : List SV := [.s (.int .u8 (.v 0)), .s (.int .u16 (.v 1)), .s (.int .u16 (.v 2))]

theorem e0_run : enter Try.prog G Gh 3000 20 3 e0_Hy e0_Ls [] = some ([], .s (.bool (.blit true)), none) := by kernel_rfl
theorem e0_vc (a0 a1 a2 : Int) (b0 : 0 ≤ a0 ∧ a0 ≤ 255) (b1 : 0 ≤ a1 ∧ a1 ≤ 65535) (b2 : 0 ≤ a2 ∧ a2 ≤ 65535) : E.b (⟨[a0, a1, a2], [], [], [], Iv (fun _ _ => Ext.none)⟩ : Env) (.blit true) = true := by
  rfl
theorem e0_calls (a0 : Int) (w0 : (Lit.int .u8 a0).wf = true) (a1 : Int) (w1 : (Lit.int .u16 a1).wf = true) (a2 : Int) (w2 : (Lit.int .u16 a2).wf = true) (hex0 : (a0) / 4 % 4 = 0) (w : World) :
    Calls Try.prog 3 #[.int .u8 a0, .int .u16 a1, .int .u16 a2] w fun r w' => r = .returned (.bool true) ∧ Below w.heap.size w w' := by
  have hargs : (e0_Ls.map (SV.conc (⟨[a0, a1, a2], [], [], [], Iv (fun _ _ => Ext.none)⟩ : Env) Loc.id)).toArray = #[.int .u8 a0, .int .u16 a1, .int .u16 a2] := by
    refine congrArg List.toArray ?_
    exact (cons_eq rfl (cons_eq rfl (cons_eq rfl rfl)))
  rw [← hargs]
  have hok : Hyp.ok e0_Hy (⟨[a0, a1, a2], [], [], [], Iv (fun _ _ => Ext.none)⟩ : Env) := by
    refine ⟨?_, ?_, ?_, by simp [e0_Hy], ?_, by simp [e0_Hy]⟩
    · simp [e0_Hy]
    · intro p hp
      simp only [e0_Hy, List.mem_cons, List.not_mem_nil, or_false] at hp
      rcases hp with rfl | rfl | rfl | rfl
      · exact bounds_u8 w0
      · exact bounds_u16 w1
      · exact bounds_u16 w2
      · exact (by have hx := hex0; first | exact ⟨Int.le_of_eq hx.symm, Int.le_of_eq hx⟩ | exact hx)
    · simp [e0_Hy]
    · simp [e0_Hy]
  exact law_true (ρ := (⟨[a0, a1, a2], [], [], [], Iv (fun _ _ => Ext.none)⟩ : Env)) (G_ok _) (by kernel_rfl) e0_run rfl
    hok (by intro e he; cases he) (e0_vc (a0) (a1) (a2) (bounds_u8 w0) (bounds_u16 w1) (bounds_u16 w2)) w (fun i j => Ext.none_ok _)
theorem kA1 (a : Int) : (a / 256 * 256 + a % 32 * 8 + a / 32 % 8) % 32768 = a / 256 % 128 * 256 + a % 32 * 8 + a / 32 % 8 := by omega
theorem kB1 (a : Int) : a % 32768 = a / 256 % 128 * 256 + a / 32 % 8 * 32 + a % 32 := by omega
theorem kC1 (a1 a2 : Int) : (a1 / 256 * 256 + a1 % 32 * 8 + a1 / 32 % 8) % 32768 = (a2 / 256 * 256 + a2 % 32 * 8 + a2 / 32 % 8) % 32768 ↔ a1 % 32768 = a2 % 32768 := by
  rw [kA1, kA1, kB1 a1, kB1 a2]
  have := Int.emod_nonneg a1 (show (32:Int) ≠ 0 by decide); have := Int.emod_lt_of_pos a1 (show (0:Int) < 32 by decide)
  have := Int.emod_nonneg a2 (show (32:Int) ≠ 0 by decide); have := Int.emod_lt_of_pos a2 (show (0:Int) < 32 by decide)
  have := Int.emod_nonneg (a1/32) (show (8:Int) ≠ 0 by decide); have := Int.emod_lt_of_pos (a1/32) (show (0:Int) < 8 by decide)
  have := Int.emod_nonneg (a2/32) (show (8:Int) ≠ 0 by decide); have := Int.emod_lt_of_pos (a2/32) (show (0:Int) < 8 by decide)
  generalize a1 / 256 % 128 = P at *
  generalize a2 / 256 % 128 = R at *
  generalize a1 % 32 = l at *
  generalize a2 % 32 = m at *
  generalize a1 / 32 % 8 = h at *
  generalize a2 / 32 % 8 = i at *
  constructor <;> intro hh <;> omega
def e1_Hy : Hyp := ⟨[(.v 0, (0, 255)), (.v 1, (0, 65535)), (.v 2, (0, 65535)), ((.mod (.div (.v 0) (.lit 4)) (.lit 4)), (1, 1))], [], [], [], [], []⟩
def e1_Ls : List SV := [.s (.int .u8 (.v 0)), .s (.int .u16 (.v 1)), .s (.int .u16 (.v 2))]
def e1_0 : E := .div (.v 1) (.lit 256)
def e1_1 : E := .mul e1_0 (.lit 256)
def e1_2 : E := .mod (.v 1) (.lit 32)
def e1_3 : E := .mul e1_2 (.lit 8)
def e1_4 : E := .add e1_1 e1_3
def e1_5 : E := .div (.v 1) (.lit 32)
def e1_6 : E := .mod e1_5 (.lit 8)
def e1_7 : E := .add e1_4 e1_6
def e1_8 : E := .mod e1_7 (.lit 32768)
def e1_9 : E := .div (.v 2) (.lit 256)
def e1_10 : E := .mul e1_9 (.lit 256)
def e1_11 : E := .mod (.v 2) (.lit 32)
def e1_12 : E := .mul e1_11 (.lit 8)
def e1_13 : E := .add e1_10 e1_12
def e1_14 : E := .div (.v 2) (.lit 32)
def e1_15 : E := .mod e1_14 (.lit 8)
def e1_16 : E := .add e1_13 e1_15
def e1_17 : E := .mod e1_16 (.lit 32768)
def e1_18 : E := .eq e1_8 e1_17
def e1_19 : E := .mod (.v 1) (.lit 32768)
def e1_20 : E := .mod (.v 2) (.lit 32768)
def e1_21 : E := .eq e1_19 e1_20
def e1_22 : E := .iff e1_18 e1_21
theorem e1_run : enter Try.prog G Gh 3000 20 3 e1_Hy e1_Ls [] = some ([], .s (.bool e1_22), none) := by kernel_rfl
theorem e1_vc (a0 a1 a2 : Int) (b0 : 0 ≤ a0 ∧ a0 ≤ 255) (b1 : 0 ≤ a1 ∧ a1 ≤ 65535) (b2 : 0 ≤ a2 ∧ a2 ≤ 65535) : E.b (⟨[a0, a1, a2], [], [], [], Iv (fun _ _ => Ext.none)⟩ : Env) e1_22 = true := by
  simp only [e1_0, e1_1, e1_2, e1_3, e1_4, e1_5, e1_6, e1_7, e1_8, e1_9, e1_10, e1_11, e1_12, e1_13, e1_14, e1_15, e1_16, e1_17, e1_18, e1_19, e1_20, e1_21, e1_22, i_v, b_bv, i_lit, b_blit, i_add, i_sub, i_mul, i_div, i_mod, i_tdiv, i_tmod, i_ite, b_ite, b_lt, b_le, b_eq, b_not, b_and, b_or, b_iff, i_sel, a_tab, i_pow2, List.getD_cons_zero, List.getD_cons_succ, decide_eq_true_eq, decide_eq_false_iff_not, Bool.and_eq_true, Bool.or_eq_true, Bool.not_eq_true', Bool.not_eq_false', Bool.and_eq_false_iff, Bool.or_eq_false_iff, Bool.not_not, ite_tt, ite_ff, iff_tt, iff_ff, a_av, a_ite, a_upd]
  exact kC1 a1 a2
theorem e1_calls (a0 : Int) (w0 : (Lit.int .u8 a0).wf = true) (a1 : Int) (w1 : (Lit.int .u16 a1).wf = true) (a2 : Int) (w2 : (Lit.int .u16 a2).wf = true) (hex0 : (a0) / 4 % 4 = 1) (w : World) :
    Calls Try.prog 3 #[.int .u8 a0, .int .u16 a1, .int .u16 a2] w fun r w' => r = .returned (.bool true) ∧ Below w.heap.size w w' := by
  have hargs : (e1_Ls.map (SV.conc (⟨[a0, a1, a2], [], [], [], Iv (fun _ _ => Ext.none)⟩ : Env) Loc.id)).toArray = #[.int .u8 a0, .int .u16 a1, .int .u16 a2] := by
    refine congrArg List.toArray ?_
    exact (cons_eq rfl (cons_eq rfl (cons_eq rfl rfl)))
  rw [← hargs]
  have hok : Hyp.ok e1_Hy (⟨[a0, a1, a2], [], [], [], Iv (fun _ _ => Ext.none)⟩ : Env) := by
    refine ⟨?_, ?_, ?_, by simp [e1_Hy], ?_, by simp [e1_Hy]⟩
    · simp [e1_Hy]
    · intro p hp
      simp only [e1_Hy, List.mem_cons, List.not_mem_nil, or_false] at hp
      rcases hp with rfl | rfl | rfl | rfl
      · exact bounds_u8 w0
      · exact bounds_u16 w1
      · exact bounds_u16 w2
      · exact (by have hx := hex0; first | exact ⟨Int.le_of_eq hx.symm, Int.le_of_eq hx⟩ | exact hx)
    · simp [e1_Hy]
    · simp [e1_Hy]
  exact law_true (ρ := (⟨[a0, a1, a2], [], [], [], Iv (fun _ _ => Ext.none)⟩ : Env)) (G_ok _) (by kernel_rfl) e1_run rfl
    hok (by intro e he; cases he) (e1_vc (a0) (a1) (a2) (bounds_u8 w0) (bounds_u16 w1) (bounds_u16 w2)) w (fun i j => Ext.none_ok _)
theorem kA2 (a : Int) : (a / 512 * 512 + a % 64 * 8 + a / 64 % 8) % 32768 = a / 512 % 64 * 512 + a % 64 * 8 + a / 64 % 8 := by omega
theorem kB2 (a : Int) : a % 32768 = a / 512 % 64 * 512 + a / 64 % 8 * 64 + a % 64 := by omega
theorem kC2 (a1 a2 : Int) : (a1 / 512 * 512 + a1 % 64 * 8 + a1 / 64 % 8) % 32768 = (a2 / 512 * 512 + a2 % 64 * 8 + a2 / 64 % 8) % 32768 ↔ a1 % 32768 = a2 % 32768 := by
  rw [kA2, kA2, kB2 a1, kB2 a2]
  have := Int.emod_nonneg a1 (show (64:Int) ≠ 0 by decide); have := Int.emod_lt_of_pos a1 (show (0:Int) < 64 by decide)
  have := Int.emod_nonneg a2 (show (64:Int) ≠ 0 by decide); have := Int.emod_lt_of_pos a2 (show (0:Int) < 64 by decide)
  have := Int.emod_nonneg (a1/64) (show (8:Int) ≠ 0 by decide); have := Int.emod_lt_of_pos (a1/64) (show (0:Int) < 8 by decide)
  have := Int.emod_nonneg (a2/64) (show (8:Int) ≠ 0 by decide); have := Int.emod_lt_of_pos (a2/64) (show (0:Int) < 8 by decide)
  generalize a1 / 512 % 64 = P at *
  generalize a2 / 512 % 64 = R at *
  generalize a1 % 64 = l at *
  generalize a2 % 64 = m at *
  generalize a1 / 64 % 8 = h at *
  generalize a2 / 64 % 8 = i at *
  constructor <;> intro hh <;> omega
def e2_Hy : Hyp := ⟨[(.v 0, (0, 255)), (.v 1, (0, 65535)), (.v 2, (0, 65535)), ((.mod (.div (.v 0) (.lit 4)) (.lit 4)), (2, 2))], [], [], [], [], []⟩
def e2_Ls : List SV := [.s (.int .u8 (.v 0)), .s (.int .u16 (.v 1)), .s (.int .u16 (.v 2))]
def e2_0 : E := .div (.v 1) (.lit 512)
def e2_1 : E := .mul e2_0 (.lit 512)
def e2_2 : E := .mod (.v 1) (.lit 64)
def e2_3 : E := .mul e2_2 (.lit 8)
def e2_4 : E := .add e2_1 e2_3
def e2_5 : E := .div (.v 1) (.lit 64)
def e2_6 : E := .mod e2_5 (.lit 8)
def e2_7 : E := .add e2_4 e2_6
def e2_8 : E := .mod e2_7 (.lit 32768)
def e2_9 : E := .div (.v 2) (.lit 512)
def e2_10 : E := .mul e2_9 (.lit 512)
def e2_11 : E := .mod (.v 2) (.lit 64)
def e2_12 : E := .mul e2_11 (.lit 8)
def e2_13 : E := .add e2_10 e2_12
def e2_14 : E := .div (.v 2) (.lit 64)
def e2_15 : E := .mod e2_14 (.lit 8)
def e2_16 : E := .add e2_13 e2_15
def e2_17 : E := .mod e2_16 (.lit 32768)
def e2_18 : E := .eq e2_8 e2_17
def e2_19 : E := .mod (.v 1) (.lit 32768)
def e2_20 : E := .mod (.v 2) (.lit 32768)
def e2_21 : E := .eq e2_19 e2_20
def e2_22 : E := .iff e2_18 e2_21
theorem e2_run : enter Try.prog G Gh 3000 20 3 e2_Hy e2_Ls [] = some ([], .s (.bool e2_22), none) := by kernel_rfl
theorem e2_vc (a0 a1 a2 : Int) (b0 : 0 ≤ a0 ∧ a0 ≤ 255) (b1 : 0 ≤ a1 ∧ a1 ≤ 65535) (b2 : 0 ≤ a2 ∧ a2 ≤ 65535) : E.b (⟨[a0, a1, a2], [], [], [], Iv (fun _ _ => Ext.none)⟩ : Env) e2_22 = true := by
  simp only [e2_0, e2_1, e2_2, e2_3, e2_4, e2_5, e2_6, e2_7, e2_8, e2_9, e2_10, e2_11, e2_12, e2_13, e2_14, e2_15, e2_16, e2_17, e2_18, e2_19, e2_20, e2_21, e2_22, i_v, b_bv, i_lit, b_blit, i_add, i_sub, i_mul, i_div, i_mod, i_tdiv, i_tmod, i_ite, b_ite, b_lt, b_le, b_eq, b_not, b_and, b_or, b_iff, i_sel, a_tab, i_pow2, List.getD_cons_zero, List.getD_cons_succ, decide_eq_true_eq, decide_eq_false_iff_not, Bool.and_eq_true, Bool.or_eq_true, Bool.not_eq_true', Bool.not_eq_false', Bool.and_eq_false_iff, Bool.or_eq_false_iff, Bool.not_not, ite_tt, ite_ff, iff_tt, iff_ff, a_av, a_ite, a_upd]
  exact kC2 a1 a2
theorem e2_calls (a0 : Int) (w0 : (Lit.int .u8 a0).wf = true) (a1 : Int) (w1 : (Lit.int .u16 a1).wf = true) (a2 : Int) (w2 : (Lit.int .u16 a2).wf = true) (hex0 : (a0) / 4 % 4 = 2) (w : World) :
    Calls Try.prog 3 #[.int .u8 a0, .int .u16 a1, .int .u16 a2] w fun r w' => r = .returned (.bool true) ∧ Below w.heap.size w w' := by
  have hargs : (e2_Ls.map (SV.conc (⟨[a0, a1, a2], [], [], [], Iv (fun _ _ => Ext.none)⟩ : Env) Loc.id)).toArray = #[.int .u8 a0, .int .u16 a1, .int .u16 a2] := by
    refine congrArg List.toArray ?_
    exact (cons_eq rfl (cons_eq rfl (cons_eq rfl rfl)))
  rw [← hargs]
  have hok : Hyp.ok e2_Hy (⟨[a0, a1, a2], [], [], [], Iv (fun _ _ => Ext.none)⟩ : Env) := by
    refine ⟨?_, ?_, ?_, by simp [e2_Hy], ?_, by simp [e2_Hy]⟩
    · simp [e2_Hy]
    · intro p hp
      simp only [e2_Hy, List.mem_cons, List.not_mem_nil, or_false] at hp
      rcases hp with rfl | rfl | rfl | rfl
      · exact bounds_u8 w0
      · exact bounds_u16 w1
      · exact bounds_u16 w2
      · exact (by have hx := hex0; first | exact ⟨Int.le_of_eq hx.symm, Int.le_of_eq hx⟩ | exact hx)
    · simp [e2_Hy]
    · simp [e2_Hy]
  exact law_true (ρ := (⟨[a0, a1, a2], [], [], [], Iv (fun _ _ => Ext.none)⟩ : Env)) (G_ok _) (by kernel_rfl) e2_run rfl
    hok (by intro e he; cases he) (e2_vc (a0) (a1) (a2) (bounds_u8 w0) (bounds_u16 w1) (bounds_u16 w2)) w (fun i j => Ext.none_ok _)
theorem kA3 (a : Int) : (a / 1024 * 1024 + a % 128 * 8 + a / 128 % 8) % 32768 = a / 1024 % 32 * 1024 + a % 128 * 8 + a / 128 % 8 := by omega
theorem kB3 (a : Int) : a % 32768 = a / 1024 % 32 * 1024 + a / 128 % 8 * 128 + a % 128 := by omega
theorem kC3 (a1 a2 : Int) : (a1 / 1024 * 1024 + a1 % 128 * 8 + a1 / 128 % 8) % 32768 = (a2 / 1024 * 1024 + a2 % 128 * 8 + a2 / 128 % 8) % 32768 ↔ a1 % 32768 = a2 % 32768 := by
  rw [kA3, kA3, kB3 a1, kB3 a2]
  have := Int.emod_nonneg a1 (show (128:Int) ≠ 0 by decide); have := Int.emod_lt_of_pos a1 (show (0:Int) < 128 by decide)
  have := Int.emod_nonneg a2 (show (128:Int) ≠ 0 by decide); have := Int.emod_lt_of_pos a2 (show (0:Int) < 128 by decide)
  have := Int.emod_nonneg (a1/128) (show (8:Int) ≠ 0 by decide); have := Int.emod_lt_of_pos (a1/128) (show (0:Int) < 8 by decide)
  have := Int.emod_nonneg (a2/128) (show (8:Int) ≠ 0 by decide); have := Int.emod_lt_of_pos (a2/128) (show (0:Int) < 8 by decide)
  generalize a1 / 1024 % 32 = P at *
  generalize a2 / 1024 % 32 = R at *
  generalize a1 % 128 = l at *
  generalize a2 % 128 = m at *
  generalize a1 / 128 % 8 = h at *
  generalize a2 / 128 % 8 = i at *
  constructor <;> intro hh <;> omega
def e3_Hy : Hyp := ⟨[(.v 0, (0, 255)), (.v 1, (0, 65535)), (.v 2, (0, 65535)), ((.mod (.div (.v 0) (.lit 4)) (.lit 4)), (3, 3))], [], [], [], [], []⟩
def e3_Ls : List SV := [.s (.int .u8 (.v 0)), .s (.int .u16 (.v 1)), .s (.int .u16 (.v 2))]
def e3_0 : E := .div (.v 1) (.lit 1024)
def e3_1 : E := .mul e3_0 (.lit 1024)
def e3_2 : E := .mod (.v 1) (.lit 128)
def e3_3 : E := .mul e3_2 (.lit 8)
def e3_4 : E := .add e3_1 e3_3
def e3_5 : E := .div (.v 1) (.lit 128)
def e3_6 : E := .mod e3_5 (.lit 8)
def e3_7 : E := .add e3_4 e3_6
def e3_8 : E := .mod e3_7 (.lit 32768)
def e3_9 : E := .div (.v 2) (.lit 1024)
def e3_10 : E := .mul e3_9 (.lit 1024)
def e3_11 : E := .mod (.v 2) (.lit 128)
def e3_12 : E := .mul e3_11 (.lit 8)
def e3_13 : E := .add e3_10 e3_12
def e3_14 : E := .div (.v 2) (.lit 128)
def e3_15 : E := .mod e3_14 (.lit 8)
def e3_16 : E := .add e3_13 e3_15
def e3_17 : E := .mod e3_16 (.lit 32768)
def e3_18 : E := .eq e3_8 e3_17
def e3_19 : E := .mod (.v 1) (.lit 32768)
def e3_20 : E := .mod (.v 2) (.lit 32768)
def e3_21 : E := .eq e3_19 e3_20
def e3_22 : E := .iff e3_18 e3_21
theorem e3_run : enter Try.prog G Gh 3000 20 3 e3_Hy e3_Ls [] = some ([], .s (.bool e3_22), none) := by kernel_rfl
theorem e3_vc (a0 a1 a2 : Int) (b0 : 0 ≤ a0 ∧ a0 ≤ 255) (b1 : 0 ≤ a1 ∧ a1 ≤ 65535) (b2 : 0 ≤ a2 ∧ a2 ≤ 65535) : E.b (⟨[a0, a1, a2], [], [], [], Iv (fun _ _ => Ext.none)⟩ : Env) e3_22 = true := by
  simp only [e3_0, e3_1, e3_2, e3_3, e3_4, e3_5, e3_6, e3_7, e3_8, e3_9, e3_10, e3_11, e3_12, e3_13, e3_14, e3_15, e3_16, e3_17, e3_18, e3_19, e3_20, e3_21, e3_22, i_v, b_bv, i_lit, b_blit, i_add, i_sub, i_mul, i_div, i_mod, i_tdiv, i_tmod, i_ite, b_ite, b_lt, b_le, b_eq, b_not, b_and, b_or, b_iff, i_sel, a_tab, i_pow2, List.getD_cons_zero, List.getD_cons_succ, decide_eq_true_eq, decide_eq_false_iff_not, Bool.and_eq_true, Bool.or_eq_true, Bool.not_eq_true', Bool.not_eq_false', Bool.and_eq_false_iff, Bool.or_eq_false_iff, Bool.not_not, ite_tt, ite_ff, iff_tt, iff_ff, a_av, a_ite, a_upd]
  exact kC3 a1 a2
theorem e3_calls (a0 : Int) (w0 : (Lit.int .u8 a0).wf = true) (a1 : Int) (w1 : (Lit.int .u16 a1).wf = true) (a2 : Int) (w2 : (Lit.int .u16 a2).wf = true) (hex0 : (a0) / 4 % 4 = 3) (w : World) :
    Calls Try.prog 3 #[.int .u8 a0, .int .u16 a1, .int .u16 a2] w fun r w' => r = .returned (.bool true) ∧ Below w.heap.size w w' := by
  have hargs : (e3_Ls.map (SV.conc (⟨[a0, a1, a2], [], [], [], Iv (fun _ _ => Ext.none)⟩ : Env) Loc.id)).toArray = #[.int .u8 a0, .int .u16 a1, .int .u16 a2] := by
    refine congrArg List.toArray ?_
    exact (cons_eq rfl (cons_eq rfl (cons_eq rfl rfl)))
  rw [← hargs]
  have hok : Hyp.ok e3_Hy (⟨[a0, a1, a2], [], [], [], Iv (fun _ _ => Ext.none)⟩ : Env) := by
    refine ⟨?_, ?_, ?_, by simp [e3_Hy], ?_, by simp [e3_Hy]⟩
    · simp [e3_Hy]
    · intro p hp
      simp only [e3_Hy, List.mem_cons, List.not_mem_nil, or_false] at hp
      rcases hp with rfl | rfl | rfl | rfl
      · exact bounds_u8 w0
      · exact bounds_u16 w1
      · exact bounds_u16 w2
      · exact (by have hx := hex0; first | exact ⟨Int.le_of_eq hx.symm, Int.le_of_eq hx⟩ | exact hx)
    · simp [e3_Hy]
    · simp [e3_Hy]
  exact law_true (ρ := (⟨[a0, a1, a2], [], [], [], Iv (fun _ _ => Ext.none)⟩ : Env)) (G_ok _) (by kernel_rfl) e3_run rfl
    hok (by intro e he; cases he) (e3_vc (a0) (a1) (a2) (bounds_u8 w0) (bounds_u16 w1) (bounds_u16 w2)) w (fun i j => Ext.none_ok _)
theorem calls (a0 : Int) (w0 : (Lit.int .u8 a0).wf = true) (a1 : Int) (w1 : (Lit.int .u16 a1).wf = true) (a2 : Int) (w2 : (Lit.int .u16 a2).wf = true) (w : World) :
    Calls Try.prog 3 #[.int .u8 a0, .int .u16 a1, .int .u16 a2] w fun r w' => r = .returned (.bool true) ∧ Below w.heap.size w w' := by
  have hr := bounds_u8 w0
  rcases (show a0 / 4 % 4 = 0 ∨ a0 / 4 % 4 = 1 ∨ a0 / 4 % 4 = 2 ∨ a0 / 4 % 4 = 3 by omega) with h | h | h | h
  · exact e0_calls a0 w0 a1 w1 a2 w2 h w
  · exact e1_calls a0 w0 a1 w1 a2 w2 h w
  · exact e2_calls a0 w0 a1 w1 a2 w2 h w
  · exact e3_calls a0 w0 a1 w1 a2 w2 h w

theorem own : ownKnob Try.prog.godebug = none := by kernel_rfl
theorem lifted (os : Os) (started : os.Started) (H : Type) (enc : TypeId × Value → H) :
    ReturnsInHanded {} Try.checked os 3 .any (Rows.vramTurnedSpec.pre6 enc Try.prog Try.f3 Rows.vramTurnedRow.domain false) (Rows.vramTurnedSpec.post enc Try.prog Try.f3 false true false false) := by
  refine returnsInHanded_of_change (C := Try.checked) own started (by kernel_rfl) Try.func3
    (ChangeSpec.witness6 (enc := enc) (C := Try.checked) false ⟨#[], #[.int .u8 0, .int .u16 0, .int .u16 0], []⟩ 8 (by kernel_rfl) (by kernel_rfl) (by kernel_rfl) (by kernel_rfl)) ?_
  intro W base args ds gs before hval0 hW hcnd _
  have hval : ∀ (j : Nat) t v, Try.f3.params[j]? = some t → args[j]? = some v → Value.okWide Try.prog W .any base t v := hval0
  have hW' := hW
  obtain ⟨p, q, hA0, hV, rfl, hfz, hnd⟩ := hW
  have hA1 : DataW.TrodAll enc Try.prog W 0 (fun _ => true) true Try.f3.params.toList args.toList ds p := hA0
  rw [Try.params3] at hA1 hval
  obtain ⟨v0, vs0, d0, ds0, p0, q0, hargs, rfl, rfl, h0, r0⟩ := trodAll_cons hA1
  obtain ⟨v1, vs1, d1, ds1, p1, q1, rfl, rfl, rfl, h1, r1⟩ := trodAll_cons r0
  obtain ⟨v2, vs2, d2, ds2, p2, q2, rfl, rfl, rfl, h2, r2⟩ := trodAll_cons r1
  obtain ⟨rfl, rfl, rfl⟩ := trodAll_nil r2
  obtain rfl : args = #[v0, v1, v2] := by cases args; simp_all
  obtain ⟨a0, rfl, rfl, rfl, w0⟩ := open_int Try.underlying5 (hval 0 5 v0 rfl rfl) h0
  obtain ⟨a1, rfl, rfl, rfl, w1⟩ := open_int Try.underlying22 (hval 1 22 v1 rfl rfl) h1
  obtain ⟨a2, rfl, rfl, rfl, w2⟩ := open_int Try.underlying22 (hval 2 22 v2 rfl rfl) h2
  obtain ⟨rfl, rfl⟩ := trodVars_none hV

  refine (calls a0 w0 a1 w1 a2 w2 W).mono fun e W' ⟨he, hb⟩ => ⟨_, he, ?_⟩
  exact law_post (by kernel_rfl) (by kernel_rfl) rfl (by kernel_rfl) Try.underlying4 rfl hW' hb
theorem over : Rows.vramTurnedRow.holds Try.pinned (OpenSpec.ofChange Rows.vramTurnedSpec) :=
  OpenClaim.holds_of_wide 3 Try.f3 rfl rfl rfl rfl rfl rfl rfl ⟨rfl, rfl, rfl, rfl, rfl⟩ rfl rfl rfl rfl rfl (by kernel_rfl) Try.func3 (by kernel_rfl)
    (of_decide_eq_true (by kernel_rfl)) (by unfold Func.isWrapper; first | (rw [if_pos (by decide +kernel)]; kernel_rfl) | (rw [if_neg (by decide +kernel)]; exact ⟨rfl, rfl⟩))
    (fun os started H enc _ => lifted os started H enc)
theorem proved : Rows.VramTurnedSaid := over
#print axioms proved
end Go.Proofs.Ytjegnoknenahpaa.VramTurned
