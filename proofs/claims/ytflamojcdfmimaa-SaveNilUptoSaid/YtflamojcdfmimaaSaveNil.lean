/- The law SaveNil returns true for every input. Writers and readers that are none say so. Where what comes in is of bulk at most 1048576. It is run by symbols (SxA, SxB, SxC); what is left is arithmetic. No condition. -/
import Derived.Test.YtflamojcdfmimaaRows
import Derived.Test.YtflamojcdfmimaaSxC
import Derived.Test.YtflamojcdfmimaaRw
namespace Go.Proofs.Ytflamojcdfmimaa.SaveNil
open Go.Sx Go.ChangeShapes Go.WideShapes Go.ChangeAt Go.RowKit
set_option linter.unusedVariables false
set_option linter.unusedSimpArgs false
set_option maxRecDepth 100000
noncomputable def G : Ctx := inlS Try.prog [] (ctx [(15, specSum), (16, specSum), (13, specBytes), (19, specCopy 5), (14, specSpoil 5)]) 3000 40 12
noncomputable def Gh : HintCtx := inlSH Try.prog [] (ctx [(15, specSum), (16, specSum), (13, specBytes), (19, specCopy 5), (14, specSpoil 5)]) 3000 40 12
theorem G_ok (xs : Nat → Nat → Ext) : CtxOK Try.prog (Iv xs) G := inlS_ok (ctx_ok (fun p hp => by
  simp only [List.mem_cons, List.not_mem_nil, or_false] at hp
  rcases hp with rfl | rfl | rfl | rfl | rfl
  · exact specSum_ok csok rfl
  · exact specSum_ok crok rfl
  · exact specBytes_ok cbok
  · exact specCopy_ok ccok
  · exact specSpoil_ok cpok
 )) (by kernel_rfl) 3000 40 12
def e0_Hy : Hyp := ⟨[((.v 1), (0, 1048575)), (.v 0, (-9223372036854775808, 9223372036854775807)), (.v 1, (0, 9223372036854775807))], [(0, (0, 255))], [(10, (0, 4294967295))], [], [], [(0, ⟨.v 1, [(some .u8, .av 0)]⟩)]⟩
def e0_Ls : List SV := [.agg [.one (.int .i64 (.lit (0))), .one (.int .i64 (.v 0)), .one (.xslc 0 (.lit 0) (.lit 0) (.v 1))]]

theorem e0_run : enter Try.prog G Gh 3000 40 6 e0_Hy e0_Ls [] = some ([], .s (.bool (.blit true)), none) := by kernel_rfl
theorem e0_vc (x0 : Ext) (mP0 nx0 : Int) (Ax0 : Nat → Int) (b0 : -9223372036854775808 ≤ mP0 ∧ mP0 ≤ 9223372036854775807) (b1 : 0 ≤ nx0 ∧ nx0 ≤ 9223372036854775807) (B0 : ∀ j, 0 ≤ Ax0 j ∧ Ax0 j ≤ 255) : E.b (⟨[mP0, nx0], [], [Ax0], [], Iv (fun i j => match i, j with | 0, 0 => x0 | _, _ => Ext.none)⟩ : Env) (.blit true) = true := by
  simp only [i_v, b_bv, i_lit, b_blit, i_add, i_sub, i_mul, i_div, i_mod, i_tdiv, i_tmod, i_ite, b_ite, b_lt, b_le, b_eq, b_not, b_and, b_or, b_iff, i_sel, a_tab, i_pow2, List.getD_cons_zero, List.getD_cons_succ, decide_eq_true_eq, decide_eq_false_iff_not, Bool.and_eq_true, Bool.or_eq_true, Bool.not_eq_true', Bool.not_eq_false', Bool.and_eq_false_iff, Bool.or_eq_false_iff, Bool.not_not, ite_tt, ite_ff, iff_tt, iff_ff, a_av, a_ite, a_upd]
theorem e0_calls (bP0 : Int) (rb0 : inR (krng .i64) bP0) (x0 : Ext) (hex0 : 0 ≤ ((x0.n : Int)) ∧ ((x0.n : Int)) ≤ 1048575) (w : World) (g0 : XFit x0 w [some .u8]) :
    Calls Try.prog 6 #[.agg #[.int .i64 (0), .int .i64 bP0, x0.v]] w fun r w' => r = .returned (.bool true) ∧ Below w.heap.size w w' := by
  have hx0 : SV.conc (⟨[bP0, (x0.n : Int)], [], [xArr x0 1 0], [], Iv (fun i j => match i, j with | 0, 0 => x0 | _, _ => Ext.none)⟩ : Env) Loc.id (.s (.xslc 0 (.lit 0) (.lit 0) (.v 1))) = x0.v := conc_ext g0 rfl rfl
  have hargs : (e0_Ls.map (SV.conc (⟨[bP0, (x0.n : Int)], [], [xArr x0 1 0], [], Iv (fun i j => match i, j with | 0, 0 => x0 | _, _ => Ext.none)⟩ : Env) Loc.id)).toArray = #[.agg #[.int .i64 (0), .int .i64 bP0, x0.v]] := by
    refine congrArg List.toArray ?_
    exact (cons_eq (rows_eq rfl rfl hx0) rfl)
  rw [← hargs]
  have hok : Hyp.ok e0_Hy (⟨[bP0, (x0.n : Int)], [], [xArr x0 1 0], [], Iv (fun i j => match i, j with | 0, 0 => x0 | _, _ => Ext.none)⟩ : Env) := by
    refine ⟨?_, ?_, ?_, (fun p hp is bs xs => by simp only [e0_Hy, List.mem_cons, List.not_mem_nil, or_false] at hp; subst hp; exact sumF_rng _ _), ?_, by simp [e0_Hy]⟩
    · intro p hp
      simp only [e0_Hy, List.mem_cons, List.not_mem_nil, or_false] at hp
      rcases hp with rfl
      · exact xi_ok g0 rfl rfl rfl
    · intro p hp
      simp only [e0_Hy, List.mem_cons, List.not_mem_nil, or_false] at hp
      rcases hp with rfl | rfl | rfl
      · exact (by have hx := hex0; first | exact ⟨Int.le_of_eq hx.symm, Int.le_of_eq hx⟩ | exact hx)
      · exact rb0
      · exact xlen_rng g0
    · intro p hp
      simp only [e0_Hy, List.mem_cons, List.not_mem_nil, or_false] at hp
      rcases hp with rfl
      · exact xArr_rng g0
    · simp [e0_Hy]
  exact law_true (ρ := (⟨[bP0, (x0.n : Int)], [], [xArr x0 1 0], [], Iv (fun i j => match i, j with | 0, 0 => x0 | _, _ => Ext.none)⟩ : Env)) (G_ok _) (by kernel_rfl) e0_run rfl
    hok (by intro e he; cases he) (e0_vc x0 (bP0) ((x0.n : Int)) (xArr x0 1 0) (rb0) (xlen_rng g0) (xArr_rng g0)) w (fun i j => by rcases i with _ | i <;> rcases j with _ | j <;> first | exact Ext.none_ok _ | exact g0.ok)
def e1_Hy : Hyp := ⟨[((.v 1), (0, 1048575)), (.v 0, (-9223372036854775808, 9223372036854775807)), (.v 1, (0, 9223372036854775807))], [(0, (0, 255))], [(10, (0, 4294967295))], [], [], [(0, ⟨.v 1, [(some .u8, .av 0)]⟩)]⟩
def e1_Ls : List SV := [.agg [.one (.int .i64 (.lit (1))), .one (.int .i64 (.v 0)), .one (.xslc 0 (.lit 0) (.lit 0) (.v 1))]]

theorem e1_run : enter Try.prog G Gh 3000 40 6 e1_Hy e1_Ls [] = some ([], .s (.bool (.blit true)), none) := by kernel_rfl
theorem e1_vc (x0 : Ext) (mP0 nx0 : Int) (Ax0 : Nat → Int) (b0 : -9223372036854775808 ≤ mP0 ∧ mP0 ≤ 9223372036854775807) (b1 : 0 ≤ nx0 ∧ nx0 ≤ 9223372036854775807) (B0 : ∀ j, 0 ≤ Ax0 j ∧ Ax0 j ≤ 255) : E.b (⟨[mP0, nx0], [], [Ax0], [], Iv (fun i j => match i, j with | 0, 0 => x0 | _, _ => Ext.none)⟩ : Env) (.blit true) = true := by
  simp only [i_v, b_bv, i_lit, b_blit, i_add, i_sub, i_mul, i_div, i_mod, i_tdiv, i_tmod, i_ite, b_ite, b_lt, b_le, b_eq, b_not, b_and, b_or, b_iff, i_sel, a_tab, i_pow2, List.getD_cons_zero, List.getD_cons_succ, decide_eq_true_eq, decide_eq_false_iff_not, Bool.and_eq_true, Bool.or_eq_true, Bool.not_eq_true', Bool.not_eq_false', Bool.and_eq_false_iff, Bool.or_eq_false_iff, Bool.not_not, ite_tt, ite_ff, iff_tt, iff_ff, a_av, a_ite, a_upd]
theorem e1_calls (bP0 : Int) (rb0 : inR (krng .i64) bP0) (x0 : Ext) (hex0 : 0 ≤ ((x0.n : Int)) ∧ ((x0.n : Int)) ≤ 1048575) (w : World) (g0 : XFit x0 w [some .u8]) :
    Calls Try.prog 6 #[.agg #[.int .i64 (1), .int .i64 bP0, x0.v]] w fun r w' => r = .returned (.bool true) ∧ Below w.heap.size w w' := by
  have hx0 : SV.conc (⟨[bP0, (x0.n : Int)], [], [xArr x0 1 0], [], Iv (fun i j => match i, j with | 0, 0 => x0 | _, _ => Ext.none)⟩ : Env) Loc.id (.s (.xslc 0 (.lit 0) (.lit 0) (.v 1))) = x0.v := conc_ext g0 rfl rfl
  have hargs : (e1_Ls.map (SV.conc (⟨[bP0, (x0.n : Int)], [], [xArr x0 1 0], [], Iv (fun i j => match i, j with | 0, 0 => x0 | _, _ => Ext.none)⟩ : Env) Loc.id)).toArray = #[.agg #[.int .i64 (1), .int .i64 bP0, x0.v]] := by
    refine congrArg List.toArray ?_
    exact (cons_eq (rows_eq rfl rfl hx0) rfl)
  rw [← hargs]
  have hok : Hyp.ok e1_Hy (⟨[bP0, (x0.n : Int)], [], [xArr x0 1 0], [], Iv (fun i j => match i, j with | 0, 0 => x0 | _, _ => Ext.none)⟩ : Env) := by
    refine ⟨?_, ?_, ?_, (fun p hp is bs xs => by simp only [e1_Hy, List.mem_cons, List.not_mem_nil, or_false] at hp; subst hp; exact sumF_rng _ _), ?_, by simp [e1_Hy]⟩
    · intro p hp
      simp only [e1_Hy, List.mem_cons, List.not_mem_nil, or_false] at hp
      rcases hp with rfl
      · exact xi_ok g0 rfl rfl rfl
    · intro p hp
      simp only [e1_Hy, List.mem_cons, List.not_mem_nil, or_false] at hp
      rcases hp with rfl | rfl | rfl
      · exact (by have hx := hex0; first | exact ⟨Int.le_of_eq hx.symm, Int.le_of_eq hx⟩ | exact hx)
      · exact rb0
      · exact xlen_rng g0
    · intro p hp
      simp only [e1_Hy, List.mem_cons, List.not_mem_nil, or_false] at hp
      rcases hp with rfl
      · exact xArr_rng g0
    · simp [e1_Hy]
  exact law_true (ρ := (⟨[bP0, (x0.n : Int)], [], [xArr x0 1 0], [], Iv (fun i j => match i, j with | 0, 0 => x0 | _, _ => Ext.none)⟩ : Env)) (G_ok _) (by kernel_rfl) e1_run rfl
    hok (by intro e he; cases he) (e1_vc x0 (bP0) ((x0.n : Int)) (xArr x0 1 0) (rb0) (xlen_rng g0) (xArr_rng g0)) w (fun i j => by rcases i with _ | i <;> rcases j with _ | j <;> first | exact Ext.none_ok _ | exact g0.ok)
def e2_Hy : Hyp := ⟨[((.v 1), (0, 1048575)), (.v 0, (-9223372036854775808, 9223372036854775807)), (.v 1, (0, 9223372036854775807))], [(0, (0, 255))], [(10, (0, 4294967295))], [], [], [(0, ⟨.v 1, [(some .u8, .av 0)]⟩)]⟩
def e2_Ls : List SV := [.agg [.one (.int .i64 (.lit (2))), .one (.int .i64 (.v 0)), .one (.xslc 0 (.lit 0) (.lit 0) (.v 1))]]

theorem e2_run : enter Try.prog G Gh 3000 40 6 e2_Hy e2_Ls [] = some ([], .s (.bool (.blit true)), none) := by kernel_rfl
theorem e2_vc (x0 : Ext) (mP0 nx0 : Int) (Ax0 : Nat → Int) (b0 : -9223372036854775808 ≤ mP0 ∧ mP0 ≤ 9223372036854775807) (b1 : 0 ≤ nx0 ∧ nx0 ≤ 9223372036854775807) (B0 : ∀ j, 0 ≤ Ax0 j ∧ Ax0 j ≤ 255) : E.b (⟨[mP0, nx0], [], [Ax0], [], Iv (fun i j => match i, j with | 0, 0 => x0 | _, _ => Ext.none)⟩ : Env) (.blit true) = true := by
  simp only [i_v, b_bv, i_lit, b_blit, i_add, i_sub, i_mul, i_div, i_mod, i_tdiv, i_tmod, i_ite, b_ite, b_lt, b_le, b_eq, b_not, b_and, b_or, b_iff, i_sel, a_tab, i_pow2, List.getD_cons_zero, List.getD_cons_succ, decide_eq_true_eq, decide_eq_false_iff_not, Bool.and_eq_true, Bool.or_eq_true, Bool.not_eq_true', Bool.not_eq_false', Bool.and_eq_false_iff, Bool.or_eq_false_iff, Bool.not_not, ite_tt, ite_ff, iff_tt, iff_ff, a_av, a_ite, a_upd]
theorem e2_calls (bP0 : Int) (rb0 : inR (krng .i64) bP0) (x0 : Ext) (hex0 : 0 ≤ ((x0.n : Int)) ∧ ((x0.n : Int)) ≤ 1048575) (w : World) (g0 : XFit x0 w [some .u8]) :
    Calls Try.prog 6 #[.agg #[.int .i64 (2), .int .i64 bP0, x0.v]] w fun r w' => r = .returned (.bool true) ∧ Below w.heap.size w w' := by
  have hx0 : SV.conc (⟨[bP0, (x0.n : Int)], [], [xArr x0 1 0], [], Iv (fun i j => match i, j with | 0, 0 => x0 | _, _ => Ext.none)⟩ : Env) Loc.id (.s (.xslc 0 (.lit 0) (.lit 0) (.v 1))) = x0.v := conc_ext g0 rfl rfl
  have hargs : (e2_Ls.map (SV.conc (⟨[bP0, (x0.n : Int)], [], [xArr x0 1 0], [], Iv (fun i j => match i, j with | 0, 0 => x0 | _, _ => Ext.none)⟩ : Env) Loc.id)).toArray = #[.agg #[.int .i64 (2), .int .i64 bP0, x0.v]] := by
    refine congrArg List.toArray ?_
    exact (cons_eq (rows_eq rfl rfl hx0) rfl)
  rw [← hargs]
  have hok : Hyp.ok e2_Hy (⟨[bP0, (x0.n : Int)], [], [xArr x0 1 0], [], Iv (fun i j => match i, j with | 0, 0 => x0 | _, _ => Ext.none)⟩ : Env) := by
    refine ⟨?_, ?_, ?_, (fun p hp is bs xs => by simp only [e2_Hy, List.mem_cons, List.not_mem_nil, or_false] at hp; subst hp; exact sumF_rng _ _), ?_, by simp [e2_Hy]⟩
    · intro p hp
      simp only [e2_Hy, List.mem_cons, List.not_mem_nil, or_false] at hp
      rcases hp with rfl
      · exact xi_ok g0 rfl rfl rfl
    · intro p hp
      simp only [e2_Hy, List.mem_cons, List.not_mem_nil, or_false] at hp
      rcases hp with rfl | rfl | rfl
      · exact (by have hx := hex0; first | exact ⟨Int.le_of_eq hx.symm, Int.le_of_eq hx⟩ | exact hx)
      · exact rb0
      · exact xlen_rng g0
    · intro p hp
      simp only [e2_Hy, List.mem_cons, List.not_mem_nil, or_false] at hp
      rcases hp with rfl
      · exact xArr_rng g0
    · simp [e2_Hy]
  exact law_true (ρ := (⟨[bP0, (x0.n : Int)], [], [xArr x0 1 0], [], Iv (fun i j => match i, j with | 0, 0 => x0 | _, _ => Ext.none)⟩ : Env)) (G_ok _) (by kernel_rfl) e2_run rfl
    hok (by intro e he; cases he) (e2_vc x0 (bP0) ((x0.n : Int)) (xArr x0 1 0) (rb0) (xlen_rng g0) (xArr_rng g0)) w (fun i j => by rcases i with _ | i <;> rcases j with _ | j <;> first | exact Ext.none_ok _ | exact g0.ok)
def e3_Hy : Hyp := ⟨[((.v 1), (0, 1048575)), (.v 0, (-9223372036854775808, 9223372036854775807)), (.v 1, (0, 9223372036854775807))], [(0, (0, 255))], [(10, (0, 4294967295))], [], [], [(0, ⟨.v 1, [(some .u8, .av 0)]⟩)]⟩
def e3_Ls : List SV := [.agg [.one (.int .i64 (.lit (3))), .one (.int .i64 (.v 0)), .one (.xslc 0 (.lit 0) (.lit 0) (.v 1))]]

theorem e3_run : enter Try.prog G Gh 3000 40 6 e3_Hy e3_Ls [] = some ([], .s (.bool (.blit true)), none) := by kernel_rfl
theorem e3_vc (x0 : Ext) (mP0 nx0 : Int) (Ax0 : Nat → Int) (b0 : -9223372036854775808 ≤ mP0 ∧ mP0 ≤ 9223372036854775807) (b1 : 0 ≤ nx0 ∧ nx0 ≤ 9223372036854775807) (B0 : ∀ j, 0 ≤ Ax0 j ∧ Ax0 j ≤ 255) : E.b (⟨[mP0, nx0], [], [Ax0], [], Iv (fun i j => match i, j with | 0, 0 => x0 | _, _ => Ext.none)⟩ : Env) (.blit true) = true := by
  simp only [i_v, b_bv, i_lit, b_blit, i_add, i_sub, i_mul, i_div, i_mod, i_tdiv, i_tmod, i_ite, b_ite, b_lt, b_le, b_eq, b_not, b_and, b_or, b_iff, i_sel, a_tab, i_pow2, List.getD_cons_zero, List.getD_cons_succ, decide_eq_true_eq, decide_eq_false_iff_not, Bool.and_eq_true, Bool.or_eq_true, Bool.not_eq_true', Bool.not_eq_false', Bool.and_eq_false_iff, Bool.or_eq_false_iff, Bool.not_not, ite_tt, ite_ff, iff_tt, iff_ff, a_av, a_ite, a_upd]
theorem e3_calls (bP0 : Int) (rb0 : inR (krng .i64) bP0) (x0 : Ext) (hex0 : 0 ≤ ((x0.n : Int)) ∧ ((x0.n : Int)) ≤ 1048575) (w : World) (g0 : XFit x0 w [some .u8]) :
    Calls Try.prog 6 #[.agg #[.int .i64 (3), .int .i64 bP0, x0.v]] w fun r w' => r = .returned (.bool true) ∧ Below w.heap.size w w' := by
  have hx0 : SV.conc (⟨[bP0, (x0.n : Int)], [], [xArr x0 1 0], [], Iv (fun i j => match i, j with | 0, 0 => x0 | _, _ => Ext.none)⟩ : Env) Loc.id (.s (.xslc 0 (.lit 0) (.lit 0) (.v 1))) = x0.v := conc_ext g0 rfl rfl
  have hargs : (e3_Ls.map (SV.conc (⟨[bP0, (x0.n : Int)], [], [xArr x0 1 0], [], Iv (fun i j => match i, j with | 0, 0 => x0 | _, _ => Ext.none)⟩ : Env) Loc.id)).toArray = #[.agg #[.int .i64 (3), .int .i64 bP0, x0.v]] := by
    refine congrArg List.toArray ?_
    exact (cons_eq (rows_eq rfl rfl hx0) rfl)
  rw [← hargs]
  have hok : Hyp.ok e3_Hy (⟨[bP0, (x0.n : Int)], [], [xArr x0 1 0], [], Iv (fun i j => match i, j with | 0, 0 => x0 | _, _ => Ext.none)⟩ : Env) := by
    refine ⟨?_, ?_, ?_, (fun p hp is bs xs => by simp only [e3_Hy, List.mem_cons, List.not_mem_nil, or_false] at hp; subst hp; exact sumF_rng _ _), ?_, by simp [e3_Hy]⟩
    · intro p hp
      simp only [e3_Hy, List.mem_cons, List.not_mem_nil, or_false] at hp
      rcases hp with rfl
      · exact xi_ok g0 rfl rfl rfl
    · intro p hp
      simp only [e3_Hy, List.mem_cons, List.not_mem_nil, or_false] at hp
      rcases hp with rfl | rfl | rfl
      · exact (by have hx := hex0; first | exact ⟨Int.le_of_eq hx.symm, Int.le_of_eq hx⟩ | exact hx)
      · exact rb0
      · exact xlen_rng g0
    · intro p hp
      simp only [e3_Hy, List.mem_cons, List.not_mem_nil, or_false] at hp
      rcases hp with rfl
      · exact xArr_rng g0
    · simp [e3_Hy]
  exact law_true (ρ := (⟨[bP0, (x0.n : Int)], [], [xArr x0 1 0], [], Iv (fun i j => match i, j with | 0, 0 => x0 | _, _ => Ext.none)⟩ : Env)) (G_ok _) (by kernel_rfl) e3_run rfl
    hok (by intro e he; cases he) (e3_vc x0 (bP0) ((x0.n : Int)) (xArr x0 1 0) (rb0) (xlen_rng g0) (xArr_rng g0)) w (fun i j => by rcases i with _ | i <;> rcases j with _ | j <;> first | exact Ext.none_ok _ | exact g0.ok)
def e4_Hy : Hyp := ⟨[((.v 1), (0, 1048575)), (.v 0, (-9223372036854775808, 9223372036854775807)), (.v 1, (0, 9223372036854775807))], [(0, (0, 255))], [(10, (0, 4294967295))], [], [], [(0, ⟨.v 1, [(some .u8, .av 0)]⟩)]⟩
def e4_Ls : List SV := [.agg [.one (.int .i64 (.lit (4))), .one (.int .i64 (.v 0)), .one (.xslc 0 (.lit 0) (.lit 0) (.v 1))]]

theorem e4_run : enter Try.prog G Gh 3000 40 6 e4_Hy e4_Ls [] = some ([], .s (.bool (.blit true)), none) := by kernel_rfl
theorem e4_vc (x0 : Ext) (mP0 nx0 : Int) (Ax0 : Nat → Int) (b0 : -9223372036854775808 ≤ mP0 ∧ mP0 ≤ 9223372036854775807) (b1 : 0 ≤ nx0 ∧ nx0 ≤ 9223372036854775807) (B0 : ∀ j, 0 ≤ Ax0 j ∧ Ax0 j ≤ 255) : E.b (⟨[mP0, nx0], [], [Ax0], [], Iv (fun i j => match i, j with | 0, 0 => x0 | _, _ => Ext.none)⟩ : Env) (.blit true) = true := by
  simp only [i_v, b_bv, i_lit, b_blit, i_add, i_sub, i_mul, i_div, i_mod, i_tdiv, i_tmod, i_ite, b_ite, b_lt, b_le, b_eq, b_not, b_and, b_or, b_iff, i_sel, a_tab, i_pow2, List.getD_cons_zero, List.getD_cons_succ, decide_eq_true_eq, decide_eq_false_iff_not, Bool.and_eq_true, Bool.or_eq_true, Bool.not_eq_true', Bool.not_eq_false', Bool.and_eq_false_iff, Bool.or_eq_false_iff, Bool.not_not, ite_tt, ite_ff, iff_tt, iff_ff, a_av, a_ite, a_upd]
theorem e4_calls (bP0 : Int) (rb0 : inR (krng .i64) bP0) (x0 : Ext) (hex0 : 0 ≤ ((x0.n : Int)) ∧ ((x0.n : Int)) ≤ 1048575) (w : World) (g0 : XFit x0 w [some .u8]) :
    Calls Try.prog 6 #[.agg #[.int .i64 (4), .int .i64 bP0, x0.v]] w fun r w' => r = .returned (.bool true) ∧ Below w.heap.size w w' := by
  have hx0 : SV.conc (⟨[bP0, (x0.n : Int)], [], [xArr x0 1 0], [], Iv (fun i j => match i, j with | 0, 0 => x0 | _, _ => Ext.none)⟩ : Env) Loc.id (.s (.xslc 0 (.lit 0) (.lit 0) (.v 1))) = x0.v := conc_ext g0 rfl rfl
  have hargs : (e4_Ls.map (SV.conc (⟨[bP0, (x0.n : Int)], [], [xArr x0 1 0], [], Iv (fun i j => match i, j with | 0, 0 => x0 | _, _ => Ext.none)⟩ : Env) Loc.id)).toArray = #[.agg #[.int .i64 (4), .int .i64 bP0, x0.v]] := by
    refine congrArg List.toArray ?_
    exact (cons_eq (rows_eq rfl rfl hx0) rfl)
  rw [← hargs]
  have hok : Hyp.ok e4_Hy (⟨[bP0, (x0.n : Int)], [], [xArr x0 1 0], [], Iv (fun i j => match i, j with | 0, 0 => x0 | _, _ => Ext.none)⟩ : Env) := by
    refine ⟨?_, ?_, ?_, (fun p hp is bs xs => by simp only [e4_Hy, List.mem_cons, List.not_mem_nil, or_false] at hp; subst hp; exact sumF_rng _ _), ?_, by simp [e4_Hy]⟩
    · intro p hp
      simp only [e4_Hy, List.mem_cons, List.not_mem_nil, or_false] at hp
      rcases hp with rfl
      · exact xi_ok g0 rfl rfl rfl
    · intro p hp
      simp only [e4_Hy, List.mem_cons, List.not_mem_nil, or_false] at hp
      rcases hp with rfl | rfl | rfl
      · exact (by have hx := hex0; first | exact ⟨Int.le_of_eq hx.symm, Int.le_of_eq hx⟩ | exact hx)
      · exact rb0
      · exact xlen_rng g0
    · intro p hp
      simp only [e4_Hy, List.mem_cons, List.not_mem_nil, or_false] at hp
      rcases hp with rfl
      · exact xArr_rng g0
    · simp [e4_Hy]
  exact law_true (ρ := (⟨[bP0, (x0.n : Int)], [], [xArr x0 1 0], [], Iv (fun i j => match i, j with | 0, 0 => x0 | _, _ => Ext.none)⟩ : Env)) (G_ok _) (by kernel_rfl) e4_run rfl
    hok (by intro e he; cases he) (e4_vc x0 (bP0) ((x0.n : Int)) (xArr x0 1 0) (rb0) (xlen_rng g0) (xArr_rng g0)) w (fun i j => by rcases i with _ | i <;> rcases j with _ | j <;> first | exact Ext.none_ok _ | exact g0.ok)
def e5_Hy : Hyp := ⟨[((.v 1), (0, 1048575)), (.v 0, (-9223372036854775808, 9223372036854775807)), (.v 1, (0, 9223372036854775807))], [(0, (0, 255))], [(10, (0, 4294967295))], [], [], [(0, ⟨.v 1, [(some .u8, .av 0)]⟩)]⟩
def e5_Ls : List SV := [.agg [.one (.int .i64 (.lit (5))), .one (.int .i64 (.v 0)), .one (.xslc 0 (.lit 0) (.lit 0) (.v 1))]]

theorem e5_run : enter Try.prog G Gh 3000 40 6 e5_Hy e5_Ls [] = some ([], .s (.bool (.blit true)), none) := by kernel_rfl
theorem e5_vc (x0 : Ext) (mP0 nx0 : Int) (Ax0 : Nat → Int) (b0 : -9223372036854775808 ≤ mP0 ∧ mP0 ≤ 9223372036854775807) (b1 : 0 ≤ nx0 ∧ nx0 ≤ 9223372036854775807) (B0 : ∀ j, 0 ≤ Ax0 j ∧ Ax0 j ≤ 255) : E.b (⟨[mP0, nx0], [], [Ax0], [], Iv (fun i j => match i, j with | 0, 0 => x0 | _, _ => Ext.none)⟩ : Env) (.blit true) = true := by
  simp only [i_v, b_bv, i_lit, b_blit, i_add, i_sub, i_mul, i_div, i_mod, i_tdiv, i_tmod, i_ite, b_ite, b_lt, b_le, b_eq, b_not, b_and, b_or, b_iff, i_sel, a_tab, i_pow2, List.getD_cons_zero, List.getD_cons_succ, decide_eq_true_eq, decide_eq_false_iff_not, Bool.and_eq_true, Bool.or_eq_true, Bool.not_eq_true', Bool.not_eq_false', Bool.and_eq_false_iff, Bool.or_eq_false_iff, Bool.not_not, ite_tt, ite_ff, iff_tt, iff_ff, a_av, a_ite, a_upd]
theorem e5_calls (bP0 : Int) (rb0 : inR (krng .i64) bP0) (x0 : Ext) (hex0 : 0 ≤ ((x0.n : Int)) ∧ ((x0.n : Int)) ≤ 1048575) (w : World) (g0 : XFit x0 w [some .u8]) :
    Calls Try.prog 6 #[.agg #[.int .i64 (5), .int .i64 bP0, x0.v]] w fun r w' => r = .returned (.bool true) ∧ Below w.heap.size w w' := by
  have hx0 : SV.conc (⟨[bP0, (x0.n : Int)], [], [xArr x0 1 0], [], Iv (fun i j => match i, j with | 0, 0 => x0 | _, _ => Ext.none)⟩ : Env) Loc.id (.s (.xslc 0 (.lit 0) (.lit 0) (.v 1))) = x0.v := conc_ext g0 rfl rfl
  have hargs : (e5_Ls.map (SV.conc (⟨[bP0, (x0.n : Int)], [], [xArr x0 1 0], [], Iv (fun i j => match i, j with | 0, 0 => x0 | _, _ => Ext.none)⟩ : Env) Loc.id)).toArray = #[.agg #[.int .i64 (5), .int .i64 bP0, x0.v]] := by
    refine congrArg List.toArray ?_
    exact (cons_eq (rows_eq rfl rfl hx0) rfl)
  rw [← hargs]
  have hok : Hyp.ok e5_Hy (⟨[bP0, (x0.n : Int)], [], [xArr x0 1 0], [], Iv (fun i j => match i, j with | 0, 0 => x0 | _, _ => Ext.none)⟩ : Env) := by
    refine ⟨?_, ?_, ?_, (fun p hp is bs xs => by simp only [e5_Hy, List.mem_cons, List.not_mem_nil, or_false] at hp; subst hp; exact sumF_rng _ _), ?_, by simp [e5_Hy]⟩
    · intro p hp
      simp only [e5_Hy, List.mem_cons, List.not_mem_nil, or_false] at hp
      rcases hp with rfl
      · exact xi_ok g0 rfl rfl rfl
    · intro p hp
      simp only [e5_Hy, List.mem_cons, List.not_mem_nil, or_false] at hp
      rcases hp with rfl | rfl | rfl
      · exact (by have hx := hex0; first | exact ⟨Int.le_of_eq hx.symm, Int.le_of_eq hx⟩ | exact hx)
      · exact rb0
      · exact xlen_rng g0
    · intro p hp
      simp only [e5_Hy, List.mem_cons, List.not_mem_nil, or_false] at hp
      rcases hp with rfl
      · exact xArr_rng g0
    · simp [e5_Hy]
  exact law_true (ρ := (⟨[bP0, (x0.n : Int)], [], [xArr x0 1 0], [], Iv (fun i j => match i, j with | 0, 0 => x0 | _, _ => Ext.none)⟩ : Env)) (G_ok _) (by kernel_rfl) e5_run rfl
    hok (by intro e he; cases he) (e5_vc x0 (bP0) ((x0.n : Int)) (xArr x0 1 0) (rb0) (xlen_rng g0) (xArr_rng g0)) w (fun i j => by rcases i with _ | i <;> rcases j with _ | j <;> first | exact Ext.none_ok _ | exact g0.ok)
def e6_Hy : Hyp := ⟨[((.v 1), (0, 1048575)), (.v 0, (-9223372036854775808, 9223372036854775807)), (.v 1, (0, 9223372036854775807))], [(0, (0, 255))], [(10, (0, 4294967295))], [], [], [(0, ⟨.v 1, [(some .u8, .av 0)]⟩)]⟩
def e6_Ls : List SV := [.agg [.one (.int .i64 (.lit (6))), .one (.int .i64 (.v 0)), .one (.xslc 0 (.lit 0) (.lit 0) (.v 1))]]

theorem e6_run : enter Try.prog G Gh 3000 40 6 e6_Hy e6_Ls [] = some ([], .s (.bool (.blit true)), none) := by kernel_rfl
theorem e6_vc (x0 : Ext) (mP0 nx0 : Int) (Ax0 : Nat → Int) (b0 : -9223372036854775808 ≤ mP0 ∧ mP0 ≤ 9223372036854775807) (b1 : 0 ≤ nx0 ∧ nx0 ≤ 9223372036854775807) (B0 : ∀ j, 0 ≤ Ax0 j ∧ Ax0 j ≤ 255) : E.b (⟨[mP0, nx0], [], [Ax0], [], Iv (fun i j => match i, j with | 0, 0 => x0 | _, _ => Ext.none)⟩ : Env) (.blit true) = true := by
  simp only [i_v, b_bv, i_lit, b_blit, i_add, i_sub, i_mul, i_div, i_mod, i_tdiv, i_tmod, i_ite, b_ite, b_lt, b_le, b_eq, b_not, b_and, b_or, b_iff, i_sel, a_tab, i_pow2, List.getD_cons_zero, List.getD_cons_succ, decide_eq_true_eq, decide_eq_false_iff_not, Bool.and_eq_true, Bool.or_eq_true, Bool.not_eq_true', Bool.not_eq_false', Bool.and_eq_false_iff, Bool.or_eq_false_iff, Bool.not_not, ite_tt, ite_ff, iff_tt, iff_ff, a_av, a_ite, a_upd]
theorem e6_calls (bP0 : Int) (rb0 : inR (krng .i64) bP0) (x0 : Ext) (hex0 : 0 ≤ ((x0.n : Int)) ∧ ((x0.n : Int)) ≤ 1048575) (w : World) (g0 : XFit x0 w [some .u8]) :
    Calls Try.prog 6 #[.agg #[.int .i64 (6), .int .i64 bP0, x0.v]] w fun r w' => r = .returned (.bool true) ∧ Below w.heap.size w w' := by
  have hx0 : SV.conc (⟨[bP0, (x0.n : Int)], [], [xArr x0 1 0], [], Iv (fun i j => match i, j with | 0, 0 => x0 | _, _ => Ext.none)⟩ : Env) Loc.id (.s (.xslc 0 (.lit 0) (.lit 0) (.v 1))) = x0.v := conc_ext g0 rfl rfl
  have hargs : (e6_Ls.map (SV.conc (⟨[bP0, (x0.n : Int)], [], [xArr x0 1 0], [], Iv (fun i j => match i, j with | 0, 0 => x0 | _, _ => Ext.none)⟩ : Env) Loc.id)).toArray = #[.agg #[.int .i64 (6), .int .i64 bP0, x0.v]] := by
    refine congrArg List.toArray ?_
    exact (cons_eq (rows_eq rfl rfl hx0) rfl)
  rw [← hargs]
  have hok : Hyp.ok e6_Hy (⟨[bP0, (x0.n : Int)], [], [xArr x0 1 0], [], Iv (fun i j => match i, j with | 0, 0 => x0 | _, _ => Ext.none)⟩ : Env) := by
    refine ⟨?_, ?_, ?_, (fun p hp is bs xs => by simp only [e6_Hy, List.mem_cons, List.not_mem_nil, or_false] at hp; subst hp; exact sumF_rng _ _), ?_, by simp [e6_Hy]⟩
    · intro p hp
      simp only [e6_Hy, List.mem_cons, List.not_mem_nil, or_false] at hp
      rcases hp with rfl
      · exact xi_ok g0 rfl rfl rfl
    · intro p hp
      simp only [e6_Hy, List.mem_cons, List.not_mem_nil, or_false] at hp
      rcases hp with rfl | rfl | rfl
      · exact (by have hx := hex0; first | exact ⟨Int.le_of_eq hx.symm, Int.le_of_eq hx⟩ | exact hx)
      · exact rb0
      · exact xlen_rng g0
    · intro p hp
      simp only [e6_Hy, List.mem_cons, List.not_mem_nil, or_false] at hp
      rcases hp with rfl
      · exact xArr_rng g0
    · simp [e6_Hy]
  exact law_true (ρ := (⟨[bP0, (x0.n : Int)], [], [xArr x0 1 0], [], Iv (fun i j => match i, j with | 0, 0 => x0 | _, _ => Ext.none)⟩ : Env)) (G_ok _) (by kernel_rfl) e6_run rfl
    hok (by intro e he; cases he) (e6_vc x0 (bP0) ((x0.n : Int)) (xArr x0 1 0) (rb0) (xlen_rng g0) (xArr_rng g0)) w (fun i j => by rcases i with _ | i <;> rcases j with _ | j <;> first | exact Ext.none_ok _ | exact g0.ok)
def e7_Hy : Hyp := ⟨[((.v 2), (0, 1048575)), (.v 0, (7, 9223372036854775807)), (.v 1, (-9223372036854775808, 9223372036854775807)), (.v 2, (0, 9223372036854775807))], [(0, (0, 255))], [(10, (0, 4294967295))], [], [], [(0, ⟨.v 2, [(some .u8, .av 0)]⟩)]⟩
def e7_Ls : List SV := [.agg [.one (.int .i64 (.v 0)), .one (.int .i64 (.v 1)), .one (.xslc 0 (.lit 0) (.lit 0) (.v 2))]]

theorem e7_run : enter Try.prog G Gh 3000 40 6 e7_Hy e7_Ls [] = some ([], .s (.bool (.blit true)), none) := by kernel_rfl
theorem e7_vc (x0 : Ext) (nP0 mP0 nx0 : Int) (Ax0 : Nat → Int) (b0 : 7 ≤ nP0 ∧ nP0 ≤ 9223372036854775807) (b1 : -9223372036854775808 ≤ mP0 ∧ mP0 ≤ 9223372036854775807) (b2 : 0 ≤ nx0 ∧ nx0 ≤ 9223372036854775807) (B0 : ∀ j, 0 ≤ Ax0 j ∧ Ax0 j ≤ 255) : E.b (⟨[nP0, mP0, nx0], [], [Ax0], [], Iv (fun i j => match i, j with | 0, 0 => x0 | _, _ => Ext.none)⟩ : Env) (.blit true) = true := by
  simp only [i_v, b_bv, i_lit, b_blit, i_add, i_sub, i_mul, i_div, i_mod, i_tdiv, i_tmod, i_ite, b_ite, b_lt, b_le, b_eq, b_not, b_and, b_or, b_iff, i_sel, a_tab, i_pow2, List.getD_cons_zero, List.getD_cons_succ, decide_eq_true_eq, decide_eq_false_iff_not, Bool.and_eq_true, Bool.or_eq_true, Bool.not_eq_true', Bool.not_eq_false', Bool.and_eq_false_iff, Bool.or_eq_false_iff, Bool.not_not, ite_tt, ite_ff, iff_tt, iff_ff, a_av, a_ite, a_upd]
theorem e7_calls (aP0 bP0 : Int) (ha0 : 7 ≤ aP0 ∧ aP0 ≤ 9223372036854775807) (rb0 : inR (krng .i64) bP0) (x0 : Ext) (hex0 : 0 ≤ ((x0.n : Int)) ∧ ((x0.n : Int)) ≤ 1048575) (w : World) (g0 : XFit x0 w [some .u8]) :
    Calls Try.prog 6 #[.agg #[.int .i64 aP0, .int .i64 bP0, x0.v]] w fun r w' => r = .returned (.bool true) ∧ Below w.heap.size w w' := by
  have hx0 : SV.conc (⟨[aP0, bP0, (x0.n : Int)], [], [xArr x0 1 0], [], Iv (fun i j => match i, j with | 0, 0 => x0 | _, _ => Ext.none)⟩ : Env) Loc.id (.s (.xslc 0 (.lit 0) (.lit 0) (.v 2))) = x0.v := conc_ext g0 rfl rfl
  have hargs : (e7_Ls.map (SV.conc (⟨[aP0, bP0, (x0.n : Int)], [], [xArr x0 1 0], [], Iv (fun i j => match i, j with | 0, 0 => x0 | _, _ => Ext.none)⟩ : Env) Loc.id)).toArray = #[.agg #[.int .i64 aP0, .int .i64 bP0, x0.v]] := by
    refine congrArg List.toArray ?_
    exact (cons_eq (rows_eq rfl rfl hx0) rfl)
  rw [← hargs]
  have hok : Hyp.ok e7_Hy (⟨[aP0, bP0, (x0.n : Int)], [], [xArr x0 1 0], [], Iv (fun i j => match i, j with | 0, 0 => x0 | _, _ => Ext.none)⟩ : Env) := by
    refine ⟨?_, ?_, ?_, (fun p hp is bs xs => by simp only [e7_Hy, List.mem_cons, List.not_mem_nil, or_false] at hp; subst hp; exact sumF_rng _ _), ?_, by simp [e7_Hy]⟩
    · intro p hp
      simp only [e7_Hy, List.mem_cons, List.not_mem_nil, or_false] at hp
      rcases hp with rfl
      · exact xi_ok g0 rfl rfl rfl
    · intro p hp
      simp only [e7_Hy, List.mem_cons, List.not_mem_nil, or_false] at hp
      rcases hp with rfl | rfl | rfl | rfl
      · exact (by have hx := hex0; first | exact ⟨Int.le_of_eq hx.symm, Int.le_of_eq hx⟩ | exact hx)
      · exact ha0
      · exact rb0
      · exact xlen_rng g0
    · intro p hp
      simp only [e7_Hy, List.mem_cons, List.not_mem_nil, or_false] at hp
      rcases hp with rfl
      · exact xArr_rng g0
    · simp [e7_Hy]
  exact law_true (ρ := (⟨[aP0, bP0, (x0.n : Int)], [], [xArr x0 1 0], [], Iv (fun i j => match i, j with | 0, 0 => x0 | _, _ => Ext.none)⟩ : Env)) (G_ok _) (by kernel_rfl) e7_run rfl
    hok (by intro e he; cases he) (e7_vc x0 (aP0) (bP0) ((x0.n : Int)) (xArr x0 1 0) (ha0) (rb0) (xlen_rng g0) (xArr_rng g0)) w (fun i j => by rcases i with _ | i <;> rcases j with _ | j <;> first | exact Ext.none_ok _ | exact g0.ok)
def e8_Hy : Hyp := ⟨[((.v 2), (0, 1048575)), (.v 0, (-9223372036854775808, -1)), (.v 1, (-9223372036854775808, 9223372036854775807)), (.v 2, (0, 9223372036854775807))], [(0, (0, 255))], [(10, (0, 4294967295))], [], [], [(0, ⟨.v 2, [(some .u8, .av 0)]⟩)]⟩
def e8_Ls : List SV := [.agg [.one (.int .i64 (.v 0)), .one (.int .i64 (.v 1)), .one (.xslc 0 (.lit 0) (.lit 0) (.v 2))]]

theorem e8_run : enter Try.prog G Gh 3000 40 6 e8_Hy e8_Ls [] = some ([], .s (.bool (.blit true)), none) := by kernel_rfl
theorem e8_vc (x0 : Ext) (nP0 mP0 nx0 : Int) (Ax0 : Nat → Int) (b0 : -9223372036854775808 ≤ nP0 ∧ nP0 ≤ -1) (b1 : -9223372036854775808 ≤ mP0 ∧ mP0 ≤ 9223372036854775807) (b2 : 0 ≤ nx0 ∧ nx0 ≤ 9223372036854775807) (B0 : ∀ j, 0 ≤ Ax0 j ∧ Ax0 j ≤ 255) : E.b (⟨[nP0, mP0, nx0], [], [Ax0], [], Iv (fun i j => match i, j with | 0, 0 => x0 | _, _ => Ext.none)⟩ : Env) (.blit true) = true := by
  simp only [i_v, b_bv, i_lit, b_blit, i_add, i_sub, i_mul, i_div, i_mod, i_tdiv, i_tmod, i_ite, b_ite, b_lt, b_le, b_eq, b_not, b_and, b_or, b_iff, i_sel, a_tab, i_pow2, List.getD_cons_zero, List.getD_cons_succ, decide_eq_true_eq, decide_eq_false_iff_not, Bool.and_eq_true, Bool.or_eq_true, Bool.not_eq_true', Bool.not_eq_false', Bool.and_eq_false_iff, Bool.or_eq_false_iff, Bool.not_not, ite_tt, ite_ff, iff_tt, iff_ff, a_av, a_ite, a_upd]
theorem e8_calls (aP0 bP0 : Int) (ha0 : -9223372036854775808 ≤ aP0 ∧ aP0 ≤ -1) (rb0 : inR (krng .i64) bP0) (x0 : Ext) (hex0 : 0 ≤ ((x0.n : Int)) ∧ ((x0.n : Int)) ≤ 1048575) (w : World) (g0 : XFit x0 w [some .u8]) :
    Calls Try.prog 6 #[.agg #[.int .i64 aP0, .int .i64 bP0, x0.v]] w fun r w' => r = .returned (.bool true) ∧ Below w.heap.size w w' := by
  have hx0 : SV.conc (⟨[aP0, bP0, (x0.n : Int)], [], [xArr x0 1 0], [], Iv (fun i j => match i, j with | 0, 0 => x0 | _, _ => Ext.none)⟩ : Env) Loc.id (.s (.xslc 0 (.lit 0) (.lit 0) (.v 2))) = x0.v := conc_ext g0 rfl rfl
  have hargs : (e8_Ls.map (SV.conc (⟨[aP0, bP0, (x0.n : Int)], [], [xArr x0 1 0], [], Iv (fun i j => match i, j with | 0, 0 => x0 | _, _ => Ext.none)⟩ : Env) Loc.id)).toArray = #[.agg #[.int .i64 aP0, .int .i64 bP0, x0.v]] := by
    refine congrArg List.toArray ?_
    exact (cons_eq (rows_eq rfl rfl hx0) rfl)
  rw [← hargs]
  have hok : Hyp.ok e8_Hy (⟨[aP0, bP0, (x0.n : Int)], [], [xArr x0 1 0], [], Iv (fun i j => match i, j with | 0, 0 => x0 | _, _ => Ext.none)⟩ : Env) := by
    refine ⟨?_, ?_, ?_, (fun p hp is bs xs => by simp only [e8_Hy, List.mem_cons, List.not_mem_nil, or_false] at hp; subst hp; exact sumF_rng _ _), ?_, by simp [e8_Hy]⟩
    · intro p hp
      simp only [e8_Hy, List.mem_cons, List.not_mem_nil, or_false] at hp
      rcases hp with rfl
      · exact xi_ok g0 rfl rfl rfl
    · intro p hp
      simp only [e8_Hy, List.mem_cons, List.not_mem_nil, or_false] at hp
      rcases hp with rfl | rfl | rfl | rfl
      · exact (by have hx := hex0; first | exact ⟨Int.le_of_eq hx.symm, Int.le_of_eq hx⟩ | exact hx)
      · exact ha0
      · exact rb0
      · exact xlen_rng g0
    · intro p hp
      simp only [e8_Hy, List.mem_cons, List.not_mem_nil, or_false] at hp
      rcases hp with rfl
      · exact xArr_rng g0
    · simp [e8_Hy]
  exact law_true (ρ := (⟨[aP0, bP0, (x0.n : Int)], [], [xArr x0 1 0], [], Iv (fun i j => match i, j with | 0, 0 => x0 | _, _ => Ext.none)⟩ : Env)) (G_ok _) (by kernel_rfl) e8_run rfl
    hok (by intro e he; cases he) (e8_vc x0 (aP0) (bP0) ((x0.n : Int)) (xArr x0 1 0) (ha0) (rb0) (xlen_rng g0) (xArr_rng g0)) w (fun i j => by rcases i with _ | i <;> rcases j with _ | j <;> first | exact Ext.none_ok _ | exact g0.ok)
theorem calls (aP0 bP0 : Int) (ra0 : inR (krng .i64) aP0) (rb0 : inR (krng .i64) bP0) (x0 : Ext) (w : World) (g0 : XFit x0 w [some .u8]) (m0 : (x0.n : Int) ≤ 1048575) :
    Calls Try.prog 6 #[.agg #[.int .i64 aP0, .int .i64 bP0, x0.v]] w fun r w' => r = .returned (.bool true) ∧ Below w.heap.size w w' := by
  have hr := ra0
  simp only [inR, krng, kmin, kmax] at hr
  have b0 : 0 ≤ (x0.n : Int) ∧ (x0.n : Int) ≤ 1048575 := by omega
  rcases (show aP0 = 0 ∨ aP0 = 1 ∨ aP0 = 2 ∨ aP0 = 3 ∨ aP0 = 4 ∨ aP0 = 5 ∨ aP0 = 6 ∨ (7 ≤ aP0 ∧ aP0 ≤ 9223372036854775807) ∨ (-9223372036854775808 ≤ aP0 ∧ aP0 ≤ -1) by omega) with rfl | rfl | rfl | rfl | rfl | rfl | rfl | h | h
  · exact e0_calls bP0 rb0 x0 b0 w g0
  · exact e1_calls bP0 rb0 x0 b0 w g0
  · exact e2_calls bP0 rb0 x0 b0 w g0
  · exact e3_calls bP0 rb0 x0 b0 w g0
  · exact e4_calls bP0 rb0 x0 b0 w g0
  · exact e5_calls bP0 rb0 x0 b0 w g0
  · exact e6_calls bP0 rb0 x0 b0 w g0
  · exact e7_calls aP0 bP0 h rb0 x0 b0 w g0
  · exact e8_calls aP0 bP0 h rb0 x0 b0 w g0

theorem bulk_one {H : Type} (d : DataW H) : 1 ≤ Rows.uptoBulk d := by
  cases d with
  | lit l => cases l <;> simp [Rows.uptoBulk]
  | _ => simp [Rows.uptoBulk]
theorem bulk_all {H : Type} (l : List (DataW H)) : l.length ≤ Rows.uptoBulkAll l := by
  induction l with
  | nil => simp [Rows.uptoBulkAll]
  | cons x r ih => have := bulk_one x; simp only [Rows.uptoBulkAll, List.length_cons]; omega
theorem bulk_len {H : Type} {n : Nat} {d : DataW H} (h : n = 0 ∨ ∃ l sp, d = .slice l sp ∧ l.length = n) : n + 1 ≤ Rows.uptoBulk d := by
  rcases h with rfl | ⟨l, sp, rfl, rfl⟩
  · exact bulk_one d
  · have := bulk_all l
    simp only [Rows.uptoBulk]; omega
theorem bulk_at {H : Type} : ∀ (l : List (DataW H)) (j : Nat) (d : DataW H), l[j]? = some d → Rows.uptoBulk d ≤ Rows.uptoBulkAll l
  | [], j, d, h => by simp at h
  | x :: r, 0, d, h => by
    simp only [List.getElem?_cons_zero, Option.some.injEq] at h; subst h
    simp only [Rows.uptoBulkAll]; omega
  | x :: r, j + 1, d, h => by
    have := bulk_at r j d (by simpa using h)
    simp only [Rows.uptoBulkAll]; omega
theorem bulk_put {H : Type} {n : Nat} {d : DataW H} (h : n = 0 ∨ ∃ parts l sp, d = .agg parts ∧ parts[2]? = some (.slice l sp) ∧ l.length = n) : n + 1 ≤ Rows.uptoBulk d := by
  rcases h with rfl | ⟨parts, l, sp, rfl, hp, rfl⟩
  · exact bulk_one d
  · have h1 := bulk_at parts 2 _ hp
    have h2 := bulk_all l
    simp only [Rows.uptoBulk] at h1 ⊢; omega
theorem own : ownKnob Try.prog.godebug = none := by kernel_rfl
theorem lifted (os : Os) (started : os.Started) (H : Type) (enc : TypeId × Value → H) (F : Stop.Interp) :
    ReturnsInHanded {} Try.checked os 6 .any ((Rows.OpenSpec.upto Rows.saveNilSpec).pre6 enc Try.prog Try.f6 Rows.saveNilUptoRow.domain false) (((Rows.OpenSpec.upto Rows.saveNilSpec).at F).post enc Try.prog Try.f6 false true false false) := by
  refine returnsInHanded_of_cond (C := Try.checked) (s := Rows.OpenSpec.upto Rows.saveNilSpec) (k := Rows.uptoSmall) rfl own started (by kernel_rfl) Try.func6
    (OpenSpec.witness (enc := enc) (C := Try.checked) (s := Rows.OpenSpec.upto Rows.saveNilSpec) (k := Rows.uptoSmall) rfl false ⟨#[], #[.agg #[.int .i64 0, .int .i64 0, .slice none 0 0]], []⟩ 8 (by kernel_rfl) (by kernel_rfl) (by kernel_rfl)
      (x := ([.agg [.lit (.int .i64 0), .lit (.int .i64 0), .nil]], [], [])) (by kernel_rfl) rfl (by kernel_rfl)) ?_
  intro W base args ds gs before hval0 hW _ hk _
  have hval : ∀ (j : Nat) t v, Try.f6.params[j]? = some t → args[j]? = some v → Value.okWide Try.prog W .any base t v := hval0
  have hW' := hW
  obtain ⟨p, q, hA0, hV, rfl, hfz, hnd⟩ := hW
  have hA1 : DataW.TrodAll enc Try.prog W 0 (fun _ => true) true Try.f6.params.toList args.toList ds p := hA0
  rw [Try.params6] at hA1 hval
  obtain ⟨v0, vs0, d0, ds0, p0, q0, hargs, rfl, rfl, h0, r0⟩ := trodAll_cons hA1
  obtain ⟨rfl, rfl, rfl⟩ := trodAll_nil r0
  obtain rfl : args = #[v0] := by cases args; simp_all
  obtain ⟨aP0, bP0, x0, rfl, ra0, rb0, g0, u0⟩ := open_put (k0 := .i64) (k1 := .i64) (k2 := some .u8) 8 Try.underlying32 (by kernel_rfl) rfl Try.underlying25 (by kernel_rfl) (by kernel_rfl) (by kernel_rfl) (by kernel_rfl) (by kernel_rfl) (hval 0 32 v0 rfl rfl) h0
  obtain ⟨rfl, rfl⟩ := trodVars_none hV
  have hk2 : Rows.uptoBulkAll _ ≤ 1048576 := of_decide_eq_true hk
  simp only [List.append_nil, Rows.uptoBulkAll] at hk2
  have m0 : (x0.n : Int) ≤ 1048575 := by
    have := bulk_put u0
    omega
  refine (calls aP0 bP0 ra0 rb0 x0 W g0 m0).mono fun e W' ⟨he, hb⟩ => ⟨_, he, ?_⟩
  exact law_post (by kernel_rfl) (by kernel_rfl) rfl (by kernel_rfl) Try.underlying4 rfl hW' hb
theorem proved : Rows.SaveNilUptoSaid :=
  OpenClaim.holds_of_cond 6 Try.f6 rfl rfl rfl rfl rfl rfl rfl ⟨rfl, rfl, rfl, rfl, rfl⟩ rfl rfl rfl rfl rfl (by kernel_rfl) Try.func6 (by kernel_rfl)
    (of_decide_eq_true (by kernel_rfl)) (by unfold Func.isWrapper; first | (rw [if_pos (by decide +kernel)]; kernel_rfl) | (rw [if_neg (by decide +kernel)]; exact ⟨rfl, rfl⟩))
    (fun os started H enc _ F => lifted os started H enc F)
#print axioms proved
end Go.Proofs.Ytflamojcdfmimaa.SaveNil
