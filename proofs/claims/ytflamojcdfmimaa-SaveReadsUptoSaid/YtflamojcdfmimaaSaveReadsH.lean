/- A part of the law SaveReads, which returns true for every input. A reader of whatever bytes answers, call by call in every order, what the document says, and stands where it says. Where what comes in is of bulk at most 1048576. No condition. -/
import Derived.Test.YtflamojcdfmimaaSaveReads0
namespace Go.Proofs.Ytflamojcdfmimaa.SaveReads
open Go.Sx Go.ChangeShapes Go.WideShapes Go.ChangeAt Go.RowKit
set_option linter.unusedVariables false
set_option linter.unusedSimpArgs false
set_option maxRecDepth 100000
def hHy : Hyp := ⟨[((.v 0), (0, 12)), (.v 0, (0, 9223372036854775807)), (.v 1, (0, 1048575))], [(0, (0, 255)), (1, (-9223372036854775808, 9223372036854775807)), (2, (-9223372036854775808, 9223372036854775807)), (3, (0, 1048575)), (4, (0, 255))], [(10, (0, 4294967295))], [], [], [(0, ⟨.v 0, [(some .u8, .av 0)], []⟩), (1, ⟨.v 1, [(some .i64, .av 1), (some .i64, .av 2)], [(2, .av 3, .av 4)]⟩)]⟩
def hLs : List SV := [.s (.xslc 0 (.lit 0) (.lit 0) (.v 0)), .s (.xslc 1 (.lit 0) (.lit 0) (.v 1))]

theorem hrun : enter Try.prog G Gh 3000 30 5 hHy hLs [] = some ([], .s (.bool (.blit true)), none) := by kernel_rfl
theorem hvc (x0 : Ext) (x1 : Ext) (Y1 : Nat → Ext) (nx0 nx1 : Int) (Ax0 Ax1_0 Ax1_1 Ax1_2 Ax1_3 : Nat → Int) (b0 : 0 ≤ nx0 ∧ nx0 ≤ 9223372036854775807) (b1 : 0 ≤ nx1 ∧ nx1 ≤ 1048575) (B0 : ∀ j, 0 ≤ Ax0 j ∧ Ax0 j ≤ 255) (B1 : ∀ j, -9223372036854775808 ≤ Ax1_0 j ∧ Ax1_0 j ≤ 9223372036854775807) (B2 : ∀ j, -9223372036854775808 ≤ Ax1_1 j ∧ Ax1_1 j ≤ 9223372036854775807) (B3 : ∀ j, 0 ≤ Ax1_2 j ∧ Ax1_2 j ≤ 1048575) (B4 : ∀ j, 0 ≤ Ax1_3 j ∧ Ax1_3 j ≤ 255) : E.b (⟨[nx0, nx1], [], [Ax0, Ax1_0, Ax1_1, Ax1_2, Ax1_3], [], Iv (fun i j => match i, j with | 0, 0 => x0 | 1, 0 => x1 | 2, j => Y1 j | _, _ => Ext.none)⟩ : Env) (.blit true) = true := by
  simp only [i_v, b_bv, i_lit, b_blit, i_add, i_sub, i_mul, i_div, i_mod, i_tdiv, i_tmod, i_ite, b_ite, b_lt, b_le, b_eq, b_not, b_and, b_or, b_iff, i_sel, a_tab, i_pow2, List.getD_cons_zero, List.getD_cons_succ, decide_eq_true_eq, decide_eq_false_iff_not, Bool.and_eq_true, Bool.or_eq_true, Bool.not_eq_true', Bool.not_eq_false', Bool.and_eq_false_iff, Bool.or_eq_false_iff, Bool.not_not, ite_tt, ite_ff, iff_tt, iff_ff, a_av, a_ite, a_upd]
theorem hcalls (x0 : Ext) (x1 : Ext) (Y1 : Nat → Ext) (hex0 : 0 ≤ ((x0.n : Int)) ∧ ((x0.n : Int)) ≤ 12) (w : World) (g0 : XFit x0 w [some .u8]) (g1 : PFit x1 Y1 w) :
    Calls Try.prog 5 #[x0.v, x1.v] w fun r w' => r = .returned (.bool true) ∧ Below w.heap.size w w' := by
  have hx0 : SV.conc (⟨[(x0.n : Int), (x1.n : Int)], [], [xArr x0 1 0, xArr x1 3 0, xArr x1 3 1, nLen Y1, nArr Y1], [], Iv (fun i j => match i, j with | 0, 0 => x0 | 1, 0 => x1 | 2, j => Y1 j | _, _ => Ext.none)⟩ : Env) Loc.id (.s (.xslc 0 (.lit 0) (.lit 0) (.v 0))) = x0.v := conc_ext g0 rfl rfl
  have hx1 : SV.conc (⟨[(x0.n : Int), (x1.n : Int)], [], [xArr x0 1 0, xArr x1 3 0, xArr x1 3 1, nLen Y1, nArr Y1], [], Iv (fun i j => match i, j with | 0, 0 => x0 | 1, 0 => x1 | 2, j => Y1 j | _, _ => Ext.none)⟩ : Env) Loc.id (.s (.xslc 1 (.lit 0) (.lit 0) (.v 1))) = x1.v := conc_extP g1 rfl rfl
  have hargs : (hLs.map (SV.conc (⟨[(x0.n : Int), (x1.n : Int)], [], [xArr x0 1 0, xArr x1 3 0, xArr x1 3 1, nLen Y1, nArr Y1], [], Iv (fun i j => match i, j with | 0, 0 => x0 | 1, 0 => x1 | 2, j => Y1 j | _, _ => Ext.none)⟩ : Env) Loc.id)).toArray = #[x0.v, x1.v] := by
    refine congrArg List.toArray ?_
    exact (cons_eq hx0 (cons_eq hx1 rfl))
  rw [← hargs]
  have hok : Hyp.ok hHy (⟨[(x0.n : Int), (x1.n : Int)], [], [xArr x0 1 0, xArr x1 3 0, xArr x1 3 1, nLen Y1, nArr Y1], [], Iv (fun i j => match i, j with | 0, 0 => x0 | 1, 0 => x1 | 2, j => Y1 j | _, _ => Ext.none)⟩ : Env) := by
    refine ⟨?_, ?_, ?_, (fun p hp is bs xs => by simp only [hHy, List.mem_cons, List.not_mem_nil, or_false] at hp; subst hp; exact sumF_rng _ _), ?_, by simp [hHy]⟩
    · intro p hp
      simp only [hHy, List.mem_cons, List.not_mem_nil, or_false] at hp
      rcases hp with rfl | rfl
      · exact xi_ok g0 rfl rfl rfl
      · exact (xi_okP (n := .v 1) g1 rfl (fun _ => rfl) rfl rfl rfl rfl rfl)
    · intro p hp
      simp only [hHy, List.mem_cons, List.not_mem_nil, or_false] at hp
      rcases hp with rfl | rfl | rfl
      · exact (by have hx := hex0; first | exact ⟨Int.le_of_eq hx.symm, Int.le_of_eq hx⟩ | exact hx)
      · exact xlen_rng g0
      · exact plen_rng g1
    · intro p hp
      simp only [hHy, List.mem_cons, List.not_mem_nil, or_false] at hp
      rcases hp with rfl | rfl | rfl | rfl | rfl
      · exact xArr_rng g0
      · exact pnum_rng g1.1 0 (by decide)
      · exact pnum_rng g1.1 1 (by decide)
      · exact nLen_rng g1
      · exact nArr_rng g1.1
    · simp [hHy]
  exact law_true (ρ := (⟨[(x0.n : Int), (x1.n : Int)], [], [xArr x0 1 0, xArr x1 3 0, xArr x1 3 1, nLen Y1, nArr Y1], [], Iv (fun i j => match i, j with | 0, 0 => x0 | 1, 0 => x1 | 2, j => Y1 j | _, _ => Ext.none)⟩ : Env)) (G_ok _) (by kernel_rfl) hrun rfl
    hok (by intro e he; cases he) (hvc x0 x1 Y1 ((x0.n : Int)) ((x1.n : Int)) (xArr x0 1 0) (xArr x1 3 0) (xArr x1 3 1) (nLen Y1) (nArr Y1) (xlen_rng g0) (plen_rng g1) (xArr_rng g0) (pnum_rng g1.1 0 (by decide)) (pnum_rng g1.1 1 (by decide)) (nLen_rng g1) (nArr_rng g1.1)) w (fun i j => by rcases i with _ | _ | _ | i <;> rcases j with _ | j <;> first | exact Ext.none_ok _ | exact g0.ok | exact g1.ok | exact (g1.row _).ok)
end Go.Proofs.Ytflamojcdfmimaa.SaveReads
