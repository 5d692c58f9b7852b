/- A part of the law VramLoads, which returns true for every input. A state that is handed in is taken just if it can be; else the memories have not changed; it is saved as the same bytes. No condition. -/
import Derived.Test.YtjegnoknenahpaaVramLoads0
namespace Go.Proofs.Ytjegnoknenahpaa.VramLoads
open Go.Sx Go.ChangeShapes Go.WideShapes Go.ChangeAt Go.RowKit
set_option linter.unusedVariables false
set_option linter.unusedSimpArgs false
set_option maxRecDepth 100000
def ah0Env (c0 : List Value) (a1 : Int) : Env := (⟨[intV (c0.getD 33568 Go.undef), intV (c0.getD 33570 Go.undef), intV (c0.getD 33571 Go.undef), intV (c0.getD 33572 Go.undef), intV (c0.getD 33573 Go.undef), intV (c0.getD 33574 Go.undef), intV (c0.getD 33575 Go.undef), intV (c0.getD 33576 Go.undef), a1], [boolV (c0.getD 33569 Go.undef)], [arrOf c0 0 32768, arrOf c0 32768 544, arrOf c0 33312 256], [], Iv (fun _ _ => Ext.none)⟩ : Env)
def ah0Hy : Hyp := ⟨[((.v 4), (0, 65535)), ((.v 0), (512, 65535)), ((.v 1), (0, 65535)), ((.v 6), (0, 65535)), (.v 0, (-9223372036854775808, 9223372036854775807)), (.v 1, (-9223372036854775808, 9223372036854775807)), (.v 2, (0, 255)), (.v 3, (0, 255)), (.v 4, (-9223372036854775808, 9223372036854775807)), (.v 5, (0, 65535)), (.v 6, (-9223372036854775808, 9223372036854775807)), (.v 7, (0, 255)), (.v 8, (-9223372036854775808, 0))], [(0, (0, 65535)), (1, (0, 255)), (2, (0, 65535))], [(10, (0, 4294967295))], [(50, (0, 255))], [], []⟩
def ah0Ls : List SV := [.agg (pcSegs 0 0 0 Pc0), .s (.int .i64 (.v 8))]

theorem ah0run : enter Try.prog G Gh 3000 60 6 ah0Hy ah0Ls [] = some ([], .s (.bool (.blit true)), none) := by kernel_rfl
theorem ah0vc (n0_3 n0_5 n0_6 n0_7 n0_8 n0_9 n0_10 n0_11 a1 : Int) (p0 : Bool) (A0 A1 A2 : Nat → Int) (b0 : -9223372036854775808 ≤ n0_3 ∧ n0_3 ≤ 9223372036854775807) (b1 : -9223372036854775808 ≤ n0_5 ∧ n0_5 ≤ 9223372036854775807) (b2 : 0 ≤ n0_6 ∧ n0_6 ≤ 255) (b3 : 0 ≤ n0_7 ∧ n0_7 ≤ 255) (b4 : -9223372036854775808 ≤ n0_8 ∧ n0_8 ≤ 9223372036854775807) (b5 : 0 ≤ n0_9 ∧ n0_9 ≤ 65535) (b6 : -9223372036854775808 ≤ n0_10 ∧ n0_10 ≤ 9223372036854775807) (b7 : 0 ≤ n0_11 ∧ n0_11 ≤ 255) (b8 : -9223372036854775808 ≤ a1 ∧ a1 ≤ 0) (B0 : ∀ j, 0 ≤ A0 j ∧ A0 j ≤ 65535) (B1 : ∀ j, 0 ≤ A1 j ∧ A1 j ≤ 255) (B2 : ∀ j, 0 ≤ A2 j ∧ A2 j ≤ 65535) : E.b (⟨[n0_3, n0_5, n0_6, n0_7, n0_8, n0_9, n0_10, n0_11, a1], [p0], [A0, A1, A2], [], Iv (fun _ _ => Ext.none)⟩ : Env) (.blit true) = true := by
  simp only [i_v, b_bv, i_lit, b_blit, i_add, i_sub, i_mul, i_div, i_mod, i_tdiv, i_tmod, i_ite, b_ite, b_lt, b_le, b_eq, b_not, b_and, b_or, b_iff, i_sel, a_tab, i_pow2, List.getD_cons_zero, List.getD_cons_succ, decide_eq_true_eq, decide_eq_false_iff_not, Bool.and_eq_true, Bool.or_eq_true, Bool.not_eq_true', Bool.not_eq_false', Bool.and_eq_false_iff, Bool.or_eq_false_iff, Bool.not_not, ite_tt, ite_ff, iff_tt, iff_ff, a_av, a_ite, a_upd]
theorem ah0calls (c0 : List Value) (l0 : c0.length = pcTotal Pc0) (f0 : PcFit c0 0 Pc0) (a1 : Int) (w1 : -9223372036854775808 ≤ a1 ∧ a1 ≤ 0) (hex0 : 0 ≤ (intV (c0.getD 33573 Go.undef)) ∧ (intV (c0.getD 33573 Go.undef)) ≤ 65535) (hex1 : 512 ≤ (intV (c0.getD 33568 Go.undef)) ∧ (intV (c0.getD 33568 Go.undef)) ≤ 65535) (hex2 : 0 ≤ (intV (c0.getD 33570 Go.undef)) ∧ (intV (c0.getD 33570 Go.undef)) ≤ 65535) (hex3 : 0 ≤ (intV (c0.getD 33575 Go.undef)) ∧ (intV (c0.getD 33575 Go.undef)) ≤ 65535) (w : World) :
    Calls Try.prog 6 #[.agg c0.toArray, .int .i64 a1] w fun r w' => r = .returned (.bool true) ∧ Below w.heap.size w w' := by
  have hc0 : cellsOf (ah0Env c0 a1) Loc.id (pcSegs 0 0 0 Pc0) = c0 := by
    rw [pc_cells Pc0 0 0 0 0 f0 (by intro j hj; rcases j with _ | _ | _ | j <;> first | rfl | (simp [Pc0, pcA, pcB, pcI] at hj <;> omega)) (by intro j hj; rcases j with _ | j <;> first | rfl | (simp [Pc0, pcA, pcB, pcI] at hj <;> omega)) (by intro j hj; rcases j with _ | _ | _ | _ | _ | _ | _ | _ | j <;> first | rfl | (simp [Pc0, pcA, pcB, pcI] at hj <;> omega)), List.drop_zero, ← l0, List.take_length]
  have hargs : (ah0Ls.map (SV.conc (ah0Env c0 a1) Loc.id)).toArray = #[.agg c0.toArray, .int .i64 a1] := by
    refine congrArg List.toArray ?_
    exact (cons_eq (congrArg (fun l => Value.agg (List.toArray l)) hc0) (cons_eq rfl rfl))
  rw [← hargs]
  have hok : Hyp.ok ah0Hy (ah0Env c0 a1) := by
    refine ⟨?_, ?_, ?_, (fun p hp is bs xs => by simp only [ah0Hy, List.mem_cons, List.not_mem_nil, or_false] at hp; subst hp; exact sumF_rng _ _), ?_, by simp [ah0Hy]⟩
    · simp [ah0Hy]
    · intro p hp
      simp only [ah0Hy, List.mem_cons, List.not_mem_nil, or_false] at hp
      rcases hp with rfl | rfl | rfl | rfl | rfl | rfl | rfl | rfl | rfl | rfl | rfl | rfl | rfl
      · exact (by have hx := hex0; first | exact ⟨Int.le_of_eq hx.symm, Int.le_of_eq hx⟩ | exact hx)
      · exact (by have hx := hex1; first | exact ⟨Int.le_of_eq hx.symm, Int.le_of_eq hx⟩ | exact hx)
      · exact (by have hx := hex2; first | exact ⟨Int.le_of_eq hx.symm, Int.le_of_eq hx⟩ | exact hx)
      · exact (by have hx := hex3; first | exact ⟨Int.le_of_eq hx.symm, Int.le_of_eq hx⟩ | exact hx)
      · exact num_rng (f0.tail.tail.tail)
      · exact num_rng (f0.tail.tail.tail.tail.tail)
      · exact num_rng (f0.tail.tail.tail.tail.tail.tail)
      · exact num_rng (f0.tail.tail.tail.tail.tail.tail.tail)
      · exact num_rng (f0.tail.tail.tail.tail.tail.tail.tail.tail)
      · exact num_rng (f0.tail.tail.tail.tail.tail.tail.tail.tail.tail)
      · exact num_rng (f0.tail.tail.tail.tail.tail.tail.tail.tail.tail.tail)
      · exact num_rng (f0.tail.tail.tail.tail.tail.tail.tail.tail.tail.tail.tail)
      · exact w1
    · intro p hp
      simp only [ah0Hy, List.mem_cons, List.not_mem_nil, or_false] at hp
      rcases hp with rfl | rfl | rfl
      · exact arrOf_rng (f0)
      · exact arrOf_rng (f0.tail)
      · exact arrOf_rng (f0.tail.tail)
    · intro p hp is bs xs j
      simp only [ah0Hy, List.mem_cons, List.not_mem_nil, or_false] at hp
      subst hp
      exact rowB_rng _ j
  exact law_true (ρ := (ah0Env c0 a1)) (G_ok _) (by kernel_rfl) ah0run rfl
    hok (by intro e he; cases he) rfl w (fun i j => Ext.none_ok _)
def ah1Env (c0 : List Value) (a1 : Int) : Env := (⟨[intV (c0.getD 33568 Go.undef), intV (c0.getD 33570 Go.undef), intV (c0.getD 33571 Go.undef), intV (c0.getD 33572 Go.undef), intV (c0.getD 33573 Go.undef), intV (c0.getD 33574 Go.undef), intV (c0.getD 33575 Go.undef), intV (c0.getD 33576 Go.undef), a1], [boolV (c0.getD 33569 Go.undef)], [arrOf c0 0 32768, arrOf c0 32768 544, arrOf c0 33312 256], [], Iv (fun _ _ => Ext.none)⟩ : Env)
def ah1Hy : Hyp := ⟨[((.v 4), (0, 65535)), ((.v 0), (0, 511)), ((.v 1), (1024, 65535)), ((.v 6), (0, 65535)), (.v 0, (-9223372036854775808, 9223372036854775807)), (.v 1, (-9223372036854775808, 9223372036854775807)), (.v 2, (0, 255)), (.v 3, (0, 255)), (.v 4, (-9223372036854775808, 9223372036854775807)), (.v 5, (0, 65535)), (.v 6, (-9223372036854775808, 9223372036854775807)), (.v 7, (0, 255)), (.v 8, (-9223372036854775808, 0))], [(0, (0, 65535)), (1, (0, 255)), (2, (0, 65535))], [(10, (0, 4294967295))], [(50, (0, 255))], [], []⟩
def ah1Ls : List SV := [.agg (pcSegs 0 0 0 Pc0), .s (.int .i64 (.v 8))]

theorem ah1run : enter Try.prog G Gh 3000 60 6 ah1Hy ah1Ls [] = some ([], .s (.bool (.blit true)), none) := by kernel_rfl
theorem ah1vc (n0_3 n0_5 n0_6 n0_7 n0_8 n0_9 n0_10 n0_11 a1 : Int) (p0 : Bool) (A0 A1 A2 : Nat → Int) (b0 : -9223372036854775808 ≤ n0_3 ∧ n0_3 ≤ 9223372036854775807) (b1 : -9223372036854775808 ≤ n0_5 ∧ n0_5 ≤ 9223372036854775807) (b2 : 0 ≤ n0_6 ∧ n0_6 ≤ 255) (b3 : 0 ≤ n0_7 ∧ n0_7 ≤ 255) (b4 : -9223372036854775808 ≤ n0_8 ∧ n0_8 ≤ 9223372036854775807) (b5 : 0 ≤ n0_9 ∧ n0_9 ≤ 65535) (b6 : -9223372036854775808 ≤ n0_10 ∧ n0_10 ≤ 9223372036854775807) (b7 : 0 ≤ n0_11 ∧ n0_11 ≤ 255) (b8 : -9223372036854775808 ≤ a1 ∧ a1 ≤ 0) (B0 : ∀ j, 0 ≤ A0 j ∧ A0 j ≤ 65535) (B1 : ∀ j, 0 ≤ A1 j ∧ A1 j ≤ 255) (B2 : ∀ j, 0 ≤ A2 j ∧ A2 j ≤ 65535) : E.b (⟨[n0_3, n0_5, n0_6, n0_7, n0_8, n0_9, n0_10, n0_11, a1], [p0], [A0, A1, A2], [], Iv (fun _ _ => Ext.none)⟩ : Env) (.blit true) = true := by
  simp only [i_v, b_bv, i_lit, b_blit, i_add, i_sub, i_mul, i_div, i_mod, i_tdiv, i_tmod, i_ite, b_ite, b_lt, b_le, b_eq, b_not, b_and, b_or, b_iff, i_sel, a_tab, i_pow2, List.getD_cons_zero, List.getD_cons_succ, decide_eq_true_eq, decide_eq_false_iff_not, Bool.and_eq_true, Bool.or_eq_true, Bool.not_eq_true', Bool.not_eq_false', Bool.and_eq_false_iff, Bool.or_eq_false_iff, Bool.not_not, ite_tt, ite_ff, iff_tt, iff_ff, a_av, a_ite, a_upd]
theorem ah1calls (c0 : List Value) (l0 : c0.length = pcTotal Pc0) (f0 : PcFit c0 0 Pc0) (a1 : Int) (w1 : -9223372036854775808 ≤ a1 ∧ a1 ≤ 0) (hex0 : 0 ≤ (intV (c0.getD 33573 Go.undef)) ∧ (intV (c0.getD 33573 Go.undef)) ≤ 65535) (hex1 : 0 ≤ (intV (c0.getD 33568 Go.undef)) ∧ (intV (c0.getD 33568 Go.undef)) ≤ 511) (hex2 : 1024 ≤ (intV (c0.getD 33570 Go.undef)) ∧ (intV (c0.getD 33570 Go.undef)) ≤ 65535) (hex3 : 0 ≤ (intV (c0.getD 33575 Go.undef)) ∧ (intV (c0.getD 33575 Go.undef)) ≤ 65535) (w : World) :
    Calls Try.prog 6 #[.agg c0.toArray, .int .i64 a1] w fun r w' => r = .returned (.bool true) ∧ Below w.heap.size w w' := by
  have hc0 : cellsOf (ah1Env c0 a1) Loc.id (pcSegs 0 0 0 Pc0) = c0 := by
    rw [pc_cells Pc0 0 0 0 0 f0 (by intro j hj; rcases j with _ | _ | _ | j <;> first | rfl | (simp [Pc0, pcA, pcB, pcI] at hj <;> omega)) (by intro j hj; rcases j with _ | j <;> first | rfl | (simp [Pc0, pcA, pcB, pcI] at hj <;> omega)) (by intro j hj; rcases j with _ | _ | _ | _ | _ | _ | _ | _ | j <;> first | rfl | (simp [Pc0, pcA, pcB, pcI] at hj <;> omega)), List.drop_zero, ← l0, List.take_length]
  have hargs : (ah1Ls.map (SV.conc (ah1Env c0 a1) Loc.id)).toArray = #[.agg c0.toArray, .int .i64 a1] := by
    refine congrArg List.toArray ?_
    exact (cons_eq (congrArg (fun l => Value.agg (List.toArray l)) hc0) (cons_eq rfl rfl))
  rw [← hargs]
  have hok : Hyp.ok ah1Hy (ah1Env c0 a1) := by
    refine ⟨?_, ?_, ?_, (fun p hp is bs xs => by simp only [ah1Hy, List.mem_cons, List.not_mem_nil, or_false] at hp; subst hp; exact sumF_rng _ _), ?_, by simp [ah1Hy]⟩
    · simp [ah1Hy]
    · intro p hp
      simp only [ah1Hy, List.mem_cons, List.not_mem_nil, or_false] at hp
      rcases hp with rfl | rfl | rfl | rfl | rfl | rfl | rfl | rfl | rfl | rfl | rfl | rfl | rfl
      · exact (by have hx := hex0; first | exact ⟨Int.le_of_eq hx.symm, Int.le_of_eq hx⟩ | exact hx)
      · exact (by have hx := hex1; first | exact ⟨Int.le_of_eq hx.symm, Int.le_of_eq hx⟩ | exact hx)
      · exact (by have hx := hex2; first | exact ⟨Int.le_of_eq hx.symm, Int.le_of_eq hx⟩ | exact hx)
      · exact (by have hx := hex3; first | exact ⟨Int.le_of_eq hx.symm, Int.le_of_eq hx⟩ | exact hx)
      · exact num_rng (f0.tail.tail.tail)
      · exact num_rng (f0.tail.tail.tail.tail.tail)
      · exact num_rng (f0.tail.tail.tail.tail.tail.tail)
      · exact num_rng (f0.tail.tail.tail.tail.tail.tail.tail)
      · exact num_rng (f0.tail.tail.tail.tail.tail.tail.tail.tail)
      · exact num_rng (f0.tail.tail.tail.tail.tail.tail.tail.tail.tail)
      · exact num_rng (f0.tail.tail.tail.tail.tail.tail.tail.tail.tail.tail)
      · exact num_rng (f0.tail.tail.tail.tail.tail.tail.tail.tail.tail.tail.tail)
      · exact w1
    · intro p hp
      simp only [ah1Hy, List.mem_cons, List.not_mem_nil, or_false] at hp
      rcases hp with rfl | rfl | rfl
      · exact arrOf_rng (f0)
      · exact arrOf_rng (f0.tail)
      · exact arrOf_rng (f0.tail.tail)
    · intro p hp is bs xs j
      simp only [ah1Hy, List.mem_cons, List.not_mem_nil, or_false] at hp
      subst hp
      exact rowB_rng _ j
  exact law_true (ρ := (ah1Env c0 a1)) (G_ok _) (by kernel_rfl) ah1run rfl
    hok (by intro e he; cases he) rfl w (fun i j => Ext.none_ok _)
def ah6Env (c0 : List Value) (a1 : Int) : Env := (⟨[intV (c0.getD 33568 Go.undef), intV (c0.getD 33570 Go.undef), intV (c0.getD 33571 Go.undef), intV (c0.getD 33572 Go.undef), intV (c0.getD 33573 Go.undef), intV (c0.getD 33574 Go.undef), intV (c0.getD 33575 Go.undef), intV (c0.getD 33576 Go.undef), a1], [boolV (c0.getD 33569 Go.undef)], [arrOf c0 0 32768, arrOf c0 32768 544, arrOf c0 33312 256], [], Iv (fun _ _ => Ext.none)⟩ : Env)
def ah6Hy : Hyp := ⟨[((.v 4), (0, 65535)), ((.v 0), (0, 511)), ((.v 1), (0, 1023)), ((.v 6), (512, 65535)), (.v 0, (-9223372036854775808, 9223372036854775807)), (.v 1, (-9223372036854775808, 9223372036854775807)), (.v 2, (0, 255)), (.v 3, (0, 255)), (.v 4, (-9223372036854775808, 9223372036854775807)), (.v 5, (0, 65535)), (.v 6, (-9223372036854775808, 9223372036854775807)), (.v 7, (0, 255)), (.v 8, (-9223372036854775808, 0))], [(0, (0, 65535)), (1, (0, 255)), (2, (0, 65535))], [(10, (0, 4294967295))], [(50, (0, 255))], [], []⟩
def ah6Ls : List SV := [.agg (pcSegs 0 0 0 Pc0), .s (.int .i64 (.v 8))]

theorem ah6run : enter Try.prog G Gh 3000 60 6 ah6Hy ah6Ls [] = some ([], .s (.bool (.blit true)), none) := by kernel_rfl
theorem ah6vc (n0_3 n0_5 n0_6 n0_7 n0_8 n0_9 n0_10 n0_11 a1 : Int) (p0 : Bool) (A0 A1 A2 : Nat → Int) (b0 : -9223372036854775808 ≤ n0_3 ∧ n0_3 ≤ 9223372036854775807) (b1 : -9223372036854775808 ≤ n0_5 ∧ n0_5 ≤ 9223372036854775807) (b2 : 0 ≤ n0_6 ∧ n0_6 ≤ 255) (b3 : 0 ≤ n0_7 ∧ n0_7 ≤ 255) (b4 : -9223372036854775808 ≤ n0_8 ∧ n0_8 ≤ 9223372036854775807) (b5 : 0 ≤ n0_9 ∧ n0_9 ≤ 65535) (b6 : -9223372036854775808 ≤ n0_10 ∧ n0_10 ≤ 9223372036854775807) (b7 : 0 ≤ n0_11 ∧ n0_11 ≤ 255) (b8 : -9223372036854775808 ≤ a1 ∧ a1 ≤ 0) (B0 : ∀ j, 0 ≤ A0 j ∧ A0 j ≤ 65535) (B1 : ∀ j, 0 ≤ A1 j ∧ A1 j ≤ 255) (B2 : ∀ j, 0 ≤ A2 j ∧ A2 j ≤ 65535) : E.b (⟨[n0_3, n0_5, n0_6, n0_7, n0_8, n0_9, n0_10, n0_11, a1], [p0], [A0, A1, A2], [], Iv (fun _ _ => Ext.none)⟩ : Env) (.blit true) = true := by
  simp only [i_v, b_bv, i_lit, b_blit, i_add, i_sub, i_mul, i_div, i_mod, i_tdiv, i_tmod, i_ite, b_ite, b_lt, b_le, b_eq, b_not, b_and, b_or, b_iff, i_sel, a_tab, i_pow2, List.getD_cons_zero, List.getD_cons_succ, decide_eq_true_eq, decide_eq_false_iff_not, Bool.and_eq_true, Bool.or_eq_true, Bool.not_eq_true', Bool.not_eq_false', Bool.and_eq_false_iff, Bool.or_eq_false_iff, Bool.not_not, ite_tt, ite_ff, iff_tt, iff_ff, a_av, a_ite, a_upd]
theorem ah6calls (c0 : List Value) (l0 : c0.length = pcTotal Pc0) (f0 : PcFit c0 0 Pc0) (a1 : Int) (w1 : -9223372036854775808 ≤ a1 ∧ a1 ≤ 0) (hex0 : 0 ≤ (intV (c0.getD 33573 Go.undef)) ∧ (intV (c0.getD 33573 Go.undef)) ≤ 65535) (hex1 : 0 ≤ (intV (c0.getD 33568 Go.undef)) ∧ (intV (c0.getD 33568 Go.undef)) ≤ 511) (hex2 : 0 ≤ (intV (c0.getD 33570 Go.undef)) ∧ (intV (c0.getD 33570 Go.undef)) ≤ 1023) (hex3 : 512 ≤ (intV (c0.getD 33575 Go.undef)) ∧ (intV (c0.getD 33575 Go.undef)) ≤ 65535) (w : World) :
    Calls Try.prog 6 #[.agg c0.toArray, .int .i64 a1] w fun r w' => r = .returned (.bool true) ∧ Below w.heap.size w w' := by
  have hc0 : cellsOf (ah6Env c0 a1) Loc.id (pcSegs 0 0 0 Pc0) = c0 := by
    rw [pc_cells Pc0 0 0 0 0 f0 (by intro j hj; rcases j with _ | _ | _ | j <;> first | rfl | (simp [Pc0, pcA, pcB, pcI] at hj <;> omega)) (by intro j hj; rcases j with _ | j <;> first | rfl | (simp [Pc0, pcA, pcB, pcI] at hj <;> omega)) (by intro j hj; rcases j with _ | _ | _ | _ | _ | _ | _ | _ | j <;> first | rfl | (simp [Pc0, pcA, pcB, pcI] at hj <;> omega)), List.drop_zero, ← l0, List.take_length]
  have hargs : (ah6Ls.map (SV.conc (ah6Env c0 a1) Loc.id)).toArray = #[.agg c0.toArray, .int .i64 a1] := by
    refine congrArg List.toArray ?_
    exact (cons_eq (congrArg (fun l => Value.agg (List.toArray l)) hc0) (cons_eq rfl rfl))
  rw [← hargs]
  have hok : Hyp.ok ah6Hy (ah6Env c0 a1) := by
    refine ⟨?_, ?_, ?_, (fun p hp is bs xs => by simp only [ah6Hy, List.mem_cons, List.not_mem_nil, or_false] at hp; subst hp; exact sumF_rng _ _), ?_, by simp [ah6Hy]⟩
    · simp [ah6Hy]
    · intro p hp
      simp only [ah6Hy, List.mem_cons, List.not_mem_nil, or_false] at hp
      rcases hp with rfl | rfl | rfl | rfl | rfl | rfl | rfl | rfl | rfl | rfl | rfl | rfl | rfl
      · exact (by have hx := hex0; first | exact ⟨Int.le_of_eq hx.symm, Int.le_of_eq hx⟩ | exact hx)
      · exact (by have hx := hex1; first | exact ⟨Int.le_of_eq hx.symm, Int.le_of_eq hx⟩ | exact hx)
      · exact (by have hx := hex2; first | exact ⟨Int.le_of_eq hx.symm, Int.le_of_eq hx⟩ | exact hx)
      · exact (by have hx := hex3; first | exact ⟨Int.le_of_eq hx.symm, Int.le_of_eq hx⟩ | exact hx)
      · exact num_rng (f0.tail.tail.tail)
      · exact num_rng (f0.tail.tail.tail.tail.tail)
      · exact num_rng (f0.tail.tail.tail.tail.tail.tail)
      · exact num_rng (f0.tail.tail.tail.tail.tail.tail.tail)
      · exact num_rng (f0.tail.tail.tail.tail.tail.tail.tail.tail)
      · exact num_rng (f0.tail.tail.tail.tail.tail.tail.tail.tail.tail)
      · exact num_rng (f0.tail.tail.tail.tail.tail.tail.tail.tail.tail.tail)
      · exact num_rng (f0.tail.tail.tail.tail.tail.tail.tail.tail.tail.tail.tail)
      · exact w1
    · intro p hp
      simp only [ah6Hy, List.mem_cons, List.not_mem_nil, or_false] at hp
      rcases hp with rfl | rfl | rfl
      · exact arrOf_rng (f0)
      · exact arrOf_rng (f0.tail)
      · exact arrOf_rng (f0.tail.tail)
    · intro p hp is bs xs j
      simp only [ah6Hy, List.mem_cons, List.not_mem_nil, or_false] at hp
      subst hp
      exact rowB_rng _ j
  exact law_true (ρ := (ah6Env c0 a1)) (G_ok _) (by kernel_rfl) ah6run rfl
    hok (by intro e he; cases he) rfl w (fun i j => Ext.none_ok _)
def afEnv (c0 : List Value) (a1 : Int) : Env := (⟨[intV (c0.getD 33568 Go.undef), intV (c0.getD 33570 Go.undef), intV (c0.getD 33571 Go.undef), intV (c0.getD 33572 Go.undef), intV (c0.getD 33573 Go.undef), intV (c0.getD 33574 Go.undef), intV (c0.getD 33575 Go.undef), intV (c0.getD 33576 Go.undef), a1], [boolV (c0.getD 33569 Go.undef)], [arrOf c0 0 32768, arrOf c0 32768 544, arrOf c0 33312 256], [], Iv (fun _ _ => Ext.none)⟩ : Env)
def afHy : Hyp := ⟨[((.v 4), (0, 65535)), ((.v 0), (0, 511)), ((.v 1), (0, 1023)), ((.v 6), (0, 511)), (.v 0, (-9223372036854775808, 9223372036854775807)), (.v 1, (-9223372036854775808, 9223372036854775807)), (.v 2, (0, 255)), (.v 3, (0, 255)), (.v 4, (-9223372036854775808, 9223372036854775807)), (.v 5, (0, 65535)), (.v 6, (-9223372036854775808, 9223372036854775807)), (.v 7, (0, 255)), (.v 8, (-9223372036854775808, 0))], [(0, (0, 65535)), (1, (0, 255)), (2, (0, 65535))], [(10, (0, 4294967295))], [(50, (0, 255))], [((.app 60 (.cons (.lit 256) (.cons (.lit 32768) (.cons (.av 2) .nil)))), false)], []⟩
def afLs : List SV := [.agg (pcSegs 0 0 0 Pc0), .s (.int .i64 (.v 8))]

theorem afrun : enter Try.prog G Gh 3000 60 6 afHy afLs [] = some ([], .s (.bool (.blit true)), none) := by kernel_rfl
theorem afvc (n0_3 n0_5 n0_6 n0_7 n0_8 n0_9 n0_10 n0_11 a1 : Int) (p0 : Bool) (A0 A1 A2 : Nat → Int) (b0 : -9223372036854775808 ≤ n0_3 ∧ n0_3 ≤ 9223372036854775807) (b1 : -9223372036854775808 ≤ n0_5 ∧ n0_5 ≤ 9223372036854775807) (b2 : 0 ≤ n0_6 ∧ n0_6 ≤ 255) (b3 : 0 ≤ n0_7 ∧ n0_7 ≤ 255) (b4 : -9223372036854775808 ≤ n0_8 ∧ n0_8 ≤ 9223372036854775807) (b5 : 0 ≤ n0_9 ∧ n0_9 ≤ 65535) (b6 : -9223372036854775808 ≤ n0_10 ∧ n0_10 ≤ 9223372036854775807) (b7 : 0 ≤ n0_11 ∧ n0_11 ≤ 255) (b8 : -9223372036854775808 ≤ a1 ∧ a1 ≤ 0) (B0 : ∀ j, 0 ≤ A0 j ∧ A0 j ≤ 65535) (B1 : ∀ j, 0 ≤ A1 j ∧ A1 j ≤ 255) (B2 : ∀ j, 0 ≤ A2 j ∧ A2 j ≤ 65535) : E.b (⟨[n0_3, n0_5, n0_6, n0_7, n0_8, n0_9, n0_10, n0_11, a1], [p0], [A0, A1, A2], [], Iv (fun _ _ => Ext.none)⟩ : Env) (.blit true) = true := by
  simp only [i_v, b_bv, i_lit, b_blit, i_add, i_sub, i_mul, i_div, i_mod, i_tdiv, i_tmod, i_ite, b_ite, b_lt, b_le, b_eq, b_not, b_and, b_or, b_iff, i_sel, a_tab, i_pow2, List.getD_cons_zero, List.getD_cons_succ, decide_eq_true_eq, decide_eq_false_iff_not, Bool.and_eq_true, Bool.or_eq_true, Bool.not_eq_true', Bool.not_eq_false', Bool.and_eq_false_iff, Bool.or_eq_false_iff, Bool.not_not, ite_tt, ite_ff, iff_tt, iff_ff, a_av, a_ite, a_upd]
theorem afcalls (c0 : List Value) (l0 : c0.length = pcTotal Pc0) (f0 : PcFit c0 0 Pc0) (a1 : Int) (w1 : -9223372036854775808 ≤ a1 ∧ a1 ≤ 0) (hex0 : 0 ≤ (intV (c0.getD 33573 Go.undef)) ∧ (intV (c0.getD 33573 Go.undef)) ≤ 65535) (hex1 : 0 ≤ (intV (c0.getD 33568 Go.undef)) ∧ (intV (c0.getD 33568 Go.undef)) ≤ 511) (hex2 : 0 ≤ (intV (c0.getD 33570 Go.undef)) ∧ (intV (c0.getD 33570 Go.undef)) ≤ 1023) (hex3 : 0 ≤ (intV (c0.getD 33575 Go.undef)) ∧ (intV (c0.getD 33575 Go.undef)) ≤ 511) (hey0 : E.b (afEnv c0 a1) (.app 60 (.cons (.lit 256) (.cons (.lit 32768) (.cons (.av 2) .nil)))) = false) (w : World) :
    Calls Try.prog 6 #[.agg c0.toArray, .int .i64 a1] w fun r w' => r = .returned (.bool true) ∧ Below w.heap.size w w' := by
  have hc0 : cellsOf (afEnv c0 a1) Loc.id (pcSegs 0 0 0 Pc0) = c0 := by
    rw [pc_cells Pc0 0 0 0 0 f0 (by intro j hj; rcases j with _ | _ | _ | j <;> first | rfl | (simp [Pc0, pcA, pcB, pcI] at hj <;> omega)) (by intro j hj; rcases j with _ | j <;> first | rfl | (simp [Pc0, pcA, pcB, pcI] at hj <;> omega)) (by intro j hj; rcases j with _ | _ | _ | _ | _ | _ | _ | _ | j <;> first | rfl | (simp [Pc0, pcA, pcB, pcI] at hj <;> omega)), List.drop_zero, ← l0, List.take_length]
  have hargs : (afLs.map (SV.conc (afEnv c0 a1) Loc.id)).toArray = #[.agg c0.toArray, .int .i64 a1] := by
    refine congrArg List.toArray ?_
    exact (cons_eq (congrArg (fun l => Value.agg (List.toArray l)) hc0) (cons_eq rfl rfl))
  rw [← hargs]
  have hok : Hyp.ok afHy (afEnv c0 a1) := by
    refine ⟨?_, ?_, ?_, (fun p hp is bs xs => by simp only [afHy, List.mem_cons, List.not_mem_nil, or_false] at hp; subst hp; exact sumF_rng _ _), ?_, ?_⟩
    · simp [afHy]
    · intro p hp
      simp only [afHy, List.mem_cons, List.not_mem_nil, or_false] at hp
      rcases hp with rfl | rfl | rfl | rfl | rfl | rfl | rfl | rfl | rfl | rfl | rfl | rfl | rfl
      · exact (by have hx := hex0; first | exact ⟨Int.le_of_eq hx.symm, Int.le_of_eq hx⟩ | exact hx)
      · exact (by have hx := hex1; first | exact ⟨Int.le_of_eq hx.symm, Int.le_of_eq hx⟩ | exact hx)
      · exact (by have hx := hex2; first | exact ⟨Int.le_of_eq hx.symm, Int.le_of_eq hx⟩ | exact hx)
      · exact (by have hx := hex3; first | exact ⟨Int.le_of_eq hx.symm, Int.le_of_eq hx⟩ | exact hx)
      · exact num_rng (f0.tail.tail.tail)
      · exact num_rng (f0.tail.tail.tail.tail.tail)
      · exact num_rng (f0.tail.tail.tail.tail.tail.tail)
      · exact num_rng (f0.tail.tail.tail.tail.tail.tail.tail)
      · exact num_rng (f0.tail.tail.tail.tail.tail.tail.tail.tail)
      · exact num_rng (f0.tail.tail.tail.tail.tail.tail.tail.tail.tail)
      · exact num_rng (f0.tail.tail.tail.tail.tail.tail.tail.tail.tail.tail)
      · exact num_rng (f0.tail.tail.tail.tail.tail.tail.tail.tail.tail.tail.tail)
      · exact w1
    · intro p hp
      simp only [afHy, List.mem_cons, List.not_mem_nil, or_false] at hp
      rcases hp with rfl | rfl | rfl
      · exact arrOf_rng (f0)
      · exact arrOf_rng (f0.tail)
      · exact arrOf_rng (f0.tail.tail)
    · intro p hp is bs xs j
      simp only [afHy, List.mem_cons, List.not_mem_nil, or_false] at hp
      subst hp
      exact rowB_rng _ j
    · intro p hp
      simp only [afHy, List.mem_cons, List.not_mem_nil, or_false] at hp
      rcases hp with rfl
      · exact (by have hx := hey0; first | exact hx | exact decide_eq_true hx | exact decide_eq_false hx)
  exact law_true (ρ := (afEnv c0 a1)) (G_ok _) (by kernel_rfl) afrun rfl
    hok (by intro e he; cases he) rfl w (fun i j => Ext.none_ok _)
end Go.Proofs.Ytjegnoknenahpaa.VramLoads
