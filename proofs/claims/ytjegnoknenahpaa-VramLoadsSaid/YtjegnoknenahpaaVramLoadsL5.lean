/- A part of the law VramLoads, which returns true for every input. A state that is handed in is taken just if it can be; else the memories have not changed; it is saved as the same bytes. No condition. -/
import Derived.Test.YtjegnoknenahpaaVramLoads0
namespace Go.Proofs.Ytjegnoknenahpaa.VramLoads
open Go.Sx Go.ChangeShapes Go.WideShapes Go.ChangeAt Go.RowKit
set_option linter.unusedVariables false
set_option linter.unusedSimpArgs false
set_option maxRecDepth 100000
def b1Env (c0 : List Value) : Env := (⟨[intV (c0.getD 33568 Go.undef), intV (c0.getD 33570 Go.undef), intV (c0.getD 33571 Go.undef), intV (c0.getD 33572 Go.undef), intV (c0.getD 33573 Go.undef), intV (c0.getD 33574 Go.undef), intV (c0.getD 33575 Go.undef), intV (c0.getD 33576 Go.undef)], [boolV (c0.getD 33569 Go.undef)], [arrOf c0 0 32768, arrOf c0 32768 544, arrOf c0 33312 256], [], Iv (fun _ _ => Ext.none)⟩ : Env)
def b1Hy : Hyp := ⟨[((.v 0), (0, 65535)), ((.v 1), (0, 65535)), ((.v 4), (0, 65535)), ((.v 6), (0, 65535)), (.v 0, (-9223372036854775808, 9223372036854775807)), (.v 1, (-9223372036854775808, 9223372036854775807)), (.v 2, (0, 255)), (.v 3, (0, 255)), (.v 4, (-9223372036854775808, 9223372036854775807)), (.v 5, (0, 65535)), (.v 6, (-9223372036854775808, 9223372036854775807)), (.v 7, (0, 255))], [(0, (0, 65535)), (1, (0, 255)), (2, (0, 65535))], [(10, (0, 4294967295))], [(50, (0, 255))], [], []⟩
def b1Ls : List SV := [.agg (pcSegs 0 0 0 Pc0), .s (.int .i64 (.lit (1)))]

theorem b1run : enter Try.prog G Gh 3000 60 6 b1Hy b1Ls [] = some ([], .s (.bool (.blit true)), none) := by kernel_rfl
theorem b1vc (n0_3 n0_5 n0_6 n0_7 n0_8 n0_9 n0_10 n0_11 : Int) (p0 : Bool) (A0 A1 A2 : Nat → Int) (b0 : -9223372036854775808 ≤ n0_3 ∧ n0_3 ≤ 9223372036854775807) (b1 : -9223372036854775808 ≤ n0_5 ∧ n0_5 ≤ 9223372036854775807) (b2 : 0 ≤ n0_6 ∧ n0_6 ≤ 255) (b3 : 0 ≤ n0_7 ∧ n0_7 ≤ 255) (b4 : -9223372036854775808 ≤ n0_8 ∧ n0_8 ≤ 9223372036854775807) (b5 : 0 ≤ n0_9 ∧ n0_9 ≤ 65535) (b6 : -9223372036854775808 ≤ n0_10 ∧ n0_10 ≤ 9223372036854775807) (b7 : 0 ≤ n0_11 ∧ n0_11 ≤ 255) (B0 : ∀ j, 0 ≤ A0 j ∧ A0 j ≤ 65535) (B1 : ∀ j, 0 ≤ A1 j ∧ A1 j ≤ 255) (B2 : ∀ j, 0 ≤ A2 j ∧ A2 j ≤ 65535) : E.b (⟨[n0_3, n0_5, n0_6, n0_7, n0_8, n0_9, n0_10, n0_11], [p0], [A0, A1, A2], [], Iv (fun _ _ => Ext.none)⟩ : Env) (.blit true) = true := by
  simp only [i_v, b_bv, i_lit, b_blit, i_add, i_sub, i_mul, i_div, i_mod, i_tdiv, i_tmod, i_ite, b_ite, b_lt, b_le, b_eq, b_not, b_and, b_or, b_iff, i_sel, a_tab, i_pow2, List.getD_cons_zero, List.getD_cons_succ, decide_eq_true_eq, decide_eq_false_iff_not, Bool.and_eq_true, Bool.or_eq_true, Bool.not_eq_true', Bool.not_eq_false', Bool.and_eq_false_iff, Bool.or_eq_false_iff, Bool.not_not, ite_tt, ite_ff, iff_tt, iff_ff, a_av, a_ite, a_upd]
theorem b1calls (c0 : List Value) (l0 : c0.length = pcTotal Pc0) (f0 : PcFit c0 0 Pc0) (hex0 : 0 ≤ (intV (c0.getD 33568 Go.undef)) ∧ (intV (c0.getD 33568 Go.undef)) ≤ 65535) (hex1 : 0 ≤ (intV (c0.getD 33570 Go.undef)) ∧ (intV (c0.getD 33570 Go.undef)) ≤ 65535) (hex2 : 0 ≤ (intV (c0.getD 33573 Go.undef)) ∧ (intV (c0.getD 33573 Go.undef)) ≤ 65535) (hex3 : 0 ≤ (intV (c0.getD 33575 Go.undef)) ∧ (intV (c0.getD 33575 Go.undef)) ≤ 65535) (w : World) :
    Calls Try.prog 6 #[.agg c0.toArray, .int .i64 (1)] w fun r w' => r = .returned (.bool true) ∧ Below w.heap.size w w' := by
  have hc0 : cellsOf (b1Env c0) Loc.id (pcSegs 0 0 0 Pc0) = c0 := by
    rw [pc_cells Pc0 0 0 0 0 f0 (by intro j hj; rcases j with _ | _ | _ | j <;> first | rfl | (simp [Pc0, pcA, pcB, pcI] at hj <;> omega)) (by intro j hj; rcases j with _ | j <;> first | rfl | (simp [Pc0, pcA, pcB, pcI] at hj <;> omega)) (by intro j hj; rcases j with _ | _ | _ | _ | _ | _ | _ | _ | j <;> first | rfl | (simp [Pc0, pcA, pcB, pcI] at hj <;> omega)), List.drop_zero, ← l0, List.take_length]
  have hargs : (b1Ls.map (SV.conc (b1Env c0) Loc.id)).toArray = #[.agg c0.toArray, .int .i64 (1)] := by
    refine congrArg List.toArray ?_
    exact (cons_eq (congrArg (fun l => Value.agg (List.toArray l)) hc0) (cons_eq rfl rfl))
  rw [← hargs]
  have hok : Hyp.ok b1Hy (b1Env c0) := by
    refine ⟨?_, ?_, ?_, (fun p hp is bs xs => by simp only [b1Hy, List.mem_cons, List.not_mem_nil, or_false] at hp; subst hp; exact sumF_rng _ _), ?_, by simp [b1Hy]⟩
    · simp [b1Hy]
    · intro p hp
      simp only [b1Hy, List.mem_cons, List.not_mem_nil, or_false] at hp
      rcases hp with rfl | rfl | rfl | rfl | rfl | rfl | rfl | rfl | rfl | rfl | rfl | rfl
      · exact (by have hx := hex0; first | exact ⟨Int.le_of_eq hx.symm, Int.le_of_eq hx⟩ | exact hx)
      · exact (by have hx := hex1; first | exact ⟨Int.le_of_eq hx.symm, Int.le_of_eq hx⟩ | exact hx)
      · exact (by have hx := hex2; first | exact ⟨Int.le_of_eq hx.symm, Int.le_of_eq hx⟩ | exact hx)
      · exact (by have hx := hex3; first | exact ⟨Int.le_of_eq hx.symm, Int.le_of_eq hx⟩ | exact hx)
      · exact num_rng (f0.tail.tail.tail)
      · exact num_rng (f0.tail.tail.tail.tail.tail)
      · exact num_rng (f0.tail.tail.tail.tail.tail.tail)
      · exact num_rng (f0.tail.tail.tail.tail.tail.tail.tail)
      · exact num_rng (f0.tail.tail.tail.tail.tail.tail.tail.tail)
      · exact num_rng (f0.tail.tail.tail.tail.tail.tail.tail.tail.tail)
      · exact num_rng (f0.tail.tail.tail.tail.tail.tail.tail.tail.tail.tail)
      · exact num_rng (f0.tail.tail.tail.tail.tail.tail.tail.tail.tail.tail.tail)
    · intro p hp
      simp only [b1Hy, List.mem_cons, List.not_mem_nil, or_false] at hp
      rcases hp with rfl | rfl | rfl
      · exact arrOf_rng (f0)
      · exact arrOf_rng (f0.tail)
      · exact arrOf_rng (f0.tail.tail)
    · intro p hp is bs xs j
      simp only [b1Hy, List.mem_cons, List.not_mem_nil, or_false] at hp
      subst hp
      exact rowB_rng _ j
  exact law_true (ρ := (b1Env c0)) (G_ok _) (by kernel_rfl) b1run rfl
    hok (by intro e he; cases he) rfl w (fun i j => Ext.none_ok _)
def b2Env (c0 : List Value) : Env := (⟨[intV (c0.getD 33568 Go.undef), intV (c0.getD 33570 Go.undef), intV (c0.getD 33571 Go.undef), intV (c0.getD 33572 Go.undef), intV (c0.getD 33573 Go.undef), intV (c0.getD 33574 Go.undef), intV (c0.getD 33575 Go.undef), intV (c0.getD 33576 Go.undef)], [boolV (c0.getD 33569 Go.undef)], [arrOf c0 0 32768, arrOf c0 32768 544, arrOf c0 33312 256], [], Iv (fun _ _ => Ext.none)⟩ : Env)
def b2Hy : Hyp := ⟨[((.v 0), (0, 65535)), ((.v 1), (0, 65535)), ((.v 4), (0, 65535)), ((.v 6), (0, 65535)), (.v 0, (-9223372036854775808, 9223372036854775807)), (.v 1, (-9223372036854775808, 9223372036854775807)), (.v 2, (0, 255)), (.v 3, (0, 255)), (.v 4, (-9223372036854775808, 9223372036854775807)), (.v 5, (0, 65535)), (.v 6, (-9223372036854775808, 9223372036854775807)), (.v 7, (0, 255))], [(0, (0, 65535)), (1, (0, 255)), (2, (0, 65535))], [(10, (0, 4294967295))], [(50, (0, 255))], [], []⟩
def b2Ls : List SV := [.agg (pcSegs 0 0 0 Pc0), .s (.int .i64 (.lit (2)))]

theorem b2run : enter Try.prog G Gh 3000 60 6 b2Hy b2Ls [] = some ([], .s (.bool (.blit true)), none) := by kernel_rfl
theorem b2vc (n0_3 n0_5 n0_6 n0_7 n0_8 n0_9 n0_10 n0_11 : Int) (p0 : Bool) (A0 A1 A2 : Nat → Int) (b0 : -9223372036854775808 ≤ n0_3 ∧ n0_3 ≤ 9223372036854775807) (b1 : -9223372036854775808 ≤ n0_5 ∧ n0_5 ≤ 9223372036854775807) (b2 : 0 ≤ n0_6 ∧ n0_6 ≤ 255) (b3 : 0 ≤ n0_7 ∧ n0_7 ≤ 255) (b4 : -9223372036854775808 ≤ n0_8 ∧ n0_8 ≤ 9223372036854775807) (b5 : 0 ≤ n0_9 ∧ n0_9 ≤ 65535) (b6 : -9223372036854775808 ≤ n0_10 ∧ n0_10 ≤ 9223372036854775807) (b7 : 0 ≤ n0_11 ∧ n0_11 ≤ 255) (B0 : ∀ j, 0 ≤ A0 j ∧ A0 j ≤ 65535) (B1 : ∀ j, 0 ≤ A1 j ∧ A1 j ≤ 255) (B2 : ∀ j, 0 ≤ A2 j ∧ A2 j ≤ 65535) : E.b (⟨[n0_3, n0_5, n0_6, n0_7, n0_8, n0_9, n0_10, n0_11], [p0], [A0, A1, A2], [], Iv (fun _ _ => Ext.none)⟩ : Env) (.blit true) = true := by
  simp only [i_v, b_bv, i_lit, b_blit, i_add, i_sub, i_mul, i_div, i_mod, i_tdiv, i_tmod, i_ite, b_ite, b_lt, b_le, b_eq, b_not, b_and, b_or, b_iff, i_sel, a_tab, i_pow2, List.getD_cons_zero, List.getD_cons_succ, decide_eq_true_eq, decide_eq_false_iff_not, Bool.and_eq_true, Bool.or_eq_true, Bool.not_eq_true', Bool.not_eq_false', Bool.and_eq_false_iff, Bool.or_eq_false_iff, Bool.not_not, ite_tt, ite_ff, iff_tt, iff_ff, a_av, a_ite, a_upd]
theorem b2calls (c0 : List Value) (l0 : c0.length = pcTotal Pc0) (f0 : PcFit c0 0 Pc0) (hex0 : 0 ≤ (intV (c0.getD 33568 Go.undef)) ∧ (intV (c0.getD 33568 Go.undef)) ≤ 65535) (hex1 : 0 ≤ (intV (c0.getD 33570 Go.undef)) ∧ (intV (c0.getD 33570 Go.undef)) ≤ 65535) (hex2 : 0 ≤ (intV (c0.getD 33573 Go.undef)) ∧ (intV (c0.getD 33573 Go.undef)) ≤ 65535) (hex3 : 0 ≤ (intV (c0.getD 33575 Go.undef)) ∧ (intV (c0.getD 33575 Go.undef)) ≤ 65535) (w : World) :
    Calls Try.prog 6 #[.agg c0.toArray, .int .i64 (2)] w fun r w' => r = .returned (.bool true) ∧ Below w.heap.size w w' := by
  have hc0 : cellsOf (b2Env c0) Loc.id (pcSegs 0 0 0 Pc0) = c0 := by
    rw [pc_cells Pc0 0 0 0 0 f0 (by intro j hj; rcases j with _ | _ | _ | j <;> first | rfl | (simp [Pc0, pcA, pcB, pcI] at hj <;> omega)) (by intro j hj; rcases j with _ | j <;> first | rfl | (simp [Pc0, pcA, pcB, pcI] at hj <;> omega)) (by intro j hj; rcases j with _ | _ | _ | _ | _ | _ | _ | _ | j <;> first | rfl | (simp [Pc0, pcA, pcB, pcI] at hj <;> omega)), List.drop_zero, ← l0, List.take_length]
  have hargs : (b2Ls.map (SV.conc (b2Env c0) Loc.id)).toArray = #[.agg c0.toArray, .int .i64 (2)] := by
    refine congrArg List.toArray ?_
    exact (cons_eq (congrArg (fun l => Value.agg (List.toArray l)) hc0) (cons_eq rfl rfl))
  rw [← hargs]
  have hok : Hyp.ok b2Hy (b2Env c0) := by
    refine ⟨?_, ?_, ?_, (fun p hp is bs xs => by simp only [b2Hy, List.mem_cons, List.not_mem_nil, or_false] at hp; subst hp; exact sumF_rng _ _), ?_, by simp [b2Hy]⟩
    · simp [b2Hy]
    · intro p hp
      simp only [b2Hy, List.mem_cons, List.not_mem_nil, or_false] at hp
      rcases hp with rfl | rfl | rfl | rfl | rfl | rfl | rfl | rfl | rfl | rfl | rfl | rfl
      · exact (by have hx := hex0; first | exact ⟨Int.le_of_eq hx.symm, Int.le_of_eq hx⟩ | exact hx)
      · exact (by have hx := hex1; first | exact ⟨Int.le_of_eq hx.symm, Int.le_of_eq hx⟩ | exact hx)
      · exact (by have hx := hex2; first | exact ⟨Int.le_of_eq hx.symm, Int.le_of_eq hx⟩ | exact hx)
      · exact (by have hx := hex3; first | exact ⟨Int.le_of_eq hx.symm, Int.le_of_eq hx⟩ | exact hx)
      · exact num_rng (f0.tail.tail.tail)
      · exact num_rng (f0.tail.tail.tail.tail.tail)
      · exact num_rng (f0.tail.tail.tail.tail.tail.tail)
      · exact num_rng (f0.tail.tail.tail.tail.tail.tail.tail)
      · exact num_rng (f0.tail.tail.tail.tail.tail.tail.tail.tail)
      · exact num_rng (f0.tail.tail.tail.tail.tail.tail.tail.tail.tail)
      · exact num_rng (f0.tail.tail.tail.tail.tail.tail.tail.tail.tail.tail)
      · exact num_rng (f0.tail.tail.tail.tail.tail.tail.tail.tail.tail.tail.tail)
    · intro p hp
      simp only [b2Hy, List.mem_cons, List.not_mem_nil, or_false] at hp
      rcases hp with rfl | rfl | rfl
      · exact arrOf_rng (f0)
      · exact arrOf_rng (f0.tail)
      · exact arrOf_rng (f0.tail.tail)
    · intro p hp is bs xs j
      simp only [b2Hy, List.mem_cons, List.not_mem_nil, or_false] at hp
      subst hp
      exact rowB_rng _ j
  exact law_true (ρ := (b2Env c0)) (G_ok _) (by kernel_rfl) b2run rfl
    hok (by intro e he; cases he) rfl w (fun i j => Ext.none_ok _)
def b3Env (c0 : List Value) : Env := (⟨[intV (c0.getD 33568 Go.undef), intV (c0.getD 33570 Go.undef), intV (c0.getD 33571 Go.undef), intV (c0.getD 33572 Go.undef), intV (c0.getD 33573 Go.undef), intV (c0.getD 33574 Go.undef), intV (c0.getD 33575 Go.undef), intV (c0.getD 33576 Go.undef)], [boolV (c0.getD 33569 Go.undef)], [arrOf c0 0 32768, arrOf c0 32768 544, arrOf c0 33312 256], [], Iv (fun _ _ => Ext.none)⟩ : Env)
def b3Hy : Hyp := ⟨[((.v 0), (0, 65535)), ((.v 1), (0, 65535)), ((.v 4), (0, 65535)), ((.v 6), (0, 65535)), (.v 0, (-9223372036854775808, 9223372036854775807)), (.v 1, (-9223372036854775808, 9223372036854775807)), (.v 2, (0, 255)), (.v 3, (0, 255)), (.v 4, (-9223372036854775808, 9223372036854775807)), (.v 5, (0, 65535)), (.v 6, (-9223372036854775808, 9223372036854775807)), (.v 7, (0, 255))], [(0, (0, 65535)), (1, (0, 255)), (2, (0, 65535))], [(10, (0, 4294967295))], [(50, (0, 255))], [], []⟩
def b3Ls : List SV := [.agg (pcSegs 0 0 0 Pc0), .s (.int .i64 (.lit (3)))]

theorem b3run : enter Try.prog G Gh 3000 60 6 b3Hy b3Ls [] = some ([], .s (.bool (.blit true)), none) := by kernel_rfl
theorem b3vc (n0_3 n0_5 n0_6 n0_7 n0_8 n0_9 n0_10 n0_11 : Int) (p0 : Bool) (A0 A1 A2 : Nat → Int) (b0 : -9223372036854775808 ≤ n0_3 ∧ n0_3 ≤ 9223372036854775807) (b1 : -9223372036854775808 ≤ n0_5 ∧ n0_5 ≤ 9223372036854775807) (b2 : 0 ≤ n0_6 ∧ n0_6 ≤ 255) (b3 : 0 ≤ n0_7 ∧ n0_7 ≤ 255) (b4 : -9223372036854775808 ≤ n0_8 ∧ n0_8 ≤ 9223372036854775807) (b5 : 0 ≤ n0_9 ∧ n0_9 ≤ 65535) (b6 : -9223372036854775808 ≤ n0_10 ∧ n0_10 ≤ 9223372036854775807) (b7 : 0 ≤ n0_11 ∧ n0_11 ≤ 255) (B0 : ∀ j, 0 ≤ A0 j ∧ A0 j ≤ 65535) (B1 : ∀ j, 0 ≤ A1 j ∧ A1 j ≤ 255) (B2 : ∀ j, 0 ≤ A2 j ∧ A2 j ≤ 65535) : E.b (⟨[n0_3, n0_5, n0_6, n0_7, n0_8, n0_9, n0_10, n0_11], [p0], [A0, A1, A2], [], Iv (fun _ _ => Ext.none)⟩ : Env) (.blit true) = true := by
  simp only [i_v, b_bv, i_lit, b_blit, i_add, i_sub, i_mul, i_div, i_mod, i_tdiv, i_tmod, i_ite, b_ite, b_lt, b_le, b_eq, b_not, b_and, b_or, b_iff, i_sel, a_tab, i_pow2, List.getD_cons_zero, List.getD_cons_succ, decide_eq_true_eq, decide_eq_false_iff_not, Bool.and_eq_true, Bool.or_eq_true, Bool.not_eq_true', Bool.not_eq_false', Bool.and_eq_false_iff, Bool.or_eq_false_iff, Bool.not_not, ite_tt, ite_ff, iff_tt, iff_ff, a_av, a_ite, a_upd]
theorem b3calls (c0 : List Value) (l0 : c0.length = pcTotal Pc0) (f0 : PcFit c0 0 Pc0) (hex0 : 0 ≤ (intV (c0.getD 33568 Go.undef)) ∧ (intV (c0.getD 33568 Go.undef)) ≤ 65535) (hex1 : 0 ≤ (intV (c0.getD 33570 Go.undef)) ∧ (intV (c0.getD 33570 Go.undef)) ≤ 65535) (hex2 : 0 ≤ (intV (c0.getD 33573 Go.undef)) ∧ (intV (c0.getD 33573 Go.undef)) ≤ 65535) (hex3 : 0 ≤ (intV (c0.getD 33575 Go.undef)) ∧ (intV (c0.getD 33575 Go.undef)) ≤ 65535) (w : World) :
    Calls Try.prog 6 #[.agg c0.toArray, .int .i64 (3)] w fun r w' => r = .returned (.bool true) ∧ Below w.heap.size w w' := by
  have hc0 : cellsOf (b3Env c0) Loc.id (pcSegs 0 0 0 Pc0) = c0 := by
    rw [pc_cells Pc0 0 0 0 0 f0 (by intro j hj; rcases j with _ | _ | _ | j <;> first | rfl | (simp [Pc0, pcA, pcB, pcI] at hj <;> omega)) (by intro j hj; rcases j with _ | j <;> first | rfl | (simp [Pc0, pcA, pcB, pcI] at hj <;> omega)) (by intro j hj; rcases j with _ | _ | _ | _ | _ | _ | _ | _ | j <;> first | rfl | (simp [Pc0, pcA, pcB, pcI] at hj <;> omega)), List.drop_zero, ← l0, List.take_length]
  have hargs : (b3Ls.map (SV.conc (b3Env c0) Loc.id)).toArray = #[.agg c0.toArray, .int .i64 (3)] := by
    refine congrArg List.toArray ?_
    exact (cons_eq (congrArg (fun l => Value.agg (List.toArray l)) hc0) (cons_eq rfl rfl))
  rw [← hargs]
  have hok : Hyp.ok b3Hy (b3Env c0) := by
    refine ⟨?_, ?_, ?_, (fun p hp is bs xs => by simp only [b3Hy, List.mem_cons, List.not_mem_nil, or_false] at hp; subst hp; exact sumF_rng _ _), ?_, by simp [b3Hy]⟩
    · simp [b3Hy]
    · intro p hp
      simp only [b3Hy, List.mem_cons, List.not_mem_nil, or_false] at hp
      rcases hp with rfl | rfl | rfl | rfl | rfl | rfl | rfl | rfl | rfl | rfl | rfl | rfl
      · exact (by have hx := hex0; first | exact ⟨Int.le_of_eq hx.symm, Int.le_of_eq hx⟩ | exact hx)
      · exact (by have hx := hex1; first | exact ⟨Int.le_of_eq hx.symm, Int.le_of_eq hx⟩ | exact hx)
      · exact (by have hx := hex2; first | exact ⟨Int.le_of_eq hx.symm, Int.le_of_eq hx⟩ | exact hx)
      · exact (by have hx := hex3; first | exact ⟨Int.le_of_eq hx.symm, Int.le_of_eq hx⟩ | exact hx)
      · exact num_rng (f0.tail.tail.tail)
      · exact num_rng (f0.tail.tail.tail.tail.tail)
      · exact num_rng (f0.tail.tail.tail.tail.tail.tail)
      · exact num_rng (f0.tail.tail.tail.tail.tail.tail.tail)
      · exact num_rng (f0.tail.tail.tail.tail.tail.tail.tail.tail)
      · exact num_rng (f0.tail.tail.tail.tail.tail.tail.tail.tail.tail)
      · exact num_rng (f0.tail.tail.tail.tail.tail.tail.tail.tail.tail.tail)
      · exact num_rng (f0.tail.tail.tail.tail.tail.tail.tail.tail.tail.tail.tail)
    · intro p hp
      simp only [b3Hy, List.mem_cons, List.not_mem_nil, or_false] at hp
      rcases hp with rfl | rfl | rfl
      · exact arrOf_rng (f0)
      · exact arrOf_rng (f0.tail)
      · exact arrOf_rng (f0.tail.tail)
    · intro p hp is bs xs j
      simp only [b3Hy, List.mem_cons, List.not_mem_nil, or_false] at hp
      subst hp
      exact rowB_rng _ j
  exact law_true (ρ := (b3Env c0)) (G_ok _) (by kernel_rfl) b3run rfl
    hok (by intro e he; cases he) rfl w (fun i j => Ext.none_ok _)
end Go.Proofs.Ytjegnoknenahpaa.VramLoads
