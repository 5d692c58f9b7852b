/- A part of the law VramLoads, which returns true for every input. A state that is handed in is taken just if it can be; else the memories have not changed; it is saved as the same bytes. No condition. -/
import Derived.Test.YtjegnoknenahpaaVramLoads0
namespace Go.Proofs.Ytjegnoknenahpaa.VramLoads
open Go.Sx Go.ChangeShapes Go.WideShapes Go.ChangeAt Go.RowKit
set_option linter.unusedVariables false
set_option linter.unusedSimpArgs false
set_option maxRecDepth 100000
def o0lEnv (c0 : List Value) (a1 : Int) : Env := (⟨[intV (c0.getD 33568 Go.undef), intV (c0.getD 33570 Go.undef), intV (c0.getD 33571 Go.undef), intV (c0.getD 33572 Go.undef), intV (c0.getD 33573 Go.undef), intV (c0.getD 33574 Go.undef), intV (c0.getD 33575 Go.undef), intV (c0.getD 33576 Go.undef), a1], [boolV (c0.getD 33569 Go.undef)], [arrOf c0 0 32768, arrOf c0 32768 544, arrOf c0 33312 256], [], Iv (fun _ _ => Ext.none)⟩ : Env)
def o0lHy : Hyp := ⟨[((.v 0), (-9223372036854775808, -1)), (.v 0, (-9223372036854775808, 9223372036854775807)), (.v 1, (-9223372036854775808, 9223372036854775807)), (.v 2, (0, 255)), (.v 3, (0, 255)), (.v 4, (-9223372036854775808, 9223372036854775807)), (.v 5, (0, 65535)), (.v 6, (-9223372036854775808, 9223372036854775807)), (.v 7, (0, 255)), (.v 8, (-9223372036854775808, 9223372036854775807))], [(0, (0, 65535)), (1, (0, 255)), (2, (0, 65535))], [(10, (0, 4294967295))], [(50, (0, 255))], [], []⟩
def o0lLs : List SV := [.agg (pcSegs 0 0 0 Pc0), .s (.int .i64 (.v 8))]

theorem o0lrun : enter Try.prog G Gh 3000 60 6 o0lHy o0lLs [] = some ([], .s (.bool (.blit true)), none) := by kernel_rfl
theorem o0lvc (n0_3 n0_5 n0_6 n0_7 n0_8 n0_9 n0_10 n0_11 a1 : Int) (p0 : Bool) (A0 A1 A2 : Nat → Int) (b0 : -9223372036854775808 ≤ n0_3 ∧ n0_3 ≤ 9223372036854775807) (b1 : -9223372036854775808 ≤ n0_5 ∧ n0_5 ≤ 9223372036854775807) (b2 : 0 ≤ n0_6 ∧ n0_6 ≤ 255) (b3 : 0 ≤ n0_7 ∧ n0_7 ≤ 255) (b4 : -9223372036854775808 ≤ n0_8 ∧ n0_8 ≤ 9223372036854775807) (b5 : 0 ≤ n0_9 ∧ n0_9 ≤ 65535) (b6 : -9223372036854775808 ≤ n0_10 ∧ n0_10 ≤ 9223372036854775807) (b7 : 0 ≤ n0_11 ∧ n0_11 ≤ 255) (b8 : -9223372036854775808 ≤ a1 ∧ a1 ≤ 9223372036854775807) (B0 : ∀ j, 0 ≤ A0 j ∧ A0 j ≤ 65535) (B1 : ∀ j, 0 ≤ A1 j ∧ A1 j ≤ 255) (B2 : ∀ j, 0 ≤ A2 j ∧ A2 j ≤ 65535) : E.b (⟨[n0_3, n0_5, n0_6, n0_7, n0_8, n0_9, n0_10, n0_11, a1], [p0], [A0, A1, A2], [], Iv (fun _ _ => Ext.none)⟩ : Env) (.blit true) = true := by
  simp only [i_v, b_bv, i_lit, b_blit, i_add, i_sub, i_mul, i_div, i_mod, i_tdiv, i_tmod, i_ite, b_ite, b_lt, b_le, b_eq, b_not, b_and, b_or, b_iff, i_sel, a_tab, i_pow2, List.getD_cons_zero, List.getD_cons_succ, decide_eq_true_eq, decide_eq_false_iff_not, Bool.and_eq_true, Bool.or_eq_true, Bool.not_eq_true', Bool.not_eq_false', Bool.and_eq_false_iff, Bool.or_eq_false_iff, Bool.not_not, ite_tt, ite_ff, iff_tt, iff_ff, a_av, a_ite, a_upd]
theorem o0lcalls (c0 : List Value) (l0 : c0.length = pcTotal Pc0) (f0 : PcFit c0 0 Pc0) (a1 : Int) (w1 : (Lit.int .i64 a1).wf = true) (hex0 : -9223372036854775808 ≤ (intV (c0.getD 33568 Go.undef)) ∧ (intV (c0.getD 33568 Go.undef)) ≤ -1) (w : World) :
    Calls Try.prog 6 #[.agg c0.toArray, .int .i64 a1] w fun r w' => r = .returned (.bool true) ∧ Below w.heap.size w w' := by
  have hc0 : cellsOf (o0lEnv c0 a1) Loc.id (pcSegs 0 0 0 Pc0) = c0 := by
    rw [pc_cells Pc0 0 0 0 0 f0 (by intro j hj; rcases j with _ | _ | _ | j <;> first | rfl | (simp [Pc0, pcA, pcB, pcI] at hj <;> omega)) (by intro j hj; rcases j with _ | j <;> first | rfl | (simp [Pc0, pcA, pcB, pcI] at hj <;> omega)) (by intro j hj; rcases j with _ | _ | _ | _ | _ | _ | _ | _ | j <;> first | rfl | (simp [Pc0, pcA, pcB, pcI] at hj <;> omega)), List.drop_zero, ← l0, List.take_length]
  have hargs : (o0lLs.map (SV.conc (o0lEnv c0 a1) Loc.id)).toArray = #[.agg c0.toArray, .int .i64 a1] := by
    refine congrArg List.toArray ?_
    exact (cons_eq (congrArg (fun l => Value.agg (List.toArray l)) hc0) (cons_eq rfl rfl))
  rw [← hargs]
  have hok : Hyp.ok o0lHy (o0lEnv c0 a1) := by
    refine ⟨?_, ?_, ?_, (fun p hp is bs xs => by simp only [o0lHy, List.mem_cons, List.not_mem_nil, or_false] at hp; subst hp; exact sumF_rng _ _), ?_, by simp [o0lHy]⟩
    · simp [o0lHy]
    · intro p hp
      simp only [o0lHy, List.mem_cons, List.not_mem_nil, or_false] at hp
      rcases hp with rfl | rfl | rfl | rfl | rfl | rfl | rfl | rfl | rfl | rfl
      · exact (by have hx := hex0; first | exact ⟨Int.le_of_eq hx.symm, Int.le_of_eq hx⟩ | exact hx)
      · exact num_rng (f0.tail.tail.tail)
      · exact num_rng (f0.tail.tail.tail.tail.tail)
      · exact num_rng (f0.tail.tail.tail.tail.tail.tail)
      · exact num_rng (f0.tail.tail.tail.tail.tail.tail.tail)
      · exact num_rng (f0.tail.tail.tail.tail.tail.tail.tail.tail)
      · exact num_rng (f0.tail.tail.tail.tail.tail.tail.tail.tail.tail)
      · exact num_rng (f0.tail.tail.tail.tail.tail.tail.tail.tail.tail.tail)
      · exact num_rng (f0.tail.tail.tail.tail.tail.tail.tail.tail.tail.tail.tail)
      · exact bounds_i64 w1
    · intro p hp
      simp only [o0lHy, List.mem_cons, List.not_mem_nil, or_false] at hp
      rcases hp with rfl | rfl | rfl
      · exact arrOf_rng (f0)
      · exact arrOf_rng (f0.tail)
      · exact arrOf_rng (f0.tail.tail)
    · intro p hp is bs xs j
      simp only [o0lHy, List.mem_cons, List.not_mem_nil, or_false] at hp
      subst hp
      exact rowB_rng _ j
  exact law_true (ρ := (o0lEnv c0 a1)) (G_ok _) (by kernel_rfl) o0lrun rfl
    hok (by intro e he; cases he) rfl w (fun i j => Ext.none_ok _)
def o0hEnv (c0 : List Value) (a1 : Int) : Env := (⟨[intV (c0.getD 33568 Go.undef), intV (c0.getD 33570 Go.undef), intV (c0.getD 33571 Go.undef), intV (c0.getD 33572 Go.undef), intV (c0.getD 33573 Go.undef), intV (c0.getD 33574 Go.undef), intV (c0.getD 33575 Go.undef), intV (c0.getD 33576 Go.undef), a1], [boolV (c0.getD 33569 Go.undef)], [arrOf c0 0 32768, arrOf c0 32768 544, arrOf c0 33312 256], [], Iv (fun _ _ => Ext.none)⟩ : Env)
def o0hHy : Hyp := ⟨[((.v 0), (65536, 9223372036854775807)), (.v 0, (-9223372036854775808, 9223372036854775807)), (.v 1, (-9223372036854775808, 9223372036854775807)), (.v 2, (0, 255)), (.v 3, (0, 255)), (.v 4, (-9223372036854775808, 9223372036854775807)), (.v 5, (0, 65535)), (.v 6, (-9223372036854775808, 9223372036854775807)), (.v 7, (0, 255)), (.v 8, (-9223372036854775808, 9223372036854775807))], [(0, (0, 65535)), (1, (0, 255)), (2, (0, 65535))], [(10, (0, 4294967295))], [(50, (0, 255))], [], []⟩
def o0hLs : List SV := [.agg (pcSegs 0 0 0 Pc0), .s (.int .i64 (.v 8))]

theorem o0hrun : enter Try.prog G Gh 3000 60 6 o0hHy o0hLs [] = some ([], .s (.bool (.blit true)), none) := by kernel_rfl
theorem o0hvc (n0_3 n0_5 n0_6 n0_7 n0_8 n0_9 n0_10 n0_11 a1 : Int) (p0 : Bool) (A0 A1 A2 : Nat → Int) (b0 : -9223372036854775808 ≤ n0_3 ∧ n0_3 ≤ 9223372036854775807) (b1 : -9223372036854775808 ≤ n0_5 ∧ n0_5 ≤ 9223372036854775807) (b2 : 0 ≤ n0_6 ∧ n0_6 ≤ 255) (b3 : 0 ≤ n0_7 ∧ n0_7 ≤ 255) (b4 : -9223372036854775808 ≤ n0_8 ∧ n0_8 ≤ 9223372036854775807) (b5 : 0 ≤ n0_9 ∧ n0_9 ≤ 65535) (b6 : -9223372036854775808 ≤ n0_10 ∧ n0_10 ≤ 9223372036854775807) (b7 : 0 ≤ n0_11 ∧ n0_11 ≤ 255) (b8 : -9223372036854775808 ≤ a1 ∧ a1 ≤ 9223372036854775807) (B0 : ∀ j, 0 ≤ A0 j ∧ A0 j ≤ 65535) (B1 : ∀ j, 0 ≤ A1 j ∧ A1 j ≤ 255) (B2 : ∀ j, 0 ≤ A2 j ∧ A2 j ≤ 65535) : E.b (⟨[n0_3, n0_5, n0_6, n0_7, n0_8, n0_9, n0_10, n0_11, a1], [p0], [A0, A1, A2], [], Iv (fun _ _ => Ext.none)⟩ : Env) (.blit true) = true := by
  simp only [i_v, b_bv, i_lit, b_blit, i_add, i_sub, i_mul, i_div, i_mod, i_tdiv, i_tmod, i_ite, b_ite, b_lt, b_le, b_eq, b_not, b_and, b_or, b_iff, i_sel, a_tab, i_pow2, List.getD_cons_zero, List.getD_cons_succ, decide_eq_true_eq, decide_eq_false_iff_not, Bool.and_eq_true, Bool.or_eq_true, Bool.not_eq_true', Bool.not_eq_false', Bool.and_eq_false_iff, Bool.or_eq_false_iff, Bool.not_not, ite_tt, ite_ff, iff_tt, iff_ff, a_av, a_ite, a_upd]
theorem o0hcalls (c0 : List Value) (l0 : c0.length = pcTotal Pc0) (f0 : PcFit c0 0 Pc0) (a1 : Int) (w1 : (Lit.int .i64 a1).wf = true) (hex0 : 65536 ≤ (intV (c0.getD 33568 Go.undef)) ∧ (intV (c0.getD 33568 Go.undef)) ≤ 9223372036854775807) (w : World) :
    Calls Try.prog 6 #[.agg c0.toArray, .int .i64 a1] w fun r w' => r = .returned (.bool true) ∧ Below w.heap.size w w' := by
  have hc0 : cellsOf (o0hEnv c0 a1) Loc.id (pcSegs 0 0 0 Pc0) = c0 := by
    rw [pc_cells Pc0 0 0 0 0 f0 (by intro j hj; rcases j with _ | _ | _ | j <;> first | rfl | (simp [Pc0, pcA, pcB, pcI] at hj <;> omega)) (by intro j hj; rcases j with _ | j <;> first | rfl | (simp [Pc0, pcA, pcB, pcI] at hj <;> omega)) (by intro j hj; rcases j with _ | _ | _ | _ | _ | _ | _ | _ | j <;> first | rfl | (simp [Pc0, pcA, pcB, pcI] at hj <;> omega)), List.drop_zero, ← l0, List.take_length]
  have hargs : (o0hLs.map (SV.conc (o0hEnv c0 a1) Loc.id)).toArray = #[.agg c0.toArray, .int .i64 a1] := by
    refine congrArg List.toArray ?_
    exact (cons_eq (congrArg (fun l => Value.agg (List.toArray l)) hc0) (cons_eq rfl rfl))
  rw [← hargs]
  have hok : Hyp.ok o0hHy (o0hEnv c0 a1) := by
    refine ⟨?_, ?_, ?_, (fun p hp is bs xs => by simp only [o0hHy, List.mem_cons, List.not_mem_nil, or_false] at hp; subst hp; exact sumF_rng _ _), ?_, by simp [o0hHy]⟩
    · simp [o0hHy]
    · intro p hp
      simp only [o0hHy, List.mem_cons, List.not_mem_nil, or_false] at hp
      rcases hp with rfl | rfl | rfl | rfl | rfl | rfl | rfl | rfl | rfl | rfl
      · exact (by have hx := hex0; first | exact ⟨Int.le_of_eq hx.symm, Int.le_of_eq hx⟩ | exact hx)
      · exact num_rng (f0.tail.tail.tail)
      · exact num_rng (f0.tail.tail.tail.tail.tail)
      · exact num_rng (f0.tail.tail.tail.tail.tail.tail)
      · exact num_rng (f0.tail.tail.tail.tail.tail.tail.tail)
      · exact num_rng (f0.tail.tail.tail.tail.tail.tail.tail.tail)
      · exact num_rng (f0.tail.tail.tail.tail.tail.tail.tail.tail.tail)
      · exact num_rng (f0.tail.tail.tail.tail.tail.tail.tail.tail.tail.tail)
      · exact num_rng (f0.tail.tail.tail.tail.tail.tail.tail.tail.tail.tail.tail)
      · exact bounds_i64 w1
    · intro p hp
      simp only [o0hHy, List.mem_cons, List.not_mem_nil, or_false] at hp
      rcases hp with rfl | rfl | rfl
      · exact arrOf_rng (f0)
      · exact arrOf_rng (f0.tail)
      · exact arrOf_rng (f0.tail.tail)
    · intro p hp is bs xs j
      simp only [o0hHy, List.mem_cons, List.not_mem_nil, or_false] at hp
      subst hp
      exact rowB_rng _ j
  exact law_true (ρ := (o0hEnv c0 a1)) (G_ok _) (by kernel_rfl) o0hrun rfl
    hok (by intro e he; cases he) rfl w (fun i j => Ext.none_ok _)
def o1lEnv (c0 : List Value) (a1 : Int) : Env := (⟨[intV (c0.getD 33568 Go.undef), intV (c0.getD 33570 Go.undef), intV (c0.getD 33571 Go.undef), intV (c0.getD 33572 Go.undef), intV (c0.getD 33573 Go.undef), intV (c0.getD 33574 Go.undef), intV (c0.getD 33575 Go.undef), intV (c0.getD 33576 Go.undef), a1], [boolV (c0.getD 33569 Go.undef)], [arrOf c0 0 32768, arrOf c0 32768 544, arrOf c0 33312 256], [], Iv (fun _ _ => Ext.none)⟩ : Env)
def o1lHy : Hyp := ⟨[((.v 0), (0, 65535)), ((.v 1), (-9223372036854775808, -1)), (.v 0, (-9223372036854775808, 9223372036854775807)), (.v 1, (-9223372036854775808, 9223372036854775807)), (.v 2, (0, 255)), (.v 3, (0, 255)), (.v 4, (-9223372036854775808, 9223372036854775807)), (.v 5, (0, 65535)), (.v 6, (-9223372036854775808, 9223372036854775807)), (.v 7, (0, 255)), (.v 8, (-9223372036854775808, 9223372036854775807))], [(0, (0, 65535)), (1, (0, 255)), (2, (0, 65535))], [(10, (0, 4294967295))], [(50, (0, 255))], [], []⟩
def o1lLs : List SV := [.agg (pcSegs 0 0 0 Pc0), .s (.int .i64 (.v 8))]

theorem o1lrun : enter Try.prog G Gh 3000 60 6 o1lHy o1lLs [] = some ([], .s (.bool (.blit true)), none) := by kernel_rfl
theorem o1lvc (n0_3 n0_5 n0_6 n0_7 n0_8 n0_9 n0_10 n0_11 a1 : Int) (p0 : Bool) (A0 A1 A2 : Nat → Int) (b0 : -9223372036854775808 ≤ n0_3 ∧ n0_3 ≤ 9223372036854775807) (b1 : -9223372036854775808 ≤ n0_5 ∧ n0_5 ≤ 9223372036854775807) (b2 : 0 ≤ n0_6 ∧ n0_6 ≤ 255) (b3 : 0 ≤ n0_7 ∧ n0_7 ≤ 255) (b4 : -9223372036854775808 ≤ n0_8 ∧ n0_8 ≤ 9223372036854775807) (b5 : 0 ≤ n0_9 ∧ n0_9 ≤ 65535) (b6 : -9223372036854775808 ≤ n0_10 ∧ n0_10 ≤ 9223372036854775807) (b7 : 0 ≤ n0_11 ∧ n0_11 ≤ 255) (b8 : -9223372036854775808 ≤ a1 ∧ a1 ≤ 9223372036854775807) (B0 : ∀ j, 0 ≤ A0 j ∧ A0 j ≤ 65535) (B1 : ∀ j, 0 ≤ A1 j ∧ A1 j ≤ 255) (B2 : ∀ j, 0 ≤ A2 j ∧ A2 j ≤ 65535) : E.b (⟨[n0_3, n0_5, n0_6, n0_7, n0_8, n0_9, n0_10, n0_11, a1], [p0], [A0, A1, A2], [], Iv (fun _ _ => Ext.none)⟩ : Env) (.blit true) = true := by
  simp only [i_v, b_bv, i_lit, b_blit, i_add, i_sub, i_mul, i_div, i_mod, i_tdiv, i_tmod, i_ite, b_ite, b_lt, b_le, b_eq, b_not, b_and, b_or, b_iff, i_sel, a_tab, i_pow2, List.getD_cons_zero, List.getD_cons_succ, decide_eq_true_eq, decide_eq_false_iff_not, Bool.and_eq_true, Bool.or_eq_true, Bool.not_eq_true', Bool.not_eq_false', Bool.and_eq_false_iff, Bool.or_eq_false_iff, Bool.not_not, ite_tt, ite_ff, iff_tt, iff_ff, a_av, a_ite, a_upd]
theorem o1lcalls (c0 : List Value) (l0 : c0.length = pcTotal Pc0) (f0 : PcFit c0 0 Pc0) (a1 : Int) (w1 : (Lit.int .i64 a1).wf = true) (hex0 : 0 ≤ (intV (c0.getD 33568 Go.undef)) ∧ (intV (c0.getD 33568 Go.undef)) ≤ 65535) (hex1 : -9223372036854775808 ≤ (intV (c0.getD 33570 Go.undef)) ∧ (intV (c0.getD 33570 Go.undef)) ≤ -1) (w : World) :
    Calls Try.prog 6 #[.agg c0.toArray, .int .i64 a1] w fun r w' => r = .returned (.bool true) ∧ Below w.heap.size w w' := by
  have hc0 : cellsOf (o1lEnv c0 a1) Loc.id (pcSegs 0 0 0 Pc0) = c0 := by
    rw [pc_cells Pc0 0 0 0 0 f0 (by intro j hj; rcases j with _ | _ | _ | j <;> first | rfl | (simp [Pc0, pcA, pcB, pcI] at hj <;> omega)) (by intro j hj; rcases j with _ | j <;> first | rfl | (simp [Pc0, pcA, pcB, pcI] at hj <;> omega)) (by intro j hj; rcases j with _ | _ | _ | _ | _ | _ | _ | _ | j <;> first | rfl | (simp [Pc0, pcA, pcB, pcI] at hj <;> omega)), List.drop_zero, ← l0, List.take_length]
  have hargs : (o1lLs.map (SV.conc (o1lEnv c0 a1) Loc.id)).toArray = #[.agg c0.toArray, .int .i64 a1] := by
    refine congrArg List.toArray ?_
    exact (cons_eq (congrArg (fun l => Value.agg (List.toArray l)) hc0) (cons_eq rfl rfl))
  rw [← hargs]
  have hok : Hyp.ok o1lHy (o1lEnv c0 a1) := by
    refine ⟨?_, ?_, ?_, (fun p hp is bs xs => by simp only [o1lHy, List.mem_cons, List.not_mem_nil, or_false] at hp; subst hp; exact sumF_rng _ _), ?_, by simp [o1lHy]⟩
    · simp [o1lHy]
    · intro p hp
      simp only [o1lHy, List.mem_cons, List.not_mem_nil, or_false] at hp
      rcases hp with rfl | rfl | rfl | rfl | rfl | rfl | rfl | rfl | rfl | rfl | rfl
      · exact (by have hx := hex0; first | exact ⟨Int.le_of_eq hx.symm, Int.le_of_eq hx⟩ | exact hx)
      · exact (by have hx := hex1; first | exact ⟨Int.le_of_eq hx.symm, Int.le_of_eq hx⟩ | exact hx)
      · exact num_rng (f0.tail.tail.tail)
      · exact num_rng (f0.tail.tail.tail.tail.tail)
      · exact num_rng (f0.tail.tail.tail.tail.tail.tail)
      · exact num_rng (f0.tail.tail.tail.tail.tail.tail.tail)
      · exact num_rng (f0.tail.tail.tail.tail.tail.tail.tail.tail)
      · exact num_rng (f0.tail.tail.tail.tail.tail.tail.tail.tail.tail)
      · exact num_rng (f0.tail.tail.tail.tail.tail.tail.tail.tail.tail.tail)
      · exact num_rng (f0.tail.tail.tail.tail.tail.tail.tail.tail.tail.tail.tail)
      · exact bounds_i64 w1
    · intro p hp
      simp only [o1lHy, List.mem_cons, List.not_mem_nil, or_false] at hp
      rcases hp with rfl | rfl | rfl
      · exact arrOf_rng (f0)
      · exact arrOf_rng (f0.tail)
      · exact arrOf_rng (f0.tail.tail)
    · intro p hp is bs xs j
      simp only [o1lHy, List.mem_cons, List.not_mem_nil, or_false] at hp
      subst hp
      exact rowB_rng _ j
  exact law_true (ρ := (o1lEnv c0 a1)) (G_ok _) (by kernel_rfl) o1lrun rfl
    hok (by intro e he; cases he) rfl w (fun i j => Ext.none_ok _)
def o1hEnv (c0 : List Value) (a1 : Int) : Env := (⟨[intV (c0.getD 33568 Go.undef), intV (c0.getD 33570 Go.undef), intV (c0.getD 33571 Go.undef), intV (c0.getD 33572 Go.undef), intV (c0.getD 33573 Go.undef), intV (c0.getD 33574 Go.undef), intV (c0.getD 33575 Go.undef), intV (c0.getD 33576 Go.undef), a1], [boolV (c0.getD 33569 Go.undef)], [arrOf c0 0 32768, arrOf c0 32768 544, arrOf c0 33312 256], [], Iv (fun _ _ => Ext.none)⟩ : Env)
def o1hHy : Hyp := ⟨[((.v 0), (0, 65535)), ((.v 1), (65536, 9223372036854775807)), (.v 0, (-9223372036854775808, 9223372036854775807)), (.v 1, (-9223372036854775808, 9223372036854775807)), (.v 2, (0, 255)), (.v 3, (0, 255)), (.v 4, (-9223372036854775808, 9223372036854775807)), (.v 5, (0, 65535)), (.v 6, (-9223372036854775808, 9223372036854775807)), (.v 7, (0, 255)), (.v 8, (-9223372036854775808, 9223372036854775807))], [(0, (0, 65535)), (1, (0, 255)), (2, (0, 65535))], [(10, (0, 4294967295))], [(50, (0, 255))], [], []⟩
def o1hLs : List SV := [.agg (pcSegs 0 0 0 Pc0), .s (.int .i64 (.v 8))]

theorem o1hrun : enter Try.prog G Gh 3000 60 6 o1hHy o1hLs [] = some ([], .s (.bool (.blit true)), none) := by kernel_rfl
theorem o1hvc (n0_3 n0_5 n0_6 n0_7 n0_8 n0_9 n0_10 n0_11 a1 : Int) (p0 : Bool) (A0 A1 A2 : Nat → Int) (b0 : -9223372036854775808 ≤ n0_3 ∧ n0_3 ≤ 9223372036854775807) (b1 : -9223372036854775808 ≤ n0_5 ∧ n0_5 ≤ 9223372036854775807) (b2 : 0 ≤ n0_6 ∧ n0_6 ≤ 255) (b3 : 0 ≤ n0_7 ∧ n0_7 ≤ 255) (b4 : -9223372036854775808 ≤ n0_8 ∧ n0_8 ≤ 9223372036854775807) (b5 : 0 ≤ n0_9 ∧ n0_9 ≤ 65535) (b6 : -9223372036854775808 ≤ n0_10 ∧ n0_10 ≤ 9223372036854775807) (b7 : 0 ≤ n0_11 ∧ n0_11 ≤ 255) (b8 : -9223372036854775808 ≤ a1 ∧ a1 ≤ 9223372036854775807) (B0 : ∀ j, 0 ≤ A0 j ∧ A0 j ≤ 65535) (B1 : ∀ j, 0 ≤ A1 j ∧ A1 j ≤ 255) (B2 : ∀ j, 0 ≤ A2 j ∧ A2 j ≤ 65535) : E.b (⟨[n0_3, n0_5, n0_6, n0_7, n0_8, n0_9, n0_10, n0_11, a1], [p0], [A0, A1, A2], [], Iv (fun _ _ => Ext.none)⟩ : Env) (.blit true) = true := by
  simp only [i_v, b_bv, i_lit, b_blit, i_add, i_sub, i_mul, i_div, i_mod, i_tdiv, i_tmod, i_ite, b_ite, b_lt, b_le, b_eq, b_not, b_and, b_or, b_iff, i_sel, a_tab, i_pow2, List.getD_cons_zero, List.getD_cons_succ, decide_eq_true_eq, decide_eq_false_iff_not, Bool.and_eq_true, Bool.or_eq_true, Bool.not_eq_true', Bool.not_eq_false', Bool.and_eq_false_iff, Bool.or_eq_false_iff, Bool.not_not, ite_tt, ite_ff, iff_tt, iff_ff, a_av, a_ite, a_upd]
theorem o1hcalls (c0 : List Value) (l0 : c0.length = pcTotal Pc0) (f0 : PcFit c0 0 Pc0) (a1 : Int) (w1 : (Lit.int .i64 a1).wf = true) (hex0 : 0 ≤ (intV (c0.getD 33568 Go.undef)) ∧ (intV (c0.getD 33568 Go.undef)) ≤ 65535) (hex1 : 65536 ≤ (intV (c0.getD 33570 Go.undef)) ∧ (intV (c0.getD 33570 Go.undef)) ≤ 9223372036854775807) (w : World) :
    Calls Try.prog 6 #[.agg c0.toArray, .int .i64 a1] w fun r w' => r = .returned (.bool true) ∧ Below w.heap.size w w' := by
  have hc0 : cellsOf (o1hEnv c0 a1) Loc.id (pcSegs 0 0 0 Pc0) = c0 := by
    rw [pc_cells Pc0 0 0 0 0 f0 (by intro j hj; rcases j with _ | _ | _ | j <;> first | rfl | (simp [Pc0, pcA, pcB, pcI] at hj <;> omega)) (by intro j hj; rcases j with _ | j <;> first | rfl | (simp [Pc0, pcA, pcB, pcI] at hj <;> omega)) (by intro j hj; rcases j with _ | _ | _ | _ | _ | _ | _ | _ | j <;> first | rfl | (simp [Pc0, pcA, pcB, pcI] at hj <;> omega)), List.drop_zero, ← l0, List.take_length]
  have hargs : (o1hLs.map (SV.conc (o1hEnv c0 a1) Loc.id)).toArray = #[.agg c0.toArray, .int .i64 a1] := by
    refine congrArg List.toArray ?_
    exact (cons_eq (congrArg (fun l => Value.agg (List.toArray l)) hc0) (cons_eq rfl rfl))
  rw [← hargs]
  have hok : Hyp.ok o1hHy (o1hEnv c0 a1) := by
    refine ⟨?_, ?_, ?_, (fun p hp is bs xs => by simp only [o1hHy, List.mem_cons, List.not_mem_nil, or_false] at hp; subst hp; exact sumF_rng _ _), ?_, by simp [o1hHy]⟩
    · simp [o1hHy]
    · intro p hp
      simp only [o1hHy, List.mem_cons, List.not_mem_nil, or_false] at hp
      rcases hp with rfl | rfl | rfl | rfl | rfl | rfl | rfl | rfl | rfl | rfl | rfl
      · exact (by have hx := hex0; first | exact ⟨Int.le_of_eq hx.symm, Int.le_of_eq hx⟩ | exact hx)
      · exact (by have hx := hex1; first | exact ⟨Int.le_of_eq hx.symm, Int.le_of_eq hx⟩ | exact hx)
      · exact num_rng (f0.tail.tail.tail)
      · exact num_rng (f0.tail.tail.tail.tail.tail)
      · exact num_rng (f0.tail.tail.tail.tail.tail.tail)
      · exact num_rng (f0.tail.tail.tail.tail.tail.tail.tail)
      · exact num_rng (f0.tail.tail.tail.tail.tail.tail.tail.tail)
      · exact num_rng (f0.tail.tail.tail.tail.tail.tail.tail.tail.tail)
      · exact num_rng (f0.tail.tail.tail.tail.tail.tail.tail.tail.tail.tail)
      · exact num_rng (f0.tail.tail.tail.tail.tail.tail.tail.tail.tail.tail.tail)
      · exact bounds_i64 w1
    · intro p hp
      simp only [o1hHy, List.mem_cons, List.not_mem_nil, or_false] at hp
      rcases hp with rfl | rfl | rfl
      · exact arrOf_rng (f0)
      · exact arrOf_rng (f0.tail)
      · exact arrOf_rng (f0.tail.tail)
    · intro p hp is bs xs j
      simp only [o1hHy, List.mem_cons, List.not_mem_nil, or_false] at hp
      subst hp
      exact rowB_rng _ j
  exact law_true (ρ := (o1hEnv c0 a1)) (G_ok _) (by kernel_rfl) o1hrun rfl
    hok (by intro e he; cases he) rfl w (fun i j => Ext.none_ok _)
end Go.Proofs.Ytjegnoknenahpaa.VramLoads
