/- A part of the law VramLoads, which returns true for every input. A state that is handed in is taken just if it can be; else the memories have not changed; it is saved as the same bytes. No condition. -/
import Derived.Test.YtjegnoknenahpaaVramLoads0
namespace Go.Proofs.Ytjegnoknenahpaa.VramLoads
open Go.Sx Go.ChangeShapes Go.WideShapes Go.ChangeAt Go.RowKit
set_option linter.unusedVariables false
set_option linter.unusedSimpArgs false
set_option maxRecDepth 100000
def zh6Env (c0 : List Value) (a1 : Int) : Env := (⟨[intV (c0.getD 33568 Go.undef), intV (c0.getD 33570 Go.undef), intV (c0.getD 33571 Go.undef), intV (c0.getD 33572 Go.undef), intV (c0.getD 33573 Go.undef), intV (c0.getD 33574 Go.undef), intV (c0.getD 33575 Go.undef), intV (c0.getD 33576 Go.undef), a1], [boolV (c0.getD 33569 Go.undef)], [arrOf c0 0 32768, arrOf c0 32768 544, arrOf c0 33312 256], [], Iv (fun _ _ => Ext.none)⟩ : Env)
def zh6Hy : Hyp := ⟨[((.v 4), (0, 65535)), ((.v 0), (0, 511)), ((.v 1), (0, 1023)), ((.v 6), (512, 65535)), (.v 0, (-9223372036854775808, 9223372036854775807)), (.v 1, (-9223372036854775808, 9223372036854775807)), (.v 2, (0, 255)), (.v 3, (0, 255)), (.v 4, (-9223372036854775808, 9223372036854775807)), (.v 5, (0, 65535)), (.v 6, (-9223372036854775808, 9223372036854775807)), (.v 7, (0, 255)), (.v 8, (4, 9223372036854775807))], [(0, (0, 65535)), (1, (0, 255)), (2, (0, 65535))], [(10, (0, 4294967295))], [(50, (0, 255))], [], []⟩
def zh6Ls : List SV := [.agg (pcSegs 0 0 0 Pc0), .s (.int .i64 (.v 8))]

theorem zh6run : enter Try.prog G Gh 3000 60 6 zh6Hy zh6Ls [] = some ([], .s (.bool (.blit true)), none) := by kernel_rfl
theorem zh6vc (n0_3 n0_5 n0_6 n0_7 n0_8 n0_9 n0_10 n0_11 a1 : Int) (p0 : Bool) (A0 A1 A2 : Nat → Int) (b0 : -9223372036854775808 ≤ n0_3 ∧ n0_3 ≤ 9223372036854775807) (b1 : -9223372036854775808 ≤ n0_5 ∧ n0_5 ≤ 9223372036854775807) (b2 : 0 ≤ n0_6 ∧ n0_6 ≤ 255) (b3 : 0 ≤ n0_7 ∧ n0_7 ≤ 255) (b4 : -9223372036854775808 ≤ n0_8 ∧ n0_8 ≤ 9223372036854775807) (b5 : 0 ≤ n0_9 ∧ n0_9 ≤ 65535) (b6 : -9223372036854775808 ≤ n0_10 ∧ n0_10 ≤ 9223372036854775807) (b7 : 0 ≤ n0_11 ∧ n0_11 ≤ 255) (b8 : 4 ≤ a1 ∧ a1 ≤ 9223372036854775807) (B0 : ∀ j, 0 ≤ A0 j ∧ A0 j ≤ 65535) (B1 : ∀ j, 0 ≤ A1 j ∧ A1 j ≤ 255) (B2 : ∀ j, 0 ≤ A2 j ∧ A2 j ≤ 65535) : E.b (⟨[n0_3, n0_5, n0_6, n0_7, n0_8, n0_9, n0_10, n0_11, a1], [p0], [A0, A1, A2], [], Iv (fun _ _ => Ext.none)⟩ : Env) (.blit true) = true := by
  simp only [i_v, b_bv, i_lit, b_blit, i_add, i_sub, i_mul, i_div, i_mod, i_tdiv, i_tmod, i_ite, b_ite, b_lt, b_le, b_eq, b_not, b_and, b_or, b_iff, i_sel, a_tab, i_pow2, List.getD_cons_zero, List.getD_cons_succ, decide_eq_true_eq, decide_eq_false_iff_not, Bool.and_eq_true, Bool.or_eq_true, Bool.not_eq_true', Bool.not_eq_false', Bool.and_eq_false_iff, Bool.or_eq_false_iff, Bool.not_not, ite_tt, ite_ff, iff_tt, iff_ff, a_av, a_ite, a_upd]
theorem zh6calls (c0 : List Value) (l0 : c0.length = pcTotal Pc0) (f0 : PcFit c0 0 Pc0) (a1 : Int) (w1 : 4 ≤ a1 ∧ a1 ≤ 9223372036854775807) (hex0 : 0 ≤ (intV (c0.getD 33573 Go.undef)) ∧ (intV (c0.getD 33573 Go.undef)) ≤ 65535) (hex1 : 0 ≤ (intV (c0.getD 33568 Go.undef)) ∧ (intV (c0.getD 33568 Go.undef)) ≤ 511) (hex2 : 0 ≤ (intV (c0.getD 33570 Go.undef)) ∧ (intV (c0.getD 33570 Go.undef)) ≤ 1023) (hex3 : 512 ≤ (intV (c0.getD 33575 Go.undef)) ∧ (intV (c0.getD 33575 Go.undef)) ≤ 65535) (w : World) :
    Calls Try.prog 6 #[.agg c0.toArray, .int .i64 a1] w fun r w' => r = .returned (.bool true) ∧ Below w.heap.size w w' := by
  have hc0 : cellsOf (zh6Env c0 a1) Loc.id (pcSegs 0 0 0 Pc0) = c0 := by
    rw [pc_cells Pc0 0 0 0 0 f0 (by intro j hj; rcases j with _ | _ | _ | j <;> first | rfl | (simp [Pc0, pcA, pcB, pcI] at hj <;> omega)) (by intro j hj; rcases j with _ | j <;> first | rfl | (simp [Pc0, pcA, pcB, pcI] at hj <;> omega)) (by intro j hj; rcases j with _ | _ | _ | _ | _ | _ | _ | _ | j <;> first | rfl | (simp [Pc0, pcA, pcB, pcI] at hj <;> omega)), List.drop_zero, ← l0, List.take_length]
  have hargs : (zh6Ls.map (SV.conc (zh6Env c0 a1) Loc.id)).toArray = #[.agg c0.toArray, .int .i64 a1] := by
    refine congrArg List.toArray ?_
    exact (cons_eq (congrArg (fun l => Value.agg (List.toArray l)) hc0) (cons_eq rfl rfl))
  rw [← hargs]
  have hok : Hyp.ok zh6Hy (zh6Env c0 a1) := by
    refine ⟨?_, ?_, ?_, (fun p hp is bs xs => by simp only [zh6Hy, List.mem_cons, List.not_mem_nil, or_false] at hp; subst hp; exact sumF_rng _ _), ?_, by simp [zh6Hy]⟩
    · simp [zh6Hy]
    · intro p hp
      simp only [zh6Hy, List.mem_cons, List.not_mem_nil, or_false] at hp
      rcases hp with rfl | rfl | rfl | rfl | rfl | rfl | rfl | rfl | rfl | rfl | rfl | rfl | rfl
      · exact (by have hx := hex0; first | exact ⟨Int.le_of_eq hx.symm, Int.le_of_eq hx⟩ | exact hx)
      · exact (by have hx := hex1; first | exact ⟨Int.le_of_eq hx.symm, Int.le_of_eq hx⟩ | exact hx)
      · exact (by have hx := hex2; first | exact ⟨Int.le_of_eq hx.symm, Int.le_of_eq hx⟩ | exact hx)
      · exact (by have hx := hex3; first | exact ⟨Int.le_of_eq hx.symm, Int.le_of_eq hx⟩ | exact hx)
      · exact num_rng (f0.tail.tail.tail)
      · exact num_rng (f0.tail.tail.tail.tail.tail)
      · exact num_rng (f0.tail.tail.tail.tail.tail.tail)
      · exact num_rng (f0.tail.tail.tail.tail.tail.tail.tail)
      · exact num_rng (f0.tail.tail.tail.tail.tail.tail.tail.tail)
      · exact num_rng (f0.tail.tail.tail.tail.tail.tail.tail.tail.tail)
      · exact num_rng (f0.tail.tail.tail.tail.tail.tail.tail.tail.tail.tail)
      · exact num_rng (f0.tail.tail.tail.tail.tail.tail.tail.tail.tail.tail.tail)
      · exact w1
    · intro p hp
      simp only [zh6Hy, List.mem_cons, List.not_mem_nil, or_false] at hp
      rcases hp with rfl | rfl | rfl
      · exact arrOf_rng (f0)
      · exact arrOf_rng (f0.tail)
      · exact arrOf_rng (f0.tail.tail)
    · intro p hp is bs xs j
      simp only [zh6Hy, List.mem_cons, List.not_mem_nil, or_false] at hp
      subst hp
      exact rowB_rng _ j
  exact law_true (ρ := (zh6Env c0 a1)) (G_ok _) (by kernel_rfl) zh6run rfl
    hok (by intro e he; cases he) rfl w (fun i j => Ext.none_ok _)
def zfEnv (c0 : List Value) (a1 : Int) : Env := (⟨[intV (c0.getD 33568 Go.undef), intV (c0.getD 33570 Go.undef), intV (c0.getD 33571 Go.undef), intV (c0.getD 33572 Go.undef), intV (c0.getD 33573 Go.undef), intV (c0.getD 33574 Go.undef), intV (c0.getD 33575 Go.undef), intV (c0.getD 33576 Go.undef), a1], [boolV (c0.getD 33569 Go.undef)], [arrOf c0 0 32768, arrOf c0 32768 544, arrOf c0 33312 256], [], Iv (fun _ _ => Ext.none)⟩ : Env)
def zfHy : Hyp := ⟨[((.v 4), (0, 65535)), ((.v 0), (0, 511)), ((.v 1), (0, 1023)), ((.v 6), (0, 511)), (.v 0, (-9223372036854775808, 9223372036854775807)), (.v 1, (-9223372036854775808, 9223372036854775807)), (.v 2, (0, 255)), (.v 3, (0, 255)), (.v 4, (-9223372036854775808, 9223372036854775807)), (.v 5, (0, 65535)), (.v 6, (-9223372036854775808, 9223372036854775807)), (.v 7, (0, 255)), (.v 8, (4, 9223372036854775807))], [(0, (0, 65535)), (1, (0, 255)), (2, (0, 65535))], [(10, (0, 4294967295))], [(50, (0, 255))], [((.app 60 (.cons (.lit 256) (.cons (.lit 32768) (.cons (.av 2) .nil)))), false)], []⟩
def zfLs : List SV := [.agg (pcSegs 0 0 0 Pc0), .s (.int .i64 (.v 8))]

theorem zfrun : enter Try.prog G Gh 3000 60 6 zfHy zfLs [] = some ([], .s (.bool (.blit true)), none) := by kernel_rfl
theorem zfvc (n0_3 n0_5 n0_6 n0_7 n0_8 n0_9 n0_10 n0_11 a1 : Int) (p0 : Bool) (A0 A1 A2 : Nat → Int) (b0 : -9223372036854775808 ≤ n0_3 ∧ n0_3 ≤ 9223372036854775807) (b1 : -9223372036854775808 ≤ n0_5 ∧ n0_5 ≤ 9223372036854775807) (b2 : 0 ≤ n0_6 ∧ n0_6 ≤ 255) (b3 : 0 ≤ n0_7 ∧ n0_7 ≤ 255) (b4 : -9223372036854775808 ≤ n0_8 ∧ n0_8 ≤ 9223372036854775807) (b5 : 0 ≤ n0_9 ∧ n0_9 ≤ 65535) (b6 : -9223372036854775808 ≤ n0_10 ∧ n0_10 ≤ 9223372036854775807) (b7 : 0 ≤ n0_11 ∧ n0_11 ≤ 255) (b8 : 4 ≤ a1 ∧ a1 ≤ 9223372036854775807) (B0 : ∀ j, 0 ≤ A0 j ∧ A0 j ≤ 65535) (B1 : ∀ j, 0 ≤ A1 j ∧ A1 j ≤ 255) (B2 : ∀ j, 0 ≤ A2 j ∧ A2 j ≤ 65535) : E.b (⟨[n0_3, n0_5, n0_6, n0_7, n0_8, n0_9, n0_10, n0_11, a1], [p0], [A0, A1, A2], [], Iv (fun _ _ => Ext.none)⟩ : Env) (.blit true) = true := by
  simp only [i_v, b_bv, i_lit, b_blit, i_add, i_sub, i_mul, i_div, i_mod, i_tdiv, i_tmod, i_ite, b_ite, b_lt, b_le, b_eq, b_not, b_and, b_or, b_iff, i_sel, a_tab, i_pow2, List.getD_cons_zero, List.getD_cons_succ, decide_eq_true_eq, decide_eq_false_iff_not, Bool.and_eq_true, Bool.or_eq_true, Bool.not_eq_true', Bool.not_eq_false', Bool.and_eq_false_iff, Bool.or_eq_false_iff, Bool.not_not, ite_tt, ite_ff, iff_tt, iff_ff, a_av, a_ite, a_upd]
theorem zfcalls (c0 : List Value) (l0 : c0.length = pcTotal Pc0) (f0 : PcFit c0 0 Pc0) (a1 : Int) (w1 : 4 ≤ a1 ∧ a1 ≤ 9223372036854775807) (hex0 : 0 ≤ (intV (c0.getD 33573 Go.undef)) ∧ (intV (c0.getD 33573 Go.undef)) ≤ 65535) (hex1 : 0 ≤ (intV (c0.getD 33568 Go.undef)) ∧ (intV (c0.getD 33568 Go.undef)) ≤ 511) (hex2 : 0 ≤ (intV (c0.getD 33570 Go.undef)) ∧ (intV (c0.getD 33570 Go.undef)) ≤ 1023) (hex3 : 0 ≤ (intV (c0.getD 33575 Go.undef)) ∧ (intV (c0.getD 33575 Go.undef)) ≤ 511) (hey0 : E.b (zfEnv c0 a1) (.app 60 (.cons (.lit 256) (.cons (.lit 32768) (.cons (.av 2) .nil)))) = false) (w : World) :
    Calls Try.prog 6 #[.agg c0.toArray, .int .i64 a1] w fun r w' => r = .returned (.bool true) ∧ Below w.heap.size w w' := by
  have hc0 : cellsOf (zfEnv c0 a1) Loc.id (pcSegs 0 0 0 Pc0) = c0 := by
    rw [pc_cells Pc0 0 0 0 0 f0 (by intro j hj; rcases j with _ | _ | _ | j <;> first | rfl | (simp [Pc0, pcA, pcB, pcI] at hj <;> omega)) (by intro j hj; rcases j with _ | j <;> first | rfl | (simp [Pc0, pcA, pcB, pcI] at hj <;> omega)) (by intro j hj; rcases j with _ | _ | _ | _ | _ | _ | _ | _ | j <;> first | rfl | (simp [Pc0, pcA, pcB, pcI] at hj <;> omega)), List.drop_zero, ← l0, List.take_length]
  have hargs : (zfLs.map (SV.conc (zfEnv c0 a1) Loc.id)).toArray = #[.agg c0.toArray, .int .i64 a1] := by
    refine congrArg List.toArray ?_
    exact (cons_eq (congrArg (fun l => Value.agg (List.toArray l)) hc0) (cons_eq rfl rfl))
  rw [← hargs]
  have hok : Hyp.ok zfHy (zfEnv c0 a1) := by
    refine ⟨?_, ?_, ?_, (fun p hp is bs xs => by simp only [zfHy, List.mem_cons, List.not_mem_nil, or_false] at hp; subst hp; exact sumF_rng _ _), ?_, ?_⟩
    · simp [zfHy]
    · intro p hp
      simp only [zfHy, List.mem_cons, List.not_mem_nil, or_false] at hp
      rcases hp with rfl | rfl | rfl | rfl | rfl | rfl | rfl | rfl | rfl | rfl | rfl | rfl | rfl
      · exact (by have hx := hex0; first | exact ⟨Int.le_of_eq hx.symm, Int.le_of_eq hx⟩ | exact hx)
      · exact (by have hx := hex1; first | exact ⟨Int.le_of_eq hx.symm, Int.le_of_eq hx⟩ | exact hx)
      · exact (by have hx := hex2; first | exact ⟨Int.le_of_eq hx.symm, Int.le_of_eq hx⟩ | exact hx)
      · exact (by have hx := hex3; first | exact ⟨Int.le_of_eq hx.symm, Int.le_of_eq hx⟩ | exact hx)
      · exact num_rng (f0.tail.tail.tail)
      · exact num_rng (f0.tail.tail.tail.tail.tail)
      · exact num_rng (f0.tail.tail.tail.tail.tail.tail)
      · exact num_rng (f0.tail.tail.tail.tail.tail.tail.tail)
      · exact num_rng (f0.tail.tail.tail.tail.tail.tail.tail.tail)
      · exact num_rng (f0.tail.tail.tail.tail.tail.tail.tail.tail.tail)
      · exact num_rng (f0.tail.tail.tail.tail.tail.tail.tail.tail.tail.tail)
      · exact num_rng (f0.tail.tail.tail.tail.tail.tail.tail.tail.tail.tail.tail)
      · exact w1
    · intro p hp
      simp only [zfHy, List.mem_cons, List.not_mem_nil, or_false] at hp
      rcases hp with rfl | rfl | rfl
      · exact arrOf_rng (f0)
      · exact arrOf_rng (f0.tail)
      · exact arrOf_rng (f0.tail.tail)
    · intro p hp is bs xs j
      simp only [zfHy, List.mem_cons, List.not_mem_nil, or_false] at hp
      subst hp
      exact rowB_rng _ j
    · intro p hp
      simp only [zfHy, List.mem_cons, List.not_mem_nil, or_false] at hp
      rcases hp with rfl
      · exact (by have hx := hey0; first | exact hx | exact decide_eq_true hx | exact decide_eq_false hx)
  exact law_true (ρ := (zfEnv c0 a1)) (G_ok _) (by kernel_rfl) zfrun rfl
    hok (by intro e he; cases he) rfl w (fun i j => Ext.none_ok _)
def zttEnv (c0 : List Value) (a1 : Int) : Env := (⟨[intV (c0.getD 33568 Go.undef), intV (c0.getD 33570 Go.undef), intV (c0.getD 33571 Go.undef), intV (c0.getD 33572 Go.undef), intV (c0.getD 33573 Go.undef), intV (c0.getD 33574 Go.undef), intV (c0.getD 33575 Go.undef), intV (c0.getD 33576 Go.undef), a1], [boolV (c0.getD 33569 Go.undef)], [arrOf c0 0 32768, arrOf c0 32768 544, arrOf c0 33312 256], [], Iv (fun _ _ => Ext.none)⟩ : Env)
def zttHy : Hyp := ⟨[((.v 4), (0, 65535)), ((.v 0), (0, 511)), ((.v 1), (0, 1023)), ((.v 6), (0, 511)), (.v 0, (-9223372036854775808, 9223372036854775807)), (.v 1, (-9223372036854775808, 9223372036854775807)), (.v 2, (0, 255)), (.v 3, (0, 255)), (.v 4, (-9223372036854775808, 9223372036854775807)), (.v 5, (0, 65535)), (.v 6, (-9223372036854775808, 9223372036854775807)), (.v 7, (0, 255)), (.v 8, (4, 9223372036854775807))], [(0, (0, 65535)), (1, (0, 255)), (2, (0, 65535))], [(10, (0, 4294967295))], [(50, (0, 255))], [((.app 60 (.cons (.lit 256) (.cons (.lit 32768) (.cons (.av 2) .nil)))), true), ((.bv 0), true)], []⟩
def zttLs : List SV := [.agg (pcSegs 0 0 0 Pc0), .s (.int .i64 (.v 8))]

theorem zttrun : enter Try.prog G Gh 3000 60 6 zttHy zttLs [] = some ([], .s (.bool (.blit true)), none) := by kernel_rfl
theorem zttvc (n0_3 n0_5 n0_6 n0_7 n0_8 n0_9 n0_10 n0_11 a1 : Int) (p0 : Bool) (A0 A1 A2 : Nat → Int) (b0 : -9223372036854775808 ≤ n0_3 ∧ n0_3 ≤ 9223372036854775807) (b1 : -9223372036854775808 ≤ n0_5 ∧ n0_5 ≤ 9223372036854775807) (b2 : 0 ≤ n0_6 ∧ n0_6 ≤ 255) (b3 : 0 ≤ n0_7 ∧ n0_7 ≤ 255) (b4 : -9223372036854775808 ≤ n0_8 ∧ n0_8 ≤ 9223372036854775807) (b5 : 0 ≤ n0_9 ∧ n0_9 ≤ 65535) (b6 : -9223372036854775808 ≤ n0_10 ∧ n0_10 ≤ 9223372036854775807) (b7 : 0 ≤ n0_11 ∧ n0_11 ≤ 255) (b8 : 4 ≤ a1 ∧ a1 ≤ 9223372036854775807) (B0 : ∀ j, 0 ≤ A0 j ∧ A0 j ≤ 65535) (B1 : ∀ j, 0 ≤ A1 j ∧ A1 j ≤ 255) (B2 : ∀ j, 0 ≤ A2 j ∧ A2 j ≤ 65535) : E.b (⟨[n0_3, n0_5, n0_6, n0_7, n0_8, n0_9, n0_10, n0_11, a1], [p0], [A0, A1, A2], [], Iv (fun _ _ => Ext.none)⟩ : Env) (.blit true) = true := by
  simp only [i_v, b_bv, i_lit, b_blit, i_add, i_sub, i_mul, i_div, i_mod, i_tdiv, i_tmod, i_ite, b_ite, b_lt, b_le, b_eq, b_not, b_and, b_or, b_iff, i_sel, a_tab, i_pow2, List.getD_cons_zero, List.getD_cons_succ, decide_eq_true_eq, decide_eq_false_iff_not, Bool.and_eq_true, Bool.or_eq_true, Bool.not_eq_true', Bool.not_eq_false', Bool.and_eq_false_iff, Bool.or_eq_false_iff, Bool.not_not, ite_tt, ite_ff, iff_tt, iff_ff, a_av, a_ite, a_upd]
theorem zttcalls (c0 : List Value) (l0 : c0.length = pcTotal Pc0) (f0 : PcFit c0 0 Pc0) (a1 : Int) (w1 : 4 ≤ a1 ∧ a1 ≤ 9223372036854775807) (hex0 : 0 ≤ (intV (c0.getD 33573 Go.undef)) ∧ (intV (c0.getD 33573 Go.undef)) ≤ 65535) (hex1 : 0 ≤ (intV (c0.getD 33568 Go.undef)) ∧ (intV (c0.getD 33568 Go.undef)) ≤ 511) (hex2 : 0 ≤ (intV (c0.getD 33570 Go.undef)) ∧ (intV (c0.getD 33570 Go.undef)) ≤ 1023) (hex3 : 0 ≤ (intV (c0.getD 33575 Go.undef)) ∧ (intV (c0.getD 33575 Go.undef)) ≤ 511) (hey0 : E.b (zttEnv c0 a1) (.app 60 (.cons (.lit 256) (.cons (.lit 32768) (.cons (.av 2) .nil)))) = true) (hey1 : (boolV (c0.getD 33569 Go.undef)) = true) (w : World) :
    Calls Try.prog 6 #[.agg c0.toArray, .int .i64 a1] w fun r w' => r = .returned (.bool true) ∧ Below w.heap.size w w' := by
  have hc0 : cellsOf (zttEnv c0 a1) Loc.id (pcSegs 0 0 0 Pc0) = c0 := by
    rw [pc_cells Pc0 0 0 0 0 f0 (by intro j hj; rcases j with _ | _ | _ | j <;> first | rfl | (simp [Pc0, pcA, pcB, pcI] at hj <;> omega)) (by intro j hj; rcases j with _ | j <;> first | rfl | (simp [Pc0, pcA, pcB, pcI] at hj <;> omega)) (by intro j hj; rcases j with _ | _ | _ | _ | _ | _ | _ | _ | j <;> first | rfl | (simp [Pc0, pcA, pcB, pcI] at hj <;> omega)), List.drop_zero, ← l0, List.take_length]
  have hargs : (zttLs.map (SV.conc (zttEnv c0 a1) Loc.id)).toArray = #[.agg c0.toArray, .int .i64 a1] := by
    refine congrArg List.toArray ?_
    exact (cons_eq (congrArg (fun l => Value.agg (List.toArray l)) hc0) (cons_eq rfl rfl))
  rw [← hargs]
  have hok : Hyp.ok zttHy (zttEnv c0 a1) := by
    refine ⟨?_, ?_, ?_, (fun p hp is bs xs => by simp only [zttHy, List.mem_cons, List.not_mem_nil, or_false] at hp; subst hp; exact sumF_rng _ _), ?_, ?_⟩
    · simp [zttHy]
    · intro p hp
      simp only [zttHy, List.mem_cons, List.not_mem_nil, or_false] at hp
      rcases hp with rfl | rfl | rfl | rfl | rfl | rfl | rfl | rfl | rfl | rfl | rfl | rfl | rfl
      · exact (by have hx := hex0; first | exact ⟨Int.le_of_eq hx.symm, Int.le_of_eq hx⟩ | exact hx)
      · exact (by have hx := hex1; first | exact ⟨Int.le_of_eq hx.symm, Int.le_of_eq hx⟩ | exact hx)
      · exact (by have hx := hex2; first | exact ⟨Int.le_of_eq hx.symm, Int.le_of_eq hx⟩ | exact hx)
      · exact (by have hx := hex3; first | exact ⟨Int.le_of_eq hx.symm, Int.le_of_eq hx⟩ | exact hx)
      · exact num_rng (f0.tail.tail.tail)
      · exact num_rng (f0.tail.tail.tail.tail.tail)
      · exact num_rng (f0.tail.tail.tail.tail.tail.tail)
      · exact num_rng (f0.tail.tail.tail.tail.tail.tail.tail)
      · exact num_rng (f0.tail.tail.tail.tail.tail.tail.tail.tail)
      · exact num_rng (f0.tail.tail.tail.tail.tail.tail.tail.tail.tail)
      · exact num_rng (f0.tail.tail.tail.tail.tail.tail.tail.tail.tail.tail)
      · exact num_rng (f0.tail.tail.tail.tail.tail.tail.tail.tail.tail.tail.tail)
      · exact w1
    · intro p hp
      simp only [zttHy, List.mem_cons, List.not_mem_nil, or_false] at hp
      rcases hp with rfl | rfl | rfl
      · exact arrOf_rng (f0)
      · exact arrOf_rng (f0.tail)
      · exact arrOf_rng (f0.tail.tail)
    · intro p hp is bs xs j
      simp only [zttHy, List.mem_cons, List.not_mem_nil, or_false] at hp
      subst hp
      exact rowB_rng _ j
    · intro p hp
      simp only [zttHy, List.mem_cons, List.not_mem_nil, or_false] at hp
      rcases hp with rfl | rfl
      · exact (by have hx := hey0; first | exact hx | exact decide_eq_true hx | exact decide_eq_false hx)
      · exact (by have hx := hey1; first | exact hx | exact decide_eq_true hx | exact decide_eq_false hx)
  exact law_true (ρ := (zttEnv c0 a1)) (G_ok _) (by kernel_rfl) zttrun rfl
    hok (by intro e he; cases he) rfl w (fun i j => Ext.none_ok _)
def ztfEnv (c0 : List Value) (a1 : Int) : Env := (⟨[intV (c0.getD 33568 Go.undef), intV (c0.getD 33570 Go.undef), intV (c0.getD 33571 Go.undef), intV (c0.getD 33572 Go.undef), intV (c0.getD 33573 Go.undef), intV (c0.getD 33574 Go.undef), intV (c0.getD 33575 Go.undef), intV (c0.getD 33576 Go.undef), a1], [boolV (c0.getD 33569 Go.undef)], [arrOf c0 0 32768, arrOf c0 32768 544, arrOf c0 33312 256], [], Iv (fun _ _ => Ext.none)⟩ : Env)
def ztfHy : Hyp := ⟨[((.v 4), (0, 65535)), ((.v 0), (0, 511)), ((.v 1), (0, 1023)), ((.v 6), (0, 511)), (.v 0, (-9223372036854775808, 9223372036854775807)), (.v 1, (-9223372036854775808, 9223372036854775807)), (.v 2, (0, 255)), (.v 3, (0, 255)), (.v 4, (-9223372036854775808, 9223372036854775807)), (.v 5, (0, 65535)), (.v 6, (-9223372036854775808, 9223372036854775807)), (.v 7, (0, 255)), (.v 8, (4, 9223372036854775807))], [(0, (0, 65535)), (1, (0, 255)), (2, (0, 65535))], [(10, (0, 4294967295))], [(50, (0, 255))], [((.app 60 (.cons (.lit 256) (.cons (.lit 32768) (.cons (.av 2) .nil)))), true), ((.bv 0), false)], []⟩
def ztfLs : List SV := [.agg (pcSegs 0 0 0 Pc0), .s (.int .i64 (.v 8))]

theorem ztfrun : enter Try.prog G Gh 3000 60 6 ztfHy ztfLs [] = some ([], .s (.bool (.blit true)), none) := by kernel_rfl
theorem ztfvc (n0_3 n0_5 n0_6 n0_7 n0_8 n0_9 n0_10 n0_11 a1 : Int) (p0 : Bool) (A0 A1 A2 : Nat → Int) (b0 : -9223372036854775808 ≤ n0_3 ∧ n0_3 ≤ 9223372036854775807) (b1 : -9223372036854775808 ≤ n0_5 ∧ n0_5 ≤ 9223372036854775807) (b2 : 0 ≤ n0_6 ∧ n0_6 ≤ 255) (b3 : 0 ≤ n0_7 ∧ n0_7 ≤ 255) (b4 : -9223372036854775808 ≤ n0_8 ∧ n0_8 ≤ 9223372036854775807) (b5 : 0 ≤ n0_9 ∧ n0_9 ≤ 65535) (b6 : -9223372036854775808 ≤ n0_10 ∧ n0_10 ≤ 9223372036854775807) (b7 : 0 ≤ n0_11 ∧ n0_11 ≤ 255) (b8 : 4 ≤ a1 ∧ a1 ≤ 9223372036854775807) (B0 : ∀ j, 0 ≤ A0 j ∧ A0 j ≤ 65535) (B1 : ∀ j, 0 ≤ A1 j ∧ A1 j ≤ 255) (B2 : ∀ j, 0 ≤ A2 j ∧ A2 j ≤ 65535) : E.b (⟨[n0_3, n0_5, n0_6, n0_7, n0_8, n0_9, n0_10, n0_11, a1], [p0], [A0, A1, A2], [], Iv (fun _ _ => Ext.none)⟩ : Env) (.blit true) = true := by
  simp only [i_v, b_bv, i_lit, b_blit, i_add, i_sub, i_mul, i_div, i_mod, i_tdiv, i_tmod, i_ite, b_ite, b_lt, b_le, b_eq, b_not, b_and, b_or, b_iff, i_sel, a_tab, i_pow2, List.getD_cons_zero, List.getD_cons_succ, decide_eq_true_eq, decide_eq_false_iff_not, Bool.and_eq_true, Bool.or_eq_true, Bool.not_eq_true', Bool.not_eq_false', Bool.and_eq_false_iff, Bool.or_eq_false_iff, Bool.not_not, ite_tt, ite_ff, iff_tt, iff_ff, a_av, a_ite, a_upd]
theorem ztfcalls (c0 : List Value) (l0 : c0.length = pcTotal Pc0) (f0 : PcFit c0 0 Pc0) (a1 : Int) (w1 : 4 ≤ a1 ∧ a1 ≤ 9223372036854775807) (hex0 : 0 ≤ (intV (c0.getD 33573 Go.undef)) ∧ (intV (c0.getD 33573 Go.undef)) ≤ 65535) (hex1 : 0 ≤ (intV (c0.getD 33568 Go.undef)) ∧ (intV (c0.getD 33568 Go.undef)) ≤ 511) (hex2 : 0 ≤ (intV (c0.getD 33570 Go.undef)) ∧ (intV (c0.getD 33570 Go.undef)) ≤ 1023) (hex3 : 0 ≤ (intV (c0.getD 33575 Go.undef)) ∧ (intV (c0.getD 33575 Go.undef)) ≤ 511) (hey0 : E.b (ztfEnv c0 a1) (.app 60 (.cons (.lit 256) (.cons (.lit 32768) (.cons (.av 2) .nil)))) = true) (hey1 : (boolV (c0.getD 33569 Go.undef)) = false) (w : World) :
    Calls Try.prog 6 #[.agg c0.toArray, .int .i64 a1] w fun r w' => r = .returned (.bool true) ∧ Below w.heap.size w w' := by
  have hc0 : cellsOf (ztfEnv c0 a1) Loc.id (pcSegs 0 0 0 Pc0) = c0 := by
    rw [pc_cells Pc0 0 0 0 0 f0 (by intro j hj; rcases j with _ | _ | _ | j <;> first | rfl | (simp [Pc0, pcA, pcB, pcI] at hj <;> omega)) (by intro j hj; rcases j with _ | j <;> first | rfl | (simp [Pc0, pcA, pcB, pcI] at hj <;> omega)) (by intro j hj; rcases j with _ | _ | _ | _ | _ | _ | _ | _ | j <;> first | rfl | (simp [Pc0, pcA, pcB, pcI] at hj <;> omega)), List.drop_zero, ← l0, List.take_length]
  have hargs : (ztfLs.map (SV.conc (ztfEnv c0 a1) Loc.id)).toArray = #[.agg c0.toArray, .int .i64 a1] := by
    refine congrArg List.toArray ?_
    exact (cons_eq (congrArg (fun l => Value.agg (List.toArray l)) hc0) (cons_eq rfl rfl))
  rw [← hargs]
  have hok : Hyp.ok ztfHy (ztfEnv c0 a1) := by
    refine ⟨?_, ?_, ?_, (fun p hp is bs xs => by simp only [ztfHy, List.mem_cons, List.not_mem_nil, or_false] at hp; subst hp; exact sumF_rng _ _), ?_, ?_⟩
    · simp [ztfHy]
    · intro p hp
      simp only [ztfHy, List.mem_cons, List.not_mem_nil, or_false] at hp
      rcases hp with rfl | rfl | rfl | rfl | rfl | rfl | rfl | rfl | rfl | rfl | rfl | rfl | rfl
      · exact (by have hx := hex0; first | exact ⟨Int.le_of_eq hx.symm, Int.le_of_eq hx⟩ | exact hx)
      · exact (by have hx := hex1; first | exact ⟨Int.le_of_eq hx.symm, Int.le_of_eq hx⟩ | exact hx)
      · exact (by have hx := hex2; first | exact ⟨Int.le_of_eq hx.symm, Int.le_of_eq hx⟩ | exact hx)
      · exact (by have hx := hex3; first | exact ⟨Int.le_of_eq hx.symm, Int.le_of_eq hx⟩ | exact hx)
      · exact num_rng (f0.tail.tail.tail)
      · exact num_rng (f0.tail.tail.tail.tail.tail)
      · exact num_rng (f0.tail.tail.tail.tail.tail.tail)
      · exact num_rng (f0.tail.tail.tail.tail.tail.tail.tail)
      · exact num_rng (f0.tail.tail.tail.tail.tail.tail.tail.tail)
      · exact num_rng (f0.tail.tail.tail.tail.tail.tail.tail.tail.tail)
      · exact num_rng (f0.tail.tail.tail.tail.tail.tail.tail.tail.tail.tail)
      · exact num_rng (f0.tail.tail.tail.tail.tail.tail.tail.tail.tail.tail.tail)
      · exact w1
    · intro p hp
      simp only [ztfHy, List.mem_cons, List.not_mem_nil, or_false] at hp
      rcases hp with rfl | rfl | rfl
      · exact arrOf_rng (f0)
      · exact arrOf_rng (f0.tail)
      · exact arrOf_rng (f0.tail.tail)
    · intro p hp is bs xs j
      simp only [ztfHy, List.mem_cons, List.not_mem_nil, or_false] at hp
      subst hp
      exact rowB_rng _ j
    · intro p hp
      simp only [ztfHy, List.mem_cons, List.not_mem_nil, or_false] at hp
      rcases hp with rfl | rfl
      · exact (by have hx := hey0; first | exact hx | exact decide_eq_true hx | exact decide_eq_false hx)
      · exact (by have hx := hey1; first | exact hx | exact decide_eq_true hx | exact decide_eq_false hx)
  exact law_true (ρ := (ztfEnv c0 a1)) (G_ok _) (by kernel_rfl) ztfrun rfl
    hok (by intro e he; cases he) rfl w (fun i j => Ext.none_ok _)
end Go.Proofs.Ytjegnoknenahpaa.VramLoads
