/- A part of the law BlendHidden, which returns true for every input. What is not shown, or not seen, does not matter. No condition. -/
import Derived.Test.YtgbncbclhdnbmaaBlendHidden0
namespace Go.Proofs.Ytgbncbclhdnbmaa.BlendHidden
open Go.Sx Go.ChangeShapes Go.WideShapes Go.ChangeAt Go.RowKit
set_option linter.unusedVariables false
set_option linter.unusedSimpArgs false
set_option maxRecDepth 100000
def pa_Env (c0 : List Value) (c1 : List Value) (a2 : Int) (a3 : Int) (c4 : List Value) (a5 : Int) : Env := (⟨[intV (c0.getD 78 Go.undef), intV (c0.getD 79 Go.undef), intV (c0.getD 80 Go.undef), intV (c1.getD 1 Go.undef), intV (c1.getD 2 Go.undef), intV (c1.getD 3 Go.undef), intV (c1.getD 5 Go.undef), intV (c1.getD 6 Go.undef), intV (c1.getD 7 Go.undef), intV (c1.getD 9 Go.undef), intV (c1.getD 10 Go.undef), intV (c1.getD 11 Go.undef), intV (c1.getD 13 Go.undef), intV (c1.getD 14 Go.undef), intV (c1.getD 15 Go.undef), intV (c1.getD 17 Go.undef), intV (c1.getD 18 Go.undef), intV (c1.getD 19 Go.undef), a2, a3, intV (c4.getD 1 Go.undef), intV (c4.getD 2 Go.undef), intV (c4.getD 3 Go.undef), a5], [boolV (c1.getD 0 Go.undef), boolV (c1.getD 4 Go.undef), boolV (c1.getD 8 Go.undef), boolV (c1.getD 12 Go.undef), boolV (c1.getD 16 Go.undef), boolV (c4.getD 0 Go.undef)], [arrOf c0 0 64, arrOf c0 64 4, arrOf c0 68 4, arrOf c0 72 6], [], Iv (fun _ _ => Ext.none)⟩ : Env)
def pa_Hy : Hyp := ⟨[(.v 0, (-32768, 32767)), (.v 1, (-32768, 32767)), (.v 2, (0, 65535)), (.v 3, (0, 255)), (.v 4, (0, 255)), (.v 5, (0, 65535)), (.v 6, (0, 255)), (.v 7, (0, 255)), (.v 8, (0, 65535)), (.v 9, (0, 255)), (.v 10, (0, 255)), (.v 11, (0, 65535)), (.v 12, (0, 255)), (.v 13, (0, 255)), (.v 14, (0, 65535)), (.v 15, (0, 255)), (.v 16, (0, 255)), (.v 17, (0, 65535)), (.v 18, (-9223372036854775808, 9223372036854775807)), (.v 19, (-9223372036854775808, -1)), (.v 20, (0, 255)), (.v 21, (0, 255)), (.v 22, (0, 65535)), (.v 23, (0, 65535))], [(0, (0, 255)), (1, (0, 65535)), (2, (0, 65535)), (3, (-32768, 32767))], [], [], [], []⟩
def pa_Ls : List SV := [.agg (pcSegs 0 0 0 Pc0), .agg (pcSegs 4 0 3 Pc1), .s (.int .i64 (.v 18)), .s (.int .i64 (.v 19)), .agg (pcSegs 4 5 20 Pc4), .s (.int .u16 (.v 23))]

theorem pa_run : enter Try.prog G Gh 6000 40 9 pa_Hy pa_Ls [] = some ([], .s (.bool (.blit true)), none) := by kernel_rfl
theorem pa_calls (c0 : List Value) (l0 : c0.length = pcTotal Pc0) (f0 : PcFit c0 0 Pc0) (c1 : List Value) (l1 : c1.length = pcTotal Pc1) (f1 : PcFit c1 0 Pc1) (a2 : Int) (w2 : (Lit.int .i64 a2).wf = true) (a3 : Int) (w3 : -9223372036854775808 ≤ a3 ∧ a3 ≤ -1) (c4 : List Value) (l4 : c4.length = pcTotal Pc4) (f4 : PcFit c4 0 Pc4) (a5 : Int) (w5 : (Lit.int .u16 a5).wf = true) (w : World) :
    Calls Try.prog 9 #[.agg c0.toArray, .agg c1.toArray, .int .i64 a2, .int .i64 a3, .agg c4.toArray, .int .u16 a5] w fun r w' => r = .returned (.bool true) ∧ Below w.heap.size w w' := by
  have hc0 : cellsOf (pa_Env c0 c1 a2 a3 c4 a5) Loc.id (pcSegs 0 0 0 Pc0) = c0 := by
    rw [pc_cells Pc0 0 0 0 0 f0 (by intro j hj; rcases j with _ | _ | _ | _ | j <;> first | rfl | (simp [Pc0, pcA, pcB, pcI] at hj <;> omega)) (by intro j hj; simp [Pc0, pcA, pcB, pcI] at hj) (by intro j hj; rcases j with _ | _ | _ | j <;> first | rfl | (simp [Pc0, pcA, pcB, pcI] at hj <;> omega)), List.drop_zero, ← l0, List.take_length]
  have hc1 : cellsOf (pa_Env c0 c1 a2 a3 c4 a5) Loc.id (pcSegs 4 0 3 Pc1) = c1 := by
    rw [pc_cells Pc1 0 4 0 3 f1 (by intro j hj; simp [Pc1, pcA, pcB, pcI] at hj) (by intro j hj; rcases j with _ | _ | _ | _ | _ | j <;> first | rfl | (simp [Pc1, pcA, pcB, pcI] at hj <;> omega)) (by intro j hj; rcases j with _ | _ | _ | _ | _ | _ | _ | _ | _ | _ | _ | _ | _ | _ | _ | j <;> first | rfl | (simp [Pc1, pcA, pcB, pcI] at hj <;> omega)), List.drop_zero, ← l1, List.take_length]
  have hc4 : cellsOf (pa_Env c0 c1 a2 a3 c4 a5) Loc.id (pcSegs 4 5 20 Pc4) = c4 := by
    rw [pc_cells Pc4 0 4 5 20 f4 (by intro j hj; simp [Pc4, pcA, pcB, pcI] at hj) (by intro j hj; rcases j with _ | j <;> first | rfl | (simp [Pc4, pcA, pcB, pcI] at hj <;> omega)) (by intro j hj; rcases j with _ | _ | _ | j <;> first | rfl | (simp [Pc4, pcA, pcB, pcI] at hj <;> omega)), List.drop_zero, ← l4, List.take_length]
  have hargs : (pa_Ls.map (SV.conc (pa_Env c0 c1 a2 a3 c4 a5) Loc.id)).toArray = #[.agg c0.toArray, .agg c1.toArray, .int .i64 a2, .int .i64 a3, .agg c4.toArray, .int .u16 a5] := by
    refine congrArg List.toArray ?_
    exact (cons_eq (congrArg (fun l => Value.agg (List.toArray l)) hc0) (cons_eq (congrArg (fun l => Value.agg (List.toArray l)) hc1) (cons_eq rfl (cons_eq rfl (cons_eq (congrArg (fun l => Value.agg (List.toArray l)) hc4) (cons_eq rfl rfl))))))
  rw [← hargs]
  have hok : Hyp.ok pa_Hy (pa_Env c0 c1 a2 a3 c4 a5) := by
    refine ⟨?_, ?_, ?_, by simp [pa_Hy], ?_, by simp [pa_Hy]⟩
    · simp [pa_Hy]
    · intro p hp
      simp only [pa_Hy, List.mem_cons, List.not_mem_nil, or_false] at hp
      rcases hp with rfl | rfl | rfl | rfl | rfl | rfl | rfl | rfl | rfl | rfl | rfl | rfl | rfl | rfl | rfl | rfl | rfl | rfl | rfl | rfl | rfl | rfl | rfl | rfl
      · exact num_rng (f0.tail.tail.tail.tail)
      · exact num_rng (f0.tail.tail.tail.tail.tail)
      · exact num_rng (f0.tail.tail.tail.tail.tail.tail)
      · exact num_rng (f1.tail)
      · exact num_rng (f1.tail.tail)
      · exact num_rng (f1.tail.tail.tail)
      · exact num_rng (f1.tail.tail.tail.tail.tail)
      · exact num_rng (f1.tail.tail.tail.tail.tail.tail)
      · exact num_rng (f1.tail.tail.tail.tail.tail.tail.tail)
      · exact num_rng (f1.tail.tail.tail.tail.tail.tail.tail.tail.tail)
      · exact num_rng (f1.tail.tail.tail.tail.tail.tail.tail.tail.tail.tail)
      · exact num_rng (f1.tail.tail.tail.tail.tail.tail.tail.tail.tail.tail.tail)
      · exact num_rng (f1.tail.tail.tail.tail.tail.tail.tail.tail.tail.tail.tail.tail.tail)
      · exact num_rng (f1.tail.tail.tail.tail.tail.tail.tail.tail.tail.tail.tail.tail.tail.tail)
      · exact num_rng (f1.tail.tail.tail.tail.tail.tail.tail.tail.tail.tail.tail.tail.tail.tail.tail)
      · exact num_rng (f1.tail.tail.tail.tail.tail.tail.tail.tail.tail.tail.tail.tail.tail.tail.tail.tail.tail)
      · exact num_rng (f1.tail.tail.tail.tail.tail.tail.tail.tail.tail.tail.tail.tail.tail.tail.tail.tail.tail.tail)
      · exact num_rng (f1.tail.tail.tail.tail.tail.tail.tail.tail.tail.tail.tail.tail.tail.tail.tail.tail.tail.tail.tail)
      · exact bounds_i64 w2
      · exact w3
      · exact num_rng (f4.tail)
      · exact num_rng (f4.tail.tail)
      · exact num_rng (f4.tail.tail.tail)
      · exact bounds_u16 w5
    · intro p hp
      simp only [pa_Hy, List.mem_cons, List.not_mem_nil, or_false] at hp
      rcases hp with rfl | rfl | rfl | rfl
      · exact arrOf_rng (f0)
      · exact arrOf_rng (f0.tail)
      · exact arrOf_rng (f0.tail.tail)
      · exact arrOf_rng (f0.tail.tail.tail)
    · simp [pa_Hy]
  exact law_true (ρ := (pa_Env c0 c1 a2 a3 c4 a5)) (G_ok _) (by kernel_rfl) pa_run rfl
    hok (by intro e he; cases he) rfl w (fun i j => Ext.none_ok _)
def pb_Env (c0 : List Value) (c1 : List Value) (a2 : Int) (a3 : Int) (c4 : List Value) (a5 : Int) : Env := (⟨[intV (c0.getD 78 Go.undef), intV (c0.getD 79 Go.undef), intV (c0.getD 80 Go.undef), intV (c1.getD 1 Go.undef), intV (c1.getD 2 Go.undef), intV (c1.getD 3 Go.undef), intV (c1.getD 5 Go.undef), intV (c1.getD 6 Go.undef), intV (c1.getD 7 Go.undef), intV (c1.getD 9 Go.undef), intV (c1.getD 10 Go.undef), intV (c1.getD 11 Go.undef), intV (c1.getD 13 Go.undef), intV (c1.getD 14 Go.undef), intV (c1.getD 15 Go.undef), intV (c1.getD 17 Go.undef), intV (c1.getD 18 Go.undef), intV (c1.getD 19 Go.undef), a2, a3, intV (c4.getD 1 Go.undef), intV (c4.getD 2 Go.undef), intV (c4.getD 3 Go.undef), a5], [boolV (c1.getD 0 Go.undef), boolV (c1.getD 4 Go.undef), boolV (c1.getD 8 Go.undef), boolV (c1.getD 12 Go.undef), boolV (c1.getD 16 Go.undef), boolV (c4.getD 0 Go.undef)], [arrOf c0 0 64, arrOf c0 64 4, arrOf c0 68 4, arrOf c0 72 6], [], Iv (fun _ _ => Ext.none)⟩ : Env)
def pb_Hy : Hyp := ⟨[(.v 0, (-32768, 32767)), (.v 1, (-32768, 32767)), (.v 2, (0, 65535)), (.v 3, (0, 255)), (.v 4, (0, 255)), (.v 5, (0, 65535)), (.v 6, (0, 255)), (.v 7, (0, 255)), (.v 8, (0, 65535)), (.v 9, (0, 255)), (.v 10, (0, 255)), (.v 11, (0, 65535)), (.v 12, (0, 255)), (.v 13, (0, 255)), (.v 14, (0, 65535)), (.v 15, (0, 255)), (.v 16, (0, 255)), (.v 17, (0, 65535)), (.v 18, (-9223372036854775808, 9223372036854775807)), (.v 19, (5, 9223372036854775807)), (.v 20, (0, 255)), (.v 21, (0, 255)), (.v 22, (0, 65535)), (.v 23, (0, 65535))], [(0, (0, 255)), (1, (0, 65535)), (2, (0, 65535)), (3, (-32768, 32767))], [], [], [], []⟩
def pb_Ls : List SV := [.agg (pcSegs 0 0 0 Pc0), .agg (pcSegs 4 0 3 Pc1), .s (.int .i64 (.v 18)), .s (.int .i64 (.v 19)), .agg (pcSegs 4 5 20 Pc4), .s (.int .u16 (.v 23))]

theorem pb_run : enter Try.prog G Gh 6000 40 9 pb_Hy pb_Ls [] = some ([], .s (.bool (.blit true)), none) := by kernel_rfl
theorem pb_calls (c0 : List Value) (l0 : c0.length = pcTotal Pc0) (f0 : PcFit c0 0 Pc0) (c1 : List Value) (l1 : c1.length = pcTotal Pc1) (f1 : PcFit c1 0 Pc1) (a2 : Int) (w2 : (Lit.int .i64 a2).wf = true) (a3 : Int) (w3 : 5 ≤ a3 ∧ a3 ≤ 9223372036854775807) (c4 : List Value) (l4 : c4.length = pcTotal Pc4) (f4 : PcFit c4 0 Pc4) (a5 : Int) (w5 : (Lit.int .u16 a5).wf = true) (w : World) :
    Calls Try.prog 9 #[.agg c0.toArray, .agg c1.toArray, .int .i64 a2, .int .i64 a3, .agg c4.toArray, .int .u16 a5] w fun r w' => r = .returned (.bool true) ∧ Below w.heap.size w w' := by
  have hc0 : cellsOf (pb_Env c0 c1 a2 a3 c4 a5) Loc.id (pcSegs 0 0 0 Pc0) = c0 := by
    rw [pc_cells Pc0 0 0 0 0 f0 (by intro j hj; rcases j with _ | _ | _ | _ | j <;> first | rfl | (simp [Pc0, pcA, pcB, pcI] at hj <;> omega)) (by intro j hj; simp [Pc0, pcA, pcB, pcI] at hj) (by intro j hj; rcases j with _ | _ | _ | j <;> first | rfl | (simp [Pc0, pcA, pcB, pcI] at hj <;> omega)), List.drop_zero, ← l0, List.take_length]
  have hc1 : cellsOf (pb_Env c0 c1 a2 a3 c4 a5) Loc.id (pcSegs 4 0 3 Pc1) = c1 := by
    rw [pc_cells Pc1 0 4 0 3 f1 (by intro j hj; simp [Pc1, pcA, pcB, pcI] at hj) (by intro j hj; rcases j with _ | _ | _ | _ | _ | j <;> first | rfl | (simp [Pc1, pcA, pcB, pcI] at hj <;> omega)) (by intro j hj; rcases j with _ | _ | _ | _ | _ | _ | _ | _ | _ | _ | _ | _ | _ | _ | _ | j <;> first | rfl | (simp [Pc1, pcA, pcB, pcI] at hj <;> omega)), List.drop_zero, ← l1, List.take_length]
  have hc4 : cellsOf (pb_Env c0 c1 a2 a3 c4 a5) Loc.id (pcSegs 4 5 20 Pc4) = c4 := by
    rw [pc_cells Pc4 0 4 5 20 f4 (by intro j hj; simp [Pc4, pcA, pcB, pcI] at hj) (by intro j hj; rcases j with _ | j <;> first | rfl | (simp [Pc4, pcA, pcB, pcI] at hj <;> omega)) (by intro j hj; rcases j with _ | _ | _ | j <;> first | rfl | (simp [Pc4, pcA, pcB, pcI] at hj <;> omega)), List.drop_zero, ← l4, List.take_length]
  have hargs : (pb_Ls.map (SV.conc (pb_Env c0 c1 a2 a3 c4 a5) Loc.id)).toArray = #[.agg c0.toArray, .agg c1.toArray, .int .i64 a2, .int .i64 a3, .agg c4.toArray, .int .u16 a5] := by
    refine congrArg List.toArray ?_
    exact (cons_eq (congrArg (fun l => Value.agg (List.toArray l)) hc0) (cons_eq (congrArg (fun l => Value.agg (List.toArray l)) hc1) (cons_eq rfl (cons_eq rfl (cons_eq (congrArg (fun l => Value.agg (List.toArray l)) hc4) (cons_eq rfl rfl))))))
  rw [← hargs]
  have hok : Hyp.ok pb_Hy (pb_Env c0 c1 a2 a3 c4 a5) := by
    refine ⟨?_, ?_, ?_, by simp [pb_Hy], ?_, by simp [pb_Hy]⟩
    · simp [pb_Hy]
    · intro p hp
      simp only [pb_Hy, List.mem_cons, List.not_mem_nil, or_false] at hp
      rcases hp with rfl | rfl | rfl | rfl | rfl | rfl | rfl | rfl | rfl | rfl | rfl | rfl | rfl | rfl | rfl | rfl | rfl | rfl | rfl | rfl | rfl | rfl | rfl | rfl
      · exact num_rng (f0.tail.tail.tail.tail)
      · exact num_rng (f0.tail.tail.tail.tail.tail)
      · exact num_rng (f0.tail.tail.tail.tail.tail.tail)
      · exact num_rng (f1.tail)
      · exact num_rng (f1.tail.tail)
      · exact num_rng (f1.tail.tail.tail)
      · exact num_rng (f1.tail.tail.tail.tail.tail)
      · exact num_rng (f1.tail.tail.tail.tail.tail.tail)
      · exact num_rng (f1.tail.tail.tail.tail.tail.tail.tail)
      · exact num_rng (f1.tail.tail.tail.tail.tail.tail.tail.tail.tail)
      · exact num_rng (f1.tail.tail.tail.tail.tail.tail.tail.tail.tail.tail)
      · exact num_rng (f1.tail.tail.tail.tail.tail.tail.tail.tail.tail.tail.tail)
      · exact num_rng (f1.tail.tail.tail.tail.tail.tail.tail.tail.tail.tail.tail.tail.tail)
      · exact num_rng (f1.tail.tail.tail.tail.tail.tail.tail.tail.tail.tail.tail.tail.tail.tail)
      · exact num_rng (f1.tail.tail.tail.tail.tail.tail.tail.tail.tail.tail.tail.tail.tail.tail.tail)
      · exact num_rng (f1.tail.tail.tail.tail.tail.tail.tail.tail.tail.tail.tail.tail.tail.tail.tail.tail.tail)
      · exact num_rng (f1.tail.tail.tail.tail.tail.tail.tail.tail.tail.tail.tail.tail.tail.tail.tail.tail.tail.tail)
      · exact num_rng (f1.tail.tail.tail.tail.tail.tail.tail.tail.tail.tail.tail.tail.tail.tail.tail.tail.tail.tail.tail)
      · exact bounds_i64 w2
      · exact w3
      · exact num_rng (f4.tail)
      · exact num_rng (f4.tail.tail)
      · exact num_rng (f4.tail.tail.tail)
      · exact bounds_u16 w5
    · intro p hp
      simp only [pb_Hy, List.mem_cons, List.not_mem_nil, or_false] at hp
      rcases hp with rfl | rfl | rfl | rfl
      · exact arrOf_rng (f0)
      · exact arrOf_rng (f0.tail)
      · exact arrOf_rng (f0.tail.tail)
      · exact arrOf_rng (f0.tail.tail.tail)
    · simp [pb_Hy]
  exact law_true (ρ := (pb_Env c0 c1 a2 a3 c4 a5)) (G_ok _) (by kernel_rfl) pb_run rfl
    hok (by intro e he; cases he) rfl w (fun i j => Ext.none_ok _)
def ol0a_Env (c0 : List Value) (c1 : List Value) (a2 : Int) (c4 : List Value) (a5 : Int) : Env := (⟨[intV (c0.getD 78 Go.undef), intV (c0.getD 79 Go.undef), intV (c0.getD 80 Go.undef), intV (c1.getD 1 Go.undef), intV (c1.getD 2 Go.undef), intV (c1.getD 3 Go.undef), intV (c1.getD 5 Go.undef), intV (c1.getD 6 Go.undef), intV (c1.getD 7 Go.undef), intV (c1.getD 9 Go.undef), intV (c1.getD 10 Go.undef), intV (c1.getD 11 Go.undef), intV (c1.getD 13 Go.undef), intV (c1.getD 14 Go.undef), intV (c1.getD 15 Go.undef), intV (c1.getD 17 Go.undef), intV (c1.getD 18 Go.undef), intV (c1.getD 19 Go.undef), a2, intV (c4.getD 1 Go.undef), intV (c4.getD 2 Go.undef), intV (c4.getD 3 Go.undef), a5], [boolV (c1.getD 0 Go.undef), boolV (c1.getD 4 Go.undef), boolV (c1.getD 8 Go.undef), boolV (c1.getD 12 Go.undef), boolV (c1.getD 16 Go.undef), boolV (c4.getD 0 Go.undef)], [arrOf c0 0 64, arrOf c0 64 4, arrOf c0 68 4, arrOf c0 72 6], [], Iv (fun _ _ => Ext.none)⟩ : Env)
def ol0a_Hy : Hyp := ⟨[(.v 0, (-32768, 32767)), (.v 1, (-32768, 32767)), (.v 2, (0, 65535)), (.v 3, (0, 255)), (.v 4, (0, 255)), (.v 5, (0, 65535)), (.v 6, (0, 255)), (.v 7, (0, 255)), (.v 8, (0, 65535)), (.v 9, (0, 255)), (.v 10, (0, 255)), (.v 11, (0, 65535)), (.v 12, (0, 255)), (.v 13, (0, 255)), (.v 14, (0, 65535)), (.v 15, (0, 255)), (.v 16, (0, 255)), (.v 17, (0, 65535)), (.v 18, (-9223372036854775808, -1)), (.v 19, (0, 255)), (.v 20, (0, 255)), (.v 21, (0, 65535)), (.v 22, (0, 65535))], [(0, (0, 255)), (1, (0, 65535)), (2, (0, 65535)), (3, (-32768, 32767))], [], [], [], []⟩
def ol0a_Ls : List SV := [.agg (pcSegs 0 0 0 Pc0), .agg (pcSegs 4 0 3 Pc1), .s (.int .i64 (.v 18)), .s (.int .i64 (.lit (0))), .agg (pcSegs 4 5 19 Pc4), .s (.int .u16 (.v 22))]

theorem ol0a_run : enter Try.prog G Gh 6000 40 9 ol0a_Hy ol0a_Ls [] = some ([], .s (.bool (.blit true)), none) := by kernel_rfl
theorem ol0a_calls (c0 : List Value) (l0 : c0.length = pcTotal Pc0) (f0 : PcFit c0 0 Pc0) (c1 : List Value) (l1 : c1.length = pcTotal Pc1) (f1 : PcFit c1 0 Pc1) (a2 : Int) (w2 : -9223372036854775808 ≤ a2 ∧ a2 ≤ -1) (c4 : List Value) (l4 : c4.length = pcTotal Pc4) (f4 : PcFit c4 0 Pc4) (a5 : Int) (w5 : (Lit.int .u16 a5).wf = true) (w : World) :
    Calls Try.prog 9 #[.agg c0.toArray, .agg c1.toArray, .int .i64 a2, .int .i64 (0), .agg c4.toArray, .int .u16 a5] w fun r w' => r = .returned (.bool true) ∧ Below w.heap.size w w' := by
  have hc0 : cellsOf (ol0a_Env c0 c1 a2 c4 a5) Loc.id (pcSegs 0 0 0 Pc0) = c0 := by
    rw [pc_cells Pc0 0 0 0 0 f0 (by intro j hj; rcases j with _ | _ | _ | _ | j <;> first | rfl | (simp [Pc0, pcA, pcB, pcI] at hj <;> omega)) (by intro j hj; simp [Pc0, pcA, pcB, pcI] at hj) (by intro j hj; rcases j with _ | _ | _ | j <;> first | rfl | (simp [Pc0, pcA, pcB, pcI] at hj <;> omega)), List.drop_zero, ← l0, List.take_length]
  have hc1 : cellsOf (ol0a_Env c0 c1 a2 c4 a5) Loc.id (pcSegs 4 0 3 Pc1) = c1 := by
    rw [pc_cells Pc1 0 4 0 3 f1 (by intro j hj; simp [Pc1, pcA, pcB, pcI] at hj) (by intro j hj; rcases j with _ | _ | _ | _ | _ | j <;> first | rfl | (simp [Pc1, pcA, pcB, pcI] at hj <;> omega)) (by intro j hj; rcases j with _ | _ | _ | _ | _ | _ | _ | _ | _ | _ | _ | _ | _ | _ | _ | j <;> first | rfl | (simp [Pc1, pcA, pcB, pcI] at hj <;> omega)), List.drop_zero, ← l1, List.take_length]
  have hc4 : cellsOf (ol0a_Env c0 c1 a2 c4 a5) Loc.id (pcSegs 4 5 19 Pc4) = c4 := by
    rw [pc_cells Pc4 0 4 5 19 f4 (by intro j hj; simp [Pc4, pcA, pcB, pcI] at hj) (by intro j hj; rcases j with _ | j <;> first | rfl | (simp [Pc4, pcA, pcB, pcI] at hj <;> omega)) (by intro j hj; rcases j with _ | _ | _ | j <;> first | rfl | (simp [Pc4, pcA, pcB, pcI] at hj <;> omega)), List.drop_zero, ← l4, List.take_length]
  have hargs : (ol0a_Ls.map (SV.conc (ol0a_Env c0 c1 a2 c4 a5) Loc.id)).toArray = #[.agg c0.toArray, .agg c1.toArray, .int .i64 a2, .int .i64 (0), .agg c4.toArray, .int .u16 a5] := by
    refine congrArg List.toArray ?_
    exact (cons_eq (congrArg (fun l => Value.agg (List.toArray l)) hc0) (cons_eq (congrArg (fun l => Value.agg (List.toArray l)) hc1) (cons_eq rfl (cons_eq rfl (cons_eq (congrArg (fun l => Value.agg (List.toArray l)) hc4) (cons_eq rfl rfl))))))
  rw [← hargs]
  have hok : Hyp.ok ol0a_Hy (ol0a_Env c0 c1 a2 c4 a5) := by
    refine ⟨?_, ?_, ?_, by simp [ol0a_Hy], ?_, by simp [ol0a_Hy]⟩
    · simp [ol0a_Hy]
    · intro p hp
      simp only [ol0a_Hy, List.mem_cons, List.not_mem_nil, or_false] at hp
      rcases hp with rfl | rfl | rfl | rfl | rfl | rfl | rfl | rfl | rfl | rfl | rfl | rfl | rfl | rfl | rfl | rfl | rfl | rfl | rfl | rfl | rfl | rfl | rfl
      · exact num_rng (f0.tail.tail.tail.tail)
      · exact num_rng (f0.tail.tail.tail.tail.tail)
      · exact num_rng (f0.tail.tail.tail.tail.tail.tail)
      · exact num_rng (f1.tail)
      · exact num_rng (f1.tail.tail)
      · exact num_rng (f1.tail.tail.tail)
      · exact num_rng (f1.tail.tail.tail.tail.tail)
      · exact num_rng (f1.tail.tail.tail.tail.tail.tail)
      · exact num_rng (f1.tail.tail.tail.tail.tail.tail.tail)
      · exact num_rng (f1.tail.tail.tail.tail.tail.tail.tail.tail.tail)
      · exact num_rng (f1.tail.tail.tail.tail.tail.tail.tail.tail.tail.tail)
      · exact num_rng (f1.tail.tail.tail.tail.tail.tail.tail.tail.tail.tail.tail)
      · exact num_rng (f1.tail.tail.tail.tail.tail.tail.tail.tail.tail.tail.tail.tail.tail)
      · exact num_rng (f1.tail.tail.tail.tail.tail.tail.tail.tail.tail.tail.tail.tail.tail.tail)
      · exact num_rng (f1.tail.tail.tail.tail.tail.tail.tail.tail.tail.tail.tail.tail.tail.tail.tail)
      · exact num_rng (f1.tail.tail.tail.tail.tail.tail.tail.tail.tail.tail.tail.tail.tail.tail.tail.tail.tail)
      · exact num_rng (f1.tail.tail.tail.tail.tail.tail.tail.tail.tail.tail.tail.tail.tail.tail.tail.tail.tail.tail)
      · exact num_rng (f1.tail.tail.tail.tail.tail.tail.tail.tail.tail.tail.tail.tail.tail.tail.tail.tail.tail.tail.tail)
      · exact w2
      · exact num_rng (f4.tail)
      · exact num_rng (f4.tail.tail)
      · exact num_rng (f4.tail.tail.tail)
      · exact bounds_u16 w5
    · intro p hp
      simp only [ol0a_Hy, List.mem_cons, List.not_mem_nil, or_false] at hp
      rcases hp with rfl | rfl | rfl | rfl
      · exact arrOf_rng (f0)
      · exact arrOf_rng (f0.tail)
      · exact arrOf_rng (f0.tail.tail)
      · exact arrOf_rng (f0.tail.tail.tail)
    · simp [ol0a_Hy]
  exact law_true (ρ := (ol0a_Env c0 c1 a2 c4 a5)) (G_ok _) (by kernel_rfl) ol0a_run rfl
    hok (by intro e he; cases he) rfl w (fun i j => Ext.none_ok _)
def ol0b_Env (c0 : List Value) (c1 : List Value) (a2 : Int) (c4 : List Value) (a5 : Int) : Env := (⟨[intV (c0.getD 78 Go.undef), intV (c0.getD 79 Go.undef), intV (c0.getD 80 Go.undef), intV (c1.getD 1 Go.undef), intV (c1.getD 2 Go.undef), intV (c1.getD 3 Go.undef), intV (c1.getD 5 Go.undef), intV (c1.getD 6 Go.undef), intV (c1.getD 7 Go.undef), intV (c1.getD 9 Go.undef), intV (c1.getD 10 Go.undef), intV (c1.getD 11 Go.undef), intV (c1.getD 13 Go.undef), intV (c1.getD 14 Go.undef), intV (c1.getD 15 Go.undef), intV (c1.getD 17 Go.undef), intV (c1.getD 18 Go.undef), intV (c1.getD 19 Go.undef), a2, intV (c4.getD 1 Go.undef), intV (c4.getD 2 Go.undef), intV (c4.getD 3 Go.undef), a5], [boolV (c1.getD 0 Go.undef), boolV (c1.getD 4 Go.undef), boolV (c1.getD 8 Go.undef), boolV (c1.getD 12 Go.undef), boolV (c1.getD 16 Go.undef), boolV (c4.getD 0 Go.undef)], [arrOf c0 0 64, arrOf c0 64 4, arrOf c0 68 4, arrOf c0 72 6], [], Iv (fun _ _ => Ext.none)⟩ : Env)
def ol0b_Hy : Hyp := ⟨[(.v 0, (-32768, 32767)), (.v 1, (-32768, 32767)), (.v 2, (0, 65535)), (.v 3, (0, 255)), (.v 4, (0, 255)), (.v 5, (0, 65535)), (.v 6, (0, 255)), (.v 7, (0, 255)), (.v 8, (0, 65535)), (.v 9, (0, 255)), (.v 10, (0, 255)), (.v 11, (0, 65535)), (.v 12, (0, 255)), (.v 13, (0, 255)), (.v 14, (0, 65535)), (.v 15, (0, 255)), (.v 16, (0, 255)), (.v 17, (0, 65535)), (.v 18, (256, 9223372036854775807)), (.v 19, (0, 255)), (.v 20, (0, 255)), (.v 21, (0, 65535)), (.v 22, (0, 65535))], [(0, (0, 255)), (1, (0, 65535)), (2, (0, 65535)), (3, (-32768, 32767))], [], [], [], []⟩
def ol0b_Ls : List SV := [.agg (pcSegs 0 0 0 Pc0), .agg (pcSegs 4 0 3 Pc1), .s (.int .i64 (.v 18)), .s (.int .i64 (.lit (0))), .agg (pcSegs 4 5 19 Pc4), .s (.int .u16 (.v 22))]

theorem ol0b_run : enter Try.prog G Gh 6000 40 9 ol0b_Hy ol0b_Ls [] = some ([], .s (.bool (.blit true)), none) := by kernel_rfl
theorem ol0b_calls (c0 : List Value) (l0 : c0.length = pcTotal Pc0) (f0 : PcFit c0 0 Pc0) (c1 : List Value) (l1 : c1.length = pcTotal Pc1) (f1 : PcFit c1 0 Pc1) (a2 : Int) (w2 : 256 ≤ a2 ∧ a2 ≤ 9223372036854775807) (c4 : List Value) (l4 : c4.length = pcTotal Pc4) (f4 : PcFit c4 0 Pc4) (a5 : Int) (w5 : (Lit.int .u16 a5).wf = true) (w : World) :
    Calls Try.prog 9 #[.agg c0.toArray, .agg c1.toArray, .int .i64 a2, .int .i64 (0), .agg c4.toArray, .int .u16 a5] w fun r w' => r = .returned (.bool true) ∧ Below w.heap.size w w' := by
  have hc0 : cellsOf (ol0b_Env c0 c1 a2 c4 a5) Loc.id (pcSegs 0 0 0 Pc0) = c0 := by
    rw [pc_cells Pc0 0 0 0 0 f0 (by intro j hj; rcases j with _ | _ | _ | _ | j <;> first | rfl | (simp [Pc0, pcA, pcB, pcI] at hj <;> omega)) (by intro j hj; simp [Pc0, pcA, pcB, pcI] at hj) (by intro j hj; rcases j with _ | _ | _ | j <;> first | rfl | (simp [Pc0, pcA, pcB, pcI] at hj <;> omega)), List.drop_zero, ← l0, List.take_length]
  have hc1 : cellsOf (ol0b_Env c0 c1 a2 c4 a5) Loc.id (pcSegs 4 0 3 Pc1) = c1 := by
    rw [pc_cells Pc1 0 4 0 3 f1 (by intro j hj; simp [Pc1, pcA, pcB, pcI] at hj) (by intro j hj; rcases j with _ | _ | _ | _ | _ | j <;> first | rfl | (simp [Pc1, pcA, pcB, pcI] at hj <;> omega)) (by intro j hj; rcases j with _ | _ | _ | _ | _ | _ | _ | _ | _ | _ | _ | _ | _ | _ | _ | j <;> first | rfl | (simp [Pc1, pcA, pcB, pcI] at hj <;> omega)), List.drop_zero, ← l1, List.take_length]
  have hc4 : cellsOf (ol0b_Env c0 c1 a2 c4 a5) Loc.id (pcSegs 4 5 19 Pc4) = c4 := by
    rw [pc_cells Pc4 0 4 5 19 f4 (by intro j hj; simp [Pc4, pcA, pcB, pcI] at hj) (by intro j hj; rcases j with _ | j <;> first | rfl | (simp [Pc4, pcA, pcB, pcI] at hj <;> omega)) (by intro j hj; rcases j with _ | _ | _ | j <;> first | rfl | (simp [Pc4, pcA, pcB, pcI] at hj <;> omega)), List.drop_zero, ← l4, List.take_length]
  have hargs : (ol0b_Ls.map (SV.conc (ol0b_Env c0 c1 a2 c4 a5) Loc.id)).toArray = #[.agg c0.toArray, .agg c1.toArray, .int .i64 a2, .int .i64 (0), .agg c4.toArray, .int .u16 a5] := by
    refine congrArg List.toArray ?_
    exact (cons_eq (congrArg (fun l => Value.agg (List.toArray l)) hc0) (cons_eq (congrArg (fun l => Value.agg (List.toArray l)) hc1) (cons_eq rfl (cons_eq rfl (cons_eq (congrArg (fun l => Value.agg (List.toArray l)) hc4) (cons_eq rfl rfl))))))
  rw [← hargs]
  have hok : Hyp.ok ol0b_Hy (ol0b_Env c0 c1 a2 c4 a5) := by
    refine ⟨?_, ?_, ?_, by simp [ol0b_Hy], ?_, by simp [ol0b_Hy]⟩
    · simp [ol0b_Hy]
    · intro p hp
      simp only [ol0b_Hy, List.mem_cons, List.not_mem_nil, or_false] at hp
      rcases hp with rfl | rfl | rfl | rfl | rfl | rfl | rfl | rfl | rfl | rfl | rfl | rfl | rfl | rfl | rfl | rfl | rfl | rfl | rfl | rfl | rfl | rfl | rfl
      · exact num_rng (f0.tail.tail.tail.tail)
      · exact num_rng (f0.tail.tail.tail.tail.tail)
      · exact num_rng (f0.tail.tail.tail.tail.tail.tail)
      · exact num_rng (f1.tail)
      · exact num_rng (f1.tail.tail)
      · exact num_rng (f1.tail.tail.tail)
      · exact num_rng (f1.tail.tail.tail.tail.tail)
      · exact num_rng (f1.tail.tail.tail.tail.tail.tail)
      · exact num_rng (f1.tail.tail.tail.tail.tail.tail.tail)
      · exact num_rng (f1.tail.tail.tail.tail.tail.tail.tail.tail.tail)
      · exact num_rng (f1.tail.tail.tail.tail.tail.tail.tail.tail.tail.tail)
      · exact num_rng (f1.tail.tail.tail.tail.tail.tail.tail.tail.tail.tail.tail)
      · exact num_rng (f1.tail.tail.tail.tail.tail.tail.tail.tail.tail.tail.tail.tail.tail)
      · exact num_rng (f1.tail.tail.tail.tail.tail.tail.tail.tail.tail.tail.tail.tail.tail.tail)
      · exact num_rng (f1.tail.tail.tail.tail.tail.tail.tail.tail.tail.tail.tail.tail.tail.tail.tail)
      · exact num_rng (f1.tail.tail.tail.tail.tail.tail.tail.tail.tail.tail.tail.tail.tail.tail.tail.tail.tail)
      · exact num_rng (f1.tail.tail.tail.tail.tail.tail.tail.tail.tail.tail.tail.tail.tail.tail.tail.tail.tail.tail)
      · exact num_rng (f1.tail.tail.tail.tail.tail.tail.tail.tail.tail.tail.tail.tail.tail.tail.tail.tail.tail.tail.tail)
      · exact w2
      · exact num_rng (f4.tail)
      · exact num_rng (f4.tail.tail)
      · exact num_rng (f4.tail.tail.tail)
      · exact bounds_u16 w5
    · intro p hp
      simp only [ol0b_Hy, List.mem_cons, List.not_mem_nil, or_false] at hp
      rcases hp with rfl | rfl | rfl | rfl
      · exact arrOf_rng (f0)
      · exact arrOf_rng (f0.tail)
      · exact arrOf_rng (f0.tail.tail)
      · exact arrOf_rng (f0.tail.tail.tail)
    · simp [ol0b_Hy]
  exact law_true (ρ := (ol0b_Env c0 c1 a2 c4 a5)) (G_ok _) (by kernel_rfl) ol0b_run rfl
    hok (by intro e he; cases he) rfl w (fun i j => Ext.none_ok _)
def ol1a_Env (c0 : List Value) (c1 : List Value) (a2 : Int) (c4 : List Value) (a5 : Int) : Env := (⟨[intV (c0.getD 78 Go.undef), intV (c0.getD 79 Go.undef), intV (c0.getD 80 Go.undef), intV (c1.getD 1 Go.undef), intV (c1.getD 2 Go.undef), intV (c1.getD 3 Go.undef), intV (c1.getD 5 Go.undef), intV (c1.getD 6 Go.undef), intV (c1.getD 7 Go.undef), intV (c1.getD 9 Go.undef), intV (c1.getD 10 Go.undef), intV (c1.getD 11 Go.undef), intV (c1.getD 13 Go.undef), intV (c1.getD 14 Go.undef), intV (c1.getD 15 Go.undef), intV (c1.getD 17 Go.undef), intV (c1.getD 18 Go.undef), intV (c1.getD 19 Go.undef), a2, intV (c4.getD 1 Go.undef), intV (c4.getD 2 Go.undef), intV (c4.getD 3 Go.undef), a5], [boolV (c1.getD 0 Go.undef), boolV (c1.getD 4 Go.undef), boolV (c1.getD 8 Go.undef), boolV (c1.getD 12 Go.undef), boolV (c1.getD 16 Go.undef), boolV (c4.getD 0 Go.undef)], [arrOf c0 0 64, arrOf c0 64 4, arrOf c0 68 4, arrOf c0 72 6], [], Iv (fun _ _ => Ext.none)⟩ : Env)
def ol1a_Hy : Hyp := ⟨[(.v 0, (-32768, 32767)), (.v 1, (-32768, 32767)), (.v 2, (0, 65535)), (.v 3, (0, 255)), (.v 4, (0, 255)), (.v 5, (0, 65535)), (.v 6, (0, 255)), (.v 7, (0, 255)), (.v 8, (0, 65535)), (.v 9, (0, 255)), (.v 10, (0, 255)), (.v 11, (0, 65535)), (.v 12, (0, 255)), (.v 13, (0, 255)), (.v 14, (0, 65535)), (.v 15, (0, 255)), (.v 16, (0, 255)), (.v 17, (0, 65535)), (.v 18, (-9223372036854775808, -1)), (.v 19, (0, 255)), (.v 20, (0, 255)), (.v 21, (0, 65535)), (.v 22, (0, 65535))], [(0, (0, 255)), (1, (0, 65535)), (2, (0, 65535)), (3, (-32768, 32767))], [], [], [], []⟩
def ol1a_Ls : List SV := [.agg (pcSegs 0 0 0 Pc0), .agg (pcSegs 4 0 3 Pc1), .s (.int .i64 (.v 18)), .s (.int .i64 (.lit (1))), .agg (pcSegs 4 5 19 Pc4), .s (.int .u16 (.v 22))]

theorem ol1a_run : enter Try.prog G Gh 6000 40 9 ol1a_Hy ol1a_Ls [] = some ([], .s (.bool (.blit true)), none) := by kernel_rfl
theorem ol1a_calls (c0 : List Value) (l0 : c0.length = pcTotal Pc0) (f0 : PcFit c0 0 Pc0) (c1 : List Value) (l1 : c1.length = pcTotal Pc1) (f1 : PcFit c1 0 Pc1) (a2 : Int) (w2 : -9223372036854775808 ≤ a2 ∧ a2 ≤ -1) (c4 : List Value) (l4 : c4.length = pcTotal Pc4) (f4 : PcFit c4 0 Pc4) (a5 : Int) (w5 : (Lit.int .u16 a5).wf = true) (w : World) :
    Calls Try.prog 9 #[.agg c0.toArray, .agg c1.toArray, .int .i64 a2, .int .i64 (1), .agg c4.toArray, .int .u16 a5] w fun r w' => r = .returned (.bool true) ∧ Below w.heap.size w w' := by
  have hc0 : cellsOf (ol1a_Env c0 c1 a2 c4 a5) Loc.id (pcSegs 0 0 0 Pc0) = c0 := by
    rw [pc_cells Pc0 0 0 0 0 f0 (by intro j hj; rcases j with _ | _ | _ | _ | j <;> first | rfl | (simp [Pc0, pcA, pcB, pcI] at hj <;> omega)) (by intro j hj; simp [Pc0, pcA, pcB, pcI] at hj) (by intro j hj; rcases j with _ | _ | _ | j <;> first | rfl | (simp [Pc0, pcA, pcB, pcI] at hj <;> omega)), List.drop_zero, ← l0, List.take_length]
  have hc1 : cellsOf (ol1a_Env c0 c1 a2 c4 a5) Loc.id (pcSegs 4 0 3 Pc1) = c1 := by
    rw [pc_cells Pc1 0 4 0 3 f1 (by intro j hj; simp [Pc1, pcA, pcB, pcI] at hj) (by intro j hj; rcases j with _ | _ | _ | _ | _ | j <;> first | rfl | (simp [Pc1, pcA, pcB, pcI] at hj <;> omega)) (by intro j hj; rcases j with _ | _ | _ | _ | _ | _ | _ | _ | _ | _ | _ | _ | _ | _ | _ | j <;> first | rfl | (simp [Pc1, pcA, pcB, pcI] at hj <;> omega)), List.drop_zero, ← l1, List.take_length]
  have hc4 : cellsOf (ol1a_Env c0 c1 a2 c4 a5) Loc.id (pcSegs 4 5 19 Pc4) = c4 := by
    rw [pc_cells Pc4 0 4 5 19 f4 (by intro j hj; simp [Pc4, pcA, pcB, pcI] at hj) (by intro j hj; rcases j with _ | j <;> first | rfl | (simp [Pc4, pcA, pcB, pcI] at hj <;> omega)) (by intro j hj; rcases j with _ | _ | _ | j <;> first | rfl | (simp [Pc4, pcA, pcB, pcI] at hj <;> omega)), List.drop_zero, ← l4, List.take_length]
  have hargs : (ol1a_Ls.map (SV.conc (ol1a_Env c0 c1 a2 c4 a5) Loc.id)).toArray = #[.agg c0.toArray, .agg c1.toArray, .int .i64 a2, .int .i64 (1), .agg c4.toArray, .int .u16 a5] := by
    refine congrArg List.toArray ?_
    exact (cons_eq (congrArg (fun l => Value.agg (List.toArray l)) hc0) (cons_eq (congrArg (fun l => Value.agg (List.toArray l)) hc1) (cons_eq rfl (cons_eq rfl (cons_eq (congrArg (fun l => Value.agg (List.toArray l)) hc4) (cons_eq rfl rfl))))))
  rw [← hargs]
  have hok : Hyp.ok ol1a_Hy (ol1a_Env c0 c1 a2 c4 a5) := by
    refine ⟨?_, ?_, ?_, by simp [ol1a_Hy], ?_, by simp [ol1a_Hy]⟩
    · simp [ol1a_Hy]
    · intro p hp
      simp only [ol1a_Hy, List.mem_cons, List.not_mem_nil, or_false] at hp
      rcases hp with rfl | rfl | rfl | rfl | rfl | rfl | rfl | rfl | rfl | rfl | rfl | rfl | rfl | rfl | rfl | rfl | rfl | rfl | rfl | rfl | rfl | rfl | rfl
      · exact num_rng (f0.tail.tail.tail.tail)
      · exact num_rng (f0.tail.tail.tail.tail.tail)
      · exact num_rng (f0.tail.tail.tail.tail.tail.tail)
      · exact num_rng (f1.tail)
      · exact num_rng (f1.tail.tail)
      · exact num_rng (f1.tail.tail.tail)
      · exact num_rng (f1.tail.tail.tail.tail.tail)
      · exact num_rng (f1.tail.tail.tail.tail.tail.tail)
      · exact num_rng (f1.tail.tail.tail.tail.tail.tail.tail)
      · exact num_rng (f1.tail.tail.tail.tail.tail.tail.tail.tail.tail)
      · exact num_rng (f1.tail.tail.tail.tail.tail.tail.tail.tail.tail.tail)
      · exact num_rng (f1.tail.tail.tail.tail.tail.tail.tail.tail.tail.tail.tail)
      · exact num_rng (f1.tail.tail.tail.tail.tail.tail.tail.tail.tail.tail.tail.tail.tail)
      · exact num_rng (f1.tail.tail.tail.tail.tail.tail.tail.tail.tail.tail.tail.tail.tail.tail)
      · exact num_rng (f1.tail.tail.tail.tail.tail.tail.tail.tail.tail.tail.tail.tail.tail.tail.tail)
      · exact num_rng (f1.tail.tail.tail.tail.tail.tail.tail.tail.tail.tail.tail.tail.tail.tail.tail.tail.tail)
      · exact num_rng (f1.tail.tail.tail.tail.tail.tail.tail.tail.tail.tail.tail.tail.tail.tail.tail.tail.tail.tail)
      · exact num_rng (f1.tail.tail.tail.tail.tail.tail.tail.tail.tail.tail.tail.tail.tail.tail.tail.tail.tail.tail.tail)
      · exact w2
      · exact num_rng (f4.tail)
      · exact num_rng (f4.tail.tail)
      · exact num_rng (f4.tail.tail.tail)
      · exact bounds_u16 w5
    · intro p hp
      simp only [ol1a_Hy, List.mem_cons, List.not_mem_nil, or_false] at hp
      rcases hp with rfl | rfl | rfl | rfl
      · exact arrOf_rng (f0)
      · exact arrOf_rng (f0.tail)
      · exact arrOf_rng (f0.tail.tail)
      · exact arrOf_rng (f0.tail.tail.tail)
    · simp [ol1a_Hy]
  exact law_true (ρ := (ol1a_Env c0 c1 a2 c4 a5)) (G_ok _) (by kernel_rfl) ol1a_run rfl
    hok (by intro e he; cases he) rfl w (fun i j => Ext.none_ok _)
def ol1b_Env (c0 : List Value) (c1 : List Value) (a2 : Int) (c4 : List Value) (a5 : Int) : Env := (⟨[intV (c0.getD 78 Go.undef), intV (c0.getD 79 Go.undef), intV (c0.getD 80 Go.undef), intV (c1.getD 1 Go.undef), intV (c1.getD 2 Go.undef), intV (c1.getD 3 Go.undef), intV (c1.getD 5 Go.undef), intV (c1.getD 6 Go.undef), intV (c1.getD 7 Go.undef), intV (c1.getD 9 Go.undef), intV (c1.getD 10 Go.undef), intV (c1.getD 11 Go.undef), intV (c1.getD 13 Go.undef), intV (c1.getD 14 Go.undef), intV (c1.getD 15 Go.undef), intV (c1.getD 17 Go.undef), intV (c1.getD 18 Go.undef), intV (c1.getD 19 Go.undef), a2, intV (c4.getD 1 Go.undef), intV (c4.getD 2 Go.undef), intV (c4.getD 3 Go.undef), a5], [boolV (c1.getD 0 Go.undef), boolV (c1.getD 4 Go.undef), boolV (c1.getD 8 Go.undef), boolV (c1.getD 12 Go.undef), boolV (c1.getD 16 Go.undef), boolV (c4.getD 0 Go.undef)], [arrOf c0 0 64, arrOf c0 64 4, arrOf c0 68 4, arrOf c0 72 6], [], Iv (fun _ _ => Ext.none)⟩ : Env)
def ol1b_Hy : Hyp := ⟨[(.v 0, (-32768, 32767)), (.v 1, (-32768, 32767)), (.v 2, (0, 65535)), (.v 3, (0, 255)), (.v 4, (0, 255)), (.v 5, (0, 65535)), (.v 6, (0, 255)), (.v 7, (0, 255)), (.v 8, (0, 65535)), (.v 9, (0, 255)), (.v 10, (0, 255)), (.v 11, (0, 65535)), (.v 12, (0, 255)), (.v 13, (0, 255)), (.v 14, (0, 65535)), (.v 15, (0, 255)), (.v 16, (0, 255)), (.v 17, (0, 65535)), (.v 18, (256, 9223372036854775807)), (.v 19, (0, 255)), (.v 20, (0, 255)), (.v 21, (0, 65535)), (.v 22, (0, 65535))], [(0, (0, 255)), (1, (0, 65535)), (2, (0, 65535)), (3, (-32768, 32767))], [], [], [], []⟩
def ol1b_Ls : List SV := [.agg (pcSegs 0 0 0 Pc0), .agg (pcSegs 4 0 3 Pc1), .s (.int .i64 (.v 18)), .s (.int .i64 (.lit (1))), .agg (pcSegs 4 5 19 Pc4), .s (.int .u16 (.v 22))]

theorem ol1b_run : enter Try.prog G Gh 6000 40 9 ol1b_Hy ol1b_Ls [] = some ([], .s (.bool (.blit true)), none) := by kernel_rfl
theorem ol1b_calls (c0 : List Value) (l0 : c0.length = pcTotal Pc0) (f0 : PcFit c0 0 Pc0) (c1 : List Value) (l1 : c1.length = pcTotal Pc1) (f1 : PcFit c1 0 Pc1) (a2 : Int) (w2 : 256 ≤ a2 ∧ a2 ≤ 9223372036854775807) (c4 : List Value) (l4 : c4.length = pcTotal Pc4) (f4 : PcFit c4 0 Pc4) (a5 : Int) (w5 : (Lit.int .u16 a5).wf = true) (w : World) :
    Calls Try.prog 9 #[.agg c0.toArray, .agg c1.toArray, .int .i64 a2, .int .i64 (1), .agg c4.toArray, .int .u16 a5] w fun r w' => r = .returned (.bool true) ∧ Below w.heap.size w w' := by
  have hc0 : cellsOf (ol1b_Env c0 c1 a2 c4 a5) Loc.id (pcSegs 0 0 0 Pc0) = c0 := by
    rw [pc_cells Pc0 0 0 0 0 f0 (by intro j hj; rcases j with _ | _ | _ | _ | j <;> first | rfl | (simp [Pc0, pcA, pcB, pcI] at hj <;> omega)) (by intro j hj; simp [Pc0, pcA, pcB, pcI] at hj) (by intro j hj; rcases j with _ | _ | _ | j <;> first | rfl | (simp [Pc0, pcA, pcB, pcI] at hj <;> omega)), List.drop_zero, ← l0, List.take_length]
  have hc1 : cellsOf (ol1b_Env c0 c1 a2 c4 a5) Loc.id (pcSegs 4 0 3 Pc1) = c1 := by
    rw [pc_cells Pc1 0 4 0 3 f1 (by intro j hj; simp [Pc1, pcA, pcB, pcI] at hj) (by intro j hj; rcases j with _ | _ | _ | _ | _ | j <;> first | rfl | (simp [Pc1, pcA, pcB, pcI] at hj <;> omega)) (by intro j hj; rcases j with _ | _ | _ | _ | _ | _ | _ | _ | _ | _ | _ | _ | _ | _ | _ | j <;> first | rfl | (simp [Pc1, pcA, pcB, pcI] at hj <;> omega)), List.drop_zero, ← l1, List.take_length]
  have hc4 : cellsOf (ol1b_Env c0 c1 a2 c4 a5) Loc.id (pcSegs 4 5 19 Pc4) = c4 := by
    rw [pc_cells Pc4 0 4 5 19 f4 (by intro j hj; simp [Pc4, pcA, pcB, pcI] at hj) (by intro j hj; rcases j with _ | j <;> first | rfl | (simp [Pc4, pcA, pcB, pcI] at hj <;> omega)) (by intro j hj; rcases j with _ | _ | _ | j <;> first | rfl | (simp [Pc4, pcA, pcB, pcI] at hj <;> omega)), List.drop_zero, ← l4, List.take_length]
  have hargs : (ol1b_Ls.map (SV.conc (ol1b_Env c0 c1 a2 c4 a5) Loc.id)).toArray = #[.agg c0.toArray, .agg c1.toArray, .int .i64 a2, .int .i64 (1), .agg c4.toArray, .int .u16 a5] := by
    refine congrArg List.toArray ?_
    exact (cons_eq (congrArg (fun l => Value.agg (List.toArray l)) hc0) (cons_eq (congrArg (fun l => Value.agg (List.toArray l)) hc1) (cons_eq rfl (cons_eq rfl (cons_eq (congrArg (fun l => Value.agg (List.toArray l)) hc4) (cons_eq rfl rfl))))))
  rw [← hargs]
  have hok : Hyp.ok ol1b_Hy (ol1b_Env c0 c1 a2 c4 a5) := by
    refine ⟨?_, ?_, ?_, by simp [ol1b_Hy], ?_, by simp [ol1b_Hy]⟩
    · simp [ol1b_Hy]
    · intro p hp
      simp only [ol1b_Hy, List.mem_cons, List.not_mem_nil, or_false] at hp
      rcases hp with rfl | rfl | rfl | rfl | rfl | rfl | rfl | rfl | rfl | rfl | rfl | rfl | rfl | rfl | rfl | rfl | rfl | rfl | rfl | rfl | rfl | rfl | rfl
      · exact num_rng (f0.tail.tail.tail.tail)
      · exact num_rng (f0.tail.tail.tail.tail.tail)
      · exact num_rng (f0.tail.tail.tail.tail.tail.tail)
      · exact num_rng (f1.tail)
      · exact num_rng (f1.tail.tail)
      · exact num_rng (f1.tail.tail.tail)
      · exact num_rng (f1.tail.tail.tail.tail.tail)
      · exact num_rng (f1.tail.tail.tail.tail.tail.tail)
      · exact num_rng (f1.tail.tail.tail.tail.tail.tail.tail)
      · exact num_rng (f1.tail.tail.tail.tail.tail.tail.tail.tail.tail)
      · exact num_rng (f1.tail.tail.tail.tail.tail.tail.tail.tail.tail.tail)
      · exact num_rng (f1.tail.tail.tail.tail.tail.tail.tail.tail.tail.tail.tail)
      · exact num_rng (f1.tail.tail.tail.tail.tail.tail.tail.tail.tail.tail.tail.tail.tail)
      · exact num_rng (f1.tail.tail.tail.tail.tail.tail.tail.tail.tail.tail.tail.tail.tail.tail)
      · exact num_rng (f1.tail.tail.tail.tail.tail.tail.tail.tail.tail.tail.tail.tail.tail.tail.tail)
      · exact num_rng (f1.tail.tail.tail.tail.tail.tail.tail.tail.tail.tail.tail.tail.tail.tail.tail.tail.tail)
      · exact num_rng (f1.tail.tail.tail.tail.tail.tail.tail.tail.tail.tail.tail.tail.tail.tail.tail.tail.tail.tail)
      · exact num_rng (f1.tail.tail.tail.tail.tail.tail.tail.tail.tail.tail.tail.tail.tail.tail.tail.tail.tail.tail.tail)
      · exact w2
      · exact num_rng (f4.tail)
      · exact num_rng (f4.tail.tail)
      · exact num_rng (f4.tail.tail.tail)
      · exact bounds_u16 w5
    · intro p hp
      simp only [ol1b_Hy, List.mem_cons, List.not_mem_nil, or_false] at hp
      rcases hp with rfl | rfl | rfl | rfl
      · exact arrOf_rng (f0)
      · exact arrOf_rng (f0.tail)
      · exact arrOf_rng (f0.tail.tail)
      · exact arrOf_rng (f0.tail.tail.tail)
    · simp [ol1b_Hy]
  exact law_true (ρ := (ol1b_Env c0 c1 a2 c4 a5)) (G_ok _) (by kernel_rfl) ol1b_run rfl
    hok (by intro e he; cases he) rfl w (fun i j => Ext.none_ok _)
def ol2a_Env (c0 : List Value) (c1 : List Value) (a2 : Int) (c4 : List Value) (a5 : Int) : Env := (⟨[intV (c0.getD 78 Go.undef), intV (c0.getD 79 Go.undef), intV (c0.getD 80 Go.undef), intV (c1.getD 1 Go.undef), intV (c1.getD 2 Go.undef), intV (c1.getD 3 Go.undef), intV (c1.getD 5 Go.undef), intV (c1.getD 6 Go.undef), intV (c1.getD 7 Go.undef), intV (c1.getD 9 Go.undef), intV (c1.getD 10 Go.undef), intV (c1.getD 11 Go.undef), intV (c1.getD 13 Go.undef), intV (c1.getD 14 Go.undef), intV (c1.getD 15 Go.undef), intV (c1.getD 17 Go.undef), intV (c1.getD 18 Go.undef), intV (c1.getD 19 Go.undef), a2, intV (c4.getD 1 Go.undef), intV (c4.getD 2 Go.undef), intV (c4.getD 3 Go.undef), a5], [boolV (c1.getD 0 Go.undef), boolV (c1.getD 4 Go.undef), boolV (c1.getD 8 Go.undef), boolV (c1.getD 12 Go.undef), boolV (c1.getD 16 Go.undef), boolV (c4.getD 0 Go.undef)], [arrOf c0 0 64, arrOf c0 64 4, arrOf c0 68 4, arrOf c0 72 6], [], Iv (fun _ _ => Ext.none)⟩ : Env)
def ol2a_Hy : Hyp := ⟨[(.v 0, (-32768, 32767)), (.v 1, (-32768, 32767)), (.v 2, (0, 65535)), (.v 3, (0, 255)), (.v 4, (0, 255)), (.v 5, (0, 65535)), (.v 6, (0, 255)), (.v 7, (0, 255)), (.v 8, (0, 65535)), (.v 9, (0, 255)), (.v 10, (0, 255)), (.v 11, (0, 65535)), (.v 12, (0, 255)), (.v 13, (0, 255)), (.v 14, (0, 65535)), (.v 15, (0, 255)), (.v 16, (0, 255)), (.v 17, (0, 65535)), (.v 18, (-9223372036854775808, -1)), (.v 19, (0, 255)), (.v 20, (0, 255)), (.v 21, (0, 65535)), (.v 22, (0, 65535))], [(0, (0, 255)), (1, (0, 65535)), (2, (0, 65535)), (3, (-32768, 32767))], [], [], [], []⟩
def ol2a_Ls : List SV := [.agg (pcSegs 0 0 0 Pc0), .agg (pcSegs 4 0 3 Pc1), .s (.int .i64 (.v 18)), .s (.int .i64 (.lit (2))), .agg (pcSegs 4 5 19 Pc4), .s (.int .u16 (.v 22))]

theorem ol2a_run : enter Try.prog G Gh 6000 40 9 ol2a_Hy ol2a_Ls [] = some ([], .s (.bool (.blit true)), none) := by kernel_rfl
theorem ol2a_calls (c0 : List Value) (l0 : c0.length = pcTotal Pc0) (f0 : PcFit c0 0 Pc0) (c1 : List Value) (l1 : c1.length = pcTotal Pc1) (f1 : PcFit c1 0 Pc1) (a2 : Int) (w2 : -9223372036854775808 ≤ a2 ∧ a2 ≤ -1) (c4 : List Value) (l4 : c4.length = pcTotal Pc4) (f4 : PcFit c4 0 Pc4) (a5 : Int) (w5 : (Lit.int .u16 a5).wf = true) (w : World) :
    Calls Try.prog 9 #[.agg c0.toArray, .agg c1.toArray, .int .i64 a2, .int .i64 (2), .agg c4.toArray, .int .u16 a5] w fun r w' => r = .returned (.bool true) ∧ Below w.heap.size w w' := by
  have hc0 : cellsOf (ol2a_Env c0 c1 a2 c4 a5) Loc.id (pcSegs 0 0 0 Pc0) = c0 := by
    rw [pc_cells Pc0 0 0 0 0 f0 (by intro j hj; rcases j with _ | _ | _ | _ | j <;> first | rfl | (simp [Pc0, pcA, pcB, pcI] at hj <;> omega)) (by intro j hj; simp [Pc0, pcA, pcB, pcI] at hj) (by intro j hj; rcases j with _ | _ | _ | j <;> first | rfl | (simp [Pc0, pcA, pcB, pcI] at hj <;> omega)), List.drop_zero, ← l0, List.take_length]
  have hc1 : cellsOf (ol2a_Env c0 c1 a2 c4 a5) Loc.id (pcSegs 4 0 3 Pc1) = c1 := by
    rw [pc_cells Pc1 0 4 0 3 f1 (by intro j hj; simp [Pc1, pcA, pcB, pcI] at hj) (by intro j hj; rcases j with _ | _ | _ | _ | _ | j <;> first | rfl | (simp [Pc1, pcA, pcB, pcI] at hj <;> omega)) (by intro j hj; rcases j with _ | _ | _ | _ | _ | _ | _ | _ | _ | _ | _ | _ | _ | _ | _ | j <;> first | rfl | (simp [Pc1, pcA, pcB, pcI] at hj <;> omega)), List.drop_zero, ← l1, List.take_length]
  have hc4 : cellsOf (ol2a_Env c0 c1 a2 c4 a5) Loc.id (pcSegs 4 5 19 Pc4) = c4 := by
    rw [pc_cells Pc4 0 4 5 19 f4 (by intro j hj; simp [Pc4, pcA, pcB, pcI] at hj) (by intro j hj; rcases j with _ | j <;> first | rfl | (simp [Pc4, pcA, pcB, pcI] at hj <;> omega)) (by intro j hj; rcases j with _ | _ | _ | j <;> first | rfl | (simp [Pc4, pcA, pcB, pcI] at hj <;> omega)), List.drop_zero, ← l4, List.take_length]
  have hargs : (ol2a_Ls.map (SV.conc (ol2a_Env c0 c1 a2 c4 a5) Loc.id)).toArray = #[.agg c0.toArray, .agg c1.toArray, .int .i64 a2, .int .i64 (2), .agg c4.toArray, .int .u16 a5] := by
    refine congrArg List.toArray ?_
    exact (cons_eq (congrArg (fun l => Value.agg (List.toArray l)) hc0) (cons_eq (congrArg (fun l => Value.agg (List.toArray l)) hc1) (cons_eq rfl (cons_eq rfl (cons_eq (congrArg (fun l => Value.agg (List.toArray l)) hc4) (cons_eq rfl rfl))))))
  rw [← hargs]
  have hok : Hyp.ok ol2a_Hy (ol2a_Env c0 c1 a2 c4 a5) := by
    refine ⟨?_, ?_, ?_, by simp [ol2a_Hy], ?_, by simp [ol2a_Hy]⟩
    · simp [ol2a_Hy]
    · intro p hp
      simp only [ol2a_Hy, List.mem_cons, List.not_mem_nil, or_false] at hp
      rcases hp with rfl | rfl | rfl | rfl | rfl | rfl | rfl | rfl | rfl | rfl | rfl | rfl | rfl | rfl | rfl | rfl | rfl | rfl | rfl | rfl | rfl | rfl | rfl
      · exact num_rng (f0.tail.tail.tail.tail)
      · exact num_rng (f0.tail.tail.tail.tail.tail)
      · exact num_rng (f0.tail.tail.tail.tail.tail.tail)
      · exact num_rng (f1.tail)
      · exact num_rng (f1.tail.tail)
      · exact num_rng (f1.tail.tail.tail)
      · exact num_rng (f1.tail.tail.tail.tail.tail)
      · exact num_rng (f1.tail.tail.tail.tail.tail.tail)
      · exact num_rng (f1.tail.tail.tail.tail.tail.tail.tail)
      · exact num_rng (f1.tail.tail.tail.tail.tail.tail.tail.tail.tail)
      · exact num_rng (f1.tail.tail.tail.tail.tail.tail.tail.tail.tail.tail)
      · exact num_rng (f1.tail.tail.tail.tail.tail.tail.tail.tail.tail.tail.tail)
      · exact num_rng (f1.tail.tail.tail.tail.tail.tail.tail.tail.tail.tail.tail.tail.tail)
      · exact num_rng (f1.tail.tail.tail.tail.tail.tail.tail.tail.tail.tail.tail.tail.tail.tail)
      · exact num_rng (f1.tail.tail.tail.tail.tail.tail.tail.tail.tail.tail.tail.tail.tail.tail.tail)
      · exact num_rng (f1.tail.tail.tail.tail.tail.tail.tail.tail.tail.tail.tail.tail.tail.tail.tail.tail.tail)
      · exact num_rng (f1.tail.tail.tail.tail.tail.tail.tail.tail.tail.tail.tail.tail.tail.tail.tail.tail.tail.tail)
      · exact num_rng (f1.tail.tail.tail.tail.tail.tail.tail.tail.tail.tail.tail.tail.tail.tail.tail.tail.tail.tail.tail)
      · exact w2
      · exact num_rng (f4.tail)
      · exact num_rng (f4.tail.tail)
      · exact num_rng (f4.tail.tail.tail)
      · exact bounds_u16 w5
    · intro p hp
      simp only [ol2a_Hy, List.mem_cons, List.not_mem_nil, or_false] at hp
      rcases hp with rfl | rfl | rfl | rfl
      · exact arrOf_rng (f0)
      · exact arrOf_rng (f0.tail)
      · exact arrOf_rng (f0.tail.tail)
      · exact arrOf_rng (f0.tail.tail.tail)
    · simp [ol2a_Hy]
  exact law_true (ρ := (ol2a_Env c0 c1 a2 c4 a5)) (G_ok _) (by kernel_rfl) ol2a_run rfl
    hok (by intro e he; cases he) rfl w (fun i j => Ext.none_ok _)
def ol2b_Env (c0 : List Value) (c1 : List Value) (a2 : Int) (c4 : List Value) (a5 : Int) : Env := (⟨[intV (c0.getD 78 Go.undef), intV (c0.getD 79 Go.undef), intV (c0.getD 80 Go.undef), intV (c1.getD 1 Go.undef), intV (c1.getD 2 Go.undef), intV (c1.getD 3 Go.undef), intV (c1.getD 5 Go.undef), intV (c1.getD 6 Go.undef), intV (c1.getD 7 Go.undef), intV (c1.getD 9 Go.undef), intV (c1.getD 10 Go.undef), intV (c1.getD 11 Go.undef), intV (c1.getD 13 Go.undef), intV (c1.getD 14 Go.undef), intV (c1.getD 15 Go.undef), intV (c1.getD 17 Go.undef), intV (c1.getD 18 Go.undef), intV (c1.getD 19 Go.undef), a2, intV (c4.getD 1 Go.undef), intV (c4.getD 2 Go.undef), intV (c4.getD 3 Go.undef), a5], [boolV (c1.getD 0 Go.undef), boolV (c1.getD 4 Go.undef), boolV (c1.getD 8 Go.undef), boolV (c1.getD 12 Go.undef), boolV (c1.getD 16 Go.undef), boolV (c4.getD 0 Go.undef)], [arrOf c0 0 64, arrOf c0 64 4, arrOf c0 68 4, arrOf c0 72 6], [], Iv (fun _ _ => Ext.none)⟩ : Env)
def ol2b_Hy : Hyp := ⟨[(.v 0, (-32768, 32767)), (.v 1, (-32768, 32767)), (.v 2, (0, 65535)), (.v 3, (0, 255)), (.v 4, (0, 255)), (.v 5, (0, 65535)), (.v 6, (0, 255)), (.v 7, (0, 255)), (.v 8, (0, 65535)), (.v 9, (0, 255)), (.v 10, (0, 255)), (.v 11, (0, 65535)), (.v 12, (0, 255)), (.v 13, (0, 255)), (.v 14, (0, 65535)), (.v 15, (0, 255)), (.v 16, (0, 255)), (.v 17, (0, 65535)), (.v 18, (256, 9223372036854775807)), (.v 19, (0, 255)), (.v 20, (0, 255)), (.v 21, (0, 65535)), (.v 22, (0, 65535))], [(0, (0, 255)), (1, (0, 65535)), (2, (0, 65535)), (3, (-32768, 32767))], [], [], [], []⟩
def ol2b_Ls : List SV := [.agg (pcSegs 0 0 0 Pc0), .agg (pcSegs 4 0 3 Pc1), .s (.int .i64 (.v 18)), .s (.int .i64 (.lit (2))), .agg (pcSegs 4 5 19 Pc4), .s (.int .u16 (.v 22))]

theorem ol2b_run : enter Try.prog G Gh 6000 40 9 ol2b_Hy ol2b_Ls [] = some ([], .s (.bool (.blit true)), none) := by kernel_rfl
theorem ol2b_calls (c0 : List Value) (l0 : c0.length = pcTotal Pc0) (f0 : PcFit c0 0 Pc0) (c1 : List Value) (l1 : c1.length = pcTotal Pc1) (f1 : PcFit c1 0 Pc1) (a2 : Int) (w2 : 256 ≤ a2 ∧ a2 ≤ 9223372036854775807) (c4 : List Value) (l4 : c4.length = pcTotal Pc4) (f4 : PcFit c4 0 Pc4) (a5 : Int) (w5 : (Lit.int .u16 a5).wf = true) (w : World) :
    Calls Try.prog 9 #[.agg c0.toArray, .agg c1.toArray, .int .i64 a2, .int .i64 (2), .agg c4.toArray, .int .u16 a5] w fun r w' => r = .returned (.bool true) ∧ Below w.heap.size w w' := by
  have hc0 : cellsOf (ol2b_Env c0 c1 a2 c4 a5) Loc.id (pcSegs 0 0 0 Pc0) = c0 := by
    rw [pc_cells Pc0 0 0 0 0 f0 (by intro j hj; rcases j with _ | _ | _ | _ | j <;> first | rfl | (simp [Pc0, pcA, pcB, pcI] at hj <;> omega)) (by intro j hj; simp [Pc0, pcA, pcB, pcI] at hj) (by intro j hj; rcases j with _ | _ | _ | j <;> first | rfl | (simp [Pc0, pcA, pcB, pcI] at hj <;> omega)), List.drop_zero, ← l0, List.take_length]
  have hc1 : cellsOf (ol2b_Env c0 c1 a2 c4 a5) Loc.id (pcSegs 4 0 3 Pc1) = c1 := by
    rw [pc_cells Pc1 0 4 0 3 f1 (by intro j hj; simp [Pc1, pcA, pcB, pcI] at hj) (by intro j hj; rcases j with _ | _ | _ | _ | _ | j <;> first | rfl | (simp [Pc1, pcA, pcB, pcI] at hj <;> omega)) (by intro j hj; rcases j with _ | _ | _ | _ | _ | _ | _ | _ | _ | _ | _ | _ | _ | _ | _ | j <;> first | rfl | (simp [Pc1, pcA, pcB, pcI] at hj <;> omega)), List.drop_zero, ← l1, List.take_length]
  have hc4 : cellsOf (ol2b_Env c0 c1 a2 c4 a5) Loc.id (pcSegs 4 5 19 Pc4) = c4 := by
    rw [pc_cells Pc4 0 4 5 19 f4 (by intro j hj; simp [Pc4, pcA, pcB, pcI] at hj) (by intro j hj; rcases j with _ | j <;> first | rfl | (simp [Pc4, pcA, pcB, pcI] at hj <;> omega)) (by intro j hj; rcases j with _ | _ | _ | j <;> first | rfl | (simp [Pc4, pcA, pcB, pcI] at hj <;> omega)), List.drop_zero, ← l4, List.take_length]
  have hargs : (ol2b_Ls.map (SV.conc (ol2b_Env c0 c1 a2 c4 a5) Loc.id)).toArray = #[.agg c0.toArray, .agg c1.toArray, .int .i64 a2, .int .i64 (2), .agg c4.toArray, .int .u16 a5] := by
    refine congrArg List.toArray ?_
    exact (cons_eq (congrArg (fun l => Value.agg (List.toArray l)) hc0) (cons_eq (congrArg (fun l => Value.agg (List.toArray l)) hc1) (cons_eq rfl (cons_eq rfl (cons_eq (congrArg (fun l => Value.agg (List.toArray l)) hc4) (cons_eq rfl rfl))))))
  rw [← hargs]
  have hok : Hyp.ok ol2b_Hy (ol2b_Env c0 c1 a2 c4 a5) := by
    refine ⟨?_, ?_, ?_, by simp [ol2b_Hy], ?_, by simp [ol2b_Hy]⟩
    · simp [ol2b_Hy]
    · intro p hp
      simp only [ol2b_Hy, List.mem_cons, List.not_mem_nil, or_false] at hp
      rcases hp with rfl | rfl | rfl | rfl | rfl | rfl | rfl | rfl | rfl | rfl | rfl | rfl | rfl | rfl | rfl | rfl | rfl | rfl | rfl | rfl | rfl | rfl | rfl
      · exact num_rng (f0.tail.tail.tail.tail)
      · exact num_rng (f0.tail.tail.tail.tail.tail)
      · exact num_rng (f0.tail.tail.tail.tail.tail.tail)
      · exact num_rng (f1.tail)
      · exact num_rng (f1.tail.tail)
      · exact num_rng (f1.tail.tail.tail)
      · exact num_rng (f1.tail.tail.tail.tail.tail)
      · exact num_rng (f1.tail.tail.tail.tail.tail.tail)
      · exact num_rng (f1.tail.tail.tail.tail.tail.tail.tail)
      · exact num_rng (f1.tail.tail.tail.tail.tail.tail.tail.tail.tail)
      · exact num_rng (f1.tail.tail.tail.tail.tail.tail.tail.tail.tail.tail)
      · exact num_rng (f1.tail.tail.tail.tail.tail.tail.tail.tail.tail.tail.tail)
      · exact num_rng (f1.tail.tail.tail.tail.tail.tail.tail.tail.tail.tail.tail.tail.tail)
      · exact num_rng (f1.tail.tail.tail.tail.tail.tail.tail.tail.tail.tail.tail.tail.tail.tail)
      · exact num_rng (f1.tail.tail.tail.tail.tail.tail.tail.tail.tail.tail.tail.tail.tail.tail.tail)
      · exact num_rng (f1.tail.tail.tail.tail.tail.tail.tail.tail.tail.tail.tail.tail.tail.tail.tail.tail.tail)
      · exact num_rng (f1.tail.tail.tail.tail.tail.tail.tail.tail.tail.tail.tail.tail.tail.tail.tail.tail.tail.tail)
      · exact num_rng (f1.tail.tail.tail.tail.tail.tail.tail.tail.tail.tail.tail.tail.tail.tail.tail.tail.tail.tail.tail)
      · exact w2
      · exact num_rng (f4.tail)
      · exact num_rng (f4.tail.tail)
      · exact num_rng (f4.tail.tail.tail)
      · exact bounds_u16 w5
    · intro p hp
      simp only [ol2b_Hy, List.mem_cons, List.not_mem_nil, or_false] at hp
      rcases hp with rfl | rfl | rfl | rfl
      · exact arrOf_rng (f0)
      · exact arrOf_rng (f0.tail)
      · exact arrOf_rng (f0.tail.tail)
      · exact arrOf_rng (f0.tail.tail.tail)
    · simp [ol2b_Hy]
  exact law_true (ρ := (ol2b_Env c0 c1 a2 c4 a5)) (G_ok _) (by kernel_rfl) ol2b_run rfl
    hok (by intro e he; cases he) rfl w (fun i j => Ext.none_ok _)
def ol3a_Env (c0 : List Value) (c1 : List Value) (a2 : Int) (c4 : List Value) (a5 : Int) : Env := (⟨[intV (c0.getD 78 Go.undef), intV (c0.getD 79 Go.undef), intV (c0.getD 80 Go.undef), intV (c1.getD 1 Go.undef), intV (c1.getD 2 Go.undef), intV (c1.getD 3 Go.undef), intV (c1.getD 5 Go.undef), intV (c1.getD 6 Go.undef), intV (c1.getD 7 Go.undef), intV (c1.getD 9 Go.undef), intV (c1.getD 10 Go.undef), intV (c1.getD 11 Go.undef), intV (c1.getD 13 Go.undef), intV (c1.getD 14 Go.undef), intV (c1.getD 15 Go.undef), intV (c1.getD 17 Go.undef), intV (c1.getD 18 Go.undef), intV (c1.getD 19 Go.undef), a2, intV (c4.getD 1 Go.undef), intV (c4.getD 2 Go.undef), intV (c4.getD 3 Go.undef), a5], [boolV (c1.getD 0 Go.undef), boolV (c1.getD 4 Go.undef), boolV (c1.getD 8 Go.undef), boolV (c1.getD 12 Go.undef), boolV (c1.getD 16 Go.undef), boolV (c4.getD 0 Go.undef)], [arrOf c0 0 64, arrOf c0 64 4, arrOf c0 68 4, arrOf c0 72 6], [], Iv (fun _ _ => Ext.none)⟩ : Env)
def ol3a_Hy : Hyp := ⟨[(.v 0, (-32768, 32767)), (.v 1, (-32768, 32767)), (.v 2, (0, 65535)), (.v 3, (0, 255)), (.v 4, (0, 255)), (.v 5, (0, 65535)), (.v 6, (0, 255)), (.v 7, (0, 255)), (.v 8, (0, 65535)), (.v 9, (0, 255)), (.v 10, (0, 255)), (.v 11, (0, 65535)), (.v 12, (0, 255)), (.v 13, (0, 255)), (.v 14, (0, 65535)), (.v 15, (0, 255)), (.v 16, (0, 255)), (.v 17, (0, 65535)), (.v 18, (-9223372036854775808, -1)), (.v 19, (0, 255)), (.v 20, (0, 255)), (.v 21, (0, 65535)), (.v 22, (0, 65535))], [(0, (0, 255)), (1, (0, 65535)), (2, (0, 65535)), (3, (-32768, 32767))], [], [], [], []⟩
def ol3a_Ls : List SV := [.agg (pcSegs 0 0 0 Pc0), .agg (pcSegs 4 0 3 Pc1), .s (.int .i64 (.v 18)), .s (.int .i64 (.lit (3))), .agg (pcSegs 4 5 19 Pc4), .s (.int .u16 (.v 22))]

theorem ol3a_run : enter Try.prog G Gh 6000 40 9 ol3a_Hy ol3a_Ls [] = some ([], .s (.bool (.blit true)), none) := by kernel_rfl
theorem ol3a_calls (c0 : List Value) (l0 : c0.length = pcTotal Pc0) (f0 : PcFit c0 0 Pc0) (c1 : List Value) (l1 : c1.length = pcTotal Pc1) (f1 : PcFit c1 0 Pc1) (a2 : Int) (w2 : -9223372036854775808 ≤ a2 ∧ a2 ≤ -1) (c4 : List Value) (l4 : c4.length = pcTotal Pc4) (f4 : PcFit c4 0 Pc4) (a5 : Int) (w5 : (Lit.int .u16 a5).wf = true) (w : World) :
    Calls Try.prog 9 #[.agg c0.toArray, .agg c1.toArray, .int .i64 a2, .int .i64 (3), .agg c4.toArray, .int .u16 a5] w fun r w' => r = .returned (.bool true) ∧ Below w.heap.size w w' := by
  have hc0 : cellsOf (ol3a_Env c0 c1 a2 c4 a5) Loc.id (pcSegs 0 0 0 Pc0) = c0 := by
    rw [pc_cells Pc0 0 0 0 0 f0 (by intro j hj; rcases j with _ | _ | _ | _ | j <;> first | rfl | (simp [Pc0, pcA, pcB, pcI] at hj <;> omega)) (by intro j hj; simp [Pc0, pcA, pcB, pcI] at hj) (by intro j hj; rcases j with _ | _ | _ | j <;> first | rfl | (simp [Pc0, pcA, pcB, pcI] at hj <;> omega)), List.drop_zero, ← l0, List.take_length]
  have hc1 : cellsOf (ol3a_Env c0 c1 a2 c4 a5) Loc.id (pcSegs 4 0 3 Pc1) = c1 := by
    rw [pc_cells Pc1 0 4 0 3 f1 (by intro j hj; simp [Pc1, pcA, pcB, pcI] at hj) (by intro j hj; rcases j with _ | _ | _ | _ | _ | j <;> first | rfl | (simp [Pc1, pcA, pcB, pcI] at hj <;> omega)) (by intro j hj; rcases j with _ | _ | _ | _ | _ | _ | _ | _ | _ | _ | _ | _ | _ | _ | _ | j <;> first | rfl | (simp [Pc1, pcA, pcB, pcI] at hj <;> omega)), List.drop_zero, ← l1, List.take_length]
  have hc4 : cellsOf (ol3a_Env c0 c1 a2 c4 a5) Loc.id (pcSegs 4 5 19 Pc4) = c4 := by
    rw [pc_cells Pc4 0 4 5 19 f4 (by intro j hj; simp [Pc4, pcA, pcB, pcI] at hj) (by intro j hj; rcases j with _ | j <;> first | rfl | (simp [Pc4, pcA, pcB, pcI] at hj <;> omega)) (by intro j hj; rcases j with _ | _ | _ | j <;> first | rfl | (simp [Pc4, pcA, pcB, pcI] at hj <;> omega)), List.drop_zero, ← l4, List.take_length]
  have hargs : (ol3a_Ls.map (SV.conc (ol3a_Env c0 c1 a2 c4 a5) Loc.id)).toArray = #[.agg c0.toArray, .agg c1.toArray, .int .i64 a2, .int .i64 (3), .agg c4.toArray, .int .u16 a5] := by
    refine congrArg List.toArray ?_
    exact (cons_eq (congrArg (fun l => Value.agg (List.toArray l)) hc0) (cons_eq (congrArg (fun l => Value.agg (List.toArray l)) hc1) (cons_eq rfl (cons_eq rfl (cons_eq (congrArg (fun l => Value.agg (List.toArray l)) hc4) (cons_eq rfl rfl))))))
  rw [← hargs]
  have hok : Hyp.ok ol3a_Hy (ol3a_Env c0 c1 a2 c4 a5) := by
    refine ⟨?_, ?_, ?_, by simp [ol3a_Hy], ?_, by simp [ol3a_Hy]⟩
    · simp [ol3a_Hy]
    · intro p hp
      simp only [ol3a_Hy, List.mem_cons, List.not_mem_nil, or_false] at hp
      rcases hp with rfl | rfl | rfl | rfl | rfl | rfl | rfl | rfl | rfl | rfl | rfl | rfl | rfl | rfl | rfl | rfl | rfl | rfl | rfl | rfl | rfl | rfl | rfl
      · exact num_rng (f0.tail.tail.tail.tail)
      · exact num_rng (f0.tail.tail.tail.tail.tail)
      · exact num_rng (f0.tail.tail.tail.tail.tail.tail)
      · exact num_rng (f1.tail)
      · exact num_rng (f1.tail.tail)
      · exact num_rng (f1.tail.tail.tail)
      · exact num_rng (f1.tail.tail.tail.tail.tail)
      · exact num_rng (f1.tail.tail.tail.tail.tail.tail)
      · exact num_rng (f1.tail.tail.tail.tail.tail.tail.tail)
      · exact num_rng (f1.tail.tail.tail.tail.tail.tail.tail.tail.tail)
      · exact num_rng (f1.tail.tail.tail.tail.tail.tail.tail.tail.tail.tail)
      · exact num_rng (f1.tail.tail.tail.tail.tail.tail.tail.tail.tail.tail.tail)
      · exact num_rng (f1.tail.tail.tail.tail.tail.tail.tail.tail.tail.tail.tail.tail.tail)
      · exact num_rng (f1.tail.tail.tail.tail.tail.tail.tail.tail.tail.tail.tail.tail.tail.tail)
      · exact num_rng (f1.tail.tail.tail.tail.tail.tail.tail.tail.tail.tail.tail.tail.tail.tail.tail)
      · exact num_rng (f1.tail.tail.tail.tail.tail.tail.tail.tail.tail.tail.tail.tail.tail.tail.tail.tail.tail)
      · exact num_rng (f1.tail.tail.tail.tail.tail.tail.tail.tail.tail.tail.tail.tail.tail.tail.tail.tail.tail.tail)
      · exact num_rng (f1.tail.tail.tail.tail.tail.tail.tail.tail.tail.tail.tail.tail.tail.tail.tail.tail.tail.tail.tail)
      · exact w2
      · exact num_rng (f4.tail)
      · exact num_rng (f4.tail.tail)
      · exact num_rng (f4.tail.tail.tail)
      · exact bounds_u16 w5
    · intro p hp
      simp only [ol3a_Hy, List.mem_cons, List.not_mem_nil, or_false] at hp
      rcases hp with rfl | rfl | rfl | rfl
      · exact arrOf_rng (f0)
      · exact arrOf_rng (f0.tail)
      · exact arrOf_rng (f0.tail.tail)
      · exact arrOf_rng (f0.tail.tail.tail)
    · simp [ol3a_Hy]
  exact law_true (ρ := (ol3a_Env c0 c1 a2 c4 a5)) (G_ok _) (by kernel_rfl) ol3a_run rfl
    hok (by intro e he; cases he) rfl w (fun i j => Ext.none_ok _)
def ol3b_Env (c0 : List Value) (c1 : List Value) (a2 : Int) (c4 : List Value) (a5 : Int) : Env := (⟨[intV (c0.getD 78 Go.undef), intV (c0.getD 79 Go.undef), intV (c0.getD 80 Go.undef), intV (c1.getD 1 Go.undef), intV (c1.getD 2 Go.undef), intV (c1.getD 3 Go.undef), intV (c1.getD 5 Go.undef), intV (c1.getD 6 Go.undef), intV (c1.getD 7 Go.undef), intV (c1.getD 9 Go.undef), intV (c1.getD 10 Go.undef), intV (c1.getD 11 Go.undef), intV (c1.getD 13 Go.undef), intV (c1.getD 14 Go.undef), intV (c1.getD 15 Go.undef), intV (c1.getD 17 Go.undef), intV (c1.getD 18 Go.undef), intV (c1.getD 19 Go.undef), a2, intV (c4.getD 1 Go.undef), intV (c4.getD 2 Go.undef), intV (c4.getD 3 Go.undef), a5], [boolV (c1.getD 0 Go.undef), boolV (c1.getD 4 Go.undef), boolV (c1.getD 8 Go.undef), boolV (c1.getD 12 Go.undef), boolV (c1.getD 16 Go.undef), boolV (c4.getD 0 Go.undef)], [arrOf c0 0 64, arrOf c0 64 4, arrOf c0 68 4, arrOf c0 72 6], [], Iv (fun _ _ => Ext.none)⟩ : Env)
def ol3b_Hy : Hyp := ⟨[(.v 0, (-32768, 32767)), (.v 1, (-32768, 32767)), (.v 2, (0, 65535)), (.v 3, (0, 255)), (.v 4, (0, 255)), (.v 5, (0, 65535)), (.v 6, (0, 255)), (.v 7, (0, 255)), (.v 8, (0, 65535)), (.v 9, (0, 255)), (.v 10, (0, 255)), (.v 11, (0, 65535)), (.v 12, (0, 255)), (.v 13, (0, 255)), (.v 14, (0, 65535)), (.v 15, (0, 255)), (.v 16, (0, 255)), (.v 17, (0, 65535)), (.v 18, (256, 9223372036854775807)), (.v 19, (0, 255)), (.v 20, (0, 255)), (.v 21, (0, 65535)), (.v 22, (0, 65535))], [(0, (0, 255)), (1, (0, 65535)), (2, (0, 65535)), (3, (-32768, 32767))], [], [], [], []⟩
def ol3b_Ls : List SV := [.agg (pcSegs 0 0 0 Pc0), .agg (pcSegs 4 0 3 Pc1), .s (.int .i64 (.v 18)), .s (.int .i64 (.lit (3))), .agg (pcSegs 4 5 19 Pc4), .s (.int .u16 (.v 22))]

theorem ol3b_run : enter Try.prog G Gh 6000 40 9 ol3b_Hy ol3b_Ls [] = some ([], .s (.bool (.blit true)), none) := by kernel_rfl
theorem ol3b_calls (c0 : List Value) (l0 : c0.length = pcTotal Pc0) (f0 : PcFit c0 0 Pc0) (c1 : List Value) (l1 : c1.length = pcTotal Pc1) (f1 : PcFit c1 0 Pc1) (a2 : Int) (w2 : 256 ≤ a2 ∧ a2 ≤ 9223372036854775807) (c4 : List Value) (l4 : c4.length = pcTotal Pc4) (f4 : PcFit c4 0 Pc4) (a5 : Int) (w5 : (Lit.int .u16 a5).wf = true) (w : World) :
    Calls Try.prog 9 #[.agg c0.toArray, .agg c1.toArray, .int .i64 a2, .int .i64 (3), .agg c4.toArray, .int .u16 a5] w fun r w' => r = .returned (.bool true) ∧ Below w.heap.size w w' := by
  have hc0 : cellsOf (ol3b_Env c0 c1 a2 c4 a5) Loc.id (pcSegs 0 0 0 Pc0) = c0 := by
    rw [pc_cells Pc0 0 0 0 0 f0 (by intro j hj; rcases j with _ | _ | _ | _ | j <;> first | rfl | (simp [Pc0, pcA, pcB, pcI] at hj <;> omega)) (by intro j hj; simp [Pc0, pcA, pcB, pcI] at hj) (by intro j hj; rcases j with _ | _ | _ | j <;> first | rfl | (simp [Pc0, pcA, pcB, pcI] at hj <;> omega)), List.drop_zero, ← l0, List.take_length]
  have hc1 : cellsOf (ol3b_Env c0 c1 a2 c4 a5) Loc.id (pcSegs 4 0 3 Pc1) = c1 := by
    rw [pc_cells Pc1 0 4 0 3 f1 (by intro j hj; simp [Pc1, pcA, pcB, pcI] at hj) (by intro j hj; rcases j with _ | _ | _ | _ | _ | j <;> first | rfl | (simp [Pc1, pcA, pcB, pcI] at hj <;> omega)) (by intro j hj; rcases j with _ | _ | _ | _ | _ | _ | _ | _ | _ | _ | _ | _ | _ | _ | _ | j <;> first | rfl | (simp [Pc1, pcA, pcB, pcI] at hj <;> omega)), List.drop_zero, ← l1, List.take_length]
  have hc4 : cellsOf (ol3b_Env c0 c1 a2 c4 a5) Loc.id (pcSegs 4 5 19 Pc4) = c4 := by
    rw [pc_cells Pc4 0 4 5 19 f4 (by intro j hj; simp [Pc4, pcA, pcB, pcI] at hj) (by intro j hj; rcases j with _ | j <;> first | rfl | (simp [Pc4, pcA, pcB, pcI] at hj <;> omega)) (by intro j hj; rcases j with _ | _ | _ | j <;> first | rfl | (simp [Pc4, pcA, pcB, pcI] at hj <;> omega)), List.drop_zero, ← l4, List.take_length]
  have hargs : (ol3b_Ls.map (SV.conc (ol3b_Env c0 c1 a2 c4 a5) Loc.id)).toArray = #[.agg c0.toArray, .agg c1.toArray, .int .i64 a2, .int .i64 (3), .agg c4.toArray, .int .u16 a5] := by
    refine congrArg List.toArray ?_
    exact (cons_eq (congrArg (fun l => Value.agg (List.toArray l)) hc0) (cons_eq (congrArg (fun l => Value.agg (List.toArray l)) hc1) (cons_eq rfl (cons_eq rfl (cons_eq (congrArg (fun l => Value.agg (List.toArray l)) hc4) (cons_eq rfl rfl))))))
  rw [← hargs]
  have hok : Hyp.ok ol3b_Hy (ol3b_Env c0 c1 a2 c4 a5) := by
    refine ⟨?_, ?_, ?_, by simp [ol3b_Hy], ?_, by simp [ol3b_Hy]⟩
    · simp [ol3b_Hy]
    · intro p hp
      simp only [ol3b_Hy, List.mem_cons, List.not_mem_nil, or_false] at hp
      rcases hp with rfl | rfl | rfl | rfl | rfl | rfl | rfl | rfl | rfl | rfl | rfl | rfl | rfl | rfl | rfl | rfl | rfl | rfl | rfl | rfl | rfl | rfl | rfl
      · exact num_rng (f0.tail.tail.tail.tail)
      · exact num_rng (f0.tail.tail.tail.tail.tail)
      · exact num_rng (f0.tail.tail.tail.tail.tail.tail)
      · exact num_rng (f1.tail)
      · exact num_rng (f1.tail.tail)
      · exact num_rng (f1.tail.tail.tail)
      · exact num_rng (f1.tail.tail.tail.tail.tail)
      · exact num_rng (f1.tail.tail.tail.tail.tail.tail)
      · exact num_rng (f1.tail.tail.tail.tail.tail.tail.tail)
      · exact num_rng (f1.tail.tail.tail.tail.tail.tail.tail.tail.tail)
      · exact num_rng (f1.tail.tail.tail.tail.tail.tail.tail.tail.tail.tail)
      · exact num_rng (f1.tail.tail.tail.tail.tail.tail.tail.tail.tail.tail.tail)
      · exact num_rng (f1.tail.tail.tail.tail.tail.tail.tail.tail.tail.tail.tail.tail.tail)
      · exact num_rng (f1.tail.tail.tail.tail.tail.tail.tail.tail.tail.tail.tail.tail.tail.tail)
      · exact num_rng (f1.tail.tail.tail.tail.tail.tail.tail.tail.tail.tail.tail.tail.tail.tail.tail)
      · exact num_rng (f1.tail.tail.tail.tail.tail.tail.tail.tail.tail.tail.tail.tail.tail.tail.tail.tail.tail)
      · exact num_rng (f1.tail.tail.tail.tail.tail.tail.tail.tail.tail.tail.tail.tail.tail.tail.tail.tail.tail.tail)
      · exact num_rng (f1.tail.tail.tail.tail.tail.tail.tail.tail.tail.tail.tail.tail.tail.tail.tail.tail.tail.tail.tail)
      · exact w2
      · exact num_rng (f4.tail)
      · exact num_rng (f4.tail.tail)
      · exact num_rng (f4.tail.tail.tail)
      · exact bounds_u16 w5
    · intro p hp
      simp only [ol3b_Hy, List.mem_cons, List.not_mem_nil, or_false] at hp
      rcases hp with rfl | rfl | rfl | rfl
      · exact arrOf_rng (f0)
      · exact arrOf_rng (f0.tail)
      · exact arrOf_rng (f0.tail.tail)
      · exact arrOf_rng (f0.tail.tail.tail)
    · simp [ol3b_Hy]
  exact law_true (ρ := (ol3b_Env c0 c1 a2 c4 a5)) (G_ok _) (by kernel_rfl) ol3b_run rfl
    hok (by intro e he; cases he) rfl w (fun i j => Ext.none_ok _)
def ol4a_Env (c0 : List Value) (c1 : List Value) (a2 : Int) (c4 : List Value) (a5 : Int) : Env := (⟨[intV (c0.getD 78 Go.undef), intV (c0.getD 79 Go.undef), intV (c0.getD 80 Go.undef), intV (c1.getD 1 Go.undef), intV (c1.getD 2 Go.undef), intV (c1.getD 3 Go.undef), intV (c1.getD 5 Go.undef), intV (c1.getD 6 Go.undef), intV (c1.getD 7 Go.undef), intV (c1.getD 9 Go.undef), intV (c1.getD 10 Go.undef), intV (c1.getD 11 Go.undef), intV (c1.getD 13 Go.undef), intV (c1.getD 14 Go.undef), intV (c1.getD 15 Go.undef), intV (c1.getD 17 Go.undef), intV (c1.getD 18 Go.undef), intV (c1.getD 19 Go.undef), a2, intV (c4.getD 1 Go.undef), intV (c4.getD 2 Go.undef), intV (c4.getD 3 Go.undef), a5], [boolV (c1.getD 0 Go.undef), boolV (c1.getD 4 Go.undef), boolV (c1.getD 8 Go.undef), boolV (c1.getD 12 Go.undef), boolV (c1.getD 16 Go.undef), boolV (c4.getD 0 Go.undef)], [arrOf c0 0 64, arrOf c0 64 4, arrOf c0 68 4, arrOf c0 72 6], [], Iv (fun _ _ => Ext.none)⟩ : Env)
def ol4a_Hy : Hyp := ⟨[(.v 0, (-32768, 32767)), (.v 1, (-32768, 32767)), (.v 2, (0, 65535)), (.v 3, (0, 255)), (.v 4, (0, 255)), (.v 5, (0, 65535)), (.v 6, (0, 255)), (.v 7, (0, 255)), (.v 8, (0, 65535)), (.v 9, (0, 255)), (.v 10, (0, 255)), (.v 11, (0, 65535)), (.v 12, (0, 255)), (.v 13, (0, 255)), (.v 14, (0, 65535)), (.v 15, (0, 255)), (.v 16, (0, 255)), (.v 17, (0, 65535)), (.v 18, (-9223372036854775808, -1)), (.v 19, (0, 255)), (.v 20, (0, 255)), (.v 21, (0, 65535)), (.v 22, (0, 65535))], [(0, (0, 255)), (1, (0, 65535)), (2, (0, 65535)), (3, (-32768, 32767))], [], [], [], []⟩
def ol4a_Ls : List SV := [.agg (pcSegs 0 0 0 Pc0), .agg (pcSegs 4 0 3 Pc1), .s (.int .i64 (.v 18)), .s (.int .i64 (.lit (4))), .agg (pcSegs 4 5 19 Pc4), .s (.int .u16 (.v 22))]

theorem ol4a_run : enter Try.prog G Gh 6000 40 9 ol4a_Hy ol4a_Ls [] = some ([], .s (.bool (.blit true)), none) := by kernel_rfl
theorem ol4a_calls (c0 : List Value) (l0 : c0.length = pcTotal Pc0) (f0 : PcFit c0 0 Pc0) (c1 : List Value) (l1 : c1.length = pcTotal Pc1) (f1 : PcFit c1 0 Pc1) (a2 : Int) (w2 : -9223372036854775808 ≤ a2 ∧ a2 ≤ -1) (c4 : List Value) (l4 : c4.length = pcTotal Pc4) (f4 : PcFit c4 0 Pc4) (a5 : Int) (w5 : (Lit.int .u16 a5).wf = true) (w : World) :
    Calls Try.prog 9 #[.agg c0.toArray, .agg c1.toArray, .int .i64 a2, .int .i64 (4), .agg c4.toArray, .int .u16 a5] w fun r w' => r = .returned (.bool true) ∧ Below w.heap.size w w' := by
  have hc0 : cellsOf (ol4a_Env c0 c1 a2 c4 a5) Loc.id (pcSegs 0 0 0 Pc0) = c0 := by
    rw [pc_cells Pc0 0 0 0 0 f0 (by intro j hj; rcases j with _ | _ | _ | _ | j <;> first | rfl | (simp [Pc0, pcA, pcB, pcI] at hj <;> omega)) (by intro j hj; simp [Pc0, pcA, pcB, pcI] at hj) (by intro j hj; rcases j with _ | _ | _ | j <;> first | rfl | (simp [Pc0, pcA, pcB, pcI] at hj <;> omega)), List.drop_zero, ← l0, List.take_length]
  have hc1 : cellsOf (ol4a_Env c0 c1 a2 c4 a5) Loc.id (pcSegs 4 0 3 Pc1) = c1 := by
    rw [pc_cells Pc1 0 4 0 3 f1 (by intro j hj; simp [Pc1, pcA, pcB, pcI] at hj) (by intro j hj; rcases j with _ | _ | _ | _ | _ | j <;> first | rfl | (simp [Pc1, pcA, pcB, pcI] at hj <;> omega)) (by intro j hj; rcases j with _ | _ | _ | _ | _ | _ | _ | _ | _ | _ | _ | _ | _ | _ | _ | j <;> first | rfl | (simp [Pc1, pcA, pcB, pcI] at hj <;> omega)), List.drop_zero, ← l1, List.take_length]
  have hc4 : cellsOf (ol4a_Env c0 c1 a2 c4 a5) Loc.id (pcSegs 4 5 19 Pc4) = c4 := by
    rw [pc_cells Pc4 0 4 5 19 f4 (by intro j hj; simp [Pc4, pcA, pcB, pcI] at hj) (by intro j hj; rcases j with _ | j <;> first | rfl | (simp [Pc4, pcA, pcB, pcI] at hj <;> omega)) (by intro j hj; rcases j with _ | _ | _ | j <;> first | rfl | (simp [Pc4, pcA, pcB, pcI] at hj <;> omega)), List.drop_zero, ← l4, List.take_length]
  have hargs : (ol4a_Ls.map (SV.conc (ol4a_Env c0 c1 a2 c4 a5) Loc.id)).toArray = #[.agg c0.toArray, .agg c1.toArray, .int .i64 a2, .int .i64 (4), .agg c4.toArray, .int .u16 a5] := by
    refine congrArg List.toArray ?_
    exact (cons_eq (congrArg (fun l => Value.agg (List.toArray l)) hc0) (cons_eq (congrArg (fun l => Value.agg (List.toArray l)) hc1) (cons_eq rfl (cons_eq rfl (cons_eq (congrArg (fun l => Value.agg (List.toArray l)) hc4) (cons_eq rfl rfl))))))
  rw [← hargs]
  have hok : Hyp.ok ol4a_Hy (ol4a_Env c0 c1 a2 c4 a5) := by
    refine ⟨?_, ?_, ?_, by simp [ol4a_Hy], ?_, by simp [ol4a_Hy]⟩
    · simp [ol4a_Hy]
    · intro p hp
      simp only [ol4a_Hy, List.mem_cons, List.not_mem_nil, or_false] at hp
      rcases hp with rfl | rfl | rfl | rfl | rfl | rfl | rfl | rfl | rfl | rfl | rfl | rfl | rfl | rfl | rfl | rfl | rfl | rfl | rfl | rfl | rfl | rfl | rfl
      · exact num_rng (f0.tail.tail.tail.tail)
      · exact num_rng (f0.tail.tail.tail.tail.tail)
      · exact num_rng (f0.tail.tail.tail.tail.tail.tail)
      · exact num_rng (f1.tail)
      · exact num_rng (f1.tail.tail)
      · exact num_rng (f1.tail.tail.tail)
      · exact num_rng (f1.tail.tail.tail.tail.tail)
      · exact num_rng (f1.tail.tail.tail.tail.tail.tail)
      · exact num_rng (f1.tail.tail.tail.tail.tail.tail.tail)
      · exact num_rng (f1.tail.tail.tail.tail.tail.tail.tail.tail.tail)
      · exact num_rng (f1.tail.tail.tail.tail.tail.tail.tail.tail.tail.tail)
      · exact num_rng (f1.tail.tail.tail.tail.tail.tail.tail.tail.tail.tail.tail)
      · exact num_rng (f1.tail.tail.tail.tail.tail.tail.tail.tail.tail.tail.tail.tail.tail)
      · exact num_rng (f1.tail.tail.tail.tail.tail.tail.tail.tail.tail.tail.tail.tail.tail.tail)
      · exact num_rng (f1.tail.tail.tail.tail.tail.tail.tail.tail.tail.tail.tail.tail.tail.tail.tail)
      · exact num_rng (f1.tail.tail.tail.tail.tail.tail.tail.tail.tail.tail.tail.tail.tail.tail.tail.tail.tail)
      · exact num_rng (f1.tail.tail.tail.tail.tail.tail.tail.tail.tail.tail.tail.tail.tail.tail.tail.tail.tail.tail)
      · exact num_rng (f1.tail.tail.tail.tail.tail.tail.tail.tail.tail.tail.tail.tail.tail.tail.tail.tail.tail.tail.tail)
      · exact w2
      · exact num_rng (f4.tail)
      · exact num_rng (f4.tail.tail)
      · exact num_rng (f4.tail.tail.tail)
      · exact bounds_u16 w5
    · intro p hp
      simp only [ol4a_Hy, List.mem_cons, List.not_mem_nil, or_false] at hp
      rcases hp with rfl | rfl | rfl | rfl
      · exact arrOf_rng (f0)
      · exact arrOf_rng (f0.tail)
      · exact arrOf_rng (f0.tail.tail)
      · exact arrOf_rng (f0.tail.tail.tail)
    · simp [ol4a_Hy]
  exact law_true (ρ := (ol4a_Env c0 c1 a2 c4 a5)) (G_ok _) (by kernel_rfl) ol4a_run rfl
    hok (by intro e he; cases he) rfl w (fun i j => Ext.none_ok _)
def ol4b_Env (c0 : List Value) (c1 : List Value) (a2 : Int) (c4 : List Value) (a5 : Int) : Env := (⟨[intV (c0.getD 78 Go.undef), intV (c0.getD 79 Go.undef), intV (c0.getD 80 Go.undef), intV (c1.getD 1 Go.undef), intV (c1.getD 2 Go.undef), intV (c1.getD 3 Go.undef), intV (c1.getD 5 Go.undef), intV (c1.getD 6 Go.undef), intV (c1.getD 7 Go.undef), intV (c1.getD 9 Go.undef), intV (c1.getD 10 Go.undef), intV (c1.getD 11 Go.undef), intV (c1.getD 13 Go.undef), intV (c1.getD 14 Go.undef), intV (c1.getD 15 Go.undef), intV (c1.getD 17 Go.undef), intV (c1.getD 18 Go.undef), intV (c1.getD 19 Go.undef), a2, intV (c4.getD 1 Go.undef), intV (c4.getD 2 Go.undef), intV (c4.getD 3 Go.undef), a5], [boolV (c1.getD 0 Go.undef), boolV (c1.getD 4 Go.undef), boolV (c1.getD 8 Go.undef), boolV (c1.getD 12 Go.undef), boolV (c1.getD 16 Go.undef), boolV (c4.getD 0 Go.undef)], [arrOf c0 0 64, arrOf c0 64 4, arrOf c0 68 4, arrOf c0 72 6], [], Iv (fun _ _ => Ext.none)⟩ : Env)
def ol4b_Hy : Hyp := ⟨[(.v 0, (-32768, 32767)), (.v 1, (-32768, 32767)), (.v 2, (0, 65535)), (.v 3, (0, 255)), (.v 4, (0, 255)), (.v 5, (0, 65535)), (.v 6, (0, 255)), (.v 7, (0, 255)), (.v 8, (0, 65535)), (.v 9, (0, 255)), (.v 10, (0, 255)), (.v 11, (0, 65535)), (.v 12, (0, 255)), (.v 13, (0, 255)), (.v 14, (0, 65535)), (.v 15, (0, 255)), (.v 16, (0, 255)), (.v 17, (0, 65535)), (.v 18, (256, 9223372036854775807)), (.v 19, (0, 255)), (.v 20, (0, 255)), (.v 21, (0, 65535)), (.v 22, (0, 65535))], [(0, (0, 255)), (1, (0, 65535)), (2, (0, 65535)), (3, (-32768, 32767))], [], [], [], []⟩
def ol4b_Ls : List SV := [.agg (pcSegs 0 0 0 Pc0), .agg (pcSegs 4 0 3 Pc1), .s (.int .i64 (.v 18)), .s (.int .i64 (.lit (4))), .agg (pcSegs 4 5 19 Pc4), .s (.int .u16 (.v 22))]

theorem ol4b_run : enter Try.prog G Gh 6000 40 9 ol4b_Hy ol4b_Ls [] = some ([], .s (.bool (.blit true)), none) := by kernel_rfl
theorem ol4b_calls (c0 : List Value) (l0 : c0.length = pcTotal Pc0) (f0 : PcFit c0 0 Pc0) (c1 : List Value) (l1 : c1.length = pcTotal Pc1) (f1 : PcFit c1 0 Pc1) (a2 : Int) (w2 : 256 ≤ a2 ∧ a2 ≤ 9223372036854775807) (c4 : List Value) (l4 : c4.length = pcTotal Pc4) (f4 : PcFit c4 0 Pc4) (a5 : Int) (w5 : (Lit.int .u16 a5).wf = true) (w : World) :
    Calls Try.prog 9 #[.agg c0.toArray, .agg c1.toArray, .int .i64 a2, .int .i64 (4), .agg c4.toArray, .int .u16 a5] w fun r w' => r = .returned (.bool true) ∧ Below w.heap.size w w' := by
  have hc0 : cellsOf (ol4b_Env c0 c1 a2 c4 a5) Loc.id (pcSegs 0 0 0 Pc0) = c0 := by
    rw [pc_cells Pc0 0 0 0 0 f0 (by intro j hj; rcases j with _ | _ | _ | _ | j <;> first | rfl | (simp [Pc0, pcA, pcB, pcI] at hj <;> omega)) (by intro j hj; simp [Pc0, pcA, pcB, pcI] at hj) (by intro j hj; rcases j with _ | _ | _ | j <;> first | rfl | (simp [Pc0, pcA, pcB, pcI] at hj <;> omega)), List.drop_zero, ← l0, List.take_length]
  have hc1 : cellsOf (ol4b_Env c0 c1 a2 c4 a5) Loc.id (pcSegs 4 0 3 Pc1) = c1 := by
    rw [pc_cells Pc1 0 4 0 3 f1 (by intro j hj; simp [Pc1, pcA, pcB, pcI] at hj) (by intro j hj; rcases j with _ | _ | _ | _ | _ | j <;> first | rfl | (simp [Pc1, pcA, pcB, pcI] at hj <;> omega)) (by intro j hj; rcases j with _ | _ | _ | _ | _ | _ | _ | _ | _ | _ | _ | _ | _ | _ | _ | j <;> first | rfl | (simp [Pc1, pcA, pcB, pcI] at hj <;> omega)), List.drop_zero, ← l1, List.take_length]
  have hc4 : cellsOf (ol4b_Env c0 c1 a2 c4 a5) Loc.id (pcSegs 4 5 19 Pc4) = c4 := by
    rw [pc_cells Pc4 0 4 5 19 f4 (by intro j hj; simp [Pc4, pcA, pcB, pcI] at hj) (by intro j hj; rcases j with _ | j <;> first | rfl | (simp [Pc4, pcA, pcB, pcI] at hj <;> omega)) (by intro j hj; rcases j with _ | _ | _ | j <;> first | rfl | (simp [Pc4, pcA, pcB, pcI] at hj <;> omega)), List.drop_zero, ← l4, List.take_length]
  have hargs : (ol4b_Ls.map (SV.conc (ol4b_Env c0 c1 a2 c4 a5) Loc.id)).toArray = #[.agg c0.toArray, .agg c1.toArray, .int .i64 a2, .int .i64 (4), .agg c4.toArray, .int .u16 a5] := by
    refine congrArg List.toArray ?_
    exact (cons_eq (congrArg (fun l => Value.agg (List.toArray l)) hc0) (cons_eq (congrArg (fun l => Value.agg (List.toArray l)) hc1) (cons_eq rfl (cons_eq rfl (cons_eq (congrArg (fun l => Value.agg (List.toArray l)) hc4) (cons_eq rfl rfl))))))
  rw [← hargs]
  have hok : Hyp.ok ol4b_Hy (ol4b_Env c0 c1 a2 c4 a5) := by
    refine ⟨?_, ?_, ?_, by simp [ol4b_Hy], ?_, by simp [ol4b_Hy]⟩
    · simp [ol4b_Hy]
    · intro p hp
      simp only [ol4b_Hy, List.mem_cons, List.not_mem_nil, or_false] at hp
      rcases hp with rfl | rfl | rfl | rfl | rfl | rfl | rfl | rfl | rfl | rfl | rfl | rfl | rfl | rfl | rfl | rfl | rfl | rfl | rfl | rfl | rfl | rfl | rfl
      · exact num_rng (f0.tail.tail.tail.tail)
      · exact num_rng (f0.tail.tail.tail.tail.tail)
      · exact num_rng (f0.tail.tail.tail.tail.tail.tail)
      · exact num_rng (f1.tail)
      · exact num_rng (f1.tail.tail)
      · exact num_rng (f1.tail.tail.tail)
      · exact num_rng (f1.tail.tail.tail.tail.tail)
      · exact num_rng (f1.tail.tail.tail.tail.tail.tail)
      · exact num_rng (f1.tail.tail.tail.tail.tail.tail.tail)
      · exact num_rng (f1.tail.tail.tail.tail.tail.tail.tail.tail.tail)
      · exact num_rng (f1.tail.tail.tail.tail.tail.tail.tail.tail.tail.tail)
      · exact num_rng (f1.tail.tail.tail.tail.tail.tail.tail.tail.tail.tail.tail)
      · exact num_rng (f1.tail.tail.tail.tail.tail.tail.tail.tail.tail.tail.tail.tail.tail)
      · exact num_rng (f1.tail.tail.tail.tail.tail.tail.tail.tail.tail.tail.tail.tail.tail.tail)
      · exact num_rng (f1.tail.tail.tail.tail.tail.tail.tail.tail.tail.tail.tail.tail.tail.tail.tail)
      · exact num_rng (f1.tail.tail.tail.tail.tail.tail.tail.tail.tail.tail.tail.tail.tail.tail.tail.tail.tail)
      · exact num_rng (f1.tail.tail.tail.tail.tail.tail.tail.tail.tail.tail.tail.tail.tail.tail.tail.tail.tail.tail)
      · exact num_rng (f1.tail.tail.tail.tail.tail.tail.tail.tail.tail.tail.tail.tail.tail.tail.tail.tail.tail.tail.tail)
      · exact w2
      · exact num_rng (f4.tail)
      · exact num_rng (f4.tail.tail)
      · exact num_rng (f4.tail.tail.tail)
      · exact bounds_u16 w5
    · intro p hp
      simp only [ol4b_Hy, List.mem_cons, List.not_mem_nil, or_false] at hp
      rcases hp with rfl | rfl | rfl | rfl
      · exact arrOf_rng (f0)
      · exact arrOf_rng (f0.tail)
      · exact arrOf_rng (f0.tail.tail)
      · exact arrOf_rng (f0.tail.tail.tail)
    · simp [ol4b_Hy]
  exact law_true (ρ := (ol4b_Env c0 c1 a2 c4 a5)) (G_ok _) (by kernel_rfl) ol4b_run rfl
    hok (by intro e he; cases he) rfl w (fun i j => Ext.none_ok _)
end Go.Proofs.Ytgbncbclhdnbmaa.BlendHidden
