/- A part of the law BlendHidden, which returns true for every input. What is not shown, or not seen, does not matter. No condition. -/
import Derived.Test.YtgbncbclhdnbmaaBlendHidden0
namespace Go.Proofs.Ytgbncbclhdnbmaa.BlendHidden
open Go.Sx Go.ChangeShapes Go.WideShapes Go.ChangeAt Go.RowKit
set_option linter.unusedVariables false
set_option linter.unusedSimpArgs false
set_option maxRecDepth 100000
def e4l2_Env (c0 : List Value) (c1 : List Value) (a2 : Int) (c4 : List Value) (a5 : Int) : Env := (⟨[intV (c0.getD 78 Go.undef), intV (c0.getD 79 Go.undef), intV (c0.getD 80 Go.undef), intV (c1.getD 1 Go.undef), intV (c1.getD 2 Go.undef), intV (c1.getD 3 Go.undef), intV (c1.getD 5 Go.undef), intV (c1.getD 6 Go.undef), intV (c1.getD 7 Go.undef), intV (c1.getD 9 Go.undef), intV (c1.getD 10 Go.undef), intV (c1.getD 11 Go.undef), intV (c1.getD 13 Go.undef), intV (c1.getD 14 Go.undef), intV (c1.getD 15 Go.undef), intV (c1.getD 17 Go.undef), intV (c1.getD 18 Go.undef), intV (c1.getD 19 Go.undef), a2, intV (c4.getD 1 Go.undef), intV (c4.getD 2 Go.undef), intV (c4.getD 3 Go.undef), a5], [boolV (c1.getD 0 Go.undef), boolV (c1.getD 4 Go.undef), boolV (c1.getD 8 Go.undef), boolV (c1.getD 12 Go.undef), boolV (c1.getD 16 Go.undef), boolV (c4.getD 0 Go.undef)], [arrOf c0 0 64, arrOf c0 64 4, arrOf c0 68 4, arrOf c0 72 6], [], Iv (fun _ _ => Ext.none)⟩ : Env)
def e4l2_Hy : Hyp := ⟨[(.v 0, (-32768, 32767)), (.v 1, (-32768, 32767)), (.v 2, (0, 65535)), (.v 3, (0, 255)), (.v 4, (0, 255)), (.v 5, (0, 65535)), (.v 6, (0, 255)), (.v 7, (0, 255)), (.v 8, (0, 65535)), (.v 9, (0, 255)), (.v 10, (0, 255)), (.v 11, (0, 65535)), (.v 12, (0, 255)), (.v 13, (0, 255)), (.v 14, (0, 65535)), (.v 15, (0, 255)), (.v 16, (0, 255)), (.v 17, (0, 65535)), (.v 18, (0, 255)), (.v 19, (0, 255)), (.v 20, (0, 255)), (.v 21, (0, 65535)), (.v 22, (0, 65535)), ((.mod (.sel (.av 0) (.lit 5)) (.lit 8)), (4, 4))], [(0, (0, 255)), (1, (0, 65535)), (2, (0, 65535)), (3, (-32768, 32767))], [], [], [], []⟩
def e4l2_Ls : List SV := [.agg (pcSegs 0 0 0 Pc0), .agg (pcSegs 4 0 3 Pc1), .s (.int .i64 (.v 18)), .s (.int .i64 (.lit (2))), .agg (pcSegs 4 5 19 Pc4), .s (.int .u16 (.v 22))]

theorem e4l2_run : enter Try.prog G Gh 6000 40 9 e4l2_Hy e4l2_Ls [] = some ([], .s (.bool (.blit true)), none) := by kernel_rfl
theorem e4l2_calls (c0 : List Value) (l0 : c0.length = pcTotal Pc0) (f0 : PcFit c0 0 Pc0) (c1 : List Value) (l1 : c1.length = pcTotal Pc1) (f1 : PcFit c1 0 Pc1) (a2 : Int) (w2 : 0 ≤ a2 ∧ a2 ≤ 255) (c4 : List Value) (l4 : c4.length = pcTotal Pc4) (f4 : PcFit c4 0 Pc4) (a5 : Int) (w5 : (Lit.int .u16 a5).wf = true) (hex0 : (arrOf c0 0 64) 5 % 8 = 4) (w : World) :
    Calls Try.prog 9 #[.agg c0.toArray, .agg c1.toArray, .int .i64 a2, .int .i64 (2), .agg c4.toArray, .int .u16 a5] w fun r w' => r = .returned (.bool true) ∧ Below w.heap.size w w' := by
  have hc0 : cellsOf (e4l2_Env c0 c1 a2 c4 a5) Loc.id (pcSegs 0 0 0 Pc0) = c0 := by
    rw [pc_cells Pc0 0 0 0 0 f0 (by intro j hj; rcases j with _ | _ | _ | _ | j <;> first | rfl | (simp [Pc0, pcA, pcB, pcI] at hj <;> omega)) (by intro j hj; simp [Pc0, pcA, pcB, pcI] at hj) (by intro j hj; rcases j with _ | _ | _ | j <;> first | rfl | (simp [Pc0, pcA, pcB, pcI] at hj <;> omega)), List.drop_zero, ← l0, List.take_length]
  have hc1 : cellsOf (e4l2_Env c0 c1 a2 c4 a5) Loc.id (pcSegs 4 0 3 Pc1) = c1 := by
    rw [pc_cells Pc1 0 4 0 3 f1 (by intro j hj; simp [Pc1, pcA, pcB, pcI] at hj) (by intro j hj; rcases j with _ | _ | _ | _ | _ | j <;> first | rfl | (simp [Pc1, pcA, pcB, pcI] at hj <;> omega)) (by intro j hj; rcases j with _ | _ | _ | _ | _ | _ | _ | _ | _ | _ | _ | _ | _ | _ | _ | j <;> first | rfl | (simp [Pc1, pcA, pcB, pcI] at hj <;> omega)), List.drop_zero, ← l1, List.take_length]
  have hc4 : cellsOf (e4l2_Env c0 c1 a2 c4 a5) Loc.id (pcSegs 4 5 19 Pc4) = c4 := by
    rw [pc_cells Pc4 0 4 5 19 f4 (by intro j hj; simp [Pc4, pcA, pcB, pcI] at hj) (by intro j hj; rcases j with _ | j <;> first | rfl | (simp [Pc4, pcA, pcB, pcI] at hj <;> omega)) (by intro j hj; rcases j with _ | _ | _ | j <;> first | rfl | (simp [Pc4, pcA, pcB, pcI] at hj <;> omega)), List.drop_zero, ← l4, List.take_length]
  have hargs : (e4l2_Ls.map (SV.conc (e4l2_Env c0 c1 a2 c4 a5) Loc.id)).toArray = #[.agg c0.toArray, .agg c1.toArray, .int .i64 a2, .int .i64 (2), .agg c4.toArray, .int .u16 a5] := by
    refine congrArg List.toArray ?_
    exact (cons_eq (congrArg (fun l => Value.agg (List.toArray l)) hc0) (cons_eq (congrArg (fun l => Value.agg (List.toArray l)) hc1) (cons_eq rfl (cons_eq rfl (cons_eq (congrArg (fun l => Value.agg (List.toArray l)) hc4) (cons_eq rfl rfl))))))
  rw [← hargs]
  have hok : Hyp.ok e4l2_Hy (e4l2_Env c0 c1 a2 c4 a5) := by
    refine ⟨?_, ?_, ?_, by simp [e4l2_Hy], ?_, by simp [e4l2_Hy]⟩
    · simp [e4l2_Hy]
    · intro p hp
      simp only [e4l2_Hy, List.mem_cons, List.not_mem_nil, or_false] at hp
      rcases hp with rfl | rfl | rfl | rfl | rfl | rfl | rfl | rfl | rfl | rfl | rfl | rfl | rfl | rfl | rfl | rfl | rfl | rfl | rfl | rfl | rfl | rfl | rfl | rfl
      · exact num_rng (f0.tail.tail.tail.tail)
      · exact num_rng (f0.tail.tail.tail.tail.tail)
      · exact num_rng (f0.tail.tail.tail.tail.tail.tail)
      · exact num_rng (f1.tail)
      · exact num_rng (f1.tail.tail)
      · exact num_rng (f1.tail.tail.tail)
      · exact num_rng (f1.tail.tail.tail.tail.tail)
      · exact num_rng (f1.tail.tail.tail.tail.tail.tail)
      · exact num_rng (f1.tail.tail.tail.tail.tail.tail.tail)
      · exact num_rng (f1.tail.tail.tail.tail.tail.tail.tail.tail.tail)
      · exact num_rng (f1.tail.tail.tail.tail.tail.tail.tail.tail.tail.tail)
      · exact num_rng (f1.tail.tail.tail.tail.tail.tail.tail.tail.tail.tail.tail)
      · exact num_rng (f1.tail.tail.tail.tail.tail.tail.tail.tail.tail.tail.tail.tail.tail)
      · exact num_rng (f1.tail.tail.tail.tail.tail.tail.tail.tail.tail.tail.tail.tail.tail.tail)
      · exact num_rng (f1.tail.tail.tail.tail.tail.tail.tail.tail.tail.tail.tail.tail.tail.tail.tail)
      · exact num_rng (f1.tail.tail.tail.tail.tail.tail.tail.tail.tail.tail.tail.tail.tail.tail.tail.tail.tail)
      · exact num_rng (f1.tail.tail.tail.tail.tail.tail.tail.tail.tail.tail.tail.tail.tail.tail.tail.tail.tail.tail)
      · exact num_rng (f1.tail.tail.tail.tail.tail.tail.tail.tail.tail.tail.tail.tail.tail.tail.tail.tail.tail.tail.tail)
      · exact w2
      · exact num_rng (f4.tail)
      · exact num_rng (f4.tail.tail)
      · exact num_rng (f4.tail.tail.tail)
      · exact bounds_u16 w5
      · exact (by have hx := hex0; first | exact ⟨Int.le_of_eq hx.symm, Int.le_of_eq hx⟩ | exact hx)
    · intro p hp
      simp only [e4l2_Hy, List.mem_cons, List.not_mem_nil, or_false] at hp
      rcases hp with rfl | rfl | rfl | rfl
      · exact arrOf_rng (f0)
      · exact arrOf_rng (f0.tail)
      · exact arrOf_rng (f0.tail.tail)
      · exact arrOf_rng (f0.tail.tail.tail)
    · simp [e4l2_Hy]
  exact law_true (ρ := (e4l2_Env c0 c1 a2 c4 a5)) (G_ok _) (by kernel_rfl) e4l2_run rfl
    hok (by intro e he; cases he) rfl w (fun i j => Ext.none_ok _)
def e4l3_Env (c0 : List Value) (c1 : List Value) (a2 : Int) (c4 : List Value) (a5 : Int) : Env := (⟨[intV (c0.getD 78 Go.undef), intV (c0.getD 79 Go.undef), intV (c0.getD 80 Go.undef), intV (c1.getD 1 Go.undef), intV (c1.getD 2 Go.undef), intV (c1.getD 3 Go.undef), intV (c1.getD 5 Go.undef), intV (c1.getD 6 Go.undef), intV (c1.getD 7 Go.undef), intV (c1.getD 9 Go.undef), intV (c1.getD 10 Go.undef), intV (c1.getD 11 Go.undef), intV (c1.getD 13 Go.undef), intV (c1.getD 14 Go.undef), intV (c1.getD 15 Go.undef), intV (c1.getD 17 Go.undef), intV (c1.getD 18 Go.undef), intV (c1.getD 19 Go.undef), a2, intV (c4.getD 1 Go.undef), intV (c4.getD 2 Go.undef), intV (c4.getD 3 Go.undef), a5], [boolV (c1.getD 0 Go.undef), boolV (c1.getD 4 Go.undef), boolV (c1.getD 8 Go.undef), boolV (c1.getD 12 Go.undef), boolV (c1.getD 16 Go.undef), boolV (c4.getD 0 Go.undef)], [arrOf c0 0 64, arrOf c0 64 4, arrOf c0 68 4, arrOf c0 72 6], [], Iv (fun _ _ => Ext.none)⟩ : Env)
def e4l3_Hy : Hyp := ⟨[(.v 0, (-32768, 32767)), (.v 1, (-32768, 32767)), (.v 2, (0, 65535)), (.v 3, (0, 255)), (.v 4, (0, 255)), (.v 5, (0, 65535)), (.v 6, (0, 255)), (.v 7, (0, 255)), (.v 8, (0, 65535)), (.v 9, (0, 255)), (.v 10, (0, 255)), (.v 11, (0, 65535)), (.v 12, (0, 255)), (.v 13, (0, 255)), (.v 14, (0, 65535)), (.v 15, (0, 255)), (.v 16, (0, 255)), (.v 17, (0, 65535)), (.v 18, (0, 255)), (.v 19, (0, 255)), (.v 20, (0, 255)), (.v 21, (0, 65535)), (.v 22, (0, 65535)), ((.mod (.sel (.av 0) (.lit 5)) (.lit 8)), (4, 4))], [(0, (0, 255)), (1, (0, 65535)), (2, (0, 65535)), (3, (-32768, 32767))], [], [], [], []⟩
def e4l3_Ls : List SV := [.agg (pcSegs 0 0 0 Pc0), .agg (pcSegs 4 0 3 Pc1), .s (.int .i64 (.v 18)), .s (.int .i64 (.lit (3))), .agg (pcSegs 4 5 19 Pc4), .s (.int .u16 (.v 22))]

theorem e4l3_run : enter Try.prog G Gh 6000 40 9 e4l3_Hy e4l3_Ls [] = some ([], .s (.bool (.blit true)), none) := by kernel_rfl
theorem e4l3_calls (c0 : List Value) (l0 : c0.length = pcTotal Pc0) (f0 : PcFit c0 0 Pc0) (c1 : List Value) (l1 : c1.length = pcTotal Pc1) (f1 : PcFit c1 0 Pc1) (a2 : Int) (w2 : 0 ≤ a2 ∧ a2 ≤ 255) (c4 : List Value) (l4 : c4.length = pcTotal Pc4) (f4 : PcFit c4 0 Pc4) (a5 : Int) (w5 : (Lit.int .u16 a5).wf = true) (hex0 : (arrOf c0 0 64) 5 % 8 = 4) (w : World) :
    Calls Try.prog 9 #[.agg c0.toArray, .agg c1.toArray, .int .i64 a2, .int .i64 (3), .agg c4.toArray, .int .u16 a5] w fun r w' => r = .returned (.bool true) ∧ Below w.heap.size w w' := by
  have hc0 : cellsOf (e4l3_Env c0 c1 a2 c4 a5) Loc.id (pcSegs 0 0 0 Pc0) = c0 := by
    rw [pc_cells Pc0 0 0 0 0 f0 (by intro j hj; rcases j with _ | _ | _ | _ | j <;> first | rfl | (simp [Pc0, pcA, pcB, pcI] at hj <;> omega)) (by intro j hj; simp [Pc0, pcA, pcB, pcI] at hj) (by intro j hj; rcases j with _ | _ | _ | j <;> first | rfl | (simp [Pc0, pcA, pcB, pcI] at hj <;> omega)), List.drop_zero, ← l0, List.take_length]
  have hc1 : cellsOf (e4l3_Env c0 c1 a2 c4 a5) Loc.id (pcSegs 4 0 3 Pc1) = c1 := by
    rw [pc_cells Pc1 0 4 0 3 f1 (by intro j hj; simp [Pc1, pcA, pcB, pcI] at hj) (by intro j hj; rcases j with _ | _ | _ | _ | _ | j <;> first | rfl | (simp [Pc1, pcA, pcB, pcI] at hj <;> omega)) (by intro j hj; rcases j with _ | _ | _ | _ | _ | _ | _ | _ | _ | _ | _ | _ | _ | _ | _ | j <;> first | rfl | (simp [Pc1, pcA, pcB, pcI] at hj <;> omega)), List.drop_zero, ← l1, List.take_length]
  have hc4 : cellsOf (e4l3_Env c0 c1 a2 c4 a5) Loc.id (pcSegs 4 5 19 Pc4) = c4 := by
    rw [pc_cells Pc4 0 4 5 19 f4 (by intro j hj; simp [Pc4, pcA, pcB, pcI] at hj) (by intro j hj; rcases j with _ | j <;> first | rfl | (simp [Pc4, pcA, pcB, pcI] at hj <;> omega)) (by intro j hj; rcases j with _ | _ | _ | j <;> first | rfl | (simp [Pc4, pcA, pcB, pcI] at hj <;> omega)), List.drop_zero, ← l4, List.take_length]
  have hargs : (e4l3_Ls.map (SV.conc (e4l3_Env c0 c1 a2 c4 a5) Loc.id)).toArray = #[.agg c0.toArray, .agg c1.toArray, .int .i64 a2, .int .i64 (3), .agg c4.toArray, .int .u16 a5] := by
    refine congrArg List.toArray ?_
    exact (cons_eq (congrArg (fun l => Value.agg (List.toArray l)) hc0) (cons_eq (congrArg (fun l => Value.agg (List.toArray l)) hc1) (cons_eq rfl (cons_eq rfl (cons_eq (congrArg (fun l => Value.agg (List.toArray l)) hc4) (cons_eq rfl rfl))))))
  rw [← hargs]
  have hok : Hyp.ok e4l3_Hy (e4l3_Env c0 c1 a2 c4 a5) := by
    refine ⟨?_, ?_, ?_, by simp [e4l3_Hy], ?_, by simp [e4l3_Hy]⟩
    · simp [e4l3_Hy]
    · intro p hp
      simp only [e4l3_Hy, List.mem_cons, List.not_mem_nil, or_false] at hp
      rcases hp with rfl | rfl | rfl | rfl | rfl | rfl | rfl | rfl | rfl | rfl | rfl | rfl | rfl | rfl | rfl | rfl | rfl | rfl | rfl | rfl | rfl | rfl | rfl | rfl
      · exact num_rng (f0.tail.tail.tail.tail)
      · exact num_rng (f0.tail.tail.tail.tail.tail)
      · exact num_rng (f0.tail.tail.tail.tail.tail.tail)
      · exact num_rng (f1.tail)
      · exact num_rng (f1.tail.tail)
      · exact num_rng (f1.tail.tail.tail)
      · exact num_rng (f1.tail.tail.tail.tail.tail)
      · exact num_rng (f1.tail.tail.tail.tail.tail.tail)
      · exact num_rng (f1.tail.tail.tail.tail.tail.tail.tail)
      · exact num_rng (f1.tail.tail.tail.tail.tail.tail.tail.tail.tail)
      · exact num_rng (f1.tail.tail.tail.tail.tail.tail.tail.tail.tail.tail)
      · exact num_rng (f1.tail.tail.tail.tail.tail.tail.tail.tail.tail.tail.tail)
      · exact num_rng (f1.tail.tail.tail.tail.tail.tail.tail.tail.tail.tail.tail.tail.tail)
      · exact num_rng (f1.tail.tail.tail.tail.tail.tail.tail.tail.tail.tail.tail.tail.tail.tail)
      · exact num_rng (f1.tail.tail.tail.tail.tail.tail.tail.tail.tail.tail.tail.tail.tail.tail.tail)
      · exact num_rng (f1.tail.tail.tail.tail.tail.tail.tail.tail.tail.tail.tail.tail.tail.tail.tail.tail.tail)
      · exact num_rng (f1.tail.tail.tail.tail.tail.tail.tail.tail.tail.tail.tail.tail.tail.tail.tail.tail.tail.tail)
      · exact num_rng (f1.tail.tail.tail.tail.tail.tail.tail.tail.tail.tail.tail.tail.tail.tail.tail.tail.tail.tail.tail)
      · exact w2
      · exact num_rng (f4.tail)
      · exact num_rng (f4.tail.tail)
      · exact num_rng (f4.tail.tail.tail)
      · exact bounds_u16 w5
      · exact (by have hx := hex0; first | exact ⟨Int.le_of_eq hx.symm, Int.le_of_eq hx⟩ | exact hx)
    · intro p hp
      simp only [e4l3_Hy, List.mem_cons, List.not_mem_nil, or_false] at hp
      rcases hp with rfl | rfl | rfl | rfl
      · exact arrOf_rng (f0)
      · exact arrOf_rng (f0.tail)
      · exact arrOf_rng (f0.tail.tail)
      · exact arrOf_rng (f0.tail.tail.tail)
    · simp [e4l3_Hy]
  exact law_true (ρ := (e4l3_Env c0 c1 a2 c4 a5)) (G_ok _) (by kernel_rfl) e4l3_run rfl
    hok (by intro e he; cases he) rfl w (fun i j => Ext.none_ok _)
end Go.Proofs.Ytgbncbclhdnbmaa.BlendHidden
