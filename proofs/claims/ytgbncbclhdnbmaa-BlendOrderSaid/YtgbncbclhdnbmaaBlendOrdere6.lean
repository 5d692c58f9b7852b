/- A part of the law BlendOrder, which returns true for every input. The ranks are told in the document's order, left early, and again. No condition. -/
import Derived.Test.YtgbncbclhdnbmaaBlendOrder0
namespace Go.Proofs.Ytgbncbclhdnbmaa.BlendOrder
open Go.Sx Go.ChangeShapes Go.WideShapes Go.ChangeAt Go.RowKit
set_option linter.unusedVariables false
set_option linter.unusedSimpArgs false
set_option maxRecDepth 100000
def e6_Hy : Hyp := ⟨[(.v 0, (-32768, 32767)), (.v 1, (-32768, 32767)), (.v 2, (0, 65535)), (.v 3, (-9223372036854775808, 9223372036854775807)), ((.mod (.sel (.av 0) (.lit 5)) (.lit 8)), (6, 6))], [(0, (0, 255)), (1, (0, 65535)), (2, (0, 65535)), (3, (-32768, 32767))], [], [], [], []⟩
def e6_Ls : List SV := [.agg (pcSegs 0 0 0 Pc0), .s (.int .i64 (.v 3))]

theorem e6_run : enter Try.prog G Gh 6000 40 6 e6_Hy e6_Ls [] = some ([], .s (.bool (.blit true)), none) := by kernel_rfl
theorem e6_vc (n0_4 n0_5 n0_6 a1 : Int) (A0 A1 A2 A3 : Nat → Int) (b0 : -32768 ≤ n0_4 ∧ n0_4 ≤ 32767) (b1 : -32768 ≤ n0_5 ∧ n0_5 ≤ 32767) (b2 : 0 ≤ n0_6 ∧ n0_6 ≤ 65535) (b3 : -9223372036854775808 ≤ a1 ∧ a1 ≤ 9223372036854775807) (B0 : ∀ j, 0 ≤ A0 j ∧ A0 j ≤ 255) (B1 : ∀ j, 0 ≤ A1 j ∧ A1 j ≤ 65535) (B2 : ∀ j, 0 ≤ A2 j ∧ A2 j ≤ 65535) (B3 : ∀ j, -32768 ≤ A3 j ∧ A3 j ≤ 32767) : E.b (⟨[n0_4, n0_5, n0_6, a1], [], [A0, A1, A2, A3], [], Iv (fun _ _ => Ext.none)⟩ : Env) (.blit true) = true := by
  rfl
theorem e6_calls (c0 : List Value) (l0 : c0.length = pcTotal Pc0) (f0 : PcFit c0 0 Pc0) (a1 : Int) (w1 : (Lit.int .i64 a1).wf = true) (hex0 : (arrOf c0 0 64) 5 % 8 = 6) (w : World) :
    Calls Try.prog 6 #[.agg c0.toArray, .int .i64 a1] w fun r w' => r = .returned (.bool true) ∧ Below w.heap.size w w' := by
  have hc0 : cellsOf (⟨[intV (c0.getD 78 Go.undef), intV (c0.getD 79 Go.undef), intV (c0.getD 80 Go.undef), a1], [], [arrOf c0 0 64, arrOf c0 64 4, arrOf c0 68 4, arrOf c0 72 6], [], Iv (fun _ _ => Ext.none)⟩ : Env) Loc.id (pcSegs 0 0 0 Pc0) = c0 := by
    rw [pc_cells Pc0 0 0 0 0 f0 (by intro j hj; rcases j with _ | _ | _ | _ | j <;> first | rfl | (simp [Pc0, pcA, pcB, pcI] at hj; omega)) (by intro j hj; simp [Pc0, pcA, pcB, pcI] at hj) (by intro j hj; rcases j with _ | _ | _ | j <;> first | rfl | (simp [Pc0, pcA, pcB, pcI] at hj; omega)), List.drop_zero, ← l0, List.take_length]
  have hargs : (e6_Ls.map (SV.conc (⟨[intV (c0.getD 78 Go.undef), intV (c0.getD 79 Go.undef), intV (c0.getD 80 Go.undef), a1], [], [arrOf c0 0 64, arrOf c0 64 4, arrOf c0 68 4, arrOf c0 72 6], [], Iv (fun _ _ => Ext.none)⟩ : Env) Loc.id)).toArray = #[.agg c0.toArray, .int .i64 a1] := by
    refine congrArg List.toArray ?_
    exact (cons_eq (congrArg (fun l => Value.agg (List.toArray l)) hc0) (cons_eq rfl rfl))
  rw [← hargs]
  have hok : Hyp.ok e6_Hy (⟨[intV (c0.getD 78 Go.undef), intV (c0.getD 79 Go.undef), intV (c0.getD 80 Go.undef), a1], [], [arrOf c0 0 64, arrOf c0 64 4, arrOf c0 68 4, arrOf c0 72 6], [], Iv (fun _ _ => Ext.none)⟩ : Env) := by
    refine ⟨?_, ?_, ?_, by simp [e6_Hy], ?_, by simp [e6_Hy]⟩
    · simp [e6_Hy]
    · intro p hp
      simp only [e6_Hy, List.mem_cons, List.not_mem_nil, or_false] at hp
      rcases hp with rfl | rfl | rfl | rfl | rfl
      · exact num_rng (f0.tail.tail.tail.tail)
      · exact num_rng (f0.tail.tail.tail.tail.tail)
      · exact num_rng (f0.tail.tail.tail.tail.tail.tail)
      · exact bounds_i64 w1
      · exact (by have hx := hex0; first | exact ⟨Int.le_of_eq hx.symm, Int.le_of_eq hx⟩ | exact hx)
    · intro p hp
      simp only [e6_Hy, List.mem_cons, List.not_mem_nil, or_false] at hp
      rcases hp with rfl | rfl | rfl | rfl
      · exact arrOf_rng (f0)
      · exact arrOf_rng (f0.tail)
      · exact arrOf_rng (f0.tail.tail)
      · exact arrOf_rng (f0.tail.tail.tail)
    · simp [e6_Hy]
  exact law_true (ρ := (⟨[intV (c0.getD 78 Go.undef), intV (c0.getD 79 Go.undef), intV (c0.getD 80 Go.undef), a1], [], [arrOf c0 0 64, arrOf c0 64 4, arrOf c0 68 4, arrOf c0 72 6], [], Iv (fun _ _ => Ext.none)⟩ : Env)) (G_ok _) (by kernel_rfl) e6_run rfl
    hok (by intro e he; cases he) (e6_vc (intV (c0.getD 78 Go.undef)) (intV (c0.getD 79 Go.undef)) (intV (c0.getD 80 Go.undef)) (a1) (arrOf c0 0 64) (arrOf c0 64 4) (arrOf c0 68 4) (arrOf c0 72 6) (num_rng (f0.tail.tail.tail.tail)) (num_rng (f0.tail.tail.tail.tail.tail)) (num_rng (f0.tail.tail.tail.tail.tail.tail)) (bounds_i64 w1) (arrOf_rng (f0)) (arrOf_rng (f0.tail)) (arrOf_rng (f0.tail.tail)) (arrOf_rng (f0.tail.tail.tail))) w (fun i j => Ext.none_ok _)
end Go.Proofs.Ytgbncbclhdnbmaa.BlendOrder
