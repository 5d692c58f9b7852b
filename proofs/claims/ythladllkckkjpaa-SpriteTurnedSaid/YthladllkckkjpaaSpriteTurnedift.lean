/- A part of the law SpriteTurned, which returns true for every input. A sprite that is turned about has its dots the other way about. No condition. -/
import Derived.Test.YthladllkckkjpaaSpriteTurned0
namespace Go.Proofs.Ythladllkckkjpaa.SpriteTurned
open Go.Sx Go.ChangeShapes Go.WideShapes Go.ChangeAt Go.RowKit
set_option linter.unusedVariables false
set_option linter.unusedSimpArgs false
set_option maxRecDepth 100000
def iftHy : Hyp := ⟨[((.v 8), (1, 64)), ((.v 9), (1, 64)), ((.v 6), (-256, 255)), ((.v 13), (0, 63)), ((.v 14), (0, 63)), ((.sub (.add (.v 8) (.lit (-1))) (.v 13)), (0, 63)), ((.sub (.add (.v 9) (.lit (-1))) (.v 14)), (0, 63)), ((.div (.sub (.add (.v 8) (.lit (-1))) (.v 13)) (.lit 8)), (0, 7)), ((.div (.sub (.add (.v 9) (.lit (-1))) (.v 14)) (.lit 8)), (0, 7)), ((.mul (.div (.sub (.add (.v 9) (.lit (-1))) (.v 14)) (.lit 8)) (.lit 16)), (0, 112)), (.v 0, (0, 9223372036854775807)), (.v 1, (0, 9223372036854775807)), (.v 2, (0, 9223372036854775807)), (.v 3, (-32768, 32767)), (.v 4, (-32768, 32767)), (.v 5, (0, 65535)), (.v 6, (-9223372036854775808, 9223372036854775807)), (.v 7, (-9223372036854775808, 9223372036854775807)), (.v 8, (-9223372036854775808, 9223372036854775807)), (.v 9, (-9223372036854775808, 9223372036854775807)), (.v 10, (0, 255)), (.v 11, (0, 255)), (.v 12, (0, 255)), (.v 13, (-9223372036854775808, 9223372036854775807)), (.v 14, (-9223372036854775808, 9223372036854775807))], [(0, (0, 65535)), (1, (0, 255)), (2, (0, 65535)), (3, (0, 255)), (4, (0, 65535)), (5, (0, 65535)), (6, (-32768, 32767))], [], [(0, (0, 65535)), (1, (0, 255)), (2, (0, 32767))], [((.le (.v 8) (.v 13)), false), ((.le (.v 9) (.v 14)), false), ((.bv 1), false), ((.bv 2), true), ((.le (.v 8) (.sub (.add (.v 8) (.lit (-1))) (.v 13))), false), ((.le (.v 9) (.sub (.add (.v 9) (.lit (-1))) (.v 14))), false)], [(0, ⟨.v 0, [(some .u16, .av 0)]⟩), (1, ⟨.v 1, [(some .u8, .av 1)]⟩), (2, ⟨.v 2, [(some .u16, .av 2)]⟩)]⟩
def iftLs : List SV := [.agg [.one (.xslc 0 (.lit 0) (.lit 0) (.v 0)), .one (.xslc 1 (.lit 0) (.lit 0) (.v 1)), .one (.xslc 2 (.lit 0) (.lit 0) (.v 2))], .agg (pcSegs 3 0 3 Pc1), .agg (pcSegs 7 0 6 Pc2), .s (.int .i64 (.v 13)), .s (.int .i64 (.v 14))]

theorem iftrun : enter Try.prog G Gh 3000 6 8 iftHy iftLs [] = some ([], .s (.bool (.blit true)), none) := by kernel_rfl
theorem iftvc (x0 : Ext) (x1 : Ext) (x2 : Ext) (nx0 nx1 nx2 n1_4 n1_5 n1_6 n2_0 n2_1 n2_2 n2_3 n2_4 n2_5 n2_6 a3 a4 : Int) (p0 p1 p2 : Bool) (Ax0 Ax1 Ax2 A3 A4 A5 A6 : Nat → Int) (b0 : 0 ≤ nx0 ∧ nx0 ≤ 9223372036854775807) (b1 : 0 ≤ nx1 ∧ nx1 ≤ 9223372036854775807) (b2 : 0 ≤ nx2 ∧ nx2 ≤ 9223372036854775807) (b3 : -32768 ≤ n1_4 ∧ n1_4 ≤ 32767) (b4 : -32768 ≤ n1_5 ∧ n1_5 ≤ 32767) (b5 : 0 ≤ n1_6 ∧ n1_6 ≤ 65535) (b6 : -9223372036854775808 ≤ n2_0 ∧ n2_0 ≤ 9223372036854775807) (b7 : -9223372036854775808 ≤ n2_1 ∧ n2_1 ≤ 9223372036854775807) (b8 : -9223372036854775808 ≤ n2_2 ∧ n2_2 ≤ 9223372036854775807) (b9 : -9223372036854775808 ≤ n2_3 ∧ n2_3 ≤ 9223372036854775807) (b10 : 0 ≤ n2_4 ∧ n2_4 ≤ 255) (b11 : 0 ≤ n2_5 ∧ n2_5 ≤ 255) (b12 : 0 ≤ n2_6 ∧ n2_6 ≤ 255) (b13 : -9223372036854775808 ≤ a3 ∧ a3 ≤ 9223372036854775807) (b14 : -9223372036854775808 ≤ a4 ∧ a4 ≤ 9223372036854775807) (B0 : ∀ j, 0 ≤ Ax0 j ∧ Ax0 j ≤ 65535) (B1 : ∀ j, 0 ≤ Ax1 j ∧ Ax1 j ≤ 255) (B2 : ∀ j, 0 ≤ Ax2 j ∧ Ax2 j ≤ 65535) (B3 : ∀ j, 0 ≤ A3 j ∧ A3 j ≤ 255) (B4 : ∀ j, 0 ≤ A4 j ∧ A4 j ≤ 65535) (B5 : ∀ j, 0 ≤ A5 j ∧ A5 j ≤ 65535) (B6 : ∀ j, -32768 ≤ A6 j ∧ A6 j ≤ 32767) : E.b (⟨[nx0, nx1, nx2, n1_4, n1_5, n1_6, n2_0, n2_1, n2_2, n2_3, n2_4, n2_5, n2_6, a3, a4], [p0, p1, p2], [Ax0, Ax1, Ax2, A3, A4, A5, A6], [], Iv (fun i j => match i, j with | 0, 0 => x0 | 1, 0 => x1 | 2, 0 => x2 | _, _ => Ext.none)⟩ : Env) (.blit true) = true := by
  rfl
theorem iftcalls (x0 : Ext) (x1 : Ext) (x2 : Ext) (c1 : List Value) (l1 : c1.length = pcTotal Pc1) (f1 : PcFit c1 0 Pc1) (c2 : List Value) (l2 : c2.length = pcTotal Pc2) (f2 : PcFit c2 0 Pc2) (a3 : Int) (w3 : (Lit.int .i64 a3).wf = true) (a4 : Int) (w4 : (Lit.int .i64 a4).wf = true) (hex0 : 1 ≤ (intV (c2.getD 2 Go.undef)) ∧ (intV (c2.getD 2 Go.undef)) ≤ 64) (hex1 : 1 ≤ (intV (c2.getD 3 Go.undef)) ∧ (intV (c2.getD 3 Go.undef)) ≤ 64) (hex2 : -256 ≤ (intV (c2.getD 0 Go.undef)) ∧ (intV (c2.getD 0 Go.undef)) ≤ 255) (hex3 : 0 ≤ (a3) ∧ (a3) ≤ 63) (hex4 : 0 ≤ (a4) ∧ (a4) ≤ 63) (hex5 : 0 ≤ (intV (c2.getD 2 Go.undef)) + (-1) - (a3) ∧ (intV (c2.getD 2 Go.undef)) + (-1) - (a3) ≤ 63) (hex6 : 0 ≤ (intV (c2.getD 3 Go.undef)) + (-1) - (a4) ∧ (intV (c2.getD 3 Go.undef)) + (-1) - (a4) ≤ 63) (hex7 : 0 ≤ ((intV (c2.getD 2 Go.undef)) + (-1) - (a3)) / 8 ∧ ((intV (c2.getD 2 Go.undef)) + (-1) - (a3)) / 8 ≤ 7) (hex8 : 0 ≤ ((intV (c2.getD 3 Go.undef)) + (-1) - (a4)) / 8 ∧ ((intV (c2.getD 3 Go.undef)) + (-1) - (a4)) / 8 ≤ 7) (hex9 : 0 ≤ ((intV (c2.getD 3 Go.undef)) + (-1) - (a4)) / 8 * 16 ∧ ((intV (c2.getD 3 Go.undef)) + (-1) - (a4)) / 8 * 16 ≤ 112) (hey0 : ¬ (intV (c2.getD 2 Go.undef)) ≤ (a3)) (hey1 : ¬ (intV (c2.getD 3 Go.undef)) ≤ (a4)) (hey2 : (boolV (c2.getD 8 Go.undef)) = false) (hey3 : (boolV (c2.getD 9 Go.undef)) = true) (hey4 : ¬ (intV (c2.getD 2 Go.undef)) ≤ (intV (c2.getD 2 Go.undef)) + (-1) - (a3)) (hey5 : ¬ (intV (c2.getD 3 Go.undef)) ≤ (intV (c2.getD 3 Go.undef)) + (-1) - (a4)) (w : World) (g0 : XFit x0 w [some .u16]) (g1 : XFit x1 w [some .u8]) (g2 : XFit x2 w [some .u16]) :
    Calls Try.prog 8 #[.agg #[x0.v, x1.v, x2.v], .agg c1.toArray, .agg c2.toArray, .int .i64 a3, .int .i64 a4] w fun r w' => r = .returned (.bool true) ∧ Below w.heap.size w w' := by
  have hc1 : cellsOf (⟨[(x0.n : Int), (x1.n : Int), (x2.n : Int), intV (c1.getD 78 Go.undef), intV (c1.getD 79 Go.undef), intV (c1.getD 80 Go.undef), intV (c2.getD 0 Go.undef), intV (c2.getD 1 Go.undef), intV (c2.getD 2 Go.undef), intV (c2.getD 3 Go.undef), intV (c2.getD 4 Go.undef), intV (c2.getD 5 Go.undef), intV (c2.getD 6 Go.undef), a3, a4], [boolV (c2.getD 7 Go.undef), boolV (c2.getD 8 Go.undef), boolV (c2.getD 9 Go.undef)], [xArr x0 1 0, xArr x1 1 0, xArr x2 1 0, arrOf c1 0 64, arrOf c1 64 4, arrOf c1 68 4, arrOf c1 72 6], [], Iv (fun i j => match i, j with | 0, 0 => x0 | 1, 0 => x1 | 2, 0 => x2 | _, _ => Ext.none)⟩ : Env) Loc.id (pcSegs 3 0 3 Pc1) = c1 := by
    rw [pc_cells Pc1 0 3 0 3 f1 (by intro j hj; rcases j with _ | _ | _ | _ | j <;> first | rfl | (simp [Pc1, pcA, pcB, pcI] at hj; omega)) (by intro j hj; simp [Pc1, pcA, pcB, pcI] at hj) (by intro j hj; rcases j with _ | _ | _ | j <;> first | rfl | (simp [Pc1, pcA, pcB, pcI] at hj; omega)), List.drop_zero, ← l1, List.take_length]
  have hc2 : cellsOf (⟨[(x0.n : Int), (x1.n : Int), (x2.n : Int), intV (c1.getD 78 Go.undef), intV (c1.getD 79 Go.undef), intV (c1.getD 80 Go.undef), intV (c2.getD 0 Go.undef), intV (c2.getD 1 Go.undef), intV (c2.getD 2 Go.undef), intV (c2.getD 3 Go.undef), intV (c2.getD 4 Go.undef), intV (c2.getD 5 Go.undef), intV (c2.getD 6 Go.undef), a3, a4], [boolV (c2.getD 7 Go.undef), boolV (c2.getD 8 Go.undef), boolV (c2.getD 9 Go.undef)], [xArr x0 1 0, xArr x1 1 0, xArr x2 1 0, arrOf c1 0 64, arrOf c1 64 4, arrOf c1 68 4, arrOf c1 72 6], [], Iv (fun i j => match i, j with | 0, 0 => x0 | 1, 0 => x1 | 2, 0 => x2 | _, _ => Ext.none)⟩ : Env) Loc.id (pcSegs 7 0 6 Pc2) = c2 := by
    rw [pc_cells Pc2 0 7 0 6 f2 (by intro j hj; simp [Pc2, pcA, pcB, pcI] at hj) (by intro j hj; rcases j with _ | _ | _ | j <;> first | rfl | (simp [Pc2, pcA, pcB, pcI] at hj; omega)) (by intro j hj; rcases j with _ | _ | _ | _ | _ | _ | _ | j <;> first | rfl | (simp [Pc2, pcA, pcB, pcI] at hj; omega)), List.drop_zero, ← l2, List.take_length]
  have hx0 : SV.conc (⟨[(x0.n : Int), (x1.n : Int), (x2.n : Int), intV (c1.getD 78 Go.undef), intV (c1.getD 79 Go.undef), intV (c1.getD 80 Go.undef), intV (c2.getD 0 Go.undef), intV (c2.getD 1 Go.undef), intV (c2.getD 2 Go.undef), intV (c2.getD 3 Go.undef), intV (c2.getD 4 Go.undef), intV (c2.getD 5 Go.undef), intV (c2.getD 6 Go.undef), a3, a4], [boolV (c2.getD 7 Go.undef), boolV (c2.getD 8 Go.undef), boolV (c2.getD 9 Go.undef)], [xArr x0 1 0, xArr x1 1 0, xArr x2 1 0, arrOf c1 0 64, arrOf c1 64 4, arrOf c1 68 4, arrOf c1 72 6], [], Iv (fun i j => match i, j with | 0, 0 => x0 | 1, 0 => x1 | 2, 0 => x2 | _, _ => Ext.none)⟩ : Env) Loc.id (.s (.xslc 0 (.lit 0) (.lit 0) (.v 0))) = x0.v := conc_ext g0 rfl rfl
  have hx1 : SV.conc (⟨[(x0.n : Int), (x1.n : Int), (x2.n : Int), intV (c1.getD 78 Go.undef), intV (c1.getD 79 Go.undef), intV (c1.getD 80 Go.undef), intV (c2.getD 0 Go.undef), intV (c2.getD 1 Go.undef), intV (c2.getD 2 Go.undef), intV (c2.getD 3 Go.undef), intV (c2.getD 4 Go.undef), intV (c2.getD 5 Go.undef), intV (c2.getD 6 Go.undef), a3, a4], [boolV (c2.getD 7 Go.undef), boolV (c2.getD 8 Go.undef), boolV (c2.getD 9 Go.undef)], [xArr x0 1 0, xArr x1 1 0, xArr x2 1 0, arrOf c1 0 64, arrOf c1 64 4, arrOf c1 68 4, arrOf c1 72 6], [], Iv (fun i j => match i, j with | 0, 0 => x0 | 1, 0 => x1 | 2, 0 => x2 | _, _ => Ext.none)⟩ : Env) Loc.id (.s (.xslc 1 (.lit 0) (.lit 0) (.v 1))) = x1.v := conc_ext g1 rfl rfl
  have hx2 : SV.conc (⟨[(x0.n : Int), (x1.n : Int), (x2.n : Int), intV (c1.getD 78 Go.undef), intV (c1.getD 79 Go.undef), intV (c1.getD 80 Go.undef), intV (c2.getD 0 Go.undef), intV (c2.getD 1 Go.undef), intV (c2.getD 2 Go.undef), intV (c2.getD 3 Go.undef), intV (c2.getD 4 Go.undef), intV (c2.getD 5 Go.undef), intV (c2.getD 6 Go.undef), a3, a4], [boolV (c2.getD 7 Go.undef), boolV (c2.getD 8 Go.undef), boolV (c2.getD 9 Go.undef)], [xArr x0 1 0, xArr x1 1 0, xArr x2 1 0, arrOf c1 0 64, arrOf c1 64 4, arrOf c1 68 4, arrOf c1 72 6], [], Iv (fun i j => match i, j with | 0, 0 => x0 | 1, 0 => x1 | 2, 0 => x2 | _, _ => Ext.none)⟩ : Env) Loc.id (.s (.xslc 2 (.lit 0) (.lit 0) (.v 2))) = x2.v := conc_ext g2 rfl rfl
  have hargs : (iftLs.map (SV.conc (⟨[(x0.n : Int), (x1.n : Int), (x2.n : Int), intV (c1.getD 78 Go.undef), intV (c1.getD 79 Go.undef), intV (c1.getD 80 Go.undef), intV (c2.getD 0 Go.undef), intV (c2.getD 1 Go.undef), intV (c2.getD 2 Go.undef), intV (c2.getD 3 Go.undef), intV (c2.getD 4 Go.undef), intV (c2.getD 5 Go.undef), intV (c2.getD 6 Go.undef), a3, a4], [boolV (c2.getD 7 Go.undef), boolV (c2.getD 8 Go.undef), boolV (c2.getD 9 Go.undef)], [xArr x0 1 0, xArr x1 1 0, xArr x2 1 0, arrOf c1 0 64, arrOf c1 64 4, arrOf c1 68 4, arrOf c1 72 6], [], Iv (fun i j => match i, j with | 0, 0 => x0 | 1, 0 => x1 | 2, 0 => x2 | _, _ => Ext.none)⟩ : Env) Loc.id)).toArray = #[.agg #[x0.v, x1.v, x2.v], .agg c1.toArray, .agg c2.toArray, .int .i64 a3, .int .i64 a4] := by
    refine congrArg List.toArray ?_
    exact (cons_eq (rows_eq hx0 hx1 hx2) (cons_eq (congrArg (fun l => Value.agg (List.toArray l)) hc1) (cons_eq (congrArg (fun l => Value.agg (List.toArray l)) hc2) (cons_eq rfl (cons_eq rfl rfl)))))
  rw [← hargs]
  have hok : Hyp.ok iftHy (⟨[(x0.n : Int), (x1.n : Int), (x2.n : Int), intV (c1.getD 78 Go.undef), intV (c1.getD 79 Go.undef), intV (c1.getD 80 Go.undef), intV (c2.getD 0 Go.undef), intV (c2.getD 1 Go.undef), intV (c2.getD 2 Go.undef), intV (c2.getD 3 Go.undef), intV (c2.getD 4 Go.undef), intV (c2.getD 5 Go.undef), intV (c2.getD 6 Go.undef), a3, a4], [boolV (c2.getD 7 Go.undef), boolV (c2.getD 8 Go.undef), boolV (c2.getD 9 Go.undef)], [xArr x0 1 0, xArr x1 1 0, xArr x2 1 0, arrOf c1 0 64, arrOf c1 64 4, arrOf c1 68 4, arrOf c1 72 6], [], Iv (fun i j => match i, j with | 0, 0 => x0 | 1, 0 => x1 | 2, 0 => x2 | _, _ => Ext.none)⟩ : Env) := by
    refine ⟨?_, ?_, ?_, by simp [iftHy], ?_, ?_⟩
    · intro p hp
      simp only [iftHy, List.mem_cons, List.not_mem_nil, or_false] at hp
      rcases hp with rfl | rfl | rfl
      · exact xi_ok g0 rfl rfl rfl
      · exact xi_ok g1 rfl rfl rfl
      · exact xi_ok g2 rfl rfl rfl
    · intro p hp
      simp only [iftHy, List.mem_cons, List.not_mem_nil, or_false] at hp
      rcases hp with rfl | rfl | rfl | rfl | rfl | rfl | rfl | rfl | rfl | rfl | rfl | rfl | rfl | rfl | rfl | rfl | rfl | rfl | rfl | rfl | rfl | rfl | rfl | rfl | rfl
      · exact (by have hx := hex0; first | exact ⟨Int.le_of_eq hx.symm, Int.le_of_eq hx⟩ | exact hx)
      · exact (by have hx := hex1; first | exact ⟨Int.le_of_eq hx.symm, Int.le_of_eq hx⟩ | exact hx)
      · exact (by have hx := hex2; first | exact ⟨Int.le_of_eq hx.symm, Int.le_of_eq hx⟩ | exact hx)
      · exact (by have hx := hex3; first | exact ⟨Int.le_of_eq hx.symm, Int.le_of_eq hx⟩ | exact hx)
      · exact (by have hx := hex4; first | exact ⟨Int.le_of_eq hx.symm, Int.le_of_eq hx⟩ | exact hx)
      · exact (by have hx := hex5; first | exact ⟨Int.le_of_eq hx.symm, Int.le_of_eq hx⟩ | exact hx)
      · exact (by have hx := hex6; first | exact ⟨Int.le_of_eq hx.symm, Int.le_of_eq hx⟩ | exact hx)
      · exact (by have hx := hex7; first | exact ⟨Int.le_of_eq hx.symm, Int.le_of_eq hx⟩ | exact hx)
      · exact (by have hx := hex8; first | exact ⟨Int.le_of_eq hx.symm, Int.le_of_eq hx⟩ | exact hx)
      · exact (by have hx := hex9; first | exact ⟨Int.le_of_eq hx.symm, Int.le_of_eq hx⟩ | exact hx)
      · exact xlen_rng g0
      · exact xlen_rng g1
      · exact xlen_rng g2
      · exact num_rng (f1.tail.tail.tail.tail)
      · exact num_rng (f1.tail.tail.tail.tail.tail)
      · exact num_rng (f1.tail.tail.tail.tail.tail.tail)
      · exact num_rng (f2)
      · exact num_rng (f2.tail)
      · exact num_rng (f2.tail.tail)
      · exact num_rng (f2.tail.tail.tail)
      · exact num_rng (f2.tail.tail.tail.tail)
      · exact num_rng (f2.tail.tail.tail.tail.tail)
      · exact num_rng (f2.tail.tail.tail.tail.tail.tail)
      · exact bounds_i64 w3
      · exact bounds_i64 w4
    · intro p hp
      simp only [iftHy, List.mem_cons, List.not_mem_nil, or_false] at hp
      rcases hp with rfl | rfl | rfl | rfl | rfl | rfl | rfl
      · exact xArr_rng g0
      · exact xArr_rng g1
      · exact xArr_rng g2
      · exact arrOf_rng (f1)
      · exact arrOf_rng (f1.tail)
      · exact arrOf_rng (f1.tail.tail)
      · exact arrOf_rng (f1.tail.tail.tail)
    · intro p hp is bs xs j
      simp only [iftHy, List.mem_cons, List.not_mem_nil, or_false] at hp
      rcases hp with rfl | rfl | rfl <;> exact vidF_rng _ _ _ (by decide) j
    · intro p hp
      simp only [iftHy, List.mem_cons, List.not_mem_nil, or_false] at hp
      rcases hp with rfl | rfl | rfl | rfl | rfl | rfl
      · exact (by have hx := hey0; first | exact hx | exact decide_eq_true hx | exact decide_eq_false hx)
      · exact (by have hx := hey1; first | exact hx | exact decide_eq_true hx | exact decide_eq_false hx)
      · exact (by have hx := hey2; first | exact hx | exact decide_eq_true hx | exact decide_eq_false hx)
      · exact (by have hx := hey3; first | exact hx | exact decide_eq_true hx | exact decide_eq_false hx)
      · exact (by have hx := hey4; first | exact hx | exact decide_eq_true hx | exact decide_eq_false hx)
      · exact (by have hx := hey5; first | exact hx | exact decide_eq_true hx | exact decide_eq_false hx)
  exact law_true (ρ := (⟨[(x0.n : Int), (x1.n : Int), (x2.n : Int), intV (c1.getD 78 Go.undef), intV (c1.getD 79 Go.undef), intV (c1.getD 80 Go.undef), intV (c2.getD 0 Go.undef), intV (c2.getD 1 Go.undef), intV (c2.getD 2 Go.undef), intV (c2.getD 3 Go.undef), intV (c2.getD 4 Go.undef), intV (c2.getD 5 Go.undef), intV (c2.getD 6 Go.undef), a3, a4], [boolV (c2.getD 7 Go.undef), boolV (c2.getD 8 Go.undef), boolV (c2.getD 9 Go.undef)], [xArr x0 1 0, xArr x1 1 0, xArr x2 1 0, arrOf c1 0 64, arrOf c1 64 4, arrOf c1 68 4, arrOf c1 72 6], [], Iv (fun i j => match i, j with | 0, 0 => x0 | 1, 0 => x1 | 2, 0 => x2 | _, _ => Ext.none)⟩ : Env)) (G_ok _) (by kernel_rfl) iftrun rfl
    hok (by intro e he; cases he) (iftvc x0 x1 x2 ((x0.n : Int)) ((x1.n : Int)) ((x2.n : Int)) (intV (c1.getD 78 Go.undef)) (intV (c1.getD 79 Go.undef)) (intV (c1.getD 80 Go.undef)) (intV (c2.getD 0 Go.undef)) (intV (c2.getD 1 Go.undef)) (intV (c2.getD 2 Go.undef)) (intV (c2.getD 3 Go.undef)) (intV (c2.getD 4 Go.undef)) (intV (c2.getD 5 Go.undef)) (intV (c2.getD 6 Go.undef)) (a3) (a4) (boolV (c2.getD 7 Go.undef)) (boolV (c2.getD 8 Go.undef)) (boolV (c2.getD 9 Go.undef)) (xArr x0 1 0) (xArr x1 1 0) (xArr x2 1 0) (arrOf c1 0 64) (arrOf c1 64 4) (arrOf c1 68 4) (arrOf c1 72 6) (xlen_rng g0) (xlen_rng g1) (xlen_rng g2) (num_rng (f1.tail.tail.tail.tail)) (num_rng (f1.tail.tail.tail.tail.tail)) (num_rng (f1.tail.tail.tail.tail.tail.tail)) (num_rng (f2)) (num_rng (f2.tail)) (num_rng (f2.tail.tail)) (num_rng (f2.tail.tail.tail)) (num_rng (f2.tail.tail.tail.tail)) (num_rng (f2.tail.tail.tail.tail.tail)) (num_rng (f2.tail.tail.tail.tail.tail.tail)) (bounds_i64 w3) (bounds_i64 w4) (xArr_rng g0) (xArr_rng g1) (xArr_rng g2) (arrOf_rng (f1)) (arrOf_rng (f1.tail)) (arrOf_rng (f1.tail.tail)) (arrOf_rng (f1.tail.tail.tail))) w (fun i j => by rcases i with _ | _ | _ | i <;> rcases j with _ | j <;> first | exact Ext.none_ok _ | exact g0.ok | exact g1.ok | exact g2.ok)
end Go.Proofs.Ythladllkckkjpaa.SpriteTurned
