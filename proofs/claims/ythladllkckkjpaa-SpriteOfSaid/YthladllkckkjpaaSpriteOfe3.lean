/- A part of the law SpriteOf, which returns true for every input. Each sprite, its size, its row on a line are those that the document says. No condition. -/
import Derived.Test.YthladllkckkjpaaSpriteOf0
namespace Go.Proofs.Ythladllkckkjpaa.SpriteOf
open Go.Sx Go.ChangeShapes Go.WideShapes Go.ChangeAt Go.RowKit
set_option linter.unusedVariables false
set_option linter.unusedSimpArgs false
set_option maxRecDepth 100000
def e300_Hy : Hyp := ⟨[(.v 0, (0, 9223372036854775807)), (.v 1, (0, 9223372036854775807)), (.v 2, (0, 9223372036854775807)), (.v 3, (-32768, 32767)), (.v 4, (-32768, 32767)), (.v 5, (0, 65535)), (.v 6, (0, 127)), (.v 7, (-9223372036854775808, 9223372036854775807)), (.v 8, (0, 255)), ((.mod (.v 6) (.lit 4)), (3, 3)), ((.mod (.div (.sel (.app 1 (.cons (.v 1) (.cons (.av 1) .nil))) (.add (.div (.v 6) (.lit 4)) (.lit 512))) (.lit 64)) (.lit 2)), (0, 0)), ((.sel (.app 1 (.cons (.v 1) (.cons (.av 1) .nil))) (.add (.div (.v 6) (.lit 4)) (.lit 512))), (0, 127))], [(0, (0, 65535)), (1, (0, 255)), (2, (0, 65535)), (3, (0, 255)), (4, (0, 65535)), (5, (0, 65535)), (6, (-32768, 32767))], [], [(0, (0, 65535)), (1, (0, 255)), (2, (0, 32767))], [], [(0, ⟨.v 0, [(some .u16, .av 0)]⟩), (1, ⟨.v 1, [(some .u8, .av 1)]⟩), (2, ⟨.v 2, [(some .u16, .av 2)]⟩)]⟩
def e300_Ls : List SV := [.agg [.one (.xslc 0 (.lit 0) (.lit 0) (.v 0)), .one (.xslc 1 (.lit 0) (.lit 0) (.v 1)), .one (.xslc 2 (.lit 0) (.lit 0) (.v 2))], .agg (pcSegs 3 0 3 Pc1), .s (.int .i64 (.v 6)), .s (.int .i64 (.v 7)), .s (.int .u8 (.v 8))]

theorem e300_run : enter Try.prog G Gh 3000 6 4 e300_Hy e300_Ls [] = some ([], .s (.bool (.blit true)), none) := by kernel_rfl
theorem e300_vc (x0 : Ext) (x1 : Ext) (x2 : Ext) (nx0 nx1 nx2 n1_4 n1_5 n1_6 a2 a3 a4 : Int) (Ax0 Ax1 Ax2 A3 A4 A5 A6 : Nat → Int) (b0 : 0 ≤ nx0 ∧ nx0 ≤ 9223372036854775807) (b1 : 0 ≤ nx1 ∧ nx1 ≤ 9223372036854775807) (b2 : 0 ≤ nx2 ∧ nx2 ≤ 9223372036854775807) (b3 : -32768 ≤ n1_4 ∧ n1_4 ≤ 32767) (b4 : -32768 ≤ n1_5 ∧ n1_5 ≤ 32767) (b5 : 0 ≤ n1_6 ∧ n1_6 ≤ 65535) (b6 : 0 ≤ a2 ∧ a2 ≤ 127) (b7 : -9223372036854775808 ≤ a3 ∧ a3 ≤ 9223372036854775807) (b8 : 0 ≤ a4 ∧ a4 ≤ 255) (B0 : ∀ j, 0 ≤ Ax0 j ∧ Ax0 j ≤ 65535) (B1 : ∀ j, 0 ≤ Ax1 j ∧ Ax1 j ≤ 255) (B2 : ∀ j, 0 ≤ Ax2 j ∧ Ax2 j ≤ 65535) (B3 : ∀ j, 0 ≤ A3 j ∧ A3 j ≤ 255) (B4 : ∀ j, 0 ≤ A4 j ∧ A4 j ≤ 65535) (B5 : ∀ j, 0 ≤ A5 j ∧ A5 j ≤ 65535) (B6 : ∀ j, -32768 ≤ A6 j ∧ A6 j ≤ 32767) : E.b (⟨[nx0, nx1, nx2, n1_4, n1_5, n1_6, a2, a3, a4], [], [Ax0, Ax1, Ax2, A3, A4, A5, A6], [], Iv (fun i j => match i, j with | 0, 0 => x0 | 1, 0 => x1 | 2, 0 => x2 | _, _ => Ext.none)⟩ : Env) (.blit true) = true := by
  rfl
theorem e300_calls (x0 : Ext) (x1 : Ext) (x2 : Ext) (c1 : List Value) (l1 : c1.length = pcTotal Pc1) (f1 : PcFit c1 0 Pc1) (a2 : Int) (w2 : 0 ≤ a2 ∧ a2 ≤ 127) (a3 : Int) (w3 : (Lit.int .i64 a3).wf = true) (a4 : Int) (w4 : (Lit.int .u8 a4).wf = true) (hex0 : (a2) % 4 = 3) (hex1 : E.i (⟨[(x0.n : Int), (x1.n : Int), (x2.n : Int), intV (c1.getD 78 Go.undef), intV (c1.getD 79 Go.undef), intV (c1.getD 80 Go.undef), a2, a3, a4], [], [xArr x0 1 0, xArr x1 1 0, xArr x2 1 0, arrOf c1 0 64, arrOf c1 64 4, arrOf c1 68 4, arrOf c1 72 6], [], Iv (fun i j => match i, j with | 0, 0 => x0 | 1, 0 => x1 | 2, 0 => x2 | _, _ => Ext.none)⟩ : Env) (.mod (.div (.sel (.app 1 (.cons (.v 1) (.cons (.av 1) .nil))) (.add (.div (.v 6) (.lit 4)) (.lit 512))) (.lit 64)) (.lit 2)) = 0) (hex2 : 0 ≤ E.i (⟨[(x0.n : Int), (x1.n : Int), (x2.n : Int), intV (c1.getD 78 Go.undef), intV (c1.getD 79 Go.undef), intV (c1.getD 80 Go.undef), a2, a3, a4], [], [xArr x0 1 0, xArr x1 1 0, xArr x2 1 0, arrOf c1 0 64, arrOf c1 64 4, arrOf c1 68 4, arrOf c1 72 6], [], Iv (fun i j => match i, j with | 0, 0 => x0 | 1, 0 => x1 | 2, 0 => x2 | _, _ => Ext.none)⟩ : Env) (.sel (.app 1 (.cons (.v 1) (.cons (.av 1) .nil))) (.add (.div (.v 6) (.lit 4)) (.lit 512))) ∧ E.i (⟨[(x0.n : Int), (x1.n : Int), (x2.n : Int), intV (c1.getD 78 Go.undef), intV (c1.getD 79 Go.undef), intV (c1.getD 80 Go.undef), a2, a3, a4], [], [xArr x0 1 0, xArr x1 1 0, xArr x2 1 0, arrOf c1 0 64, arrOf c1 64 4, arrOf c1 68 4, arrOf c1 72 6], [], Iv (fun i j => match i, j with | 0, 0 => x0 | 1, 0 => x1 | 2, 0 => x2 | _, _ => Ext.none)⟩ : Env) (.sel (.app 1 (.cons (.v 1) (.cons (.av 1) .nil))) (.add (.div (.v 6) (.lit 4)) (.lit 512))) ≤ 127) (w : World) (g0 : XFit x0 w [some .u16]) (g1 : XFit x1 w [some .u8]) (g2 : XFit x2 w [some .u16]) :
    Calls Try.prog 4 #[.agg #[x0.v, x1.v, x2.v], .agg c1.toArray, .int .i64 a2, .int .i64 a3, .int .u8 a4] w fun r w' => r = .returned (.bool true) ∧ Below w.heap.size w w' := by
  have hc1 : cellsOf (⟨[(x0.n : Int), (x1.n : Int), (x2.n : Int), intV (c1.getD 78 Go.undef), intV (c1.getD 79 Go.undef), intV (c1.getD 80 Go.undef), a2, a3, a4], [], [xArr x0 1 0, xArr x1 1 0, xArr x2 1 0, arrOf c1 0 64, arrOf c1 64 4, arrOf c1 68 4, arrOf c1 72 6], [], Iv (fun i j => match i, j with | 0, 0 => x0 | 1, 0 => x1 | 2, 0 => x2 | _, _ => Ext.none)⟩ : Env) Loc.id (pcSegs 3 0 3 Pc1) = c1 := by
    rw [pc_cells Pc1 0 3 0 3 f1 (by intro j hj; rcases j with _ | _ | _ | _ | j <;> first | rfl | (simp [Pc1, pcA, pcB, pcI] at hj <;> omega)) (by intro j hj; simp [Pc1, pcA, pcB, pcI] at hj) (by intro j hj; rcases j with _ | _ | _ | j <;> first | rfl | (simp [Pc1, pcA, pcB, pcI] at hj <;> omega)), List.drop_zero, ← l1, List.take_length]
  have hx0 : SV.conc (⟨[(x0.n : Int), (x1.n : Int), (x2.n : Int), intV (c1.getD 78 Go.undef), intV (c1.getD 79 Go.undef), intV (c1.getD 80 Go.undef), a2, a3, a4], [], [xArr x0 1 0, xArr x1 1 0, xArr x2 1 0, arrOf c1 0 64, arrOf c1 64 4, arrOf c1 68 4, arrOf c1 72 6], [], Iv (fun i j => match i, j with | 0, 0 => x0 | 1, 0 => x1 | 2, 0 => x2 | _, _ => Ext.none)⟩ : Env) Loc.id (.s (.xslc 0 (.lit 0) (.lit 0) (.v 0))) = x0.v := conc_ext g0 rfl rfl
  have hx1 : SV.conc (⟨[(x0.n : Int), (x1.n : Int), (x2.n : Int), intV (c1.getD 78 Go.undef), intV (c1.getD 79 Go.undef), intV (c1.getD 80 Go.undef), a2, a3, a4], [], [xArr x0 1 0, xArr x1 1 0, xArr x2 1 0, arrOf c1 0 64, arrOf c1 64 4, arrOf c1 68 4, arrOf c1 72 6], [], Iv (fun i j => match i, j with | 0, 0 => x0 | 1, 0 => x1 | 2, 0 => x2 | _, _ => Ext.none)⟩ : Env) Loc.id (.s (.xslc 1 (.lit 0) (.lit 0) (.v 1))) = x1.v := conc_ext g1 rfl rfl
  have hx2 : SV.conc (⟨[(x0.n : Int), (x1.n : Int), (x2.n : Int), intV (c1.getD 78 Go.undef), intV (c1.getD 79 Go.undef), intV (c1.getD 80 Go.undef), a2, a3, a4], [], [xArr x0 1 0, xArr x1 1 0, xArr x2 1 0, arrOf c1 0 64, arrOf c1 64 4, arrOf c1 68 4, arrOf c1 72 6], [], Iv (fun i j => match i, j with | 0, 0 => x0 | 1, 0 => x1 | 2, 0 => x2 | _, _ => Ext.none)⟩ : Env) Loc.id (.s (.xslc 2 (.lit 0) (.lit 0) (.v 2))) = x2.v := conc_ext g2 rfl rfl
  have hargs : (e300_Ls.map (SV.conc (⟨[(x0.n : Int), (x1.n : Int), (x2.n : Int), intV (c1.getD 78 Go.undef), intV (c1.getD 79 Go.undef), intV (c1.getD 80 Go.undef), a2, a3, a4], [], [xArr x0 1 0, xArr x1 1 0, xArr x2 1 0, arrOf c1 0 64, arrOf c1 64 4, arrOf c1 68 4, arrOf c1 72 6], [], Iv (fun i j => match i, j with | 0, 0 => x0 | 1, 0 => x1 | 2, 0 => x2 | _, _ => Ext.none)⟩ : Env) Loc.id)).toArray = #[.agg #[x0.v, x1.v, x2.v], .agg c1.toArray, .int .i64 a2, .int .i64 a3, .int .u8 a4] := by
    refine congrArg List.toArray ?_
    exact (cons_eq (rows_eq hx0 hx1 hx2) (cons_eq (congrArg (fun l => Value.agg (List.toArray l)) hc1) (cons_eq rfl (cons_eq rfl (cons_eq rfl rfl)))))
  rw [← hargs]
  have hok : Hyp.ok e300_Hy (⟨[(x0.n : Int), (x1.n : Int), (x2.n : Int), intV (c1.getD 78 Go.undef), intV (c1.getD 79 Go.undef), intV (c1.getD 80 Go.undef), a2, a3, a4], [], [xArr x0 1 0, xArr x1 1 0, xArr x2 1 0, arrOf c1 0 64, arrOf c1 64 4, arrOf c1 68 4, arrOf c1 72 6], [], Iv (fun i j => match i, j with | 0, 0 => x0 | 1, 0 => x1 | 2, 0 => x2 | _, _ => Ext.none)⟩ : Env) := by
    refine ⟨?_, ?_, ?_, by simp [e300_Hy], ?_, by simp [e300_Hy]⟩
    · intro p hp
      simp only [e300_Hy, List.mem_cons, List.not_mem_nil, or_false] at hp
      rcases hp with rfl | rfl | rfl
      · exact xi_ok g0 rfl rfl rfl
      · exact xi_ok g1 rfl rfl rfl
      · exact xi_ok g2 rfl rfl rfl
    · intro p hp
      simp only [e300_Hy, List.mem_cons, List.not_mem_nil, or_false] at hp
      rcases hp with rfl | rfl | rfl | rfl | rfl | rfl | rfl | rfl | rfl | rfl | rfl | rfl
      · exact xlen_rng g0
      · exact xlen_rng g1
      · exact xlen_rng g2
      · exact num_rng (f1.tail.tail.tail.tail)
      · exact num_rng (f1.tail.tail.tail.tail.tail)
      · exact num_rng (f1.tail.tail.tail.tail.tail.tail)
      · exact w2
      · exact bounds_i64 w3
      · exact bounds_u8 w4
      · exact (by have hx := hex0; first | exact ⟨Int.le_of_eq hx.symm, Int.le_of_eq hx⟩ | exact hx)
      · exact (by have hx := hex1; first | exact ⟨Int.le_of_eq hx.symm, Int.le_of_eq hx⟩ | exact hx)
      · exact (by have hx := hex2; first | exact ⟨Int.le_of_eq hx.symm, Int.le_of_eq hx⟩ | exact hx)
    · intro p hp
      simp only [e300_Hy, List.mem_cons, List.not_mem_nil, or_false] at hp
      rcases hp with rfl | rfl | rfl | rfl | rfl | rfl | rfl
      · exact xArr_rng g0
      · exact xArr_rng g1
      · exact xArr_rng g2
      · exact arrOf_rng (f1)
      · exact arrOf_rng (f1.tail)
      · exact arrOf_rng (f1.tail.tail)
      · exact arrOf_rng (f1.tail.tail.tail)
    · intro p hp is bs xs j
      simp only [e300_Hy, List.mem_cons, List.not_mem_nil, or_false] at hp
      rcases hp with rfl | rfl | rfl <;> exact vidF_rng _ _ _ (by decide) j
  exact law_true (ρ := (⟨[(x0.n : Int), (x1.n : Int), (x2.n : Int), intV (c1.getD 78 Go.undef), intV (c1.getD 79 Go.undef), intV (c1.getD 80 Go.undef), a2, a3, a4], [], [xArr x0 1 0, xArr x1 1 0, xArr x2 1 0, arrOf c1 0 64, arrOf c1 64 4, arrOf c1 68 4, arrOf c1 72 6], [], Iv (fun i j => match i, j with | 0, 0 => x0 | 1, 0 => x1 | 2, 0 => x2 | _, _ => Ext.none)⟩ : Env)) (G_ok _) (by kernel_rfl) e300_run rfl
    hok (by intro e he; cases he) (e300_vc x0 x1 x2 ((x0.n : Int)) ((x1.n : Int)) ((x2.n : Int)) (intV (c1.getD 78 Go.undef)) (intV (c1.getD 79 Go.undef)) (intV (c1.getD 80 Go.undef)) (a2) (a3) (a4) (xArr x0 1 0) (xArr x1 1 0) (xArr x2 1 0) (arrOf c1 0 64) (arrOf c1 64 4) (arrOf c1 68 4) (arrOf c1 72 6) (xlen_rng g0) (xlen_rng g1) (xlen_rng g2) (num_rng (f1.tail.tail.tail.tail)) (num_rng (f1.tail.tail.tail.tail.tail)) (num_rng (f1.tail.tail.tail.tail.tail.tail)) (w2) (bounds_i64 w3) (bounds_u8 w4) (xArr_rng g0) (xArr_rng g1) (xArr_rng g2) (arrOf_rng (f1)) (arrOf_rng (f1.tail)) (arrOf_rng (f1.tail.tail)) (arrOf_rng (f1.tail.tail.tail))) w (fun i j => by rcases i with _ | _ | _ | i <;> rcases j with _ | j <;> first | exact Ext.none_ok _ | exact g0.ok | exact g1.ok | exact g2.ok)
def e301_Hy : Hyp := ⟨[(.v 0, (0, 9223372036854775807)), (.v 1, (0, 9223372036854775807)), (.v 2, (0, 9223372036854775807)), (.v 3, (-32768, 32767)), (.v 4, (-32768, 32767)), (.v 5, (0, 65535)), (.v 6, (0, 127)), (.v 7, (-9223372036854775808, 9223372036854775807)), (.v 8, (0, 255)), ((.mod (.v 6) (.lit 4)), (3, 3)), ((.mod (.div (.sel (.app 1 (.cons (.v 1) (.cons (.av 1) .nil))) (.add (.div (.v 6) (.lit 4)) (.lit 512))) (.lit 64)) (.lit 2)), (0, 0)), ((.sel (.app 1 (.cons (.v 1) (.cons (.av 1) .nil))) (.add (.div (.v 6) (.lit 4)) (.lit 512))), (128, 255))], [(0, (0, 65535)), (1, (0, 255)), (2, (0, 65535)), (3, (0, 255)), (4, (0, 65535)), (5, (0, 65535)), (6, (-32768, 32767))], [], [(0, (0, 65535)), (1, (0, 255)), (2, (0, 32767))], [], [(0, ⟨.v 0, [(some .u16, .av 0)]⟩), (1, ⟨.v 1, [(some .u8, .av 1)]⟩), (2, ⟨.v 2, [(some .u16, .av 2)]⟩)]⟩
def e301_Ls : List SV := [.agg [.one (.xslc 0 (.lit 0) (.lit 0) (.v 0)), .one (.xslc 1 (.lit 0) (.lit 0) (.v 1)), .one (.xslc 2 (.lit 0) (.lit 0) (.v 2))], .agg (pcSegs 3 0 3 Pc1), .s (.int .i64 (.v 6)), .s (.int .i64 (.v 7)), .s (.int .u8 (.v 8))]

theorem e301_run : enter Try.prog G Gh 3000 6 4 e301_Hy e301_Ls [] = some ([], .s (.bool (.blit true)), none) := by kernel_rfl
theorem e301_vc (x0 : Ext) (x1 : Ext) (x2 : Ext) (nx0 nx1 nx2 n1_4 n1_5 n1_6 a2 a3 a4 : Int) (Ax0 Ax1 Ax2 A3 A4 A5 A6 : Nat → Int) (b0 : 0 ≤ nx0 ∧ nx0 ≤ 9223372036854775807) (b1 : 0 ≤ nx1 ∧ nx1 ≤ 9223372036854775807) (b2 : 0 ≤ nx2 ∧ nx2 ≤ 9223372036854775807) (b3 : -32768 ≤ n1_4 ∧ n1_4 ≤ 32767) (b4 : -32768 ≤ n1_5 ∧ n1_5 ≤ 32767) (b5 : 0 ≤ n1_6 ∧ n1_6 ≤ 65535) (b6 : 0 ≤ a2 ∧ a2 ≤ 127) (b7 : -9223372036854775808 ≤ a3 ∧ a3 ≤ 9223372036854775807) (b8 : 0 ≤ a4 ∧ a4 ≤ 255) (B0 : ∀ j, 0 ≤ Ax0 j ∧ Ax0 j ≤ 65535) (B1 : ∀ j, 0 ≤ Ax1 j ∧ Ax1 j ≤ 255) (B2 : ∀ j, 0 ≤ Ax2 j ∧ Ax2 j ≤ 65535) (B3 : ∀ j, 0 ≤ A3 j ∧ A3 j ≤ 255) (B4 : ∀ j, 0 ≤ A4 j ∧ A4 j ≤ 65535) (B5 : ∀ j, 0 ≤ A5 j ∧ A5 j ≤ 65535) (B6 : ∀ j, -32768 ≤ A6 j ∧ A6 j ≤ 32767) : E.b (⟨[nx0, nx1, nx2, n1_4, n1_5, n1_6, a2, a3, a4], [], [Ax0, Ax1, Ax2, A3, A4, A5, A6], [], Iv (fun i j => match i, j with | 0, 0 => x0 | 1, 0 => x1 | 2, 0 => x2 | _, _ => Ext.none)⟩ : Env) (.blit true) = true := by
  rfl
theorem e301_calls (x0 : Ext) (x1 : Ext) (x2 : Ext) (c1 : List Value) (l1 : c1.length = pcTotal Pc1) (f1 : PcFit c1 0 Pc1) (a2 : Int) (w2 : 0 ≤ a2 ∧ a2 ≤ 127) (a3 : Int) (w3 : (Lit.int .i64 a3).wf = true) (a4 : Int) (w4 : (Lit.int .u8 a4).wf = true) (hex0 : (a2) % 4 = 3) (hex1 : E.i (⟨[(x0.n : Int), (x1.n : Int), (x2.n : Int), intV (c1.getD 78 Go.undef), intV (c1.getD 79 Go.undef), intV (c1.getD 80 Go.undef), a2, a3, a4], [], [xArr x0 1 0, xArr x1 1 0, xArr x2 1 0, arrOf c1 0 64, arrOf c1 64 4, arrOf c1 68 4, arrOf c1 72 6], [], Iv (fun i j => match i, j with | 0, 0 => x0 | 1, 0 => x1 | 2, 0 => x2 | _, _ => Ext.none)⟩ : Env) (.mod (.div (.sel (.app 1 (.cons (.v 1) (.cons (.av 1) .nil))) (.add (.div (.v 6) (.lit 4)) (.lit 512))) (.lit 64)) (.lit 2)) = 0) (hex2 : 128 ≤ E.i (⟨[(x0.n : Int), (x1.n : Int), (x2.n : Int), intV (c1.getD 78 Go.undef), intV (c1.getD 79 Go.undef), intV (c1.getD 80 Go.undef), a2, a3, a4], [], [xArr x0 1 0, xArr x1 1 0, xArr x2 1 0, arrOf c1 0 64, arrOf c1 64 4, arrOf c1 68 4, arrOf c1 72 6], [], Iv (fun i j => match i, j with | 0, 0 => x0 | 1, 0 => x1 | 2, 0 => x2 | _, _ => Ext.none)⟩ : Env) (.sel (.app 1 (.cons (.v 1) (.cons (.av 1) .nil))) (.add (.div (.v 6) (.lit 4)) (.lit 512))) ∧ E.i (⟨[(x0.n : Int), (x1.n : Int), (x2.n : Int), intV (c1.getD 78 Go.undef), intV (c1.getD 79 Go.undef), intV (c1.getD 80 Go.undef), a2, a3, a4], [], [xArr x0 1 0, xArr x1 1 0, xArr x2 1 0, arrOf c1 0 64, arrOf c1 64 4, arrOf c1 68 4, arrOf c1 72 6], [], Iv (fun i j => match i, j with | 0, 0 => x0 | 1, 0 => x1 | 2, 0 => x2 | _, _ => Ext.none)⟩ : Env) (.sel (.app 1 (.cons (.v 1) (.cons (.av 1) .nil))) (.add (.div (.v 6) (.lit 4)) (.lit 512))) ≤ 255) (w : World) (g0 : XFit x0 w [some .u16]) (g1 : XFit x1 w [some .u8]) (g2 : XFit x2 w [some .u16]) :
    Calls Try.prog 4 #[.agg #[x0.v, x1.v, x2.v], .agg c1.toArray, .int .i64 a2, .int .i64 a3, .int .u8 a4] w fun r w' => r = .returned (.bool true) ∧ Below w.heap.size w w' := by
  have hc1 : cellsOf (⟨[(x0.n : Int), (x1.n : Int), (x2.n : Int), intV (c1.getD 78 Go.undef), intV (c1.getD 79 Go.undef), intV (c1.getD 80 Go.undef), a2, a3, a4], [], [xArr x0 1 0, xArr x1 1 0, xArr x2 1 0, arrOf c1 0 64, arrOf c1 64 4, arrOf c1 68 4, arrOf c1 72 6], [], Iv (fun i j => match i, j with | 0, 0 => x0 | 1, 0 => x1 | 2, 0 => x2 | _, _ => Ext.none)⟩ : Env) Loc.id (pcSegs 3 0 3 Pc1) = c1 := by
    rw [pc_cells Pc1 0 3 0 3 f1 (by intro j hj; rcases j with _ | _ | _ | _ | j <;> first | rfl | (simp [Pc1, pcA, pcB, pcI] at hj <;> omega)) (by intro j hj; simp [Pc1, pcA, pcB, pcI] at hj) (by intro j hj; rcases j with _ | _ | _ | j <;> first | rfl | (simp [Pc1, pcA, pcB, pcI] at hj <;> omega)), List.drop_zero, ← l1, List.take_length]
  have hx0 : SV.conc (⟨[(x0.n : Int), (x1.n : Int), (x2.n : Int), intV (c1.getD 78 Go.undef), intV (c1.getD 79 Go.undef), intV (c1.getD 80 Go.undef), a2, a3, a4], [], [xArr x0 1 0, xArr x1 1 0, xArr x2 1 0, arrOf c1 0 64, arrOf c1 64 4, arrOf c1 68 4, arrOf c1 72 6], [], Iv (fun i j => match i, j with | 0, 0 => x0 | 1, 0 => x1 | 2, 0 => x2 | _, _ => Ext.none)⟩ : Env) Loc.id (.s (.xslc 0 (.lit 0) (.lit 0) (.v 0))) = x0.v := conc_ext g0 rfl rfl
  have hx1 : SV.conc (⟨[(x0.n : Int), (x1.n : Int), (x2.n : Int), intV (c1.getD 78 Go.undef), intV (c1.getD 79 Go.undef), intV (c1.getD 80 Go.undef), a2, a3, a4], [], [xArr x0 1 0, xArr x1 1 0, xArr x2 1 0, arrOf c1 0 64, arrOf c1 64 4, arrOf c1 68 4, arrOf c1 72 6], [], Iv (fun i j => match i, j with | 0, 0 => x0 | 1, 0 => x1 | 2, 0 => x2 | _, _ => Ext.none)⟩ : Env) Loc.id (.s (.xslc 1 (.lit 0) (.lit 0) (.v 1))) = x1.v := conc_ext g1 rfl rfl
  have hx2 : SV.conc (⟨[(x0.n : Int), (x1.n : Int), (x2.n : Int), intV (c1.getD 78 Go.undef), intV (c1.getD 79 Go.undef), intV (c1.getD 80 Go.undef), a2, a3, a4], [], [xArr x0 1 0, xArr x1 1 0, xArr x2 1 0, arrOf c1 0 64, arrOf c1 64 4, arrOf c1 68 4, arrOf c1 72 6], [], Iv (fun i j => match i, j with | 0, 0 => x0 | 1, 0 => x1 | 2, 0 => x2 | _, _ => Ext.none)⟩ : Env) Loc.id (.s (.xslc 2 (.lit 0) (.lit 0) (.v 2))) = x2.v := conc_ext g2 rfl rfl
  have hargs : (e301_Ls.map (SV.conc (⟨[(x0.n : Int), (x1.n : Int), (x2.n : Int), intV (c1.getD 78 Go.undef), intV (c1.getD 79 Go.undef), intV (c1.getD 80 Go.undef), a2, a3, a4], [], [xArr x0 1 0, xArr x1 1 0, xArr x2 1 0, arrOf c1 0 64, arrOf c1 64 4, arrOf c1 68 4, arrOf c1 72 6], [], Iv (fun i j => match i, j with | 0, 0 => x0 | 1, 0 => x1 | 2, 0 => x2 | _, _ => Ext.none)⟩ : Env) Loc.id)).toArray = #[.agg #[x0.v, x1.v, x2.v], .agg c1.toArray, .int .i64 a2, .int .i64 a3, .int .u8 a4] := by
    refine congrArg List.toArray ?_
    exact (cons_eq (rows_eq hx0 hx1 hx2) (cons_eq (congrArg (fun l => Value.agg (List.toArray l)) hc1) (cons_eq rfl (cons_eq rfl (cons_eq rfl rfl)))))
  rw [← hargs]
  have hok : Hyp.ok e301_Hy (⟨[(x0.n : Int), (x1.n : Int), (x2.n : Int), intV (c1.getD 78 Go.undef), intV (c1.getD 79 Go.undef), intV (c1.getD 80 Go.undef), a2, a3, a4], [], [xArr x0 1 0, xArr x1 1 0, xArr x2 1 0, arrOf c1 0 64, arrOf c1 64 4, arrOf c1 68 4, arrOf c1 72 6], [], Iv (fun i j => match i, j with | 0, 0 => x0 | 1, 0 => x1 | 2, 0 => x2 | _, _ => Ext.none)⟩ : Env) := by
    refine ⟨?_, ?_, ?_, by simp [e301_Hy], ?_, by simp [e301_Hy]⟩
    · intro p hp
      simp only [e301_Hy, List.mem_cons, List.not_mem_nil, or_false] at hp
      rcases hp with rfl | rfl | rfl
      · exact xi_ok g0 rfl rfl rfl
      · exact xi_ok g1 rfl rfl rfl
      · exact xi_ok g2 rfl rfl rfl
    · intro p hp
      simp only [e301_Hy, List.mem_cons, List.not_mem_nil, or_false] at hp
      rcases hp with rfl | rfl | rfl | rfl | rfl | rfl | rfl | rfl | rfl | rfl | rfl | rfl
      · exact xlen_rng g0
      · exact xlen_rng g1
      · exact xlen_rng g2
      · exact num_rng (f1.tail.tail.tail.tail)
      · exact num_rng (f1.tail.tail.tail.tail.tail)
      · exact num_rng (f1.tail.tail.tail.tail.tail.tail)
      · exact w2
      · exact bounds_i64 w3
      · exact bounds_u8 w4
      · exact (by have hx := hex0; first | exact ⟨Int.le_of_eq hx.symm, Int.le_of_eq hx⟩ | exact hx)
      · exact (by have hx := hex1; first | exact ⟨Int.le_of_eq hx.symm, Int.le_of_eq hx⟩ | exact hx)
      · exact (by have hx := hex2; first | exact ⟨Int.le_of_eq hx.symm, Int.le_of_eq hx⟩ | exact hx)
    · intro p hp
      simp only [e301_Hy, List.mem_cons, List.not_mem_nil, or_false] at hp
      rcases hp with rfl | rfl | rfl | rfl | rfl | rfl | rfl
      · exact xArr_rng g0
      · exact xArr_rng g1
      · exact xArr_rng g2
      · exact arrOf_rng (f1)
      · exact arrOf_rng (f1.tail)
      · exact arrOf_rng (f1.tail.tail)
      · exact arrOf_rng (f1.tail.tail.tail)
    · intro p hp is bs xs j
      simp only [e301_Hy, List.mem_cons, List.not_mem_nil, or_false] at hp
      rcases hp with rfl | rfl | rfl <;> exact vidF_rng _ _ _ (by decide) j
  exact law_true (ρ := (⟨[(x0.n : Int), (x1.n : Int), (x2.n : Int), intV (c1.getD 78 Go.undef), intV (c1.getD 79 Go.undef), intV (c1.getD 80 Go.undef), a2, a3, a4], [], [xArr x0 1 0, xArr x1 1 0, xArr x2 1 0, arrOf c1 0 64, arrOf c1 64 4, arrOf c1 68 4, arrOf c1 72 6], [], Iv (fun i j => match i, j with | 0, 0 => x0 | 1, 0 => x1 | 2, 0 => x2 | _, _ => Ext.none)⟩ : Env)) (G_ok _) (by kernel_rfl) e301_run rfl
    hok (by intro e he; cases he) (e301_vc x0 x1 x2 ((x0.n : Int)) ((x1.n : Int)) ((x2.n : Int)) (intV (c1.getD 78 Go.undef)) (intV (c1.getD 79 Go.undef)) (intV (c1.getD 80 Go.undef)) (a2) (a3) (a4) (xArr x0 1 0) (xArr x1 1 0) (xArr x2 1 0) (arrOf c1 0 64) (arrOf c1 64 4) (arrOf c1 68 4) (arrOf c1 72 6) (xlen_rng g0) (xlen_rng g1) (xlen_rng g2) (num_rng (f1.tail.tail.tail.tail)) (num_rng (f1.tail.tail.tail.tail.tail)) (num_rng (f1.tail.tail.tail.tail.tail.tail)) (w2) (bounds_i64 w3) (bounds_u8 w4) (xArr_rng g0) (xArr_rng g1) (xArr_rng g2) (arrOf_rng (f1)) (arrOf_rng (f1.tail)) (arrOf_rng (f1.tail.tail)) (arrOf_rng (f1.tail.tail.tail))) w (fun i j => by rcases i with _ | _ | _ | i <;> rcases j with _ | j <;> first | exact Ext.none_ok _ | exact g0.ok | exact g1.ok | exact g2.ok)
def e310_Hy : Hyp := ⟨[(.v 0, (0, 9223372036854775807)), (.v 1, (0, 9223372036854775807)), (.v 2, (0, 9223372036854775807)), (.v 3, (-32768, 32767)), (.v 4, (-32768, 32767)), (.v 5, (0, 65535)), (.v 6, (0, 127)), (.v 7, (-9223372036854775808, 9223372036854775807)), (.v 8, (0, 255)), ((.mod (.v 6) (.lit 4)), (3, 3)), ((.mod (.div (.sel (.app 1 (.cons (.v 1) (.cons (.av 1) .nil))) (.add (.div (.v 6) (.lit 4)) (.lit 512))) (.lit 64)) (.lit 2)), (1, 1)), ((.sel (.app 1 (.cons (.v 1) (.cons (.av 1) .nil))) (.add (.div (.v 6) (.lit 4)) (.lit 512))), (0, 127))], [(0, (0, 65535)), (1, (0, 255)), (2, (0, 65535)), (3, (0, 255)), (4, (0, 65535)), (5, (0, 65535)), (6, (-32768, 32767))], [], [(0, (0, 65535)), (1, (0, 255)), (2, (0, 32767))], [], [(0, ⟨.v 0, [(some .u16, .av 0)]⟩), (1, ⟨.v 1, [(some .u8, .av 1)]⟩), (2, ⟨.v 2, [(some .u16, .av 2)]⟩)]⟩
def e310_Ls : List SV := [.agg [.one (.xslc 0 (.lit 0) (.lit 0) (.v 0)), .one (.xslc 1 (.lit 0) (.lit 0) (.v 1)), .one (.xslc 2 (.lit 0) (.lit 0) (.v 2))], .agg (pcSegs 3 0 3 Pc1), .s (.int .i64 (.v 6)), .s (.int .i64 (.v 7)), .s (.int .u8 (.v 8))]

theorem e310_run : enter Try.prog G Gh 3000 6 4 e310_Hy e310_Ls [] = some ([], .s (.bool (.blit true)), none) := by kernel_rfl
theorem e310_vc (x0 : Ext) (x1 : Ext) (x2 : Ext) (nx0 nx1 nx2 n1_4 n1_5 n1_6 a2 a3 a4 : Int) (Ax0 Ax1 Ax2 A3 A4 A5 A6 : Nat → Int) (b0 : 0 ≤ nx0 ∧ nx0 ≤ 9223372036854775807) (b1 : 0 ≤ nx1 ∧ nx1 ≤ 9223372036854775807) (b2 : 0 ≤ nx2 ∧ nx2 ≤ 9223372036854775807) (b3 : -32768 ≤ n1_4 ∧ n1_4 ≤ 32767) (b4 : -32768 ≤ n1_5 ∧ n1_5 ≤ 32767) (b5 : 0 ≤ n1_6 ∧ n1_6 ≤ 65535) (b6 : 0 ≤ a2 ∧ a2 ≤ 127) (b7 : -9223372036854775808 ≤ a3 ∧ a3 ≤ 9223372036854775807) (b8 : 0 ≤ a4 ∧ a4 ≤ 255) (B0 : ∀ j, 0 ≤ Ax0 j ∧ Ax0 j ≤ 65535) (B1 : ∀ j, 0 ≤ Ax1 j ∧ Ax1 j ≤ 255) (B2 : ∀ j, 0 ≤ Ax2 j ∧ Ax2 j ≤ 65535) (B3 : ∀ j, 0 ≤ A3 j ∧ A3 j ≤ 255) (B4 : ∀ j, 0 ≤ A4 j ∧ A4 j ≤ 65535) (B5 : ∀ j, 0 ≤ A5 j ∧ A5 j ≤ 65535) (B6 : ∀ j, -32768 ≤ A6 j ∧ A6 j ≤ 32767) : E.b (⟨[nx0, nx1, nx2, n1_4, n1_5, n1_6, a2, a3, a4], [], [Ax0, Ax1, Ax2, A3, A4, A5, A6], [], Iv (fun i j => match i, j with | 0, 0 => x0 | 1, 0 => x1 | 2, 0 => x2 | _, _ => Ext.none)⟩ : Env) (.blit true) = true := by
  rfl
theorem e310_calls (x0 : Ext) (x1 : Ext) (x2 : Ext) (c1 : List Value) (l1 : c1.length = pcTotal Pc1) (f1 : PcFit c1 0 Pc1) (a2 : Int) (w2 : 0 ≤ a2 ∧ a2 ≤ 127) (a3 : Int) (w3 : (Lit.int .i64 a3).wf = true) (a4 : Int) (w4 : (Lit.int .u8 a4).wf = true) (hex0 : (a2) % 4 = 3) (hex1 : E.i (⟨[(x0.n : Int), (x1.n : Int), (x2.n : Int), intV (c1.getD 78 Go.undef), intV (c1.getD 79 Go.undef), intV (c1.getD 80 Go.undef), a2, a3, a4], [], [xArr x0 1 0, xArr x1 1 0, xArr x2 1 0, arrOf c1 0 64, arrOf c1 64 4, arrOf c1 68 4, arrOf c1 72 6], [], Iv (fun i j => match i, j with | 0, 0 => x0 | 1, 0 => x1 | 2, 0 => x2 | _, _ => Ext.none)⟩ : Env) (.mod (.div (.sel (.app 1 (.cons (.v 1) (.cons (.av 1) .nil))) (.add (.div (.v 6) (.lit 4)) (.lit 512))) (.lit 64)) (.lit 2)) = 1) (hex2 : 0 ≤ E.i (⟨[(x0.n : Int), (x1.n : Int), (x2.n : Int), intV (c1.getD 78 Go.undef), intV (c1.getD 79 Go.undef), intV (c1.getD 80 Go.undef), a2, a3, a4], [], [xArr x0 1 0, xArr x1 1 0, xArr x2 1 0, arrOf c1 0 64, arrOf c1 64 4, arrOf c1 68 4, arrOf c1 72 6], [], Iv (fun i j => match i, j with | 0, 0 => x0 | 1, 0 => x1 | 2, 0 => x2 | _, _ => Ext.none)⟩ : Env) (.sel (.app 1 (.cons (.v 1) (.cons (.av 1) .nil))) (.add (.div (.v 6) (.lit 4)) (.lit 512))) ∧ E.i (⟨[(x0.n : Int), (x1.n : Int), (x2.n : Int), intV (c1.getD 78 Go.undef), intV (c1.getD 79 Go.undef), intV (c1.getD 80 Go.undef), a2, a3, a4], [], [xArr x0 1 0, xArr x1 1 0, xArr x2 1 0, arrOf c1 0 64, arrOf c1 64 4, arrOf c1 68 4, arrOf c1 72 6], [], Iv (fun i j => match i, j with | 0, 0 => x0 | 1, 0 => x1 | 2, 0 => x2 | _, _ => Ext.none)⟩ : Env) (.sel (.app 1 (.cons (.v 1) (.cons (.av 1) .nil))) (.add (.div (.v 6) (.lit 4)) (.lit 512))) ≤ 127) (w : World) (g0 : XFit x0 w [some .u16]) (g1 : XFit x1 w [some .u8]) (g2 : XFit x2 w [some .u16]) :
    Calls Try.prog 4 #[.agg #[x0.v, x1.v, x2.v], .agg c1.toArray, .int .i64 a2, .int .i64 a3, .int .u8 a4] w fun r w' => r = .returned (.bool true) ∧ Below w.heap.size w w' := by
  have hc1 : cellsOf (⟨[(x0.n : Int), (x1.n : Int), (x2.n : Int), intV (c1.getD 78 Go.undef), intV (c1.getD 79 Go.undef), intV (c1.getD 80 Go.undef), a2, a3, a4], [], [xArr x0 1 0, xArr x1 1 0, xArr x2 1 0, arrOf c1 0 64, arrOf c1 64 4, arrOf c1 68 4, arrOf c1 72 6], [], Iv (fun i j => match i, j with | 0, 0 => x0 | 1, 0 => x1 | 2, 0 => x2 | _, _ => Ext.none)⟩ : Env) Loc.id (pcSegs 3 0 3 Pc1) = c1 := by
    rw [pc_cells Pc1 0 3 0 3 f1 (by intro j hj; rcases j with _ | _ | _ | _ | j <;> first | rfl | (simp [Pc1, pcA, pcB, pcI] at hj <;> omega)) (by intro j hj; simp [Pc1, pcA, pcB, pcI] at hj) (by intro j hj; rcases j with _ | _ | _ | j <;> first | rfl | (simp [Pc1, pcA, pcB, pcI] at hj <;> omega)), List.drop_zero, ← l1, List.take_length]
  have hx0 : SV.conc (⟨[(x0.n : Int), (x1.n : Int), (x2.n : Int), intV (c1.getD 78 Go.undef), intV (c1.getD 79 Go.undef), intV (c1.getD 80 Go.undef), a2, a3, a4], [], [xArr x0 1 0, xArr x1 1 0, xArr x2 1 0, arrOf c1 0 64, arrOf c1 64 4, arrOf c1 68 4, arrOf c1 72 6], [], Iv (fun i j => match i, j with | 0, 0 => x0 | 1, 0 => x1 | 2, 0 => x2 | _, _ => Ext.none)⟩ : Env) Loc.id (.s (.xslc 0 (.lit 0) (.lit 0) (.v 0))) = x0.v := conc_ext g0 rfl rfl
  have hx1 : SV.conc (⟨[(x0.n : Int), (x1.n : Int), (x2.n : Int), intV (c1.getD 78 Go.undef), intV (c1.getD 79 Go.undef), intV (c1.getD 80 Go.undef), a2, a3, a4], [], [xArr x0 1 0, xArr x1 1 0, xArr x2 1 0, arrOf c1 0 64, arrOf c1 64 4, arrOf c1 68 4, arrOf c1 72 6], [], Iv (fun i j => match i, j with | 0, 0 => x0 | 1, 0 => x1 | 2, 0 => x2 | _, _ => Ext.none)⟩ : Env) Loc.id (.s (.xslc 1 (.lit 0) (.lit 0) (.v 1))) = x1.v := conc_ext g1 rfl rfl
  have hx2 : SV.conc (⟨[(x0.n : Int), (x1.n : Int), (x2.n : Int), intV (c1.getD 78 Go.undef), intV (c1.getD 79 Go.undef), intV (c1.getD 80 Go.undef), a2, a3, a4], [], [xArr x0 1 0, xArr x1 1 0, xArr x2 1 0, arrOf c1 0 64, arrOf c1 64 4, arrOf c1 68 4, arrOf c1 72 6], [], Iv (fun i j => match i, j with | 0, 0 => x0 | 1, 0 => x1 | 2, 0 => x2 | _, _ => Ext.none)⟩ : Env) Loc.id (.s (.xslc 2 (.lit 0) (.lit 0) (.v 2))) = x2.v := conc_ext g2 rfl rfl
  have hargs : (e310_Ls.map (SV.conc (⟨[(x0.n : Int), (x1.n : Int), (x2.n : Int), intV (c1.getD 78 Go.undef), intV (c1.getD 79 Go.undef), intV (c1.getD 80 Go.undef), a2, a3, a4], [], [xArr x0 1 0, xArr x1 1 0, xArr x2 1 0, arrOf c1 0 64, arrOf c1 64 4, arrOf c1 68 4, arrOf c1 72 6], [], Iv (fun i j => match i, j with | 0, 0 => x0 | 1, 0 => x1 | 2, 0 => x2 | _, _ => Ext.none)⟩ : Env) Loc.id)).toArray = #[.agg #[x0.v, x1.v, x2.v], .agg c1.toArray, .int .i64 a2, .int .i64 a3, .int .u8 a4] := by
    refine congrArg List.toArray ?_
    exact (cons_eq (rows_eq hx0 hx1 hx2) (cons_eq (congrArg (fun l => Value.agg (List.toArray l)) hc1) (cons_eq rfl (cons_eq rfl (cons_eq rfl rfl)))))
  rw [← hargs]
  have hok : Hyp.ok e310_Hy (⟨[(x0.n : Int), (x1.n : Int), (x2.n : Int), intV (c1.getD 78 Go.undef), intV (c1.getD 79 Go.undef), intV (c1.getD 80 Go.undef), a2, a3, a4], [], [xArr x0 1 0, xArr x1 1 0, xArr x2 1 0, arrOf c1 0 64, arrOf c1 64 4, arrOf c1 68 4, arrOf c1 72 6], [], Iv (fun i j => match i, j with | 0, 0 => x0 | 1, 0 => x1 | 2, 0 => x2 | _, _ => Ext.none)⟩ : Env) := by
    refine ⟨?_, ?_, ?_, by simp [e310_Hy], ?_, by simp [e310_Hy]⟩
    · intro p hp
      simp only [e310_Hy, List.mem_cons, List.not_mem_nil, or_false] at hp
      rcases hp with rfl | rfl | rfl
      · exact xi_ok g0 rfl rfl rfl
      · exact xi_ok g1 rfl rfl rfl
      · exact xi_ok g2 rfl rfl rfl
    · intro p hp
      simp only [e310_Hy, List.mem_cons, List.not_mem_nil, or_false] at hp
      rcases hp with rfl | rfl | rfl | rfl | rfl | rfl | rfl | rfl | rfl | rfl | rfl | rfl
      · exact xlen_rng g0
      · exact xlen_rng g1
      · exact xlen_rng g2
      · exact num_rng (f1.tail.tail.tail.tail)
      · exact num_rng (f1.tail.tail.tail.tail.tail)
      · exact num_rng (f1.tail.tail.tail.tail.tail.tail)
      · exact w2
      · exact bounds_i64 w3
      · exact bounds_u8 w4
      · exact (by have hx := hex0; first | exact ⟨Int.le_of_eq hx.symm, Int.le_of_eq hx⟩ | exact hx)
      · exact (by have hx := hex1; first | exact ⟨Int.le_of_eq hx.symm, Int.le_of_eq hx⟩ | exact hx)
      · exact (by have hx := hex2; first | exact ⟨Int.le_of_eq hx.symm, Int.le_of_eq hx⟩ | exact hx)
    · intro p hp
      simp only [e310_Hy, List.mem_cons, List.not_mem_nil, or_false] at hp
      rcases hp with rfl | rfl | rfl | rfl | rfl | rfl | rfl
      · exact xArr_rng g0
      · exact xArr_rng g1
      · exact xArr_rng g2
      · exact arrOf_rng (f1)
      · exact arrOf_rng (f1.tail)
      · exact arrOf_rng (f1.tail.tail)
      · exact arrOf_rng (f1.tail.tail.tail)
    · intro p hp is bs xs j
      simp only [e310_Hy, List.mem_cons, List.not_mem_nil, or_false] at hp
      rcases hp with rfl | rfl | rfl <;> exact vidF_rng _ _ _ (by decide) j
  exact law_true (ρ := (⟨[(x0.n : Int), (x1.n : Int), (x2.n : Int), intV (c1.getD 78 Go.undef), intV (c1.getD 79 Go.undef), intV (c1.getD 80 Go.undef), a2, a3, a4], [], [xArr x0 1 0, xArr x1 1 0, xArr x2 1 0, arrOf c1 0 64, arrOf c1 64 4, arrOf c1 68 4, arrOf c1 72 6], [], Iv (fun i j => match i, j with | 0, 0 => x0 | 1, 0 => x1 | 2, 0 => x2 | _, _ => Ext.none)⟩ : Env)) (G_ok _) (by kernel_rfl) e310_run rfl
    hok (by intro e he; cases he) (e310_vc x0 x1 x2 ((x0.n : Int)) ((x1.n : Int)) ((x2.n : Int)) (intV (c1.getD 78 Go.undef)) (intV (c1.getD 79 Go.undef)) (intV (c1.getD 80 Go.undef)) (a2) (a3) (a4) (xArr x0 1 0) (xArr x1 1 0) (xArr x2 1 0) (arrOf c1 0 64) (arrOf c1 64 4) (arrOf c1 68 4) (arrOf c1 72 6) (xlen_rng g0) (xlen_rng g1) (xlen_rng g2) (num_rng (f1.tail.tail.tail.tail)) (num_rng (f1.tail.tail.tail.tail.tail)) (num_rng (f1.tail.tail.tail.tail.tail.tail)) (w2) (bounds_i64 w3) (bounds_u8 w4) (xArr_rng g0) (xArr_rng g1) (xArr_rng g2) (arrOf_rng (f1)) (arrOf_rng (f1.tail)) (arrOf_rng (f1.tail.tail)) (arrOf_rng (f1.tail.tail.tail))) w (fun i j => by rcases i with _ | _ | _ | i <;> rcases j with _ | j <;> first | exact Ext.none_ok _ | exact g0.ok | exact g1.ok | exact g2.ok)
def e311_Hy : Hyp := ⟨[(.v 0, (0, 9223372036854775807)), (.v 1, (0, 9223372036854775807)), (.v 2, (0, 9223372036854775807)), (.v 3, (-32768, 32767)), (.v 4, (-32768, 32767)), (.v 5, (0, 65535)), (.v 6, (0, 127)), (.v 7, (-9223372036854775808, 9223372036854775807)), (.v 8, (0, 255)), ((.mod (.v 6) (.lit 4)), (3, 3)), ((.mod (.div (.sel (.app 1 (.cons (.v 1) (.cons (.av 1) .nil))) (.add (.div (.v 6) (.lit 4)) (.lit 512))) (.lit 64)) (.lit 2)), (1, 1)), ((.sel (.app 1 (.cons (.v 1) (.cons (.av 1) .nil))) (.add (.div (.v 6) (.lit 4)) (.lit 512))), (128, 255))], [(0, (0, 65535)), (1, (0, 255)), (2, (0, 65535)), (3, (0, 255)), (4, (0, 65535)), (5, (0, 65535)), (6, (-32768, 32767))], [], [(0, (0, 65535)), (1, (0, 255)), (2, (0, 32767))], [], [(0, ⟨.v 0, [(some .u16, .av 0)]⟩), (1, ⟨.v 1, [(some .u8, .av 1)]⟩), (2, ⟨.v 2, [(some .u16, .av 2)]⟩)]⟩
def e311_Ls : List SV := [.agg [.one (.xslc 0 (.lit 0) (.lit 0) (.v 0)), .one (.xslc 1 (.lit 0) (.lit 0) (.v 1)), .one (.xslc 2 (.lit 0) (.lit 0) (.v 2))], .agg (pcSegs 3 0 3 Pc1), .s (.int .i64 (.v 6)), .s (.int .i64 (.v 7)), .s (.int .u8 (.v 8))]

theorem e311_run : enter Try.prog G Gh 3000 6 4 e311_Hy e311_Ls [] = some ([], .s (.bool (.blit true)), none) := by kernel_rfl
theorem e311_vc (x0 : Ext) (x1 : Ext) (x2 : Ext) (nx0 nx1 nx2 n1_4 n1_5 n1_6 a2 a3 a4 : Int) (Ax0 Ax1 Ax2 A3 A4 A5 A6 : Nat → Int) (b0 : 0 ≤ nx0 ∧ nx0 ≤ 9223372036854775807) (b1 : 0 ≤ nx1 ∧ nx1 ≤ 9223372036854775807) (b2 : 0 ≤ nx2 ∧ nx2 ≤ 9223372036854775807) (b3 : -32768 ≤ n1_4 ∧ n1_4 ≤ 32767) (b4 : -32768 ≤ n1_5 ∧ n1_5 ≤ 32767) (b5 : 0 ≤ n1_6 ∧ n1_6 ≤ 65535) (b6 : 0 ≤ a2 ∧ a2 ≤ 127) (b7 : -9223372036854775808 ≤ a3 ∧ a3 ≤ 9223372036854775807) (b8 : 0 ≤ a4 ∧ a4 ≤ 255) (B0 : ∀ j, 0 ≤ Ax0 j ∧ Ax0 j ≤ 65535) (B1 : ∀ j, 0 ≤ Ax1 j ∧ Ax1 j ≤ 255) (B2 : ∀ j, 0 ≤ Ax2 j ∧ Ax2 j ≤ 65535) (B3 : ∀ j, 0 ≤ A3 j ∧ A3 j ≤ 255) (B4 : ∀ j, 0 ≤ A4 j ∧ A4 j ≤ 65535) (B5 : ∀ j, 0 ≤ A5 j ∧ A5 j ≤ 65535) (B6 : ∀ j, -32768 ≤ A6 j ∧ A6 j ≤ 32767) : E.b (⟨[nx0, nx1, nx2, n1_4, n1_5, n1_6, a2, a3, a4], [], [Ax0, Ax1, Ax2, A3, A4, A5, A6], [], Iv (fun i j => match i, j with | 0, 0 => x0 | 1, 0 => x1 | 2, 0 => x2 | _, _ => Ext.none)⟩ : Env) (.blit true) = true := by
  rfl
theorem e311_calls (x0 : Ext) (x1 : Ext) (x2 : Ext) (c1 : List Value) (l1 : c1.length = pcTotal Pc1) (f1 : PcFit c1 0 Pc1) (a2 : Int) (w2 : 0 ≤ a2 ∧ a2 ≤ 127) (a3 : Int) (w3 : (Lit.int .i64 a3).wf = true) (a4 : Int) (w4 : (Lit.int .u8 a4).wf = true) (hex0 : (a2) % 4 = 3) (hex1 : E.i (⟨[(x0.n : Int), (x1.n : Int), (x2.n : Int), intV (c1.getD 78 Go.undef), intV (c1.getD 79 Go.undef), intV (c1.getD 80 Go.undef), a2, a3, a4], [], [xArr x0 1 0, xArr x1 1 0, xArr x2 1 0, arrOf c1 0 64, arrOf c1 64 4, arrOf c1 68 4, arrOf c1 72 6], [], Iv (fun i j => match i, j with | 0, 0 => x0 | 1, 0 => x1 | 2, 0 => x2 | _, _ => Ext.none)⟩ : Env) (.mod (.div (.sel (.app 1 (.cons (.v 1) (.cons (.av 1) .nil))) (.add (.div (.v 6) (.lit 4)) (.lit 512))) (.lit 64)) (.lit 2)) = 1) (hex2 : 128 ≤ E.i (⟨[(x0.n : Int), (x1.n : Int), (x2.n : Int), intV (c1.getD 78 Go.undef), intV (c1.getD 79 Go.undef), intV (c1.getD 80 Go.undef), a2, a3, a4], [], [xArr x0 1 0, xArr x1 1 0, xArr x2 1 0, arrOf c1 0 64, arrOf c1 64 4, arrOf c1 68 4, arrOf c1 72 6], [], Iv (fun i j => match i, j with | 0, 0 => x0 | 1, 0 => x1 | 2, 0 => x2 | _, _ => Ext.none)⟩ : Env) (.sel (.app 1 (.cons (.v 1) (.cons (.av 1) .nil))) (.add (.div (.v 6) (.lit 4)) (.lit 512))) ∧ E.i (⟨[(x0.n : Int), (x1.n : Int), (x2.n : Int), intV (c1.getD 78 Go.undef), intV (c1.getD 79 Go.undef), intV (c1.getD 80 Go.undef), a2, a3, a4], [], [xArr x0 1 0, xArr x1 1 0, xArr x2 1 0, arrOf c1 0 64, arrOf c1 64 4, arrOf c1 68 4, arrOf c1 72 6], [], Iv (fun i j => match i, j with | 0, 0 => x0 | 1, 0 => x1 | 2, 0 => x2 | _, _ => Ext.none)⟩ : Env) (.sel (.app 1 (.cons (.v 1) (.cons (.av 1) .nil))) (.add (.div (.v 6) (.lit 4)) (.lit 512))) ≤ 255) (w : World) (g0 : XFit x0 w [some .u16]) (g1 : XFit x1 w [some .u8]) (g2 : XFit x2 w [some .u16]) :
    Calls Try.prog 4 #[.agg #[x0.v, x1.v, x2.v], .agg c1.toArray, .int .i64 a2, .int .i64 a3, .int .u8 a4] w fun r w' => r = .returned (.bool true) ∧ Below w.heap.size w w' := by
  have hc1 : cellsOf (⟨[(x0.n : Int), (x1.n : Int), (x2.n : Int), intV (c1.getD 78 Go.undef), intV (c1.getD 79 Go.undef), intV (c1.getD 80 Go.undef), a2, a3, a4], [], [xArr x0 1 0, xArr x1 1 0, xArr x2 1 0, arrOf c1 0 64, arrOf c1 64 4, arrOf c1 68 4, arrOf c1 72 6], [], Iv (fun i j => match i, j with | 0, 0 => x0 | 1, 0 => x1 | 2, 0 => x2 | _, _ => Ext.none)⟩ : Env) Loc.id (pcSegs 3 0 3 Pc1) = c1 := by
    rw [pc_cells Pc1 0 3 0 3 f1 (by intro j hj; rcases j with _ | _ | _ | _ | j <;> first | rfl | (simp [Pc1, pcA, pcB, pcI] at hj <;> omega)) (by intro j hj; simp [Pc1, pcA, pcB, pcI] at hj) (by intro j hj; rcases j with _ | _ | _ | j <;> first | rfl | (simp [Pc1, pcA, pcB, pcI] at hj <;> omega)), List.drop_zero, ← l1, List.take_length]
  have hx0 : SV.conc (⟨[(x0.n : Int), (x1.n : Int), (x2.n : Int), intV (c1.getD 78 Go.undef), intV (c1.getD 79 Go.undef), intV (c1.getD 80 Go.undef), a2, a3, a4], [], [xArr x0 1 0, xArr x1 1 0, xArr x2 1 0, arrOf c1 0 64, arrOf c1 64 4, arrOf c1 68 4, arrOf c1 72 6], [], Iv (fun i j => match i, j with | 0, 0 => x0 | 1, 0 => x1 | 2, 0 => x2 | _, _ => Ext.none)⟩ : Env) Loc.id (.s (.xslc 0 (.lit 0) (.lit 0) (.v 0))) = x0.v := conc_ext g0 rfl rfl
  have hx1 : SV.conc (⟨[(x0.n : Int), (x1.n : Int), (x2.n : Int), intV (c1.getD 78 Go.undef), intV (c1.getD 79 Go.undef), intV (c1.getD 80 Go.undef), a2, a3, a4], [], [xArr x0 1 0, xArr x1 1 0, xArr x2 1 0, arrOf c1 0 64, arrOf c1 64 4, arrOf c1 68 4, arrOf c1 72 6], [], Iv (fun i j => match i, j with | 0, 0 => x0 | 1, 0 => x1 | 2, 0 => x2 | _, _ => Ext.none)⟩ : Env) Loc.id (.s (.xslc 1 (.lit 0) (.lit 0) (.v 1))) = x1.v := conc_ext g1 rfl rfl
  have hx2 : SV.conc (⟨[(x0.n : Int), (x1.n : Int), (x2.n : Int), intV (c1.getD 78 Go.undef), intV (c1.getD 79 Go.undef), intV (c1.getD 80 Go.undef), a2, a3, a4], [], [xArr x0 1 0, xArr x1 1 0, xArr x2 1 0, arrOf c1 0 64, arrOf c1 64 4, arrOf c1 68 4, arrOf c1 72 6], [], Iv (fun i j => match i, j with | 0, 0 => x0 | 1, 0 => x1 | 2, 0 => x2 | _, _ => Ext.none)⟩ : Env) Loc.id (.s (.xslc 2 (.lit 0) (.lit 0) (.v 2))) = x2.v := conc_ext g2 rfl rfl
  have hargs : (e311_Ls.map (SV.conc (⟨[(x0.n : Int), (x1.n : Int), (x2.n : Int), intV (c1.getD 78 Go.undef), intV (c1.getD 79 Go.undef), intV (c1.getD 80 Go.undef), a2, a3, a4], [], [xArr x0 1 0, xArr x1 1 0, xArr x2 1 0, arrOf c1 0 64, arrOf c1 64 4, arrOf c1 68 4, arrOf c1 72 6], [], Iv (fun i j => match i, j with | 0, 0 => x0 | 1, 0 => x1 | 2, 0 => x2 | _, _ => Ext.none)⟩ : Env) Loc.id)).toArray = #[.agg #[x0.v, x1.v, x2.v], .agg c1.toArray, .int .i64 a2, .int .i64 a3, .int .u8 a4] := by
    refine congrArg List.toArray ?_
    exact (cons_eq (rows_eq hx0 hx1 hx2) (cons_eq (congrArg (fun l => Value.agg (List.toArray l)) hc1) (cons_eq rfl (cons_eq rfl (cons_eq rfl rfl)))))
  rw [← hargs]
  have hok : Hyp.ok e311_Hy (⟨[(x0.n : Int), (x1.n : Int), (x2.n : Int), intV (c1.getD 78 Go.undef), intV (c1.getD 79 Go.undef), intV (c1.getD 80 Go.undef), a2, a3, a4], [], [xArr x0 1 0, xArr x1 1 0, xArr x2 1 0, arrOf c1 0 64, arrOf c1 64 4, arrOf c1 68 4, arrOf c1 72 6], [], Iv (fun i j => match i, j with | 0, 0 => x0 | 1, 0 => x1 | 2, 0 => x2 | _, _ => Ext.none)⟩ : Env) := by
    refine ⟨?_, ?_, ?_, by simp [e311_Hy], ?_, by simp [e311_Hy]⟩
    · intro p hp
      simp only [e311_Hy, List.mem_cons, List.not_mem_nil, or_false] at hp
      rcases hp with rfl | rfl | rfl
      · exact xi_ok g0 rfl rfl rfl
      · exact xi_ok g1 rfl rfl rfl
      · exact xi_ok g2 rfl rfl rfl
    · intro p hp
      simp only [e311_Hy, List.mem_cons, List.not_mem_nil, or_false] at hp
      rcases hp with rfl | rfl | rfl | rfl | rfl | rfl | rfl | rfl | rfl | rfl | rfl | rfl
      · exact xlen_rng g0
      · exact xlen_rng g1
      · exact xlen_rng g2
      · exact num_rng (f1.tail.tail.tail.tail)
      · exact num_rng (f1.tail.tail.tail.tail.tail)
      · exact num_rng (f1.tail.tail.tail.tail.tail.tail)
      · exact w2
      · exact bounds_i64 w3
      · exact bounds_u8 w4
      · exact (by have hx := hex0; first | exact ⟨Int.le_of_eq hx.symm, Int.le_of_eq hx⟩ | exact hx)
      · exact (by have hx := hex1; first | exact ⟨Int.le_of_eq hx.symm, Int.le_of_eq hx⟩ | exact hx)
      · exact (by have hx := hex2; first | exact ⟨Int.le_of_eq hx.symm, Int.le_of_eq hx⟩ | exact hx)
    · intro p hp
      simp only [e311_Hy, List.mem_cons, List.not_mem_nil, or_false] at hp
      rcases hp with rfl | rfl | rfl | rfl | rfl | rfl | rfl
      · exact xArr_rng g0
      · exact xArr_rng g1
      · exact xArr_rng g2
      · exact arrOf_rng (f1)
      · exact arrOf_rng (f1.tail)
      · exact arrOf_rng (f1.tail.tail)
      · exact arrOf_rng (f1.tail.tail.tail)
    · intro p hp is bs xs j
      simp only [e311_Hy, List.mem_cons, List.not_mem_nil, or_false] at hp
      rcases hp with rfl | rfl | rfl <;> exact vidF_rng _ _ _ (by decide) j
  exact law_true (ρ := (⟨[(x0.n : Int), (x1.n : Int), (x2.n : Int), intV (c1.getD 78 Go.undef), intV (c1.getD 79 Go.undef), intV (c1.getD 80 Go.undef), a2, a3, a4], [], [xArr x0 1 0, xArr x1 1 0, xArr x2 1 0, arrOf c1 0 64, arrOf c1 64 4, arrOf c1 68 4, arrOf c1 72 6], [], Iv (fun i j => match i, j with | 0, 0 => x0 | 1, 0 => x1 | 2, 0 => x2 | _, _ => Ext.none)⟩ : Env)) (G_ok _) (by kernel_rfl) e311_run rfl
    hok (by intro e he; cases he) (e311_vc x0 x1 x2 ((x0.n : Int)) ((x1.n : Int)) ((x2.n : Int)) (intV (c1.getD 78 Go.undef)) (intV (c1.getD 79 Go.undef)) (intV (c1.getD 80 Go.undef)) (a2) (a3) (a4) (xArr x0 1 0) (xArr x1 1 0) (xArr x2 1 0) (arrOf c1 0 64) (arrOf c1 64 4) (arrOf c1 68 4) (arrOf c1 72 6) (xlen_rng g0) (xlen_rng g1) (xlen_rng g2) (num_rng (f1.tail.tail.tail.tail)) (num_rng (f1.tail.tail.tail.tail.tail)) (num_rng (f1.tail.tail.tail.tail.tail.tail)) (w2) (bounds_i64 w3) (bounds_u8 w4) (xArr_rng g0) (xArr_rng g1) (xArr_rng g2) (arrOf_rng (f1)) (arrOf_rng (f1.tail)) (arrOf_rng (f1.tail.tail)) (arrOf_rng (f1.tail.tail.tail))) w (fun i j => by rcases i with _ | _ | _ | i <;> rcases j with _ | j <;> first | exact Ext.none_ok _ | exact g0.ok | exact g1.ok | exact g2.ok)
end Go.Proofs.Ythladllkckkjpaa.SpriteOf
