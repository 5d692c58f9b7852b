/- A part of the law CellDots, which returns true for every input. Each dot of each layer, in each mode, is the one that the document says. No condition. -/
import Derived.Test.YtcamkhjahdebeaaCellDots0
namespace Go.Proofs.Ytcamkhjahdebeaa.CellDots
open Go.Sx Go.ChangeShapes Go.WideShapes Go.ChangeAt Go.RowKit
set_option linter.unusedVariables false
set_option linter.unusedSimpArgs false
set_option maxRecDepth 100000
def e0_6_Hy : Hyp := ⟨[(.v 0, (0, 9223372036854775807)), (.v 1, (0, 9223372036854775807)), (.v 2, (0, 9223372036854775807)), (.v 3, (-32768, 32767)), (.v 4, (-32768, 32767)), (.v 5, (0, 65535)), (.v 6, (-9223372036854775808, 9223372036854775807)), (.v 7, (-9223372036854775808, 9223372036854775807)), (.v 8, (-9223372036854775808, 9223372036854775807)), ((.mod (.sel (.av 3) (.lit 5)) (.lit 8)), (6, 6))], [(0, (0, 65535)), (1, (0, 255)), (2, (0, 65535)), (3, (0, 255)), (4, (0, 65535)), (5, (0, 65535)), (6, (-32768, 32767))], [], [(0, (0, 65535)), (1, (0, 255)), (2, (0, 32767))], [], [(0, ⟨.v 0, [(some .u16, .av 0)]⟩), (1, ⟨.v 1, [(some .u8, .av 1)]⟩), (2, ⟨.v 2, [(some .u16, .av 2)]⟩)]⟩
def e0_6_Ls : List SV := [.agg [.one (.xslc 0 (.lit 0) (.lit 0) (.v 0)), .one (.xslc 1 (.lit 0) (.lit 0) (.v 1)), .one (.xslc 2 (.lit 0) (.lit 0) (.v 2))], .agg (pcSegs 3 0 3 Pc1), .agg (.one (.int .i64 (.lit (0))) :: pcSegs 7 0 6 Pc2)]
def e0_6_0 : E := .sel (.av 3) (.lit 5)
def e0_6_1 : E := .mod e0_6_0 (.lit 8)
def e0_6_2 : E := .app 0 (.cons (.v 0) (.cons (.av 0) .nil))
def e0_6_3 : E := .app 1 (.cons (.v 1) (.cons (.av 1) .nil))
def e0_6_4 : E := .app 2 (.cons (.v 2) (.cons (.av 2) .nil))
def e0_6_5 : E := .le (.v 9) (.lit 19)
def e0_6_6 : E := .add (.v 9) (.lit 1)
noncomputable def e0_6_T0 : List Item := todoS Try.prog G Gh [] 3000 0 3 e0_6_Hy e0_6_Ls [] 5
noncomputable def e0_6_h0 : Head := ⟨5, e0_6_T0, ⟨[((.v 0), (0, 9223372036854775807)), ((.v 1), (0, 9223372036854775807)), ((.v 2), (0, 9223372036854775807)), ((.v 3), ((-32768), 32767)), ((.v 4), ((-32768), 32767)), ((.v 5), (0, 65535)), ((.v 6), ((-9223372036854775808), 9223372036854775807)), ((.v 7), ((-9223372036854775808), 9223372036854775807)), ((.v 8), ((-9223372036854775808), 9223372036854775807)), (e0_6_1, (6, 6)), ((.v 9), (0, 20))], [(0, (0, 65535)), (1, (0, 255)), (2, (0, 65535)), (3, (0, 255)), (4, (0, 65535)), (5, (0, 65535)), (6, ((-32768), 32767))], [], [(0, (0, 65535)), (1, (0, 255)), (2, (0, 32767))], [], [(0, ⟨(.v 0), [(some .u16, (.av 0))]⟩), (1, ⟨(.v 1), [(some .u8, (.av 1))]⟩), (2, ⟨(.v 2), [(some .u16, (.av 2))]⟩)]⟩, [⟨9, [], .s (.int .i64 (.v 9))⟩, ⟨8, [], .s (.ptr 5 (.lit 0))⟩, ⟨7, [], .s (.ptr 4 (.lit 0))⟩, ⟨5, [], .s (.ptr 2 (.lit 0))⟩, ⟨4, [], .s (.ptr 1 (.lit 0))⟩, ⟨3, [], .s (.ptr 0 (.lit 0))⟩], [⟨25, [.one (.xslc 0 (.lit 0) (.lit 0) (.v 0)), .one (.xslc 1 (.lit 0) (.lit 0) (.v 1)), .one (.xslc 2 (.lit 0) (.lit 0) (.v 2))], true, none, false⟩, ⟨32, [.run .u8 (.lit 64) (.av 3) 0, .run .u16 (.lit 4) (.av 4) 0, .run .u16 (.lit 4) (.av 5) 0, .run .i16 (.lit 6) (.av 6) 0, .one (.int .i16 (.v 3)), .one (.int .i16 (.v 4)), .one (.int .u16 (.v 5))], true, none, false⟩, ⟨34, [.one (.int .i64 (.lit 0)), .one (.int .i64 (.v 6)), .one (.int .i64 (.v 7)), .one (.int .i64 (.v 8))], true, none, false⟩, ⟨25, [.one (.xslc 0 (.lit 0) (.lit 0) (.v 0)), .one (.xslc 1 (.lit 0) (.lit 0) (.v 1)), .one (.xslc 2 (.lit 0) (.lit 0) (.v 2))], true, none, false⟩, ⟨45, [.run .u16 (.lit 32768) e0_6_2 0, .run .u8 (.lit 544) e0_6_3 0, .run .u16 (.lit 256) e0_6_4 0], true, none, false⟩, ⟨32, [.run .u8 (.lit 64) (.av 3) 0, .run .u16 (.lit 4) (.av 4) 0, .run .u16 (.lit 4) (.av 5) 0, .run .i16 (.lit 6) (.av 6) 0, .one (.int .i16 (.v 3)), .one (.int .i16 (.v 4)), .one (.int .u16 (.v 5))], true, none, false⟩]⟩
noncomputable def e0_6_hs : List Head := [e0_6_h0]
def e0_6_D : Dim := ⟨10, 0, 7, 9, 0, 7, 0⟩
theorem e0_6_st : startL Try.prog G Gh e0_6_D e0_6_hs [] 3000 0 3 e0_6_Hy e0_6_Ls [] = some (.jump 0 e0_6_T0 ⟨[(9, (.lit 0))], [], []⟩) := by kernel_rfl
theorem e0_6_sg0 : segL Try.prog G Gh e0_6_D e0_6_hs [] 3000 0 3 e0_6_h0 = some (.ite e0_6_5 (.jump 0 e0_6_T0 ⟨[(9, e0_6_6)], [], []⟩) (.ret (.s (.bool (.blit true))) [⟨25, [.one (.xslc 0 (.lit 0) (.lit 0) (.v 0)), .one (.xslc 1 (.lit 0) (.lit 0) (.v 1)), .one (.xslc 2 (.lit 0) (.lit 0) (.v 2))], true, none, false⟩, ⟨32, [.run .u8 (.lit 64) (.av 3) 0, .run .u16 (.lit 4) (.av 4) 0, .run .u16 (.lit 4) (.av 5) 0, .run .i16 (.lit 6) (.av 6) 0, .one (.int .i16 (.v 3)), .one (.int .i16 (.v 4)), .one (.int .u16 (.v 5))], true, none, false⟩, ⟨34, [.one (.int .i64 (.lit 0)), .one (.int .i64 (.v 6)), .one (.int .i64 (.v 7)), .one (.int .i64 (.v 8))], true, none, false⟩, ⟨25, [.one (.xslc 0 (.lit 0) (.lit 0) (.v 0)), .one (.xslc 1 (.lit 0) (.lit 0) (.v 1)), .one (.xslc 2 (.lit 0) (.lit 0) (.v 2))], true, none, false⟩, ⟨45, [.run .u16 (.lit 32768) e0_6_2 0, .run .u8 (.lit 544) e0_6_3 0, .run .u16 (.lit 256) e0_6_4 0], true, none, false⟩, ⟨32, [.run .u8 (.lit 64) (.av 3) 0, .run .u16 (.lit 4) (.av 4) 0, .run .u16 (.lit 4) (.av 5) 0, .run .i16 (.lit 6) (.av 6) 0, .one (.int .i16 (.v 3)), .one (.int .i16 (.v 4)), .one (.int .u16 (.v 5))], true, none, false⟩, ⟨25, [.one (.xslc 0 (.lit 0) (.lit 0) (.v 0)), .one (.xslc 1 (.lit 0) (.lit 0) (.v 1)), .one (.xslc 2 (.lit 0) (.lit 0) (.v 2))], true, none, false⟩, ⟨45, [.run .u16 (.lit 32768) e0_6_2 0, .run .u8 (.lit 544) e0_6_3 0, .run .u16 (.lit 256) e0_6_4 0], true, none, false⟩])) := by kernel_rfl
def e0_6_Base (x0 : Ext) (x1 : Ext) (x2 : Ext) (nx0 nx1 nx2 n1_4 n1_5 n1_6 n2_0 n2_1 n2_2 : Int) (Ax0 Ax1 Ax2 A3 A4 A5 A6 : Nat → Int) : Prop := (0 ≤ nx0 ∧ nx0 ≤ 9223372036854775807) ∧ (0 ≤ nx1 ∧ nx1 ≤ 9223372036854775807) ∧ (0 ≤ nx2 ∧ nx2 ≤ 9223372036854775807) ∧ (-32768 ≤ n1_4 ∧ n1_4 ≤ 32767) ∧ (-32768 ≤ n1_5 ∧ n1_5 ≤ 32767) ∧ (0 ≤ n1_6 ∧ n1_6 ≤ 65535) ∧ (-9223372036854775808 ≤ n2_0 ∧ n2_0 ≤ 9223372036854775807) ∧ (-9223372036854775808 ≤ n2_1 ∧ n2_1 ≤ 9223372036854775807) ∧ (-9223372036854775808 ≤ n2_2 ∧ n2_2 ≤ 9223372036854775807) ∧ (∀ j, 0 ≤ Ax0 j ∧ Ax0 j ≤ 65535) ∧ (∀ j, 0 ≤ Ax1 j ∧ Ax1 j ≤ 255) ∧ (∀ j, 0 ≤ Ax2 j ∧ Ax2 j ≤ 65535) ∧ (∀ j, 0 ≤ A3 j ∧ A3 j ≤ 255) ∧ (∀ j, 0 ≤ A4 j ∧ A4 j ≤ 65535) ∧ (∀ j, 0 ≤ A5 j ∧ A5 j ≤ 65535) ∧ (∀ j, -32768 ≤ A6 j ∧ A6 j ≤ 32767) ∧ nx0 = (x0.n : Int) ∧ nx1 = (x1.n : Int) ∧ nx2 = (x2.n : Int) ∧ Ax0 = xArr x0 1 0 ∧ Ax1 = xArr x1 1 0 ∧ Ax2 = xArr x2 1 0 ∧ (A3) 5 % 8 = 6 ∧ True
def e0_6_J0 (nx0 nx1 nx2 n1_4 n1_5 n1_6 n2_0 n2_1 n2_2 y9 : Int) (Ax0 Ax1 Ax2 A3 A4 A5 A6 : Nat → Int) : Prop := (0 ≤ y9 ∧ y9 ≤ 20) ∧ True
def e0_6_Inv (x0 : Ext) (x1 : Ext) (x2 : Ext) : Nat → Env → Prop
  | 0, ρ => ∃ (nx0 nx1 nx2 n1_4 n1_5 n1_6 n2_0 n2_1 n2_2 y9 : Int) (Ax0 Ax1 Ax2 A3 A4 A5 A6 : Nat → Int), ρ = (⟨[nx0, nx1, nx2, n1_4, n1_5, n1_6, n2_0, n2_1, n2_2, y9], [], [Ax0, Ax1, Ax2, A3, A4, A5, A6], [], Iv (fun i j => match i, j with | 0, 0 => x0 | 1, 0 => x1 | 2, 0 => x2 | _, _ => Ext.none)⟩ : Env) ∧ e0_6_Base x0 x1 x2 nx0 nx1 nx2 n1_4 n1_5 n1_6 n2_0 n2_1 n2_2 Ax0 Ax1 Ax2 A3 A4 A5 A6 ∧ e0_6_J0 nx0 nx1 nx2 n1_4 n1_5 n1_6 n2_0 n2_1 n2_2 y9 Ax0 Ax1 Ax2 A3 A4 A5 A6
  | _, _ => False
def e0_6_mu : Nat → Env → Nat := fun _ ρ => (21 - ρ.i.getD 9 0).toNat
theorem e0_6_vc0 (x0 : Ext) (x1 : Ext) (x2 : Ext) (nx0 nx1 nx2 n1_4 n1_5 n1_6 n2_0 n2_1 n2_2 y9 : Int) (Ax0 Ax1 Ax2 A3 A4 A5 A6 : Nat → Int) (hB : e0_6_Base x0 x1 x2 nx0 nx1 nx2 n1_4 n1_5 n1_6 n2_0 n2_1 n2_2 Ax0 Ax1 Ax2 A3 A4 A5 A6) (hJ : e0_6_J0 nx0 nx1 nx2 n1_4 n1_5 n1_6 n2_0 n2_1 n2_2 y9 Ax0 Ax1 Ax2 A3 A4 A5 A6) :
    LT.holds (⟨[nx0, nx1, nx2, n1_4, n1_5, n1_6, n2_0, n2_1, n2_2, y9], [], [Ax0, Ax1, Ax2, A3, A4, A5, A6], [], Iv (fun i j => match i, j with | 0, 0 => x0 | 1, 0 => x1 | 2, 0 => x2 | _, _ => Ext.none)⟩ : Env) (fun v _ => retTrue (⟨[nx0, nx1, nx2, n1_4, n1_5, n1_6, n2_0, n2_1, n2_2, y9], [], [Ax0, Ax1, Ax2, A3, A4, A5, A6], [], Iv (fun i j => match i, j with | 0, 0 => x0 | 1, 0 => x1 | 2, 0 => x2 | _, _ => Ext.none)⟩ : Env) v) (fun j' todo ρ' => (e0_6_hs[j']?.map (·.todo)) = some todo ∧ e0_6_Inv x0 x1 x2 j' ρ' ∧ e0_6_mu j' ρ' < e0_6_mu 0 (⟨[nx0, nx1, nx2, n1_4, n1_5, n1_6, n2_0, n2_1, n2_2, y9], [], [Ax0, Ax1, Ax2, A3, A4, A5, A6], [], Iv (fun i j => match i, j with | 0, 0 => x0 | 1, 0 => x1 | 2, 0 => x2 | _, _ => Ext.none)⟩ : Env)) (.ite e0_6_5 (.jump 0 e0_6_T0 ⟨[(9, e0_6_6)], [], []⟩) (.ret (.s (.bool (.blit true))) [⟨25, [.one (.xslc 0 (.lit 0) (.lit 0) (.v 0)), .one (.xslc 1 (.lit 0) (.lit 0) (.v 1)), .one (.xslc 2 (.lit 0) (.lit 0) (.v 2))], true, none, false⟩, ⟨32, [.run .u8 (.lit 64) (.av 3) 0, .run .u16 (.lit 4) (.av 4) 0, .run .u16 (.lit 4) (.av 5) 0, .run .i16 (.lit 6) (.av 6) 0, .one (.int .i16 (.v 3)), .one (.int .i16 (.v 4)), .one (.int .u16 (.v 5))], true, none, false⟩, ⟨34, [.one (.int .i64 (.lit 0)), .one (.int .i64 (.v 6)), .one (.int .i64 (.v 7)), .one (.int .i64 (.v 8))], true, none, false⟩, ⟨25, [.one (.xslc 0 (.lit 0) (.lit 0) (.v 0)), .one (.xslc 1 (.lit 0) (.lit 0) (.v 1)), .one (.xslc 2 (.lit 0) (.lit 0) (.v 2))], true, none, false⟩, ⟨45, [.run .u16 (.lit 32768) e0_6_2 0, .run .u8 (.lit 544) e0_6_3 0, .run .u16 (.lit 256) e0_6_4 0], true, none, false⟩, ⟨32, [.run .u8 (.lit 64) (.av 3) 0, .run .u16 (.lit 4) (.av 4) 0, .run .u16 (.lit 4) (.av 5) 0, .run .i16 (.lit 6) (.av 6) 0, .one (.int .i16 (.v 3)), .one (.int .i16 (.v 4)), .one (.int .u16 (.v 5))], true, none, false⟩, ⟨25, [.one (.xslc 0 (.lit 0) (.lit 0) (.v 0)), .one (.xslc 1 (.lit 0) (.lit 0) (.v 1)), .one (.xslc 2 (.lit 0) (.lit 0) (.v 2))], true, none, false⟩, ⟨45, [.run .u16 (.lit 32768) e0_6_2 0, .run .u8 (.lit 544) e0_6_3 0, .run .u16 (.lit 256) e0_6_4 0], true, none, false⟩])) := by
  simp only [LT.holds, retTrue]
  refine ⟨fun hc0 => ?_, fun hc0 => ?_⟩
  ·
    refine ⟨rfl, ⟨_, _, _, _, _, _, _, _, _, _, _, _, _, _, _, _, _, rfl, hB, ?_⟩, ?_⟩
    simp only [e0_6_J0, and_true] at *
    first | omega | (simp only [e0_6_0, e0_6_1, e0_6_5, e0_6_6, i_v, b_bv, i_lit, b_blit, i_add, i_sub, i_mul, i_div, i_mod, i_tdiv, i_tmod, i_ite, b_ite, b_lt, b_le, b_eq, b_not, b_and, b_or, b_iff, i_sel, a_tab, i_pow2, List.getD_cons_zero, List.getD_cons_succ, decide_eq_true_eq, decide_eq_false_iff_not, Bool.and_eq_true, Bool.or_eq_true, Bool.not_eq_true', Bool.not_eq_false', Bool.and_eq_false_iff, Bool.or_eq_false_iff, Bool.not_not, ite_tt, ite_ff, iff_tt, iff_ff, a_av, a_ite, a_upd] at *; omega)
    simp only [e0_6_mu, e0_6_J0, Env.app, setAll, List.map_cons, List.map_nil, List.set, List.getD_cons_zero, List.getD_cons_succ, e0_6_0, e0_6_1, e0_6_5, e0_6_6, i_v, b_bv, i_lit, b_blit, i_add, i_sub, i_mul, i_div, i_mod, i_tdiv, i_tmod, i_ite, b_ite, b_lt, b_le, b_eq, b_not, b_and, b_or, b_iff, i_sel, a_tab, i_pow2, List.getD_cons_zero, List.getD_cons_succ, decide_eq_true_eq, decide_eq_false_iff_not, Bool.and_eq_true, Bool.or_eq_true, Bool.not_eq_true', Bool.not_eq_false', Bool.and_eq_false_iff, Bool.or_eq_false_iff, Bool.not_not, ite_tt, ite_ff, iff_tt, iff_ff, a_av, a_ite, a_upd] at *
    omega
  ·
    rfl
theorem e0_6_vcS (x0 : Ext) (x1 : Ext) (x2 : Ext) (nx0 nx1 nx2 n1_4 n1_5 n1_6 n2_0 n2_1 n2_2 : Int) (Ax0 Ax1 Ax2 A3 A4 A5 A6 : Nat → Int) (hB : e0_6_Base x0 x1 x2 nx0 nx1 nx2 n1_4 n1_5 n1_6 n2_0 n2_1 n2_2 Ax0 Ax1 Ax2 A3 A4 A5 A6) :
    LT.holds (⟨[nx0, nx1, nx2, n1_4, n1_5, n1_6, n2_0, n2_1, n2_2, 0], [], [Ax0, Ax1, Ax2, A3, A4, A5, A6], [], Iv (fun i j => match i, j with | 0, 0 => x0 | 1, 0 => x1 | 2, 0 => x2 | _, _ => Ext.none)⟩ : Env) (fun v _ => retTrue (⟨[nx0, nx1, nx2, n1_4, n1_5, n1_6, n2_0, n2_1, n2_2, 0], [], [Ax0, Ax1, Ax2, A3, A4, A5, A6], [], Iv (fun i j => match i, j with | 0, 0 => x0 | 1, 0 => x1 | 2, 0 => x2 | _, _ => Ext.none)⟩ : Env) v) (fun j' todo ρ' => (e0_6_hs[j']?.map (·.todo)) = some todo ∧ e0_6_Inv x0 x1 x2 j' ρ') (.jump 0 e0_6_T0 ⟨[(9, (.lit 0))], [], []⟩) := by
  simp only [LT.holds, retTrue]
  refine ⟨rfl, _, _, _, _, _, _, _, _, _, _, _, _, _, _, _, _, _, rfl, hB, ?_⟩
  simp only [e0_6_J0, and_true] at *
  first | omega | (simp only [e0_6_0, e0_6_1, e0_6_5, e0_6_6, i_v, b_bv, i_lit, b_blit, i_add, i_sub, i_mul, i_div, i_mod, i_tdiv, i_tmod, i_ite, b_ite, b_lt, b_le, b_eq, b_not, b_and, b_or, b_iff, i_sel, a_tab, i_pow2, List.getD_cons_zero, List.getD_cons_succ, decide_eq_true_eq, decide_eq_false_iff_not, Bool.and_eq_true, Bool.or_eq_true, Bool.not_eq_true', Bool.not_eq_false', Bool.and_eq_false_iff, Bool.or_eq_false_iff, Bool.not_not, ite_tt, ite_ff, iff_tt, iff_ff, a_av, a_ite, a_upd] at *; omega)
theorem e0_6_calls (x0 : Ext) (x1 : Ext) (x2 : Ext) (c1 : List Value) (l1 : c1.length = pcTotal Pc1) (f1 : PcFit c1 0 Pc1) (c2 : List Value) (l2 : c2.length = pcTotal Pc2) (f2 : PcFit c2 0 Pc2) (hex0 : (arrOf c1 0 64) 5 % 8 = 6) (w : World) (g0 : XFit x0 w [some .u16]) (g1 : XFit x1 w [some .u8]) (g2 : XFit x2 w [some .u16]) :
    Calls Try.prog 3 #[.agg #[x0.v, x1.v, x2.v], .agg c1.toArray, .agg (.int .i64 (0) :: c2).toArray] w fun r w' => r = .returned (.bool true) ∧ Below w.heap.size w w' := by
  have hc1 : cellsOf (⟨[(x0.n : Int), (x1.n : Int), (x2.n : Int), intV (c1.getD 78 Go.undef), intV (c1.getD 79 Go.undef), intV (c1.getD 80 Go.undef), intV (c2.getD 0 Go.undef), intV (c2.getD 1 Go.undef), intV (c2.getD 2 Go.undef), 0], [], [xArr x0 1 0, xArr x1 1 0, xArr x2 1 0, arrOf c1 0 64, arrOf c1 64 4, arrOf c1 68 4, arrOf c1 72 6], [], Iv (fun i j => match i, j with | 0, 0 => x0 | 1, 0 => x1 | 2, 0 => x2 | _, _ => Ext.none)⟩ : Env) Loc.id (pcSegs 3 0 3 Pc1) = c1 := by
    rw [pc_cells Pc1 0 3 0 3 f1 (by intro j hj; rcases j with _ | _ | _ | _ | j <;> first | rfl | (simp [Pc1, pcA, pcB, pcI] at hj; omega)) (by intro j hj; simp [Pc1, pcA, pcB, pcI] at hj) (by intro j hj; rcases j with _ | _ | _ | j <;> first | rfl | (simp [Pc1, pcA, pcB, pcI] at hj; omega)), List.drop_zero, ← l1, List.take_length]
  have hc2 : cellsOf (⟨[(x0.n : Int), (x1.n : Int), (x2.n : Int), intV (c1.getD 78 Go.undef), intV (c1.getD 79 Go.undef), intV (c1.getD 80 Go.undef), intV (c2.getD 0 Go.undef), intV (c2.getD 1 Go.undef), intV (c2.getD 2 Go.undef), 0], [], [xArr x0 1 0, xArr x1 1 0, xArr x2 1 0, arrOf c1 0 64, arrOf c1 64 4, arrOf c1 68 4, arrOf c1 72 6], [], Iv (fun i j => match i, j with | 0, 0 => x0 | 1, 0 => x1 | 2, 0 => x2 | _, _ => Ext.none)⟩ : Env) Loc.id (.one (.int .i64 (.lit (0))) :: pcSegs 7 0 6 Pc2) = .int .i64 (0) :: c2 := cells_oneS rfl (by
    rw [pc_cells Pc2 0 7 0 6 f2 (by intro j hj; simp [Pc2, pcA, pcB, pcI] at hj) (by intro j hj; simp [Pc2, pcA, pcB, pcI] at hj) (by intro j hj; rcases j with _ | _ | _ | j <;> first | rfl | (simp [Pc2, pcA, pcB, pcI] at hj; omega)), List.drop_zero, ← l2, List.take_length])
  have hx0 : SV.conc (⟨[(x0.n : Int), (x1.n : Int), (x2.n : Int), intV (c1.getD 78 Go.undef), intV (c1.getD 79 Go.undef), intV (c1.getD 80 Go.undef), intV (c2.getD 0 Go.undef), intV (c2.getD 1 Go.undef), intV (c2.getD 2 Go.undef), 0], [], [xArr x0 1 0, xArr x1 1 0, xArr x2 1 0, arrOf c1 0 64, arrOf c1 64 4, arrOf c1 68 4, arrOf c1 72 6], [], Iv (fun i j => match i, j with | 0, 0 => x0 | 1, 0 => x1 | 2, 0 => x2 | _, _ => Ext.none)⟩ : Env) Loc.id (.s (.xslc 0 (.lit 0) (.lit 0) (.v 0))) = x0.v := conc_ext g0 rfl rfl
  have hx1 : SV.conc (⟨[(x0.n : Int), (x1.n : Int), (x2.n : Int), intV (c1.getD 78 Go.undef), intV (c1.getD 79 Go.undef), intV (c1.getD 80 Go.undef), intV (c2.getD 0 Go.undef), intV (c2.getD 1 Go.undef), intV (c2.getD 2 Go.undef), 0], [], [xArr x0 1 0, xArr x1 1 0, xArr x2 1 0, arrOf c1 0 64, arrOf c1 64 4, arrOf c1 68 4, arrOf c1 72 6], [], Iv (fun i j => match i, j with | 0, 0 => x0 | 1, 0 => x1 | 2, 0 => x2 | _, _ => Ext.none)⟩ : Env) Loc.id (.s (.xslc 1 (.lit 0) (.lit 0) (.v 1))) = x1.v := conc_ext g1 rfl rfl
  have hx2 : SV.conc (⟨[(x0.n : Int), (x1.n : Int), (x2.n : Int), intV (c1.getD 78 Go.undef), intV (c1.getD 79 Go.undef), intV (c1.getD 80 Go.undef), intV (c2.getD 0 Go.undef), intV (c2.getD 1 Go.undef), intV (c2.getD 2 Go.undef), 0], [], [xArr x0 1 0, xArr x1 1 0, xArr x2 1 0, arrOf c1 0 64, arrOf c1 64 4, arrOf c1 68 4, arrOf c1 72 6], [], Iv (fun i j => match i, j with | 0, 0 => x0 | 1, 0 => x1 | 2, 0 => x2 | _, _ => Ext.none)⟩ : Env) Loc.id (.s (.xslc 2 (.lit 0) (.lit 0) (.v 2))) = x2.v := conc_ext g2 rfl rfl
  have hargs : (e0_6_Ls.map (SV.conc (⟨[(x0.n : Int), (x1.n : Int), (x2.n : Int), intV (c1.getD 78 Go.undef), intV (c1.getD 79 Go.undef), intV (c1.getD 80 Go.undef), intV (c2.getD 0 Go.undef), intV (c2.getD 1 Go.undef), intV (c2.getD 2 Go.undef), 0], [], [xArr x0 1 0, xArr x1 1 0, xArr x2 1 0, arrOf c1 0 64, arrOf c1 64 4, arrOf c1 68 4, arrOf c1 72 6], [], Iv (fun i j => match i, j with | 0, 0 => x0 | 1, 0 => x1 | 2, 0 => x2 | _, _ => Ext.none)⟩ : Env) Loc.id)).toArray = #[.agg #[x0.v, x1.v, x2.v], .agg c1.toArray, .agg (.int .i64 (0) :: c2).toArray] := by
    refine congrArg List.toArray ?_
    exact (cons_eq (rows_eq hx0 hx1 hx2) (cons_eq (congrArg (fun l => Value.agg (List.toArray l)) hc1) (cons_eq (congrArg (fun l => Value.agg (List.toArray l)) hc2) rfl)))
  rw [← hargs]
  have hok : Hyp.ok e0_6_Hy (⟨[(x0.n : Int), (x1.n : Int), (x2.n : Int), intV (c1.getD 78 Go.undef), intV (c1.getD 79 Go.undef), intV (c1.getD 80 Go.undef), intV (c2.getD 0 Go.undef), intV (c2.getD 1 Go.undef), intV (c2.getD 2 Go.undef), 0], [], [xArr x0 1 0, xArr x1 1 0, xArr x2 1 0, arrOf c1 0 64, arrOf c1 64 4, arrOf c1 68 4, arrOf c1 72 6], [], Iv (fun i j => match i, j with | 0, 0 => x0 | 1, 0 => x1 | 2, 0 => x2 | _, _ => Ext.none)⟩ : Env) := by
    refine ⟨?_, ?_, ?_, by simp [e0_6_Hy], ?_, by simp [e0_6_Hy]⟩
    · intro p hp
      simp only [e0_6_Hy, List.mem_cons, List.not_mem_nil, or_false] at hp
      rcases hp with rfl | rfl | rfl
      · exact xi_ok g0 rfl rfl rfl
      · exact xi_ok g1 rfl rfl rfl
      · exact xi_ok g2 rfl rfl rfl
    · intro p hp
      simp only [e0_6_Hy, List.mem_cons, List.not_mem_nil, or_false] at hp
      rcases hp with rfl | rfl | rfl | rfl | rfl | rfl | rfl | rfl | rfl | rfl
      · exact xlen_rng g0
      · exact xlen_rng g1
      · exact xlen_rng g2
      · exact num_rng (f1.tail.tail.tail.tail)
      · exact num_rng (f1.tail.tail.tail.tail.tail)
      · exact num_rng (f1.tail.tail.tail.tail.tail.tail)
      · exact num_rng (f2)
      · exact num_rng (f2.tail)
      · exact num_rng (f2.tail.tail)
      · exact (by have hx := hex0; first | exact ⟨Int.le_of_eq hx.symm, Int.le_of_eq hx⟩ | exact hx)
    · intro p hp
      simp only [e0_6_Hy, List.mem_cons, List.not_mem_nil, or_false] at hp
      rcases hp with rfl | rfl | rfl | rfl | rfl | rfl | rfl
      · exact xArr_rng g0
      · exact xArr_rng g1
      · exact xArr_rng g2
      · exact arrOf_rng (f1)
      · exact arrOf_rng (f1.tail)
      · exact arrOf_rng (f1.tail.tail)
      · exact arrOf_rng (f1.tail.tail.tail)
    · intro p hp is bs xs j
      simp only [e0_6_Hy, List.mem_cons, List.not_mem_nil, or_false] at hp
      rcases hp with rfl | rfl | rfl <;> exact vidF_rng _ _ _ (by decide) j
  refine law_loops (D := e0_6_D) (hs := e0_6_hs) (ρ := (⟨[(x0.n : Int), (x1.n : Int), (x2.n : Int), intV (c1.getD 78 Go.undef), intV (c1.getD 79 Go.undef), intV (c1.getD 80 Go.undef), intV (c2.getD 0 Go.undef), intV (c2.getD 1 Go.undef), intV (c2.getD 2 Go.undef), 0], [], [xArr x0 1 0, xArr x1 1 0, xArr x2 1 0, arrOf c1 0 64, arrOf c1 64 4, arrOf c1 68 4, arrOf c1 72 6], [], Iv (fun i j => match i, j with | 0, 0 => x0 | 1, 0 => x1 | 2, 0 => x2 | _, _ => Ext.none)⟩ : Env)) (G_ok _) (by kernel_rfl) rfl (e0_6_Inv x0 x1 x2 ) e0_6_mu e0_6_st rfl ⟨rfl, rfl, rfl⟩ hok (e0_6_vcS x0 x1 x2 ((x0.n : Int)) ((x1.n : Int)) ((x2.n : Int)) (intV (c1.getD 78 Go.undef)) (intV (c1.getD 79 Go.undef)) (intV (c1.getD 80 Go.undef)) (intV (c2.getD 0 Go.undef)) (intV (c2.getD 1 Go.undef)) (intV (c2.getD 2 Go.undef)) (xArr x0 1 0) (xArr x1 1 0) (xArr x2 1 0) (arrOf c1 0 64) (arrOf c1 64 4) (arrOf c1 68 4) (arrOf c1 72 6) ⟨xlen_rng g0, xlen_rng g1, xlen_rng g2, num_rng (f1.tail.tail.tail.tail), num_rng (f1.tail.tail.tail.tail.tail), num_rng (f1.tail.tail.tail.tail.tail.tail), num_rng (f2), num_rng (f2.tail), num_rng (f2.tail.tail), xArr_rng g0, xArr_rng g1, xArr_rng g2, arrOf_rng (f1), arrOf_rng (f1.tail), arrOf_rng (f1.tail.tail), arrOf_rng (f1.tail.tail.tail), rfl, rfl, rfl, rfl, rfl, rfl, hex0, trivial⟩) ?_ w (fun i j => by rcases i with _ | _ | _ | i <;> rcases j with _ | j <;> first | exact Ext.none_ok _ | exact g0.ok | exact g1.ok | exact g2.ok)
  intro j h ρ hj hI hz hInv
  rcases j with _ | j
  · simp only [e0_6_hs, List.getElem?_cons_zero, List.getElem?_cons_succ, Option.some.injEq] at hj; subst hj
    obtain ⟨nx0, nx1, nx2, n1_4, n1_5, n1_6, n2_0, n2_1, n2_2, y9, Ax0, Ax1, Ax2, A3, A4, A5, A6, rfl, hB, hJ⟩ := hInv
    refine ⟨?_, _, e0_6_sg0, e0_6_vc0 x0 x1 x2 nx0 nx1 nx2 n1_4 n1_5 n1_6 n2_0 n2_1 n2_2 y9 Ax0 Ax1 Ax2 A3 A4 A5 A6 hB hJ⟩
    have hB2 := hB; have hJ2 := hJ
    simp only [e0_6_Base] at hB2; simp only [e0_6_J0] at hJ2
    obtain ⟨hb0, hb1, hb2, hb3, hb4, hb5, hb6, hb7, hb8, hb9, hb10, hb11, hb12, hb13, hb14, hb15, hn0, hn1, hn2, ha0, ha1, ha2, hex0, _⟩ := hB2
    obtain ⟨hl0, _⟩ := hJ2
    refine ⟨?_, ?_, ?_, by simp [e0_6_h0], ?_, by simp [e0_6_h0]⟩
    · intro p hp
      simp only [e0_6_h0, List.mem_cons, List.not_mem_nil, or_false] at hp
      rcases hp with rfl | rfl | rfl
      · exact xi_ok g0 rfl hn0 ha0
      · exact xi_ok g1 rfl hn1 ha1
      · exact xi_ok g2 rfl hn2 ha2
    · intro p hp
      simp only [e0_6_h0, List.mem_cons, List.not_mem_nil, or_false] at hp
      rcases hp with rfl | rfl | rfl | rfl | rfl | rfl | rfl | rfl | rfl | rfl | rfl
      · exact hb0
      · exact hb1
      · exact hb2
      · exact hb3
      · exact hb4
      · exact hb5
      · exact hb6
      · exact hb7
      · exact hb8
      · exact (by have hx := hex0; first | exact ⟨Int.le_of_eq hx.symm, Int.le_of_eq hx⟩ | exact hx)
      · exact hl0
    · intro p hp
      simp only [e0_6_h0, List.mem_cons, List.not_mem_nil, or_false] at hp
      rcases hp with rfl | rfl | rfl | rfl | rfl | rfl | rfl
      · exact hb9
      · exact hb10
      · exact hb11
      · exact hb12
      · exact hb13
      · exact hb14
      · exact hb15
    · intro p hp is bs xs j
      simp only [e0_6_h0, List.mem_cons, List.not_mem_nil, or_false] at hp
      rcases hp with rfl | rfl | rfl <;> exact vidF_rng _ _ _ (by decide) j
  · simp [e0_6_hs] at hj
def e0_7_Hy : Hyp := ⟨[(.v 0, (0, 9223372036854775807)), (.v 1, (0, 9223372036854775807)), (.v 2, (0, 9223372036854775807)), (.v 3, (-32768, 32767)), (.v 4, (-32768, 32767)), (.v 5, (0, 65535)), (.v 6, (-9223372036854775808, 9223372036854775807)), (.v 7, (-9223372036854775808, 9223372036854775807)), (.v 8, (-9223372036854775808, 9223372036854775807)), ((.mod (.sel (.av 3) (.lit 5)) (.lit 8)), (7, 7))], [(0, (0, 65535)), (1, (0, 255)), (2, (0, 65535)), (3, (0, 255)), (4, (0, 65535)), (5, (0, 65535)), (6, (-32768, 32767))], [], [(0, (0, 65535)), (1, (0, 255)), (2, (0, 32767))], [], [(0, ⟨.v 0, [(some .u16, .av 0)]⟩), (1, ⟨.v 1, [(some .u8, .av 1)]⟩), (2, ⟨.v 2, [(some .u16, .av 2)]⟩)]⟩
def e0_7_Ls : List SV := [.agg [.one (.xslc 0 (.lit 0) (.lit 0) (.v 0)), .one (.xslc 1 (.lit 0) (.lit 0) (.v 1)), .one (.xslc 2 (.lit 0) (.lit 0) (.v 2))], .agg (pcSegs 3 0 3 Pc1), .agg (.one (.int .i64 (.lit (0))) :: pcSegs 7 0 6 Pc2)]
def e0_7_0 : E := .sel (.av 3) (.lit 5)
def e0_7_1 : E := .mod e0_7_0 (.lit 8)
def e0_7_2 : E := .app 0 (.cons (.v 0) (.cons (.av 0) .nil))
def e0_7_3 : E := .app 1 (.cons (.v 1) (.cons (.av 1) .nil))
def e0_7_4 : E := .app 2 (.cons (.v 2) (.cons (.av 2) .nil))
def e0_7_5 : E := .le (.v 9) (.lit 19)
def e0_7_6 : E := .add (.v 9) (.lit 1)
noncomputable def e0_7_T0 : List Item := todoS Try.prog G Gh [] 3000 0 3 e0_7_Hy e0_7_Ls [] 5
noncomputable def e0_7_h0 : Head := ⟨5, e0_7_T0, ⟨[((.v 0), (0, 9223372036854775807)), ((.v 1), (0, 9223372036854775807)), ((.v 2), (0, 9223372036854775807)), ((.v 3), ((-32768), 32767)), ((.v 4), ((-32768), 32767)), ((.v 5), (0, 65535)), ((.v 6), ((-9223372036854775808), 9223372036854775807)), ((.v 7), ((-9223372036854775808), 9223372036854775807)), ((.v 8), ((-9223372036854775808), 9223372036854775807)), (e0_7_1, (7, 7)), ((.v 9), (0, 20))], [(0, (0, 65535)), (1, (0, 255)), (2, (0, 65535)), (3, (0, 255)), (4, (0, 65535)), (5, (0, 65535)), (6, ((-32768), 32767))], [], [(0, (0, 65535)), (1, (0, 255)), (2, (0, 32767))], [], [(0, ⟨(.v 0), [(some .u16, (.av 0))]⟩), (1, ⟨(.v 1), [(some .u8, (.av 1))]⟩), (2, ⟨(.v 2), [(some .u16, (.av 2))]⟩)]⟩, [⟨9, [], .s (.int .i64 (.v 9))⟩, ⟨8, [], .s (.ptr 5 (.lit 0))⟩, ⟨7, [], .s (.ptr 4 (.lit 0))⟩, ⟨5, [], .s (.ptr 2 (.lit 0))⟩, ⟨4, [], .s (.ptr 1 (.lit 0))⟩, ⟨3, [], .s (.ptr 0 (.lit 0))⟩], [⟨25, [.one (.xslc 0 (.lit 0) (.lit 0) (.v 0)), .one (.xslc 1 (.lit 0) (.lit 0) (.v 1)), .one (.xslc 2 (.lit 0) (.lit 0) (.v 2))], true, none, false⟩, ⟨32, [.run .u8 (.lit 64) (.av 3) 0, .run .u16 (.lit 4) (.av 4) 0, .run .u16 (.lit 4) (.av 5) 0, .run .i16 (.lit 6) (.av 6) 0, .one (.int .i16 (.v 3)), .one (.int .i16 (.v 4)), .one (.int .u16 (.v 5))], true, none, false⟩, ⟨34, [.one (.int .i64 (.lit 0)), .one (.int .i64 (.v 6)), .one (.int .i64 (.v 7)), .one (.int .i64 (.v 8))], true, none, false⟩, ⟨25, [.one (.xslc 0 (.lit 0) (.lit 0) (.v 0)), .one (.xslc 1 (.lit 0) (.lit 0) (.v 1)), .one (.xslc 2 (.lit 0) (.lit 0) (.v 2))], true, none, false⟩, ⟨45, [.run .u16 (.lit 32768) e0_7_2 0, .run .u8 (.lit 544) e0_7_3 0, .run .u16 (.lit 256) e0_7_4 0], true, none, false⟩, ⟨32, [.run .u8 (.lit 64) (.av 3) 0, .run .u16 (.lit 4) (.av 4) 0, .run .u16 (.lit 4) (.av 5) 0, .run .i16 (.lit 6) (.av 6) 0, .one (.int .i16 (.v 3)), .one (.int .i16 (.v 4)), .one (.int .u16 (.v 5))], true, none, false⟩]⟩
noncomputable def e0_7_hs : List Head := [e0_7_h0]
def e0_7_D : Dim := ⟨10, 0, 7, 9, 0, 7, 0⟩
theorem e0_7_st : startL Try.prog G Gh e0_7_D e0_7_hs [] 3000 0 3 e0_7_Hy e0_7_Ls [] = some (.jump 0 e0_7_T0 ⟨[(9, (.lit 0))], [], []⟩) := by kernel_rfl
theorem e0_7_sg0 : segL Try.prog G Gh e0_7_D e0_7_hs [] 3000 0 3 e0_7_h0 = some (.ite e0_7_5 (.jump 0 e0_7_T0 ⟨[(9, e0_7_6)], [], []⟩) (.ret (.s (.bool (.blit true))) [⟨25, [.one (.xslc 0 (.lit 0) (.lit 0) (.v 0)), .one (.xslc 1 (.lit 0) (.lit 0) (.v 1)), .one (.xslc 2 (.lit 0) (.lit 0) (.v 2))], true, none, false⟩, ⟨32, [.run .u8 (.lit 64) (.av 3) 0, .run .u16 (.lit 4) (.av 4) 0, .run .u16 (.lit 4) (.av 5) 0, .run .i16 (.lit 6) (.av 6) 0, .one (.int .i16 (.v 3)), .one (.int .i16 (.v 4)), .one (.int .u16 (.v 5))], true, none, false⟩, ⟨34, [.one (.int .i64 (.lit 0)), .one (.int .i64 (.v 6)), .one (.int .i64 (.v 7)), .one (.int .i64 (.v 8))], true, none, false⟩, ⟨25, [.one (.xslc 0 (.lit 0) (.lit 0) (.v 0)), .one (.xslc 1 (.lit 0) (.lit 0) (.v 1)), .one (.xslc 2 (.lit 0) (.lit 0) (.v 2))], true, none, false⟩, ⟨45, [.run .u16 (.lit 32768) e0_7_2 0, .run .u8 (.lit 544) e0_7_3 0, .run .u16 (.lit 256) e0_7_4 0], true, none, false⟩, ⟨32, [.run .u8 (.lit 64) (.av 3) 0, .run .u16 (.lit 4) (.av 4) 0, .run .u16 (.lit 4) (.av 5) 0, .run .i16 (.lit 6) (.av 6) 0, .one (.int .i16 (.v 3)), .one (.int .i16 (.v 4)), .one (.int .u16 (.v 5))], true, none, false⟩, ⟨25, [.one (.xslc 0 (.lit 0) (.lit 0) (.v 0)), .one (.xslc 1 (.lit 0) (.lit 0) (.v 1)), .one (.xslc 2 (.lit 0) (.lit 0) (.v 2))], true, none, false⟩, ⟨45, [.run .u16 (.lit 32768) e0_7_2 0, .run .u8 (.lit 544) e0_7_3 0, .run .u16 (.lit 256) e0_7_4 0], true, none, false⟩])) := by kernel_rfl
def e0_7_Base (x0 : Ext) (x1 : Ext) (x2 : Ext) (nx0 nx1 nx2 n1_4 n1_5 n1_6 n2_0 n2_1 n2_2 : Int) (Ax0 Ax1 Ax2 A3 A4 A5 A6 : Nat → Int) : Prop := (0 ≤ nx0 ∧ nx0 ≤ 9223372036854775807) ∧ (0 ≤ nx1 ∧ nx1 ≤ 9223372036854775807) ∧ (0 ≤ nx2 ∧ nx2 ≤ 9223372036854775807) ∧ (-32768 ≤ n1_4 ∧ n1_4 ≤ 32767) ∧ (-32768 ≤ n1_5 ∧ n1_5 ≤ 32767) ∧ (0 ≤ n1_6 ∧ n1_6 ≤ 65535) ∧ (-9223372036854775808 ≤ n2_0 ∧ n2_0 ≤ 9223372036854775807) ∧ (-9223372036854775808 ≤ n2_1 ∧ n2_1 ≤ 9223372036854775807) ∧ (-9223372036854775808 ≤ n2_2 ∧ n2_2 ≤ 9223372036854775807) ∧ (∀ j, 0 ≤ Ax0 j ∧ Ax0 j ≤ 65535) ∧ (∀ j, 0 ≤ Ax1 j ∧ Ax1 j ≤ 255) ∧ (∀ j, 0 ≤ Ax2 j ∧ Ax2 j ≤ 65535) ∧ (∀ j, 0 ≤ A3 j ∧ A3 j ≤ 255) ∧ (∀ j, 0 ≤ A4 j ∧ A4 j ≤ 65535) ∧ (∀ j, 0 ≤ A5 j ∧ A5 j ≤ 65535) ∧ (∀ j, -32768 ≤ A6 j ∧ A6 j ≤ 32767) ∧ nx0 = (x0.n : Int) ∧ nx1 = (x1.n : Int) ∧ nx2 = (x2.n : Int) ∧ Ax0 = xArr x0 1 0 ∧ Ax1 = xArr x1 1 0 ∧ Ax2 = xArr x2 1 0 ∧ (A3) 5 % 8 = 7 ∧ True
def e0_7_J0 (nx0 nx1 nx2 n1_4 n1_5 n1_6 n2_0 n2_1 n2_2 y9 : Int) (Ax0 Ax1 Ax2 A3 A4 A5 A6 : Nat → Int) : Prop := (0 ≤ y9 ∧ y9 ≤ 20) ∧ True
def e0_7_Inv (x0 : Ext) (x1 : Ext) (x2 : Ext) : Nat → Env → Prop
  | 0, ρ => ∃ (nx0 nx1 nx2 n1_4 n1_5 n1_6 n2_0 n2_1 n2_2 y9 : Int) (Ax0 Ax1 Ax2 A3 A4 A5 A6 : Nat → Int), ρ = (⟨[nx0, nx1, nx2, n1_4, n1_5, n1_6, n2_0, n2_1, n2_2, y9], [], [Ax0, Ax1, Ax2, A3, A4, A5, A6], [], Iv (fun i j => match i, j with | 0, 0 => x0 | 1, 0 => x1 | 2, 0 => x2 | _, _ => Ext.none)⟩ : Env) ∧ e0_7_Base x0 x1 x2 nx0 nx1 nx2 n1_4 n1_5 n1_6 n2_0 n2_1 n2_2 Ax0 Ax1 Ax2 A3 A4 A5 A6 ∧ e0_7_J0 nx0 nx1 nx2 n1_4 n1_5 n1_6 n2_0 n2_1 n2_2 y9 Ax0 Ax1 Ax2 A3 A4 A5 A6
  | _, _ => False
def e0_7_mu : Nat → Env → Nat := fun _ ρ => (21 - ρ.i.getD 9 0).toNat
theorem e0_7_vc0 (x0 : Ext) (x1 : Ext) (x2 : Ext) (nx0 nx1 nx2 n1_4 n1_5 n1_6 n2_0 n2_1 n2_2 y9 : Int) (Ax0 Ax1 Ax2 A3 A4 A5 A6 : Nat → Int) (hB : e0_7_Base x0 x1 x2 nx0 nx1 nx2 n1_4 n1_5 n1_6 n2_0 n2_1 n2_2 Ax0 Ax1 Ax2 A3 A4 A5 A6) (hJ : e0_7_J0 nx0 nx1 nx2 n1_4 n1_5 n1_6 n2_0 n2_1 n2_2 y9 Ax0 Ax1 Ax2 A3 A4 A5 A6) :
    LT.holds (⟨[nx0, nx1, nx2, n1_4, n1_5, n1_6, n2_0, n2_1, n2_2, y9], [], [Ax0, Ax1, Ax2, A3, A4, A5, A6], [], Iv (fun i j => match i, j with | 0, 0 => x0 | 1, 0 => x1 | 2, 0 => x2 | _, _ => Ext.none)⟩ : Env) (fun v _ => retTrue (⟨[nx0, nx1, nx2, n1_4, n1_5, n1_6, n2_0, n2_1, n2_2, y9], [], [Ax0, Ax1, Ax2, A3, A4, A5, A6], [], Iv (fun i j => match i, j with | 0, 0 => x0 | 1, 0 => x1 | 2, 0 => x2 | _, _ => Ext.none)⟩ : Env) v) (fun j' todo ρ' => (e0_7_hs[j']?.map (·.todo)) = some todo ∧ e0_7_Inv x0 x1 x2 j' ρ' ∧ e0_7_mu j' ρ' < e0_7_mu 0 (⟨[nx0, nx1, nx2, n1_4, n1_5, n1_6, n2_0, n2_1, n2_2, y9], [], [Ax0, Ax1, Ax2, A3, A4, A5, A6], [], Iv (fun i j => match i, j with | 0, 0 => x0 | 1, 0 => x1 | 2, 0 => x2 | _, _ => Ext.none)⟩ : Env)) (.ite e0_7_5 (.jump 0 e0_7_T0 ⟨[(9, e0_7_6)], [], []⟩) (.ret (.s (.bool (.blit true))) [⟨25, [.one (.xslc 0 (.lit 0) (.lit 0) (.v 0)), .one (.xslc 1 (.lit 0) (.lit 0) (.v 1)), .one (.xslc 2 (.lit 0) (.lit 0) (.v 2))], true, none, false⟩, ⟨32, [.run .u8 (.lit 64) (.av 3) 0, .run .u16 (.lit 4) (.av 4) 0, .run .u16 (.lit 4) (.av 5) 0, .run .i16 (.lit 6) (.av 6) 0, .one (.int .i16 (.v 3)), .one (.int .i16 (.v 4)), .one (.int .u16 (.v 5))], true, none, false⟩, ⟨34, [.one (.int .i64 (.lit 0)), .one (.int .i64 (.v 6)), .one (.int .i64 (.v 7)), .one (.int .i64 (.v 8))], true, none, false⟩, ⟨25, [.one (.xslc 0 (.lit 0) (.lit 0) (.v 0)), .one (.xslc 1 (.lit 0) (.lit 0) (.v 1)), .one (.xslc 2 (.lit 0) (.lit 0) (.v 2))], true, none, false⟩, ⟨45, [.run .u16 (.lit 32768) e0_7_2 0, .run .u8 (.lit 544) e0_7_3 0, .run .u16 (.lit 256) e0_7_4 0], true, none, false⟩, ⟨32, [.run .u8 (.lit 64) (.av 3) 0, .run .u16 (.lit 4) (.av 4) 0, .run .u16 (.lit 4) (.av 5) 0, .run .i16 (.lit 6) (.av 6) 0, .one (.int .i16 (.v 3)), .one (.int .i16 (.v 4)), .one (.int .u16 (.v 5))], true, none, false⟩, ⟨25, [.one (.xslc 0 (.lit 0) (.lit 0) (.v 0)), .one (.xslc 1 (.lit 0) (.lit 0) (.v 1)), .one (.xslc 2 (.lit 0) (.lit 0) (.v 2))], true, none, false⟩, ⟨45, [.run .u16 (.lit 32768) e0_7_2 0, .run .u8 (.lit 544) e0_7_3 0, .run .u16 (.lit 256) e0_7_4 0], true, none, false⟩])) := by
  simp only [LT.holds, retTrue]
  refine ⟨fun hc0 => ?_, fun hc0 => ?_⟩
  ·
    refine ⟨rfl, ⟨_, _, _, _, _, _, _, _, _, _, _, _, _, _, _, _, _, rfl, hB, ?_⟩, ?_⟩
    simp only [e0_7_J0, and_true] at *
    first | omega | (simp only [e0_7_0, e0_7_1, e0_7_5, e0_7_6, i_v, b_bv, i_lit, b_blit, i_add, i_sub, i_mul, i_div, i_mod, i_tdiv, i_tmod, i_ite, b_ite, b_lt, b_le, b_eq, b_not, b_and, b_or, b_iff, i_sel, a_tab, i_pow2, List.getD_cons_zero, List.getD_cons_succ, decide_eq_true_eq, decide_eq_false_iff_not, Bool.and_eq_true, Bool.or_eq_true, Bool.not_eq_true', Bool.not_eq_false', Bool.and_eq_false_iff, Bool.or_eq_false_iff, Bool.not_not, ite_tt, ite_ff, iff_tt, iff_ff, a_av, a_ite, a_upd] at *; omega)
    simp only [e0_7_mu, e0_7_J0, Env.app, setAll, List.map_cons, List.map_nil, List.set, List.getD_cons_zero, List.getD_cons_succ, e0_7_0, e0_7_1, e0_7_5, e0_7_6, i_v, b_bv, i_lit, b_blit, i_add, i_sub, i_mul, i_div, i_mod, i_tdiv, i_tmod, i_ite, b_ite, b_lt, b_le, b_eq, b_not, b_and, b_or, b_iff, i_sel, a_tab, i_pow2, List.getD_cons_zero, List.getD_cons_succ, decide_eq_true_eq, decide_eq_false_iff_not, Bool.and_eq_true, Bool.or_eq_true, Bool.not_eq_true', Bool.not_eq_false', Bool.and_eq_false_iff, Bool.or_eq_false_iff, Bool.not_not, ite_tt, ite_ff, iff_tt, iff_ff, a_av, a_ite, a_upd] at *
    omega
  ·
    rfl
theorem e0_7_vcS (x0 : Ext) (x1 : Ext) (x2 : Ext) (nx0 nx1 nx2 n1_4 n1_5 n1_6 n2_0 n2_1 n2_2 : Int) (Ax0 Ax1 Ax2 A3 A4 A5 A6 : Nat → Int) (hB : e0_7_Base x0 x1 x2 nx0 nx1 nx2 n1_4 n1_5 n1_6 n2_0 n2_1 n2_2 Ax0 Ax1 Ax2 A3 A4 A5 A6) :
    LT.holds (⟨[nx0, nx1, nx2, n1_4, n1_5, n1_6, n2_0, n2_1, n2_2, 0], [], [Ax0, Ax1, Ax2, A3, A4, A5, A6], [], Iv (fun i j => match i, j with | 0, 0 => x0 | 1, 0 => x1 | 2, 0 => x2 | _, _ => Ext.none)⟩ : Env) (fun v _ => retTrue (⟨[nx0, nx1, nx2, n1_4, n1_5, n1_6, n2_0, n2_1, n2_2, 0], [], [Ax0, Ax1, Ax2, A3, A4, A5, A6], [], Iv (fun i j => match i, j with | 0, 0 => x0 | 1, 0 => x1 | 2, 0 => x2 | _, _ => Ext.none)⟩ : Env) v) (fun j' todo ρ' => (e0_7_hs[j']?.map (·.todo)) = some todo ∧ e0_7_Inv x0 x1 x2 j' ρ') (.jump 0 e0_7_T0 ⟨[(9, (.lit 0))], [], []⟩) := by
  simp only [LT.holds, retTrue]
  refine ⟨rfl, _, _, _, _, _, _, _, _, _, _, _, _, _, _, _, _, _, rfl, hB, ?_⟩
  simp only [e0_7_J0, and_true] at *
  first | omega | (simp only [e0_7_0, e0_7_1, e0_7_5, e0_7_6, i_v, b_bv, i_lit, b_blit, i_add, i_sub, i_mul, i_div, i_mod, i_tdiv, i_tmod, i_ite, b_ite, b_lt, b_le, b_eq, b_not, b_and, b_or, b_iff, i_sel, a_tab, i_pow2, List.getD_cons_zero, List.getD_cons_succ, decide_eq_true_eq, decide_eq_false_iff_not, Bool.and_eq_true, Bool.or_eq_true, Bool.not_eq_true', Bool.not_eq_false', Bool.and_eq_false_iff, Bool.or_eq_false_iff, Bool.not_not, ite_tt, ite_ff, iff_tt, iff_ff, a_av, a_ite, a_upd] at *; omega)
theorem e0_7_calls (x0 : Ext) (x1 : Ext) (x2 : Ext) (c1 : List Value) (l1 : c1.length = pcTotal Pc1) (f1 : PcFit c1 0 Pc1) (c2 : List Value) (l2 : c2.length = pcTotal Pc2) (f2 : PcFit c2 0 Pc2) (hex0 : (arrOf c1 0 64) 5 % 8 = 7) (w : World) (g0 : XFit x0 w [some .u16]) (g1 : XFit x1 w [some .u8]) (g2 : XFit x2 w [some .u16]) :
    Calls Try.prog 3 #[.agg #[x0.v, x1.v, x2.v], .agg c1.toArray, .agg (.int .i64 (0) :: c2).toArray] w fun r w' => r = .returned (.bool true) ∧ Below w.heap.size w w' := by
  have hc1 : cellsOf (⟨[(x0.n : Int), (x1.n : Int), (x2.n : Int), intV (c1.getD 78 Go.undef), intV (c1.getD 79 Go.undef), intV (c1.getD 80 Go.undef), intV (c2.getD 0 Go.undef), intV (c2.getD 1 Go.undef), intV (c2.getD 2 Go.undef), 0], [], [xArr x0 1 0, xArr x1 1 0, xArr x2 1 0, arrOf c1 0 64, arrOf c1 64 4, arrOf c1 68 4, arrOf c1 72 6], [], Iv (fun i j => match i, j with | 0, 0 => x0 | 1, 0 => x1 | 2, 0 => x2 | _, _ => Ext.none)⟩ : Env) Loc.id (pcSegs 3 0 3 Pc1) = c1 := by
    rw [pc_cells Pc1 0 3 0 3 f1 (by intro j hj; rcases j with _ | _ | _ | _ | j <;> first | rfl | (simp [Pc1, pcA, pcB, pcI] at hj; omega)) (by intro j hj; simp [Pc1, pcA, pcB, pcI] at hj) (by intro j hj; rcases j with _ | _ | _ | j <;> first | rfl | (simp [Pc1, pcA, pcB, pcI] at hj; omega)), List.drop_zero, ← l1, List.take_length]
  have hc2 : cellsOf (⟨[(x0.n : Int), (x1.n : Int), (x2.n : Int), intV (c1.getD 78 Go.undef), intV (c1.getD 79 Go.undef), intV (c1.getD 80 Go.undef), intV (c2.getD 0 Go.undef), intV (c2.getD 1 Go.undef), intV (c2.getD 2 Go.undef), 0], [], [xArr x0 1 0, xArr x1 1 0, xArr x2 1 0, arrOf c1 0 64, arrOf c1 64 4, arrOf c1 68 4, arrOf c1 72 6], [], Iv (fun i j => match i, j with | 0, 0 => x0 | 1, 0 => x1 | 2, 0 => x2 | _, _ => Ext.none)⟩ : Env) Loc.id (.one (.int .i64 (.lit (0))) :: pcSegs 7 0 6 Pc2) = .int .i64 (0) :: c2 := cells_oneS rfl (by
    rw [pc_cells Pc2 0 7 0 6 f2 (by intro j hj; simp [Pc2, pcA, pcB, pcI] at hj) (by intro j hj; simp [Pc2, pcA, pcB, pcI] at hj) (by intro j hj; rcases j with _ | _ | _ | j <;> first | rfl | (simp [Pc2, pcA, pcB, pcI] at hj; omega)), List.drop_zero, ← l2, List.take_length])
  have hx0 : SV.conc (⟨[(x0.n : Int), (x1.n : Int), (x2.n : Int), intV (c1.getD 78 Go.undef), intV (c1.getD 79 Go.undef), intV (c1.getD 80 Go.undef), intV (c2.getD 0 Go.undef), intV (c2.getD 1 Go.undef), intV (c2.getD 2 Go.undef), 0], [], [xArr x0 1 0, xArr x1 1 0, xArr x2 1 0, arrOf c1 0 64, arrOf c1 64 4, arrOf c1 68 4, arrOf c1 72 6], [], Iv (fun i j => match i, j with | 0, 0 => x0 | 1, 0 => x1 | 2, 0 => x2 | _, _ => Ext.none)⟩ : Env) Loc.id (.s (.xslc 0 (.lit 0) (.lit 0) (.v 0))) = x0.v := conc_ext g0 rfl rfl
  have hx1 : SV.conc (⟨[(x0.n : Int), (x1.n : Int), (x2.n : Int), intV (c1.getD 78 Go.undef), intV (c1.getD 79 Go.undef), intV (c1.getD 80 Go.undef), intV (c2.getD 0 Go.undef), intV (c2.getD 1 Go.undef), intV (c2.getD 2 Go.undef), 0], [], [xArr x0 1 0, xArr x1 1 0, xArr x2 1 0, arrOf c1 0 64, arrOf c1 64 4, arrOf c1 68 4, arrOf c1 72 6], [], Iv (fun i j => match i, j with | 0, 0 => x0 | 1, 0 => x1 | 2, 0 => x2 | _, _ => Ext.none)⟩ : Env) Loc.id (.s (.xslc 1 (.lit 0) (.lit 0) (.v 1))) = x1.v := conc_ext g1 rfl rfl
  have hx2 : SV.conc (⟨[(x0.n : Int), (x1.n : Int), (x2.n : Int), intV (c1.getD 78 Go.undef), intV (c1.getD 79 Go.undef), intV (c1.getD 80 Go.undef), intV (c2.getD 0 Go.undef), intV (c2.getD 1 Go.undef), intV (c2.getD 2 Go.undef), 0], [], [xArr x0 1 0, xArr x1 1 0, xArr x2 1 0, arrOf c1 0 64, arrOf c1 64 4, arrOf c1 68 4, arrOf c1 72 6], [], Iv (fun i j => match i, j with | 0, 0 => x0 | 1, 0 => x1 | 2, 0 => x2 | _, _ => Ext.none)⟩ : Env) Loc.id (.s (.xslc 2 (.lit 0) (.lit 0) (.v 2))) = x2.v := conc_ext g2 rfl rfl
  have hargs : (e0_7_Ls.map (SV.conc (⟨[(x0.n : Int), (x1.n : Int), (x2.n : Int), intV (c1.getD 78 Go.undef), intV (c1.getD 79 Go.undef), intV (c1.getD 80 Go.undef), intV (c2.getD 0 Go.undef), intV (c2.getD 1 Go.undef), intV (c2.getD 2 Go.undef), 0], [], [xArr x0 1 0, xArr x1 1 0, xArr x2 1 0, arrOf c1 0 64, arrOf c1 64 4, arrOf c1 68 4, arrOf c1 72 6], [], Iv (fun i j => match i, j with | 0, 0 => x0 | 1, 0 => x1 | 2, 0 => x2 | _, _ => Ext.none)⟩ : Env) Loc.id)).toArray = #[.agg #[x0.v, x1.v, x2.v], .agg c1.toArray, .agg (.int .i64 (0) :: c2).toArray] := by
    refine congrArg List.toArray ?_
    exact (cons_eq (rows_eq hx0 hx1 hx2) (cons_eq (congrArg (fun l => Value.agg (List.toArray l)) hc1) (cons_eq (congrArg (fun l => Value.agg (List.toArray l)) hc2) rfl)))
  rw [← hargs]
  have hok : Hyp.ok e0_7_Hy (⟨[(x0.n : Int), (x1.n : Int), (x2.n : Int), intV (c1.getD 78 Go.undef), intV (c1.getD 79 Go.undef), intV (c1.getD 80 Go.undef), intV (c2.getD 0 Go.undef), intV (c2.getD 1 Go.undef), intV (c2.getD 2 Go.undef), 0], [], [xArr x0 1 0, xArr x1 1 0, xArr x2 1 0, arrOf c1 0 64, arrOf c1 64 4, arrOf c1 68 4, arrOf c1 72 6], [], Iv (fun i j => match i, j with | 0, 0 => x0 | 1, 0 => x1 | 2, 0 => x2 | _, _ => Ext.none)⟩ : Env) := by
    refine ⟨?_, ?_, ?_, by simp [e0_7_Hy], ?_, by simp [e0_7_Hy]⟩
    · intro p hp
      simp only [e0_7_Hy, List.mem_cons, List.not_mem_nil, or_false] at hp
      rcases hp with rfl | rfl | rfl
      · exact xi_ok g0 rfl rfl rfl
      · exact xi_ok g1 rfl rfl rfl
      · exact xi_ok g2 rfl rfl rfl
    · intro p hp
      simp only [e0_7_Hy, List.mem_cons, List.not_mem_nil, or_false] at hp
      rcases hp with rfl | rfl | rfl | rfl | rfl | rfl | rfl | rfl | rfl | rfl
      · exact xlen_rng g0
      · exact xlen_rng g1
      · exact xlen_rng g2
      · exact num_rng (f1.tail.tail.tail.tail)
      · exact num_rng (f1.tail.tail.tail.tail.tail)
      · exact num_rng (f1.tail.tail.tail.tail.tail.tail)
      · exact num_rng (f2)
      · exact num_rng (f2.tail)
      · exact num_rng (f2.tail.tail)
      · exact (by have hx := hex0; first | exact ⟨Int.le_of_eq hx.symm, Int.le_of_eq hx⟩ | exact hx)
    · intro p hp
      simp only [e0_7_Hy, List.mem_cons, List.not_mem_nil, or_false] at hp
      rcases hp with rfl | rfl | rfl | rfl | rfl | rfl | rfl
      · exact xArr_rng g0
      · exact xArr_rng g1
      · exact xArr_rng g2
      · exact arrOf_rng (f1)
      · exact arrOf_rng (f1.tail)
      · exact arrOf_rng (f1.tail.tail)
      · exact arrOf_rng (f1.tail.tail.tail)
    · intro p hp is bs xs j
      simp only [e0_7_Hy, List.mem_cons, List.not_mem_nil, or_false] at hp
      rcases hp with rfl | rfl | rfl <;> exact vidF_rng _ _ _ (by decide) j
  refine law_loops (D := e0_7_D) (hs := e0_7_hs) (ρ := (⟨[(x0.n : Int), (x1.n : Int), (x2.n : Int), intV (c1.getD 78 Go.undef), intV (c1.getD 79 Go.undef), intV (c1.getD 80 Go.undef), intV (c2.getD 0 Go.undef), intV (c2.getD 1 Go.undef), intV (c2.getD 2 Go.undef), 0], [], [xArr x0 1 0, xArr x1 1 0, xArr x2 1 0, arrOf c1 0 64, arrOf c1 64 4, arrOf c1 68 4, arrOf c1 72 6], [], Iv (fun i j => match i, j with | 0, 0 => x0 | 1, 0 => x1 | 2, 0 => x2 | _, _ => Ext.none)⟩ : Env)) (G_ok _) (by kernel_rfl) rfl (e0_7_Inv x0 x1 x2 ) e0_7_mu e0_7_st rfl ⟨rfl, rfl, rfl⟩ hok (e0_7_vcS x0 x1 x2 ((x0.n : Int)) ((x1.n : Int)) ((x2.n : Int)) (intV (c1.getD 78 Go.undef)) (intV (c1.getD 79 Go.undef)) (intV (c1.getD 80 Go.undef)) (intV (c2.getD 0 Go.undef)) (intV (c2.getD 1 Go.undef)) (intV (c2.getD 2 Go.undef)) (xArr x0 1 0) (xArr x1 1 0) (xArr x2 1 0) (arrOf c1 0 64) (arrOf c1 64 4) (arrOf c1 68 4) (arrOf c1 72 6) ⟨xlen_rng g0, xlen_rng g1, xlen_rng g2, num_rng (f1.tail.tail.tail.tail), num_rng (f1.tail.tail.tail.tail.tail), num_rng (f1.tail.tail.tail.tail.tail.tail), num_rng (f2), num_rng (f2.tail), num_rng (f2.tail.tail), xArr_rng g0, xArr_rng g1, xArr_rng g2, arrOf_rng (f1), arrOf_rng (f1.tail), arrOf_rng (f1.tail.tail), arrOf_rng (f1.tail.tail.tail), rfl, rfl, rfl, rfl, rfl, rfl, hex0, trivial⟩) ?_ w (fun i j => by rcases i with _ | _ | _ | i <;> rcases j with _ | j <;> first | exact Ext.none_ok _ | exact g0.ok | exact g1.ok | exact g2.ok)
  intro j h ρ hj hI hz hInv
  rcases j with _ | j
  · simp only [e0_7_hs, List.getElem?_cons_zero, List.getElem?_cons_succ, Option.some.injEq] at hj; subst hj
    obtain ⟨nx0, nx1, nx2, n1_4, n1_5, n1_6, n2_0, n2_1, n2_2, y9, Ax0, Ax1, Ax2, A3, A4, A5, A6, rfl, hB, hJ⟩ := hInv
    refine ⟨?_, _, e0_7_sg0, e0_7_vc0 x0 x1 x2 nx0 nx1 nx2 n1_4 n1_5 n1_6 n2_0 n2_1 n2_2 y9 Ax0 Ax1 Ax2 A3 A4 A5 A6 hB hJ⟩
    have hB2 := hB; have hJ2 := hJ
    simp only [e0_7_Base] at hB2; simp only [e0_7_J0] at hJ2
    obtain ⟨hb0, hb1, hb2, hb3, hb4, hb5, hb6, hb7, hb8, hb9, hb10, hb11, hb12, hb13, hb14, hb15, hn0, hn1, hn2, ha0, ha1, ha2, hex0, _⟩ := hB2
    obtain ⟨hl0, _⟩ := hJ2
    refine ⟨?_, ?_, ?_, by simp [e0_7_h0], ?_, by simp [e0_7_h0]⟩
    · intro p hp
      simp only [e0_7_h0, List.mem_cons, List.not_mem_nil, or_false] at hp
      rcases hp with rfl | rfl | rfl
      · exact xi_ok g0 rfl hn0 ha0
      · exact xi_ok g1 rfl hn1 ha1
      · exact xi_ok g2 rfl hn2 ha2
    · intro p hp
      simp only [e0_7_h0, List.mem_cons, List.not_mem_nil, or_false] at hp
      rcases hp with rfl | rfl | rfl | rfl | rfl | rfl | rfl | rfl | rfl | rfl | rfl
      · exact hb0
      · exact hb1
      · exact hb2
      · exact hb3
      · exact hb4
      · exact hb5
      · exact hb6
      · exact hb7
      · exact hb8
      · exact (by have hx := hex0; first | exact ⟨Int.le_of_eq hx.symm, Int.le_of_eq hx⟩ | exact hx)
      · exact hl0
    · intro p hp
      simp only [e0_7_h0, List.mem_cons, List.not_mem_nil, or_false] at hp
      rcases hp with rfl | rfl | rfl | rfl | rfl | rfl | rfl
      · exact hb9
      · exact hb10
      · exact hb11
      · exact hb12
      · exact hb13
      · exact hb14
      · exact hb15
    · intro p hp is bs xs j
      simp only [e0_7_h0, List.mem_cons, List.not_mem_nil, or_false] at hp
      rcases hp with rfl | rfl | rfl <;> exact vidF_rng _ _ _ (by decide) j
  · simp [e0_7_hs] at hj
end Go.Proofs.Ytcamkhjahdebeaa.CellDots
