/- A part of the law BlendWindows, which returns true for every input. What lies within each layer's window, and where it is shown, is what the document says. No condition. -/
import Derived.Test.YtgbncbclhdnbmaaBlendWindows0
namespace Go.Proofs.Ytgbncbclhdnbmaa.BlendWindows
open Go.Sx Go.ChangeShapes Go.WideShapes Go.ChangeAt Go.RowKit
set_option linter.unusedVariables false
set_option linter.unusedSimpArgs false
set_option maxRecDepth 100000
def e5xHy : Hyp := ⟨[(.v 0, (-32768, 32767)), (.v 1, (-32768, 32767)), (.v 2, (0, 65535))], [(0, (0, 255)), (1, (0, 65535)), (2, (0, 65535)), (3, (-32768, 32767))], [], [], [], []⟩
def e5xLs : List SV := [.agg (pcSegs 0 0 0 Pc0), .s (.int .i64 (.lit (5))), .s (.bool (.bv 0))]
def e5x0 : E := .le (.v 3) (.lit 256)
def e5x1 : E := .sel (.av 0) (.lit 37)
def e5x2 : E := .div e5x1 (.lit 128)
def e5x3 : E := .mul e5x2 (.lit 8)
def e5x4 : E := .div e5x1 (.lit 32)
def e5x5 : E := .mod e5x4 (.lit 2)
def e5x6 : E := .mul e5x5 (.lit 2)
def e5x7 : E := .add e5x3 e5x6
def e5x8 : E := .eq e5x7 (.lit 2)
def e5x9 : E := .sel (.av 0) (.lit 39)
def e5x10 : E := .le (.v 3) e5x9
def e5x11 : E := .sel (.av 0) (.lit 38)
def e5x12 : E := .le e5x11 (.v 3)
def e5x13 : E := .and e5x10 e5x12
def e5x14 : E := .div e5x1 (.lit 16)
def e5x15 : E := .mod e5x14 (.lit 2)
def e5x16 : E := .eq e5x15 (.lit 0)
def e5x17 : E := .not e5x16
def e5x18 : E := .iff e5x13 e5x17
def e5x19 : E := .not e5x18
def e5x20 : E := .eq e5x7 (.lit 8)
def e5x21 : E := .sel (.av 0) (.lit 41)
def e5x22 : E := .le (.v 3) e5x21
def e5x23 : E := .sel (.av 0) (.lit 40)
def e5x24 : E := .le e5x23 (.v 3)
def e5x25 : E := .and e5x22 e5x24
def e5x26 : E := .div e5x1 (.lit 64)
def e5x27 : E := .mod e5x26 (.lit 2)
def e5x28 : E := .eq e5x27 (.lit 0)
def e5x29 : E := .not e5x28
def e5x30 : E := .iff e5x25 e5x29
def e5x31 : E := .not e5x30
def e5x32 : E := .sel (.av 0) (.lit 43)
def e5x33 : E := .div e5x32 (.lit 4)
def e5x34 : E := .mod e5x33 (.lit 4)
def e5x35 : E := .eq e5x34 (.lit 0)
def e5x36 : E := .or e5x19 e5x31
def e5x37 : E := .eq e5x34 (.lit 1)
def e5x38 : E := .and e5x19 e5x31
def e5x39 : E := .eq e5x34 (.lit 2)
def e5x40 : E := .iff e5x19 e5x31
def e5x41 : E := .not e5x40
def e5x42 : E := .ite e5x39 e5x41 e5x40
def e5x43 : E := .ite e5x37 e5x38 e5x42
def e5x44 : E := .ite e5x35 e5x36 e5x43
def e5x45 : E := .ite e5x20 e5x31 e5x44
def e5x46 : E := .ite e5x8 e5x19 e5x45
def e5x47 : E := .le (.v 3) (.lit 255)
def e5x48 : E := .and e5x46 e5x47
def e5x49 : E := .le (.lit 0) (.v 3)
def e5x50 : E := .and e5x48 e5x49
def e5x51 : E := .eq e5x7 (.lit 0)
def e5x52 : E := .not e5x51
def e5x53 : E := .and e5x50 e5x52
def e5x54 : E := .le e5x1 (.lit 127)
def e5x55 : E := .eq e5x5 (.lit 0)
def e5x56 : E := .or e5x54 e5x55
def e5x57 : E := .le (.lit 128) e5x1
def e5x58 : E := .and e5x57 e5x31
def e5x59 : E := .not e5x55
def e5x60 : E := .and e5x59 e5x19
def e5x61 : E := .or e5x58 e5x60
def e5x62 : E := .ite e5x56 e5x61 e5x44
def e5x63 : E := .and e5x62 e5x47
def e5x64 : E := .and e5x63 e5x49
def e5x65 : E := .iff e5x53 e5x64
def e5x66 : E := .not e5x65
def e5x67 : E := .add (.v 3) (.lit 1)
noncomputable def e5xT0 : List Item := todoS Try.prog G Gh [] 3000 0 7 e5xHy e5xLs [] 3
noncomputable def e5xh0 : Head := ⟨3, e5xT0, ⟨[((.v 0), ((-32768), 32767)), ((.v 1), ((-32768), 32767)), ((.v 2), (0, 65535)), ((.v 3), ((-1), 257))], [(0, (0, 255)), (1, (0, 65535)), (2, (0, 65535)), (3, ((-32768), 32767))], [], [], [], []⟩, [⟨7, [], .s (.int .i64 (.v 3))⟩, ⟨3, [], .s (.ptr 0 (.lit 0))⟩, ⟨1, [], .s (.int .i64 (.lit 5))⟩, ⟨2, [], .s (.bool (.bv 0))⟩], [⟨33, [.run .u8 (.lit 64) (.av 0) 0, .run .u16 (.lit 4) (.av 1) 0, .run .u16 (.lit 4) (.av 2) 0, .run .i16 (.lit 6) (.av 3) 0, .one (.int .i16 (.v 0)), .one (.int .i16 (.v 1)), .one (.int .u16 (.v 2))], true, none, false⟩]⟩
noncomputable def e5xhs : List Head := [e5xh0]
def e5xD : Dim := ⟨4, 1, 4, 3, 1, 4, 0⟩
theorem e5xst : startL Try.prog G Gh e5xD e5xhs [] 3000 0 7 e5xHy e5xLs [] = some (.jump 0 e5xT0 ⟨[(3, (.lit (-1)))], [], []⟩) := by kernel_rfl
theorem e5xsg0 : segL Try.prog G Gh e5xD e5xhs [] 3000 0 7 e5xh0 = some (.ite e5x0 (.ite e5x66 (.ret (.s (.bool (.blit false))) [⟨33, [.run .u8 (.lit 64) (.av 0) 0, .run .u16 (.lit 4) (.av 1) 0, .run .u16 (.lit 4) (.av 2) 0, .run .i16 (.lit 6) (.av 3) 0, .one (.int .i16 (.v 0)), .one (.int .i16 (.v 1)), .one (.int .u16 (.v 2))], true, none, false⟩]) (.jump 0 e5xT0 ⟨[(3, e5x67)], [], []⟩)) (.ret (.s (.bool (.blit true))) [⟨33, [.run .u8 (.lit 64) (.av 0) 0, .run .u16 (.lit 4) (.av 1) 0, .run .u16 (.lit 4) (.av 2) 0, .run .i16 (.lit 6) (.av 3) 0, .one (.int .i16 (.v 0)), .one (.int .i16 (.v 1)), .one (.int .u16 (.v 2))], true, none, false⟩])) := by kernel_rfl
def e5xBase (n0_4 n0_5 n0_6 : Int) (p0 : Bool) (A0 A1 A2 A3 : Nat → Int) : Prop := (-32768 ≤ n0_4 ∧ n0_4 ≤ 32767) ∧ (-32768 ≤ n0_5 ∧ n0_5 ≤ 32767) ∧ (0 ≤ n0_6 ∧ n0_6 ≤ 65535) ∧ (∀ j, 0 ≤ A0 j ∧ A0 j ≤ 255) ∧ (∀ j, 0 ≤ A1 j ∧ A1 j ≤ 65535) ∧ (∀ j, 0 ≤ A2 j ∧ A2 j ≤ 65535) ∧ (∀ j, -32768 ≤ A3 j ∧ A3 j ≤ 32767) ∧ True
def e5xJ0 (n0_4 n0_5 n0_6 x3 : Int) (p0 : Bool) (A0 A1 A2 A3 : Nat → Int) : Prop := (-1 ≤ x3 ∧ x3 ≤ 257) ∧ True
def e5xInv : Nat → Env → Prop
  | 0, ρ => ∃ (n0_4 n0_5 n0_6 x3 : Int) (p0 : Bool) (A0 A1 A2 A3 : Nat → Int), ρ = (⟨[n0_4, n0_5, n0_6, x3], [p0], [A0, A1, A2, A3], [], Iv (fun _ _ => Ext.none)⟩ : Env) ∧ e5xBase n0_4 n0_5 n0_6 p0 A0 A1 A2 A3 ∧ e5xJ0 n0_4 n0_5 n0_6 x3 p0 A0 A1 A2 A3
  | _, _ => False
def e5xmu : Nat → Env → Nat := fun _ ρ => (257 - ρ.i.getD 3 0).toNat
theorem e5xvc0 (n0_4 n0_5 n0_6 x3 : Int) (p0 : Bool) (A0 A1 A2 A3 : Nat → Int) (hB : e5xBase n0_4 n0_5 n0_6 p0 A0 A1 A2 A3) (hJ : e5xJ0 n0_4 n0_5 n0_6 x3 p0 A0 A1 A2 A3) :
    LT.holds (⟨[n0_4, n0_5, n0_6, x3], [p0], [A0, A1, A2, A3], [], Iv (fun _ _ => Ext.none)⟩ : Env) (fun v _ => retTrue (⟨[n0_4, n0_5, n0_6, x3], [p0], [A0, A1, A2, A3], [], Iv (fun _ _ => Ext.none)⟩ : Env) v) (fun j' todo ρ' => (e5xhs[j']?.map (·.todo)) = some todo ∧ e5xInv j' ρ' ∧ e5xmu j' ρ' < e5xmu 0 (⟨[n0_4, n0_5, n0_6, x3], [p0], [A0, A1, A2, A3], [], Iv (fun _ _ => Ext.none)⟩ : Env)) (.ite e5x0 (.ite e5x66 (.ret (.s (.bool (.blit false))) [⟨33, [.run .u8 (.lit 64) (.av 0) 0, .run .u16 (.lit 4) (.av 1) 0, .run .u16 (.lit 4) (.av 2) 0, .run .i16 (.lit 6) (.av 3) 0, .one (.int .i16 (.v 0)), .one (.int .i16 (.v 1)), .one (.int .u16 (.v 2))], true, none, false⟩]) (.jump 0 e5xT0 ⟨[(3, e5x67)], [], []⟩)) (.ret (.s (.bool (.blit true))) [⟨33, [.run .u8 (.lit 64) (.av 0) 0, .run .u16 (.lit 4) (.av 1) 0, .run .u16 (.lit 4) (.av 2) 0, .run .i16 (.lit 6) (.av 3) 0, .one (.int .i16 (.v 0)), .one (.int .i16 (.v 1)), .one (.int .u16 (.v 2))], true, none, false⟩])) := by
  simp only [LT.holds, retTrue]
  refine ⟨fun hc0 => ?_, fun hc0 => ?_⟩
  ·
    refine ⟨fun hc1 => ?_, fun hc1 => ?_⟩
    ·
      exfalso
      have hA : ∀ j, 0 ≤ A0 j ∧ A0 j ≤ 255 := by simp only [e5xBase] at hB; exact hB.2.2.2.1
      have hX : (E.i (⟨[n0_4, n0_5, n0_6, x3], [p0], [A0, A1, A2, A3], [], Iv (fun _ _ => Ext.none)⟩ : Env) e5x2 = 0 ∧ E.b (⟨[n0_4, n0_5, n0_6, x3], [p0], [A0, A1, A2, A3], [], Iv (fun _ _ => Ext.none)⟩ : Env) e5x57 = false ∧ E.b (⟨[n0_4, n0_5, n0_6, x3], [p0], [A0, A1, A2, A3], [], Iv (fun _ _ => Ext.none)⟩ : Env) e5x54 = true) ∨ (E.i (⟨[n0_4, n0_5, n0_6, x3], [p0], [A0, A1, A2, A3], [], Iv (fun _ _ => Ext.none)⟩ : Env) e5x2 = 1 ∧ E.b (⟨[n0_4, n0_5, n0_6, x3], [p0], [A0, A1, A2, A3], [], Iv (fun _ _ => Ext.none)⟩ : Env) e5x57 = true ∧ E.b (⟨[n0_4, n0_5, n0_6, x3], [p0], [A0, A1, A2, A3], [], Iv (fun _ _ => Ext.none)⟩ : Env) e5x54 = false) := by
        have h5 := hA (Int.toNat 35); have h6 := hA (Int.toNat 36); have h7 := hA (Int.toNat 37)
        simp only [e5x1, e5x2, e5x54, e5x57, i_v, b_bv, i_lit, b_blit, i_add, i_sub, i_mul, i_div, i_mod, i_tdiv, i_tmod, i_ite, b_ite, b_lt, b_le, b_eq, b_not, b_and, b_or, b_iff, i_sel, a_tab, i_pow2, List.getD_cons_zero, List.getD_cons_succ, decide_eq_true_eq, decide_eq_false_iff_not, Bool.and_eq_true, Bool.or_eq_true, Bool.not_eq_true', Bool.not_eq_false', Bool.and_eq_false_iff, Bool.or_eq_false_iff, Bool.not_not, ite_tt, ite_ff, iff_tt, iff_ff, a_av, a_ite, a_upd, decide_eq_true_eq, decide_eq_false_iff_not]
        omega
      have hY : (E.i (⟨[n0_4, n0_5, n0_6, x3], [p0], [A0, A1, A2, A3], [], Iv (fun _ _ => Ext.none)⟩ : Env) e5x5 = 0) ∨ (E.i (⟨[n0_4, n0_5, n0_6, x3], [p0], [A0, A1, A2, A3], [], Iv (fun _ _ => Ext.none)⟩ : Env) e5x5 = 1) := by
        have h5 := hA (Int.toNat 35); have h6 := hA (Int.toNat 36); have h7 := hA (Int.toNat 37)
        simp only [e5x1, e5x4, e5x5, i_v, b_bv, i_lit, b_blit, i_add, i_sub, i_mul, i_div, i_mod, i_tdiv, i_tmod, i_ite, b_ite, b_lt, b_le, b_eq, b_not, b_and, b_or, b_iff, i_sel, a_tab, i_pow2, List.getD_cons_zero, List.getD_cons_succ, decide_eq_true_eq, decide_eq_false_iff_not, Bool.and_eq_true, Bool.or_eq_true, Bool.not_eq_true', Bool.not_eq_false', Bool.and_eq_false_iff, Bool.or_eq_false_iff, Bool.not_not, ite_tt, ite_ff, iff_tt, iff_ff, a_av, a_ite, a_upd, decide_eq_true_eq, decide_eq_false_iff_not]
        omega
      have h : E.b (⟨[n0_4, n0_5, n0_6, x3], [p0], [A0, A1, A2, A3], [], Iv (fun _ _ => Ext.none)⟩ : Env) e5x66 = false := by
        simp only [e5x66, e5x65, e5x64, e5x63, e5x62, e5x61, e5x60, e5x19, e5x59, e5x55, e5x58, e5x31, e5x56, e5x53, e5x52, e5x51, e5x7, e5x6, e5x3, e5x50, e5x48, e5x46, e5x45, e5x20, e5x8, b_or, b_and, b_not, b_iff, b_eq, b_ite, i_add, i_mul, i_lit]
        clear hc0 hc1 hB hJ hA
        generalize E.b _ e5x44 = g0
        generalize E.b _ e5x18 = g1
        generalize E.b _ e5x30 = g2
        generalize E.b _ e5x49 = g3
        generalize E.b _ e5x47 = g4
        rcases hX with ⟨hX, hX0, hX1⟩ | ⟨hX, hX0, hX1⟩ <;> rcases hY with hY | hY <;> simp only [hX, hX0, hX1, hY] <;> revert g0 g1 g2 g3 g4 <;> decide
      rw [h] at hc1
      cases hc1
    ·
      refine ⟨rfl, ⟨_, _, _, _, _, _, _, _, _, rfl, hB, ?_⟩, ?_⟩
      simp only [e5xJ0, and_true] at *
      first | omega | (simp only [e5x0, e5x1, e5x2, e5x3, e5x4, e5x5, e5x6, e5x7, e5x8, e5x9, e5x10, e5x11, e5x12, e5x13, e5x14, e5x15, e5x16, e5x17, e5x18, e5x19, e5x20, e5x21, e5x22, e5x23, e5x24, e5x25, e5x26, e5x27, e5x28, e5x29, e5x30, e5x31, e5x32, e5x33, e5x34, e5x35, e5x36, e5x37, e5x38, e5x39, e5x40, e5x41, e5x42, e5x43, e5x44, e5x45, e5x46, e5x47, e5x48, e5x49, e5x50, e5x51, e5x52, e5x53, e5x54, e5x55, e5x56, e5x57, e5x58, e5x59, e5x60, e5x61, e5x62, e5x63, e5x64, e5x65, e5x66, e5x67, i_v, b_bv, i_lit, b_blit, i_add, i_sub, i_mul, i_div, i_mod, i_tdiv, i_tmod, i_ite, b_ite, b_lt, b_le, b_eq, b_not, b_and, b_or, b_iff, i_sel, a_tab, i_pow2, List.getD_cons_zero, List.getD_cons_succ, decide_eq_true_eq, decide_eq_false_iff_not, Bool.and_eq_true, Bool.or_eq_true, Bool.not_eq_true', Bool.not_eq_false', Bool.and_eq_false_iff, Bool.or_eq_false_iff, Bool.not_not, ite_tt, ite_ff, iff_tt, iff_ff, a_av, a_ite, a_upd] at *; omega)
      simp only [e5xmu, e5xJ0, Env.app, setAll, List.map_cons, List.map_nil, List.set, List.getD_cons_zero, List.getD_cons_succ, e5x0, e5x1, e5x2, e5x3, e5x4, e5x5, e5x6, e5x7, e5x8, e5x9, e5x10, e5x11, e5x12, e5x13, e5x14, e5x15, e5x16, e5x17, e5x18, e5x19, e5x20, e5x21, e5x22, e5x23, e5x24, e5x25, e5x26, e5x27, e5x28, e5x29, e5x30, e5x31, e5x32, e5x33, e5x34, e5x35, e5x36, e5x37, e5x38, e5x39, e5x40, e5x41, e5x42, e5x43, e5x44, e5x45, e5x46, e5x47, e5x48, e5x49, e5x50, e5x51, e5x52, e5x53, e5x54, e5x55, e5x56, e5x57, e5x58, e5x59, e5x60, e5x61, e5x62, e5x63, e5x64, e5x65, e5x66, e5x67, i_v, b_bv, i_lit, b_blit, i_add, i_sub, i_mul, i_div, i_mod, i_tdiv, i_tmod, i_ite, b_ite, b_lt, b_le, b_eq, b_not, b_and, b_or, b_iff, i_sel, a_tab, i_pow2, List.getD_cons_zero, List.getD_cons_succ, decide_eq_true_eq, decide_eq_false_iff_not, Bool.and_eq_true, Bool.or_eq_true, Bool.not_eq_true', Bool.not_eq_false', Bool.and_eq_false_iff, Bool.or_eq_false_iff, Bool.not_not, ite_tt, ite_ff, iff_tt, iff_ff, a_av, a_ite, a_upd] at *
      omega
  ·
    rfl
theorem e5xvcS (n0_4 n0_5 n0_6 : Int) (p0 : Bool) (A0 A1 A2 A3 : Nat → Int) (hB : e5xBase n0_4 n0_5 n0_6 p0 A0 A1 A2 A3) :
    LT.holds (⟨[n0_4, n0_5, n0_6, 0], [p0], [A0, A1, A2, A3], [], Iv (fun _ _ => Ext.none)⟩ : Env) (fun v _ => retTrue (⟨[n0_4, n0_5, n0_6, 0], [p0], [A0, A1, A2, A3], [], Iv (fun _ _ => Ext.none)⟩ : Env) v) (fun j' todo ρ' => (e5xhs[j']?.map (·.todo)) = some todo ∧ e5xInv j' ρ') (.jump 0 e5xT0 ⟨[(3, (.lit (-1)))], [], []⟩) := by
  simp only [LT.holds, retTrue]
  refine ⟨rfl, _, _, _, _, _, _, _, _, _, rfl, hB, ?_⟩
  simp only [e5xJ0, and_true] at *
  first | omega | (simp only [e5x0, e5x1, e5x2, e5x3, e5x4, e5x5, e5x6, e5x7, e5x8, e5x9, e5x10, e5x11, e5x12, e5x13, e5x14, e5x15, e5x16, e5x17, e5x18, e5x19, e5x20, e5x21, e5x22, e5x23, e5x24, e5x25, e5x26, e5x27, e5x28, e5x29, e5x30, e5x31, e5x32, e5x33, e5x34, e5x35, e5x36, e5x37, e5x38, e5x39, e5x40, e5x41, e5x42, e5x43, e5x44, e5x45, e5x46, e5x47, e5x48, e5x49, e5x50, e5x51, e5x52, e5x53, e5x54, e5x55, e5x56, e5x57, e5x58, e5x59, e5x60, e5x61, e5x62, e5x63, e5x64, e5x65, e5x66, e5x67, i_v, b_bv, i_lit, b_blit, i_add, i_sub, i_mul, i_div, i_mod, i_tdiv, i_tmod, i_ite, b_ite, b_lt, b_le, b_eq, b_not, b_and, b_or, b_iff, i_sel, a_tab, i_pow2, List.getD_cons_zero, List.getD_cons_succ, decide_eq_true_eq, decide_eq_false_iff_not, Bool.and_eq_true, Bool.or_eq_true, Bool.not_eq_true', Bool.not_eq_false', Bool.and_eq_false_iff, Bool.or_eq_false_iff, Bool.not_not, ite_tt, ite_ff, iff_tt, iff_ff, a_av, a_ite, a_upd] at *; omega)
theorem e5xcalls (c0 : List Value) (l0 : c0.length = pcTotal Pc0) (f0 : PcFit c0 0 Pc0) (a2 : Bool) (w : World) :
    Calls Try.prog 7 #[.agg c0.toArray, .int .i64 (5), .bool a2] w fun r w' => r = .returned (.bool true) ∧ Below w.heap.size w w' := by
  have hc0 : cellsOf (⟨[intV (c0.getD 78 Go.undef), intV (c0.getD 79 Go.undef), intV (c0.getD 80 Go.undef), 0], [a2], [arrOf c0 0 64, arrOf c0 64 4, arrOf c0 68 4, arrOf c0 72 6], [], Iv (fun _ _ => Ext.none)⟩ : Env) Loc.id (pcSegs 0 0 0 Pc0) = c0 := by
    rw [pc_cells Pc0 0 0 0 0 f0 (by intro j hj; rcases j with _ | _ | _ | _ | j <;> first | rfl | (simp [Pc0, pcA, pcB, pcI] at hj; omega)) (by intro j hj; simp [Pc0, pcA, pcB, pcI] at hj) (by intro j hj; rcases j with _ | _ | _ | j <;> first | rfl | (simp [Pc0, pcA, pcB, pcI] at hj; omega)), List.drop_zero, ← l0, List.take_length]
  have hargs : (e5xLs.map (SV.conc (⟨[intV (c0.getD 78 Go.undef), intV (c0.getD 79 Go.undef), intV (c0.getD 80 Go.undef), 0], [a2], [arrOf c0 0 64, arrOf c0 64 4, arrOf c0 68 4, arrOf c0 72 6], [], Iv (fun _ _ => Ext.none)⟩ : Env) Loc.id)).toArray = #[.agg c0.toArray, .int .i64 (5), .bool a2] := by
    refine congrArg List.toArray ?_
    exact (cons_eq (congrArg (fun l => Value.agg (List.toArray l)) hc0) (cons_eq rfl (cons_eq rfl rfl)))
  rw [← hargs]
  have hok : Hyp.ok e5xHy (⟨[intV (c0.getD 78 Go.undef), intV (c0.getD 79 Go.undef), intV (c0.getD 80 Go.undef), 0], [a2], [arrOf c0 0 64, arrOf c0 64 4, arrOf c0 68 4, arrOf c0 72 6], [], Iv (fun _ _ => Ext.none)⟩ : Env) := by
    refine ⟨?_, ?_, ?_, by simp [e5xHy], ?_, by simp [e5xHy]⟩
    · simp [e5xHy]
    · intro p hp
      simp only [e5xHy, List.mem_cons, List.not_mem_nil, or_false] at hp
      rcases hp with rfl | rfl | rfl
      · exact num_rng (f0.tail.tail.tail.tail)
      · exact num_rng (f0.tail.tail.tail.tail.tail)
      · exact num_rng (f0.tail.tail.tail.tail.tail.tail)
    · intro p hp
      simp only [e5xHy, List.mem_cons, List.not_mem_nil, or_false] at hp
      rcases hp with rfl | rfl | rfl | rfl
      · exact arrOf_rng (f0)
      · exact arrOf_rng (f0.tail)
      · exact arrOf_rng (f0.tail.tail)
      · exact arrOf_rng (f0.tail.tail.tail)
    · simp [e5xHy]
  refine law_loops (D := e5xD) (hs := e5xhs) (ρ := (⟨[intV (c0.getD 78 Go.undef), intV (c0.getD 79 Go.undef), intV (c0.getD 80 Go.undef), 0], [a2], [arrOf c0 0 64, arrOf c0 64 4, arrOf c0 68 4, arrOf c0 72 6], [], Iv (fun _ _ => Ext.none)⟩ : Env)) (G_ok _) (by kernel_rfl) rfl (e5xInv ) e5xmu e5xst rfl ⟨rfl, rfl, rfl⟩ hok (e5xvcS (intV (c0.getD 78 Go.undef)) (intV (c0.getD 79 Go.undef)) (intV (c0.getD 80 Go.undef)) (a2) (arrOf c0 0 64) (arrOf c0 64 4) (arrOf c0 68 4) (arrOf c0 72 6) ⟨num_rng (f0.tail.tail.tail.tail), num_rng (f0.tail.tail.tail.tail.tail), num_rng (f0.tail.tail.tail.tail.tail.tail), arrOf_rng (f0), arrOf_rng (f0.tail), arrOf_rng (f0.tail.tail), arrOf_rng (f0.tail.tail.tail), trivial⟩) ?_ w (fun i j => Ext.none_ok _)
  intro j h ρ hj hI hz hInv
  rcases j with _ | j
  · simp only [e5xhs, List.getElem?_cons_zero, List.getElem?_cons_succ, Option.some.injEq] at hj; subst hj
    obtain ⟨n0_4, n0_5, n0_6, x3, p0, A0, A1, A2, A3, rfl, hB, hJ⟩ := hInv
    refine ⟨?_, _, e5xsg0, e5xvc0 n0_4 n0_5 n0_6 x3 p0 A0 A1 A2 A3 hB hJ⟩
    have hB2 := hB; have hJ2 := hJ
    simp only [e5xBase] at hB2; simp only [e5xJ0] at hJ2
    obtain ⟨hb0, hb1, hb2, hb3, hb4, hb5, hb6, _⟩ := hB2
    obtain ⟨hl0, _⟩ := hJ2
    refine ⟨?_, ?_, ?_, by simp [e5xh0], ?_, by simp [e5xh0]⟩
    · simp [e5xh0]
    · intro p hp
      simp only [e5xh0, List.mem_cons, List.not_mem_nil, or_false] at hp
      rcases hp with rfl | rfl | rfl | rfl
      · exact hb0
      · exact hb1
      · exact hb2
      · exact hl0
    · intro p hp
      simp only [e5xh0, List.mem_cons, List.not_mem_nil, or_false] at hp
      rcases hp with rfl | rfl | rfl | rfl
      · exact hb3
      · exact hb4
      · exact hb5
      · exact hb6
    · simp [e5xh0]
  · simp [e5xhs] at hj
end Go.Proofs.Ytgbncbclhdnbmaa.BlendWindows
