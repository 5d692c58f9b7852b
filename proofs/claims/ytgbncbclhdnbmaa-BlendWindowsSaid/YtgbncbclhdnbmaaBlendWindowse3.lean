/- A part of the law BlendWindows, which returns true for every input. What lies within each layer's window, and where it is shown, is what the document says. No condition. -/
import Derived.Test.YtgbncbclhdnbmaaBlendWindows0
namespace Go.Proofs.Ytgbncbclhdnbmaa.BlendWindows
open Go.Sx Go.ChangeShapes Go.WideShapes Go.ChangeAt Go.RowKit
set_option linter.unusedVariables false
set_option linter.unusedSimpArgs false
set_option maxRecDepth 100000
def e3xHy : Hyp := ⟨[(.v 0, (-32768, 32767)), (.v 1, (-32768, 32767)), (.v 2, (0, 65535))], [(0, (0, 255)), (1, (0, 65535)), (2, (0, 65535)), (3, (-32768, 32767))], [], [], [], []⟩
def e3xLs : List SV := [.agg (pcSegs 0 0 0 Pc0), .s (.int .i64 (.lit (3))), .s (.bool (.bv 0))]
def e3x0 : E := .le (.v 3) (.lit 256)
def e3x1 : E := .sel (.av 0) (.lit 36)
def e3x2 : E := .div e3x1 (.lit 128)
def e3x3 : E := .mul e3x2 (.lit 8)
def e3x4 : E := .div e3x1 (.lit 32)
def e3x5 : E := .mod e3x4 (.lit 2)
def e3x6 : E := .mul e3x5 (.lit 2)
def e3x7 : E := .add e3x3 e3x6
def e3x8 : E := .eq e3x7 (.lit 2)
def e3x9 : E := .sel (.av 0) (.lit 39)
def e3x10 : E := .le (.v 3) e3x9
def e3x11 : E := .sel (.av 0) (.lit 38)
def e3x12 : E := .le e3x11 (.v 3)
def e3x13 : E := .and e3x10 e3x12
def e3x14 : E := .div e3x1 (.lit 16)
def e3x15 : E := .mod e3x14 (.lit 2)
def e3x16 : E := .eq e3x15 (.lit 0)
def e3x17 : E := .not e3x16
def e3x18 : E := .iff e3x13 e3x17
def e3x19 : E := .not e3x18
def e3x20 : E := .eq e3x7 (.lit 8)
def e3x21 : E := .sel (.av 0) (.lit 41)
def e3x22 : E := .le (.v 3) e3x21
def e3x23 : E := .sel (.av 0) (.lit 40)
def e3x24 : E := .le e3x23 (.v 3)
def e3x25 : E := .and e3x22 e3x24
def e3x26 : E := .div e3x1 (.lit 64)
def e3x27 : E := .mod e3x26 (.lit 2)
def e3x28 : E := .eq e3x27 (.lit 0)
def e3x29 : E := .not e3x28
def e3x30 : E := .iff e3x25 e3x29
def e3x31 : E := .not e3x30
def e3x32 : E := .sel (.av 0) (.lit 42)
def e3x33 : E := .le e3x32 (.lit 63)
def e3x34 : E := .or e3x19 e3x31
def e3x35 : E := .div e3x32 (.lit 64)
def e3x36 : E := .eq e3x35 (.lit 1)
def e3x37 : E := .and e3x19 e3x31
def e3x38 : E := .eq e3x35 (.lit 2)
def e3x39 : E := .iff e3x19 e3x31
def e3x40 : E := .not e3x39
def e3x41 : E := .ite e3x38 e3x40 e3x39
def e3x42 : E := .ite e3x36 e3x37 e3x41
def e3x43 : E := .ite e3x33 e3x34 e3x42
def e3x44 : E := .ite e3x20 e3x31 e3x43
def e3x45 : E := .ite e3x8 e3x19 e3x44
def e3x46 : E := .le (.v 3) (.lit 255)
def e3x47 : E := .and e3x45 e3x46
def e3x48 : E := .le (.lit 0) (.v 3)
def e3x49 : E := .and e3x47 e3x48
def e3x50 : E := .eq e3x7 (.lit 0)
def e3x51 : E := .not e3x50
def e3x52 : E := .and e3x49 e3x51
def e3x53 : E := .le e3x1 (.lit 127)
def e3x54 : E := .eq e3x5 (.lit 0)
def e3x55 : E := .or e3x53 e3x54
def e3x56 : E := .le (.lit 128) e3x1
def e3x57 : E := .and e3x56 e3x31
def e3x58 : E := .not e3x54
def e3x59 : E := .and e3x58 e3x19
def e3x60 : E := .or e3x57 e3x59
def e3x61 : E := .ite e3x55 e3x60 e3x43
def e3x62 : E := .and e3x61 e3x46
def e3x63 : E := .and e3x62 e3x48
def e3x64 : E := .iff e3x52 e3x63
def e3x65 : E := .not e3x64
def e3x66 : E := .and e3x46 e3x48
def e3x67 : E := .sel (.av 0) (.lit 45)
def e3x68 : E := .sel (.av 0) (.lit 44)
def e3x69 : E := .ite (.bv 0) e3x67 e3x68
def e3x70 : E := .div e3x69 (.lit 8)
def e3x71 : E := .mod e3x70 (.lit 2)
def e3x72 : E := .eq e3x71 (.lit 0)
def e3x73 : E := .not e3x72
def e3x74 : E := .and e3x66 e3x73
def e3x75 : E := .sel (.av 0) (.lit 47)
def e3x76 : E := .sel (.av 0) (.lit 46)
def e3x77 : E := .ite (.bv 0) e3x75 e3x76
def e3x78 : E := .div e3x77 (.lit 8)
def e3x79 : E := .mod e3x78 (.lit 2)
def e3x80 : E := .eq e3x79 (.lit 0)
def e3x81 : E := .or e3x50 e3x80
def e3x82 : E := .not e3x45
def e3x83 : E := .or e3x81 e3x82
def e3x84 : E := .and e3x74 e3x83
def e3x85 : E := .not e3x61
def e3x86 : E := .or e3x80 e3x85
def e3x87 : E := .and e3x74 e3x86
def e3x88 : E := .iff e3x84 e3x87
def e3x89 : E := .not e3x88
def e3x90 : E := .or e3x65 e3x89
def e3x91 : E := .add (.v 3) (.lit 1)
noncomputable def e3xT0 : List Item := todoS Try.prog G Gh [] 3000 0 7 e3xHy e3xLs [] 3
noncomputable def e3xh0 : Head := ⟨3, e3xT0, ⟨[((.v 0), ((-32768), 32767)), ((.v 1), ((-32768), 32767)), ((.v 2), (0, 65535)), ((.v 3), ((-1), 257))], [(0, (0, 255)), (1, (0, 65535)), (2, (0, 65535)), (3, ((-32768), 32767))], [], [], [], []⟩, [⟨7, [], .s (.int .i64 (.v 3))⟩, ⟨3, [], .s (.ptr 0 (.lit 0))⟩, ⟨1, [], .s (.int .i64 (.lit 3))⟩, ⟨2, [], .s (.bool (.bv 0))⟩], [⟨33, [.run .u8 (.lit 64) (.av 0) 0, .run .u16 (.lit 4) (.av 1) 0, .run .u16 (.lit 4) (.av 2) 0, .run .i16 (.lit 6) (.av 3) 0, .one (.int .i16 (.v 0)), .one (.int .i16 (.v 1)), .one (.int .u16 (.v 2))], true, none, false⟩]⟩
noncomputable def e3xhs : List Head := [e3xh0]
def e3xD : Dim := ⟨4, 1, 4, 3, 1, 4, 0⟩
theorem e3xst : startL Try.prog G Gh e3xD e3xhs [] 3000 0 7 e3xHy e3xLs [] = some (.jump 0 e3xT0 ⟨[(3, (.lit (-1)))], [], []⟩) := by kernel_rfl
theorem e3xsg0 : segL Try.prog G Gh e3xD e3xhs [] 3000 0 7 e3xh0 = some (.ite e3x0 (.ite e3x90 (.ret (.s (.bool (.blit false))) [⟨33, [.run .u8 (.lit 64) (.av 0) 0, .run .u16 (.lit 4) (.av 1) 0, .run .u16 (.lit 4) (.av 2) 0, .run .i16 (.lit 6) (.av 3) 0, .one (.int .i16 (.v 0)), .one (.int .i16 (.v 1)), .one (.int .u16 (.v 2))], true, none, false⟩]) (.jump 0 e3xT0 ⟨[(3, e3x91)], [], []⟩)) (.ret (.s (.bool (.blit true))) [⟨33, [.run .u8 (.lit 64) (.av 0) 0, .run .u16 (.lit 4) (.av 1) 0, .run .u16 (.lit 4) (.av 2) 0, .run .i16 (.lit 6) (.av 3) 0, .one (.int .i16 (.v 0)), .one (.int .i16 (.v 1)), .one (.int .u16 (.v 2))], true, none, false⟩])) := by kernel_rfl
def e3xBase (n0_4 n0_5 n0_6 : Int) (p0 : Bool) (A0 A1 A2 A3 : Nat → Int) : Prop := (-32768 ≤ n0_4 ∧ n0_4 ≤ 32767) ∧ (-32768 ≤ n0_5 ∧ n0_5 ≤ 32767) ∧ (0 ≤ n0_6 ∧ n0_6 ≤ 65535) ∧ (∀ j, 0 ≤ A0 j ∧ A0 j ≤ 255) ∧ (∀ j, 0 ≤ A1 j ∧ A1 j ≤ 65535) ∧ (∀ j, 0 ≤ A2 j ∧ A2 j ≤ 65535) ∧ (∀ j, -32768 ≤ A3 j ∧ A3 j ≤ 32767) ∧ True
def e3xJ0 (n0_4 n0_5 n0_6 x3 : Int) (p0 : Bool) (A0 A1 A2 A3 : Nat → Int) : Prop := (-1 ≤ x3 ∧ x3 ≤ 257) ∧ True
def e3xInv : Nat → Env → Prop
  | 0, ρ => ∃ (n0_4 n0_5 n0_6 x3 : Int) (p0 : Bool) (A0 A1 A2 A3 : Nat → Int), ρ = (⟨[n0_4, n0_5, n0_6, x3], [p0], [A0, A1, A2, A3], [], Iv (fun _ _ => Ext.none)⟩ : Env) ∧ e3xBase n0_4 n0_5 n0_6 p0 A0 A1 A2 A3 ∧ e3xJ0 n0_4 n0_5 n0_6 x3 p0 A0 A1 A2 A3
  | _, _ => False
def e3xmu : Nat → Env → Nat := fun _ ρ => (257 - ρ.i.getD 3 0).toNat
theorem e3xvc0 (n0_4 n0_5 n0_6 x3 : Int) (p0 : Bool) (A0 A1 A2 A3 : Nat → Int) (hB : e3xBase n0_4 n0_5 n0_6 p0 A0 A1 A2 A3) (hJ : e3xJ0 n0_4 n0_5 n0_6 x3 p0 A0 A1 A2 A3) :
    LT.holds (⟨[n0_4, n0_5, n0_6, x3], [p0], [A0, A1, A2, A3], [], Iv (fun _ _ => Ext.none)⟩ : Env) (fun v _ => retTrue (⟨[n0_4, n0_5, n0_6, x3], [p0], [A0, A1, A2, A3], [], Iv (fun _ _ => Ext.none)⟩ : Env) v) (fun j' todo ρ' => (e3xhs[j']?.map (·.todo)) = some todo ∧ e3xInv j' ρ' ∧ e3xmu j' ρ' < e3xmu 0 (⟨[n0_4, n0_5, n0_6, x3], [p0], [A0, A1, A2, A3], [], Iv (fun _ _ => Ext.none)⟩ : Env)) (.ite e3x0 (.ite e3x90 (.ret (.s (.bool (.blit false))) [⟨33, [.run .u8 (.lit 64) (.av 0) 0, .run .u16 (.lit 4) (.av 1) 0, .run .u16 (.lit 4) (.av 2) 0, .run .i16 (.lit 6) (.av 3) 0, .one (.int .i16 (.v 0)), .one (.int .i16 (.v 1)), .one (.int .u16 (.v 2))], true, none, false⟩]) (.jump 0 e3xT0 ⟨[(3, e3x91)], [], []⟩)) (.ret (.s (.bool (.blit true))) [⟨33, [.run .u8 (.lit 64) (.av 0) 0, .run .u16 (.lit 4) (.av 1) 0, .run .u16 (.lit 4) (.av 2) 0, .run .i16 (.lit 6) (.av 3) 0, .one (.int .i16 (.v 0)), .one (.int .i16 (.v 1)), .one (.int .u16 (.v 2))], true, none, false⟩])) := by
  simp only [LT.holds, retTrue]
  refine ⟨fun hc0 => ?_, fun hc0 => ?_⟩
  ·
    refine ⟨fun hc1 => ?_, fun hc1 => ?_⟩
    ·
      exfalso
      have hA : ∀ j, 0 ≤ A0 j ∧ A0 j ≤ 255 := by simp only [e3xBase] at hB; exact hB.2.2.2.1
      have hX : (E.i (⟨[n0_4, n0_5, n0_6, x3], [p0], [A0, A1, A2, A3], [], Iv (fun _ _ => Ext.none)⟩ : Env) e3x2 = 0 ∧ E.b (⟨[n0_4, n0_5, n0_6, x3], [p0], [A0, A1, A2, A3], [], Iv (fun _ _ => Ext.none)⟩ : Env) e3x56 = false ∧ E.b (⟨[n0_4, n0_5, n0_6, x3], [p0], [A0, A1, A2, A3], [], Iv (fun _ _ => Ext.none)⟩ : Env) e3x53 = true) ∨ (E.i (⟨[n0_4, n0_5, n0_6, x3], [p0], [A0, A1, A2, A3], [], Iv (fun _ _ => Ext.none)⟩ : Env) e3x2 = 1 ∧ E.b (⟨[n0_4, n0_5, n0_6, x3], [p0], [A0, A1, A2, A3], [], Iv (fun _ _ => Ext.none)⟩ : Env) e3x56 = true ∧ E.b (⟨[n0_4, n0_5, n0_6, x3], [p0], [A0, A1, A2, A3], [], Iv (fun _ _ => Ext.none)⟩ : Env) e3x53 = false) := by
        have h5 := hA (Int.toNat 35); have h6 := hA (Int.toNat 36); have h7 := hA (Int.toNat 37)
        simp only [e3x1, e3x2, e3x53, e3x56, i_v, b_bv, i_lit, b_blit, i_add, i_sub, i_mul, i_div, i_mod, i_tdiv, i_tmod, i_ite, b_ite, b_lt, b_le, b_eq, b_not, b_and, b_or, b_iff, i_sel, a_tab, i_pow2, List.getD_cons_zero, List.getD_cons_succ, decide_eq_true_eq, decide_eq_false_iff_not, Bool.and_eq_true, Bool.or_eq_true, Bool.not_eq_true', Bool.not_eq_false', Bool.and_eq_false_iff, Bool.or_eq_false_iff, Bool.not_not, ite_tt, ite_ff, iff_tt, iff_ff, a_av, a_ite, a_upd, decide_eq_true_eq, decide_eq_false_iff_not]
        omega
      have hY : (E.i (⟨[n0_4, n0_5, n0_6, x3], [p0], [A0, A1, A2, A3], [], Iv (fun _ _ => Ext.none)⟩ : Env) e3x5 = 0) ∨ (E.i (⟨[n0_4, n0_5, n0_6, x3], [p0], [A0, A1, A2, A3], [], Iv (fun _ _ => Ext.none)⟩ : Env) e3x5 = 1) := by
        have h5 := hA (Int.toNat 35); have h6 := hA (Int.toNat 36); have h7 := hA (Int.toNat 37)
        simp only [e3x1, e3x4, e3x5, i_v, b_bv, i_lit, b_blit, i_add, i_sub, i_mul, i_div, i_mod, i_tdiv, i_tmod, i_ite, b_ite, b_lt, b_le, b_eq, b_not, b_and, b_or, b_iff, i_sel, a_tab, i_pow2, List.getD_cons_zero, List.getD_cons_succ, decide_eq_true_eq, decide_eq_false_iff_not, Bool.and_eq_true, Bool.or_eq_true, Bool.not_eq_true', Bool.not_eq_false', Bool.and_eq_false_iff, Bool.or_eq_false_iff, Bool.not_not, ite_tt, ite_ff, iff_tt, iff_ff, a_av, a_ite, a_upd, decide_eq_true_eq, decide_eq_false_iff_not]
        omega
      have h : E.b (⟨[n0_4, n0_5, n0_6, x3], [p0], [A0, A1, A2, A3], [], Iv (fun _ _ => Ext.none)⟩ : Env) e3x90 = false := by
        simp only [e3x90, e3x89, e3x88, e3x87, e3x86, e3x85, e3x61, e3x60, e3x59, e3x19, e3x58, e3x54, e3x57, e3x31, e3x55, e3x74, e3x73, e3x66, e3x84, e3x83, e3x82, e3x45, e3x44, e3x20, e3x7, e3x6, e3x3, e3x8, e3x81, e3x50, e3x65, e3x64, e3x63, e3x62, e3x52, e3x51, e3x49, e3x47, b_or, b_and, b_not, b_iff, b_eq, b_ite, i_add, i_mul, i_lit]
        clear hc0 hc1 hB hJ hA
        generalize E.b _ e3x43 = g0
        generalize E.b _ e3x18 = g1
        generalize E.b _ e3x30 = g2
        generalize E.b _ e3x80 = g3
        generalize E.b _ e3x72 = g4
        generalize E.b _ e3x48 = g5
        generalize E.b _ e3x46 = g6
        rcases hX with ⟨hX, hX0, hX1⟩ | ⟨hX, hX0, hX1⟩ <;> rcases hY with hY | hY <;> simp only [hX, hX0, hX1, hY] <;> revert g0 g1 g2 g3 g4 g5 g6 <;> decide
      rw [h] at hc1
      cases hc1
    ·
      refine ⟨rfl, ⟨_, _, _, _, _, _, _, _, _, rfl, hB, ?_⟩, ?_⟩
      simp only [e3xJ0, and_true] at *
      first | omega | (simp only [e3x0, e3x1, e3x2, e3x3, e3x4, e3x5, e3x6, e3x7, e3x8, e3x9, e3x10, e3x11, e3x12, e3x13, e3x14, e3x15, e3x16, e3x17, e3x18, e3x19, e3x20, e3x21, e3x22, e3x23, e3x24, e3x25, e3x26, e3x27, e3x28, e3x29, e3x30, e3x31, e3x32, e3x33, e3x34, e3x35, e3x36, e3x37, e3x38, e3x39, e3x40, e3x41, e3x42, e3x43, e3x44, e3x45, e3x46, e3x47, e3x48, e3x49, e3x50, e3x51, e3x52, e3x53, e3x54, e3x55, e3x56, e3x57, e3x58, e3x59, e3x60, e3x61, e3x62, e3x63, e3x64, e3x65, e3x66, e3x67, e3x68, e3x69, e3x70, e3x71, e3x72, e3x73, e3x74, e3x75, e3x76, e3x77, e3x78, e3x79, e3x80, e3x81, e3x82, e3x83, e3x84, e3x85, e3x86, e3x87, e3x88, e3x89, e3x90, e3x91, i_v, b_bv, i_lit, b_blit, i_add, i_sub, i_mul, i_div, i_mod, i_tdiv, i_tmod, i_ite, b_ite, b_lt, b_le, b_eq, b_not, b_and, b_or, b_iff, i_sel, a_tab, i_pow2, List.getD_cons_zero, List.getD_cons_succ, decide_eq_true_eq, decide_eq_false_iff_not, Bool.and_eq_true, Bool.or_eq_true, Bool.not_eq_true', Bool.not_eq_false', Bool.and_eq_false_iff, Bool.or_eq_false_iff, Bool.not_not, ite_tt, ite_ff, iff_tt, iff_ff, a_av, a_ite, a_upd] at *; omega)
      simp only [e3xmu, e3xJ0, Env.app, setAll, List.map_cons, List.map_nil, List.set, List.getD_cons_zero, List.getD_cons_succ, e3x0, e3x1, e3x2, e3x3, e3x4, e3x5, e3x6, e3x7, e3x8, e3x9, e3x10, e3x11, e3x12, e3x13, e3x14, e3x15, e3x16, e3x17, e3x18, e3x19, e3x20, e3x21, e3x22, e3x23, e3x24, e3x25, e3x26, e3x27, e3x28, e3x29, e3x30, e3x31, e3x32, e3x33, e3x34, e3x35, e3x36, e3x37, e3x38, e3x39, e3x40, e3x41, e3x42, e3x43, e3x44, e3x45, e3x46, e3x47, e3x48, e3x49, e3x50, e3x51, e3x52, e3x53, e3x54, e3x55, e3x56, e3x57, e3x58, e3x59, e3x60, e3x61, e3x62, e3x63, e3x64, e3x65, e3x66, e3x67, e3x68, e3x69, e3x70, e3x71, e3x72, e3x73, e3x74, e3x75, e3x76, e3x77, e3x78, e3x79, e3x80, e3x81, e3x82, e3x83, e3x84, e3x85, e3x86, e3x87, e3x88, e3x89, e3x90, e3x91, i_v, b_bv, i_lit, b_blit, i_add, i_sub, i_mul, i_div, i_mod, i_tdiv, i_tmod, i_ite, b_ite, b_lt, b_le, b_eq, b_not, b_and, b_or, b_iff, i_sel, a_tab, i_pow2, List.getD_cons_zero, List.getD_cons_succ, decide_eq_true_eq, decide_eq_false_iff_not, Bool.and_eq_true, Bool.or_eq_true, Bool.not_eq_true', Bool.not_eq_false', Bool.and_eq_false_iff, Bool.or_eq_false_iff, Bool.not_not, ite_tt, ite_ff, iff_tt, iff_ff, a_av, a_ite, a_upd] at *
      omega
  ·
    rfl
theorem e3xvcS (n0_4 n0_5 n0_6 : Int) (p0 : Bool) (A0 A1 A2 A3 : Nat → Int) (hB : e3xBase n0_4 n0_5 n0_6 p0 A0 A1 A2 A3) :
    LT.holds (⟨[n0_4, n0_5, n0_6, 0], [p0], [A0, A1, A2, A3], [], Iv (fun _ _ => Ext.none)⟩ : Env) (fun v _ => retTrue (⟨[n0_4, n0_5, n0_6, 0], [p0], [A0, A1, A2, A3], [], Iv (fun _ _ => Ext.none)⟩ : Env) v) (fun j' todo ρ' => (e3xhs[j']?.map (·.todo)) = some todo ∧ e3xInv j' ρ') (.jump 0 e3xT0 ⟨[(3, (.lit (-1)))], [], []⟩) := by
  simp only [LT.holds, retTrue]
  refine ⟨rfl, _, _, _, _, _, _, _, _, _, rfl, hB, ?_⟩
  simp only [e3xJ0, and_true] at *
  first | omega | (simp only [e3x0, e3x1, e3x2, e3x3, e3x4, e3x5, e3x6, e3x7, e3x8, e3x9, e3x10, e3x11, e3x12, e3x13, e3x14, e3x15, e3x16, e3x17, e3x18, e3x19, e3x20, e3x21, e3x22, e3x23, e3x24, e3x25, e3x26, e3x27, e3x28, e3x29, e3x30, e3x31, e3x32, e3x33, e3x34, e3x35, e3x36, e3x37, e3x38, e3x39, e3x40, e3x41, e3x42, e3x43, e3x44, e3x45, e3x46, e3x47, e3x48, e3x49, e3x50, e3x51, e3x52, e3x53, e3x54, e3x55, e3x56, e3x57, e3x58, e3x59, e3x60, e3x61, e3x62, e3x63, e3x64, e3x65, e3x66, e3x67, e3x68, e3x69, e3x70, e3x71, e3x72, e3x73, e3x74, e3x75, e3x76, e3x77, e3x78, e3x79, e3x80, e3x81, e3x82, e3x83, e3x84, e3x85, e3x86, e3x87, e3x88, e3x89, e3x90, e3x91, i_v, b_bv, i_lit, b_blit, i_add, i_sub, i_mul, i_div, i_mod, i_tdiv, i_tmod, i_ite, b_ite, b_lt, b_le, b_eq, b_not, b_and, b_or, b_iff, i_sel, a_tab, i_pow2, List.getD_cons_zero, List.getD_cons_succ, decide_eq_true_eq, decide_eq_false_iff_not, Bool.and_eq_true, Bool.or_eq_true, Bool.not_eq_true', Bool.not_eq_false', Bool.and_eq_false_iff, Bool.or_eq_false_iff, Bool.not_not, ite_tt, ite_ff, iff_tt, iff_ff, a_av, a_ite, a_upd] at *; omega)
theorem e3xcalls (c0 : List Value) (l0 : c0.length = pcTotal Pc0) (f0 : PcFit c0 0 Pc0) (a2 : Bool) (w : World) :
    Calls Try.prog 7 #[.agg c0.toArray, .int .i64 (3), .bool a2] w fun r w' => r = .returned (.bool true) ∧ Below w.heap.size w w' := by
  have hc0 : cellsOf (⟨[intV (c0.getD 78 Go.undef), intV (c0.getD 79 Go.undef), intV (c0.getD 80 Go.undef), 0], [a2], [arrOf c0 0 64, arrOf c0 64 4, arrOf c0 68 4, arrOf c0 72 6], [], Iv (fun _ _ => Ext.none)⟩ : Env) Loc.id (pcSegs 0 0 0 Pc0) = c0 := by
    rw [pc_cells Pc0 0 0 0 0 f0 (by intro j hj; rcases j with _ | _ | _ | _ | j <;> first | rfl | (simp [Pc0, pcA, pcB, pcI] at hj; omega)) (by intro j hj; simp [Pc0, pcA, pcB, pcI] at hj) (by intro j hj; rcases j with _ | _ | _ | j <;> first | rfl | (simp [Pc0, pcA, pcB, pcI] at hj; omega)), List.drop_zero, ← l0, List.take_length]
  have hargs : (e3xLs.map (SV.conc (⟨[intV (c0.getD 78 Go.undef), intV (c0.getD 79 Go.undef), intV (c0.getD 80 Go.undef), 0], [a2], [arrOf c0 0 64, arrOf c0 64 4, arrOf c0 68 4, arrOf c0 72 6], [], Iv (fun _ _ => Ext.none)⟩ : Env) Loc.id)).toArray = #[.agg c0.toArray, .int .i64 (3), .bool a2] := by
    refine congrArg List.toArray ?_
    exact (cons_eq (congrArg (fun l => Value.agg (List.toArray l)) hc0) (cons_eq rfl (cons_eq rfl rfl)))
  rw [← hargs]
  have hok : Hyp.ok e3xHy (⟨[intV (c0.getD 78 Go.undef), intV (c0.getD 79 Go.undef), intV (c0.getD 80 Go.undef), 0], [a2], [arrOf c0 0 64, arrOf c0 64 4, arrOf c0 68 4, arrOf c0 72 6], [], Iv (fun _ _ => Ext.none)⟩ : Env) := by
    refine ⟨?_, ?_, ?_, by simp [e3xHy], ?_, by simp [e3xHy]⟩
    · simp [e3xHy]
    · intro p hp
      simp only [e3xHy, List.mem_cons, List.not_mem_nil, or_false] at hp
      rcases hp with rfl | rfl | rfl
      · exact num_rng (f0.tail.tail.tail.tail)
      · exact num_rng (f0.tail.tail.tail.tail.tail)
      · exact num_rng (f0.tail.tail.tail.tail.tail.tail)
    · intro p hp
      simp only [e3xHy, List.mem_cons, List.not_mem_nil, or_false] at hp
      rcases hp with rfl | rfl | rfl | rfl
      · exact arrOf_rng (f0)
      · exact arrOf_rng (f0.tail)
      · exact arrOf_rng (f0.tail.tail)
      · exact arrOf_rng (f0.tail.tail.tail)
    · simp [e3xHy]
  refine law_loops (D := e3xD) (hs := e3xhs) (ρ := (⟨[intV (c0.getD 78 Go.undef), intV (c0.getD 79 Go.undef), intV (c0.getD 80 Go.undef), 0], [a2], [arrOf c0 0 64, arrOf c0 64 4, arrOf c0 68 4, arrOf c0 72 6], [], Iv (fun _ _ => Ext.none)⟩ : Env)) (G_ok _) (by kernel_rfl) rfl (e3xInv ) e3xmu e3xst rfl ⟨rfl, rfl, rfl⟩ hok (e3xvcS (intV (c0.getD 78 Go.undef)) (intV (c0.getD 79 Go.undef)) (intV (c0.getD 80 Go.undef)) (a2) (arrOf c0 0 64) (arrOf c0 64 4) (arrOf c0 68 4) (arrOf c0 72 6) ⟨num_rng (f0.tail.tail.tail.tail), num_rng (f0.tail.tail.tail.tail.tail), num_rng (f0.tail.tail.tail.tail.tail.tail), arrOf_rng (f0), arrOf_rng (f0.tail), arrOf_rng (f0.tail.tail), arrOf_rng (f0.tail.tail.tail), trivial⟩) ?_ w (fun i j => Ext.none_ok _)
  intro j h ρ hj hI hz hInv
  rcases j with _ | j
  · simp only [e3xhs, List.getElem?_cons_zero, List.getElem?_cons_succ, Option.some.injEq] at hj; subst hj
    obtain ⟨n0_4, n0_5, n0_6, x3, p0, A0, A1, A2, A3, rfl, hB, hJ⟩ := hInv
    refine ⟨?_, _, e3xsg0, e3xvc0 n0_4 n0_5 n0_6 x3 p0 A0 A1 A2 A3 hB hJ⟩
    have hB2 := hB; have hJ2 := hJ
    simp only [e3xBase] at hB2; simp only [e3xJ0] at hJ2
    obtain ⟨hb0, hb1, hb2, hb3, hb4, hb5, hb6, _⟩ := hB2
    obtain ⟨hl0, _⟩ := hJ2
    refine ⟨?_, ?_, ?_, by simp [e3xh0], ?_, by simp [e3xh0]⟩
    · simp [e3xh0]
    · intro p hp
      simp only [e3xh0, List.mem_cons, List.not_mem_nil, or_false] at hp
      rcases hp with rfl | rfl | rfl | rfl
      · exact hb0
      · exact hb1
      · exact hb2
      · exact hl0
    · intro p hp
      simp only [e3xh0, List.mem_cons, List.not_mem_nil, or_false] at hp
      rcases hp with rfl | rfl | rfl | rfl
      · exact hb3
      · exact hb4
      · exact hb5
      · exact hb6
    · simp [e3xh0]
  · simp [e3xhs] at hj
end Go.Proofs.Ytgbncbclhdnbmaa.BlendWindows
