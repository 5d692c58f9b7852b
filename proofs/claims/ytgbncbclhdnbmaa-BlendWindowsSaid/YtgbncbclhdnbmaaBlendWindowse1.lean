/- A part of the law BlendWindows, which returns true for every input. What lies within each layer's window, and where it is shown, is what the document says. No condition. -/
import Derived.Test.YtgbncbclhdnbmaaBlendWindows0
namespace Go.Proofs.Ytgbncbclhdnbmaa.BlendWindows
open Go.Sx Go.ChangeShapes Go.WideShapes Go.ChangeAt Go.RowKit
set_option linter.unusedVariables false
set_option linter.unusedSimpArgs false
set_option maxRecDepth 100000
def e1xHy : Hyp := ⟨[(.v 0, (-32768, 32767)), (.v 1, (-32768, 32767)), (.v 2, (0, 65535))], [(0, (0, 255)), (1, (0, 65535)), (2, (0, 65535)), (3, (-32768, 32767))], [], [], [], []⟩
def e1xLs : List SV := [.agg (pcSegs 0 0 0 Pc0), .s (.int .i64 (.lit (1))), .s (.bool (.bv 0))]
def e1x0 : E := .le (.v 3) (.lit 256)
def e1x1 : E := .sel (.av 0) (.lit 35)
def e1x2 : E := .div e1x1 (.lit 128)
def e1x3 : E := .mul e1x2 (.lit 8)
def e1x4 : E := .div e1x1 (.lit 32)
def e1x5 : E := .mod e1x4 (.lit 2)
def e1x6 : E := .mul e1x5 (.lit 2)
def e1x7 : E := .add e1x3 e1x6
def e1x8 : E := .eq e1x7 (.lit 2)
def e1x9 : E := .sel (.av 0) (.lit 39)
def e1x10 : E := .le (.v 3) e1x9
def e1x11 : E := .sel (.av 0) (.lit 38)
def e1x12 : E := .le e1x11 (.v 3)
def e1x13 : E := .and e1x10 e1x12
def e1x14 : E := .div e1x1 (.lit 16)
def e1x15 : E := .mod e1x14 (.lit 2)
def e1x16 : E := .eq e1x15 (.lit 0)
def e1x17 : E := .not e1x16
def e1x18 : E := .iff e1x13 e1x17
def e1x19 : E := .not e1x18
def e1x20 : E := .eq e1x7 (.lit 8)
def e1x21 : E := .sel (.av 0) (.lit 41)
def e1x22 : E := .le (.v 3) e1x21
def e1x23 : E := .sel (.av 0) (.lit 40)
def e1x24 : E := .le e1x23 (.v 3)
def e1x25 : E := .and e1x22 e1x24
def e1x26 : E := .div e1x1 (.lit 64)
def e1x27 : E := .mod e1x26 (.lit 2)
def e1x28 : E := .eq e1x27 (.lit 0)
def e1x29 : E := .not e1x28
def e1x30 : E := .iff e1x25 e1x29
def e1x31 : E := .not e1x30
def e1x32 : E := .sel (.av 0) (.lit 42)
def e1x33 : E := .div e1x32 (.lit 4)
def e1x34 : E := .mod e1x33 (.lit 4)
def e1x35 : E := .eq e1x34 (.lit 0)
def e1x36 : E := .or e1x19 e1x31
def e1x37 : E := .eq e1x34 (.lit 1)
def e1x38 : E := .and e1x19 e1x31
def e1x39 : E := .eq e1x34 (.lit 2)
def e1x40 : E := .iff e1x19 e1x31
def e1x41 : E := .not e1x40
def e1x42 : E := .ite e1x39 e1x41 e1x40
def e1x43 : E := .ite e1x37 e1x38 e1x42
def e1x44 : E := .ite e1x35 e1x36 e1x43
def e1x45 : E := .ite e1x20 e1x31 e1x44
def e1x46 : E := .ite e1x8 e1x19 e1x45
def e1x47 : E := .le (.v 3) (.lit 255)
def e1x48 : E := .and e1x46 e1x47
def e1x49 : E := .le (.lit 0) (.v 3)
def e1x50 : E := .and e1x48 e1x49
def e1x51 : E := .eq e1x7 (.lit 0)
def e1x52 : E := .not e1x51
def e1x53 : E := .and e1x50 e1x52
def e1x54 : E := .le e1x1 (.lit 127)
def e1x55 : E := .eq e1x5 (.lit 0)
def e1x56 : E := .or e1x54 e1x55
def e1x57 : E := .le (.lit 128) e1x1
def e1x58 : E := .and e1x57 e1x31
def e1x59 : E := .not e1x55
def e1x60 : E := .and e1x59 e1x19
def e1x61 : E := .or e1x58 e1x60
def e1x62 : E := .ite e1x56 e1x61 e1x44
def e1x63 : E := .and e1x62 e1x47
def e1x64 : E := .and e1x63 e1x49
def e1x65 : E := .iff e1x53 e1x64
def e1x66 : E := .not e1x65
def e1x67 : E := .and e1x47 e1x49
def e1x68 : E := .sel (.av 0) (.lit 45)
def e1x69 : E := .sel (.av 0) (.lit 44)
def e1x70 : E := .ite (.bv 0) e1x68 e1x69
def e1x71 : E := .div e1x70 (.lit 2)
def e1x72 : E := .mod e1x71 (.lit 2)
def e1x73 : E := .eq e1x72 (.lit 0)
def e1x74 : E := .not e1x73
def e1x75 : E := .and e1x67 e1x74
def e1x76 : E := .sel (.av 0) (.lit 47)
def e1x77 : E := .sel (.av 0) (.lit 46)
def e1x78 : E := .ite (.bv 0) e1x76 e1x77
def e1x79 : E := .div e1x78 (.lit 2)
def e1x80 : E := .mod e1x79 (.lit 2)
def e1x81 : E := .eq e1x80 (.lit 0)
def e1x82 : E := .or e1x51 e1x81
def e1x83 : E := .not e1x46
def e1x84 : E := .or e1x82 e1x83
def e1x85 : E := .and e1x75 e1x84
def e1x86 : E := .not e1x62
def e1x87 : E := .or e1x81 e1x86
def e1x88 : E := .and e1x75 e1x87
def e1x89 : E := .iff e1x85 e1x88
def e1x90 : E := .not e1x89
def e1x91 : E := .or e1x66 e1x90
def e1x92 : E := .add (.v 3) (.lit 1)
noncomputable def e1xT0 : List Item := todoS Try.prog G Gh [] 3000 0 7 e1xHy e1xLs [] 3
noncomputable def e1xh0 : Head := ⟨3, e1xT0, ⟨[((.v 0), ((-32768), 32767)), ((.v 1), ((-32768), 32767)), ((.v 2), (0, 65535)), ((.v 3), ((-1), 257))], [(0, (0, 255)), (1, (0, 65535)), (2, (0, 65535)), (3, ((-32768), 32767))], [], [], [], []⟩, [⟨7, [], .s (.int .i64 (.v 3))⟩, ⟨3, [], .s (.ptr 0 (.lit 0))⟩, ⟨1, [], .s (.int .i64 (.lit 1))⟩, ⟨2, [], .s (.bool (.bv 0))⟩], [⟨33, [.run .u8 (.lit 64) (.av 0) 0, .run .u16 (.lit 4) (.av 1) 0, .run .u16 (.lit 4) (.av 2) 0, .run .i16 (.lit 6) (.av 3) 0, .one (.int .i16 (.v 0)), .one (.int .i16 (.v 1)), .one (.int .u16 (.v 2))], true, none, false⟩]⟩
noncomputable def e1xhs : List Head := [e1xh0]
def e1xD : Dim := ⟨4, 1, 4, 3, 1, 4, 0⟩
theorem e1xst : startL Try.prog G Gh e1xD e1xhs [] 3000 0 7 e1xHy e1xLs [] = some (.jump 0 e1xT0 ⟨[(3, (.lit (-1)))], [], []⟩) := by kernel_rfl
theorem e1xsg0 : segL Try.prog G Gh e1xD e1xhs [] 3000 0 7 e1xh0 = some (.ite e1x0 (.ite e1x91 (.ret (.s (.bool (.blit false))) [⟨33, [.run .u8 (.lit 64) (.av 0) 0, .run .u16 (.lit 4) (.av 1) 0, .run .u16 (.lit 4) (.av 2) 0, .run .i16 (.lit 6) (.av 3) 0, .one (.int .i16 (.v 0)), .one (.int .i16 (.v 1)), .one (.int .u16 (.v 2))], true, none, false⟩]) (.jump 0 e1xT0 ⟨[(3, e1x92)], [], []⟩)) (.ret (.s (.bool (.blit true))) [⟨33, [.run .u8 (.lit 64) (.av 0) 0, .run .u16 (.lit 4) (.av 1) 0, .run .u16 (.lit 4) (.av 2) 0, .run .i16 (.lit 6) (.av 3) 0, .one (.int .i16 (.v 0)), .one (.int .i16 (.v 1)), .one (.int .u16 (.v 2))], true, none, false⟩])) := by kernel_rfl
def e1xBase (n0_4 n0_5 n0_6 : Int) (p0 : Bool) (A0 A1 A2 A3 : Nat → Int) : Prop := (-32768 ≤ n0_4 ∧ n0_4 ≤ 32767) ∧ (-32768 ≤ n0_5 ∧ n0_5 ≤ 32767) ∧ (0 ≤ n0_6 ∧ n0_6 ≤ 65535) ∧ (∀ j, 0 ≤ A0 j ∧ A0 j ≤ 255) ∧ (∀ j, 0 ≤ A1 j ∧ A1 j ≤ 65535) ∧ (∀ j, 0 ≤ A2 j ∧ A2 j ≤ 65535) ∧ (∀ j, -32768 ≤ A3 j ∧ A3 j ≤ 32767) ∧ True
def e1xJ0 (n0_4 n0_5 n0_6 x3 : Int) (p0 : Bool) (A0 A1 A2 A3 : Nat → Int) : Prop := (-1 ≤ x3 ∧ x3 ≤ 257) ∧ True
def e1xInv : Nat → Env → Prop
  | 0, ρ => ∃ (n0_4 n0_5 n0_6 x3 : Int) (p0 : Bool) (A0 A1 A2 A3 : Nat → Int), ρ = (⟨[n0_4, n0_5, n0_6, x3], [p0], [A0, A1, A2, A3], [], Iv (fun _ _ => Ext.none)⟩ : Env) ∧ e1xBase n0_4 n0_5 n0_6 p0 A0 A1 A2 A3 ∧ e1xJ0 n0_4 n0_5 n0_6 x3 p0 A0 A1 A2 A3
  | _, _ => False
def e1xmu : Nat → Env → Nat := fun _ ρ => (257 - ρ.i.getD 3 0).toNat
theorem e1xvc0 (n0_4 n0_5 n0_6 x3 : Int) (p0 : Bool) (A0 A1 A2 A3 : Nat → Int) (hB : e1xBase n0_4 n0_5 n0_6 p0 A0 A1 A2 A3) (hJ : e1xJ0 n0_4 n0_5 n0_6 x3 p0 A0 A1 A2 A3) :
    LT.holds (⟨[n0_4, n0_5, n0_6, x3], [p0], [A0, A1, A2, A3], [], Iv (fun _ _ => Ext.none)⟩ : Env) (fun v _ => retTrue (⟨[n0_4, n0_5, n0_6, x3], [p0], [A0, A1, A2, A3], [], Iv (fun _ _ => Ext.none)⟩ : Env) v) (fun j' todo ρ' => (e1xhs[j']?.map (·.todo)) = some todo ∧ e1xInv j' ρ' ∧ e1xmu j' ρ' < e1xmu 0 (⟨[n0_4, n0_5, n0_6, x3], [p0], [A0, A1, A2, A3], [], Iv (fun _ _ => Ext.none)⟩ : Env)) (.ite e1x0 (.ite e1x91 (.ret (.s (.bool (.blit false))) [⟨33, [.run .u8 (.lit 64) (.av 0) 0, .run .u16 (.lit 4) (.av 1) 0, .run .u16 (.lit 4) (.av 2) 0, .run .i16 (.lit 6) (.av 3) 0, .one (.int .i16 (.v 0)), .one (.int .i16 (.v 1)), .one (.int .u16 (.v 2))], true, none, false⟩]) (.jump 0 e1xT0 ⟨[(3, e1x92)], [], []⟩)) (.ret (.s (.bool (.blit true))) [⟨33, [.run .u8 (.lit 64) (.av 0) 0, .run .u16 (.lit 4) (.av 1) 0, .run .u16 (.lit 4) (.av 2) 0, .run .i16 (.lit 6) (.av 3) 0, .one (.int .i16 (.v 0)), .one (.int .i16 (.v 1)), .one (.int .u16 (.v 2))], true, none, false⟩])) := by
  simp only [LT.holds, retTrue]
  refine ⟨fun hc0 => ?_, fun hc0 => ?_⟩
  ·
    refine ⟨fun hc1 => ?_, fun hc1 => ?_⟩
    ·
      exfalso
      have hA : ∀ j, 0 ≤ A0 j ∧ A0 j ≤ 255 := by simp only [e1xBase] at hB; exact hB.2.2.2.1
      have hX : (E.i (⟨[n0_4, n0_5, n0_6, x3], [p0], [A0, A1, A2, A3], [], Iv (fun _ _ => Ext.none)⟩ : Env) e1x2 = 0 ∧ E.b (⟨[n0_4, n0_5, n0_6, x3], [p0], [A0, A1, A2, A3], [], Iv (fun _ _ => Ext.none)⟩ : Env) e1x57 = false ∧ E.b (⟨[n0_4, n0_5, n0_6, x3], [p0], [A0, A1, A2, A3], [], Iv (fun _ _ => Ext.none)⟩ : Env) e1x54 = true) ∨ (E.i (⟨[n0_4, n0_5, n0_6, x3], [p0], [A0, A1, A2, A3], [], Iv (fun _ _ => Ext.none)⟩ : Env) e1x2 = 1 ∧ E.b (⟨[n0_4, n0_5, n0_6, x3], [p0], [A0, A1, A2, A3], [], Iv (fun _ _ => Ext.none)⟩ : Env) e1x57 = true ∧ E.b (⟨[n0_4, n0_5, n0_6, x3], [p0], [A0, A1, A2, A3], [], Iv (fun _ _ => Ext.none)⟩ : Env) e1x54 = false) := by
        have h5 := hA (Int.toNat 35); have h6 := hA (Int.toNat 36); have h7 := hA (Int.toNat 37)
        simp only [e1x1, e1x2, e1x54, e1x57, i_v, b_bv, i_lit, b_blit, i_add, i_sub, i_mul, i_div, i_mod, i_tdiv, i_tmod, i_ite, b_ite, b_lt, b_le, b_eq, b_not, b_and, b_or, b_iff, i_sel, a_tab, i_pow2, List.getD_cons_zero, List.getD_cons_succ, decide_eq_true_eq, decide_eq_false_iff_not, Bool.and_eq_true, Bool.or_eq_true, Bool.not_eq_true', Bool.not_eq_false', Bool.and_eq_false_iff, Bool.or_eq_false_iff, Bool.not_not, ite_tt, ite_ff, iff_tt, iff_ff, a_av, a_ite, a_upd, decide_eq_true_eq, decide_eq_false_iff_not]
        omega
      have hY : (E.i (⟨[n0_4, n0_5, n0_6, x3], [p0], [A0, A1, A2, A3], [], Iv (fun _ _ => Ext.none)⟩ : Env) e1x5 = 0) ∨ (E.i (⟨[n0_4, n0_5, n0_6, x3], [p0], [A0, A1, A2, A3], [], Iv (fun _ _ => Ext.none)⟩ : Env) e1x5 = 1) := by
        have h5 := hA (Int.toNat 35); have h6 := hA (Int.toNat 36); have h7 := hA (Int.toNat 37)
        simp only [e1x1, e1x4, e1x5, i_v, b_bv, i_lit, b_blit, i_add, i_sub, i_mul, i_div, i_mod, i_tdiv, i_tmod, i_ite, b_ite, b_lt, b_le, b_eq, b_not, b_and, b_or, b_iff, i_sel, a_tab, i_pow2, List.getD_cons_zero, List.getD_cons_succ, decide_eq_true_eq, decide_eq_false_iff_not, Bool.and_eq_true, Bool.or_eq_true, Bool.not_eq_true', Bool.not_eq_false', Bool.and_eq_false_iff, Bool.or_eq_false_iff, Bool.not_not, ite_tt, ite_ff, iff_tt, iff_ff, a_av, a_ite, a_upd, decide_eq_true_eq, decide_eq_false_iff_not]
        omega
      have h : E.b (⟨[n0_4, n0_5, n0_6, x3], [p0], [A0, A1, A2, A3], [], Iv (fun _ _ => Ext.none)⟩ : Env) e1x91 = false := by
        simp only [e1x91, e1x90, e1x89, e1x88, e1x87, e1x86, e1x62, e1x61, e1x60, e1x19, e1x59, e1x55, e1x58, e1x31, e1x56, e1x75, e1x74, e1x67, e1x85, e1x84, e1x83, e1x46, e1x45, e1x20, e1x7, e1x6, e1x3, e1x8, e1x82, e1x51, e1x66, e1x65, e1x64, e1x63, e1x53, e1x52, e1x50, e1x48, b_or, b_and, b_not, b_iff, b_eq, b_ite, i_add, i_mul, i_lit]
        clear hc0 hc1 hB hJ hA
        generalize E.b _ e1x44 = g0
        generalize E.b _ e1x18 = g1
        generalize E.b _ e1x30 = g2
        generalize E.b _ e1x81 = g3
        generalize E.b _ e1x73 = g4
        generalize E.b _ e1x49 = g5
        generalize E.b _ e1x47 = g6
        rcases hX with ⟨hX, hX0, hX1⟩ | ⟨hX, hX0, hX1⟩ <;> rcases hY with hY | hY <;> simp only [hX, hX0, hX1, hY] <;> revert g0 g1 g2 g3 g4 g5 g6 <;> decide
      rw [h] at hc1
      cases hc1
    ·
      refine ⟨rfl, ⟨_, _, _, _, _, _, _, _, _, rfl, hB, ?_⟩, ?_⟩
      simp only [e1xJ0, and_true] at *
      first | omega | (simp only [e1x0, e1x1, e1x2, e1x3, e1x4, e1x5, e1x6, e1x7, e1x8, e1x9, e1x10, e1x11, e1x12, e1x13, e1x14, e1x15, e1x16, e1x17, e1x18, e1x19, e1x20, e1x21, e1x22, e1x23, e1x24, e1x25, e1x26, e1x27, e1x28, e1x29, e1x30, e1x31, e1x32, e1x33, e1x34, e1x35, e1x36, e1x37, e1x38, e1x39, e1x40, e1x41, e1x42, e1x43, e1x44, e1x45, e1x46, e1x47, e1x48, e1x49, e1x50, e1x51, e1x52, e1x53, e1x54, e1x55, e1x56, e1x57, e1x58, e1x59, e1x60, e1x61, e1x62, e1x63, e1x64, e1x65, e1x66, e1x67, e1x68, e1x69, e1x70, e1x71, e1x72, e1x73, e1x74, e1x75, e1x76, e1x77, e1x78, e1x79, e1x80, e1x81, e1x82, e1x83, e1x84, e1x85, e1x86, e1x87, e1x88, e1x89, e1x90, e1x91, e1x92, i_v, b_bv, i_lit, b_blit, i_add, i_sub, i_mul, i_div, i_mod, i_tdiv, i_tmod, i_ite, b_ite, b_lt, b_le, b_eq, b_not, b_and, b_or, b_iff, i_sel, a_tab, i_pow2, List.getD_cons_zero, List.getD_cons_succ, decide_eq_true_eq, decide_eq_false_iff_not, Bool.and_eq_true, Bool.or_eq_true, Bool.not_eq_true', Bool.not_eq_false', Bool.and_eq_false_iff, Bool.or_eq_false_iff, Bool.not_not, ite_tt, ite_ff, iff_tt, iff_ff, a_av, a_ite, a_upd] at *; omega)
      simp only [e1xmu, e1xJ0, Env.app, setAll, List.map_cons, List.map_nil, List.set, List.getD_cons_zero, List.getD_cons_succ, e1x0, e1x1, e1x2, e1x3, e1x4, e1x5, e1x6, e1x7, e1x8, e1x9, e1x10, e1x11, e1x12, e1x13, e1x14, e1x15, e1x16, e1x17, e1x18, e1x19, e1x20, e1x21, e1x22, e1x23, e1x24, e1x25, e1x26, e1x27, e1x28, e1x29, e1x30, e1x31, e1x32, e1x33, e1x34, e1x35, e1x36, e1x37, e1x38, e1x39, e1x40, e1x41, e1x42, e1x43, e1x44, e1x45, e1x46, e1x47, e1x48, e1x49, e1x50, e1x51, e1x52, e1x53, e1x54, e1x55, e1x56, e1x57, e1x58, e1x59, e1x60, e1x61, e1x62, e1x63, e1x64, e1x65, e1x66, e1x67, e1x68, e1x69, e1x70, e1x71, e1x72, e1x73, e1x74, e1x75, e1x76, e1x77, e1x78, e1x79, e1x80, e1x81, e1x82, e1x83, e1x84, e1x85, e1x86, e1x87, e1x88, e1x89, e1x90, e1x91, e1x92, i_v, b_bv, i_lit, b_blit, i_add, i_sub, i_mul, i_div, i_mod, i_tdiv, i_tmod, i_ite, b_ite, b_lt, b_le, b_eq, b_not, b_and, b_or, b_iff, i_sel, a_tab, i_pow2, List.getD_cons_zero, List.getD_cons_succ, decide_eq_true_eq, decide_eq_false_iff_not, Bool.and_eq_true, Bool.or_eq_true, Bool.not_eq_true', Bool.not_eq_false', Bool.and_eq_false_iff, Bool.or_eq_false_iff, Bool.not_not, ite_tt, ite_ff, iff_tt, iff_ff, a_av, a_ite, a_upd] at *
      omega
  ·
    rfl
theorem e1xvcS (n0_4 n0_5 n0_6 : Int) (p0 : Bool) (A0 A1 A2 A3 : Nat → Int) (hB : e1xBase n0_4 n0_5 n0_6 p0 A0 A1 A2 A3) :
    LT.holds (⟨[n0_4, n0_5, n0_6, 0], [p0], [A0, A1, A2, A3], [], Iv (fun _ _ => Ext.none)⟩ : Env) (fun v _ => retTrue (⟨[n0_4, n0_5, n0_6, 0], [p0], [A0, A1, A2, A3], [], Iv (fun _ _ => Ext.none)⟩ : Env) v) (fun j' todo ρ' => (e1xhs[j']?.map (·.todo)) = some todo ∧ e1xInv j' ρ') (.jump 0 e1xT0 ⟨[(3, (.lit (-1)))], [], []⟩) := by
  simp only [LT.holds, retTrue]
  refine ⟨rfl, _, _, _, _, _, _, _, _, _, rfl, hB, ?_⟩
  simp only [e1xJ0, and_true] at *
  first | omega | (simp only [e1x0, e1x1, e1x2, e1x3, e1x4, e1x5, e1x6, e1x7, e1x8, e1x9, e1x10, e1x11, e1x12, e1x13, e1x14, e1x15, e1x16, e1x17, e1x18, e1x19, e1x20, e1x21, e1x22, e1x23, e1x24, e1x25, e1x26, e1x27, e1x28, e1x29, e1x30, e1x31, e1x32, e1x33, e1x34, e1x35, e1x36, e1x37, e1x38, e1x39, e1x40, e1x41, e1x42, e1x43, e1x44, e1x45, e1x46, e1x47, e1x48, e1x49, e1x50, e1x51, e1x52, e1x53, e1x54, e1x55, e1x56, e1x57, e1x58, e1x59, e1x60, e1x61, e1x62, e1x63, e1x64, e1x65, e1x66, e1x67, e1x68, e1x69, e1x70, e1x71, e1x72, e1x73, e1x74, e1x75, e1x76, e1x77, e1x78, e1x79, e1x80, e1x81, e1x82, e1x83, e1x84, e1x85, e1x86, e1x87, e1x88, e1x89, e1x90, e1x91, e1x92, i_v, b_bv, i_lit, b_blit, i_add, i_sub, i_mul, i_div, i_mod, i_tdiv, i_tmod, i_ite, b_ite, b_lt, b_le, b_eq, b_not, b_and, b_or, b_iff, i_sel, a_tab, i_pow2, List.getD_cons_zero, List.getD_cons_succ, decide_eq_true_eq, decide_eq_false_iff_not, Bool.and_eq_true, Bool.or_eq_true, Bool.not_eq_true', Bool.not_eq_false', Bool.and_eq_false_iff, Bool.or_eq_false_iff, Bool.not_not, ite_tt, ite_ff, iff_tt, iff_ff, a_av, a_ite, a_upd] at *; omega)
theorem e1xcalls (c0 : List Value) (l0 : c0.length = pcTotal Pc0) (f0 : PcFit c0 0 Pc0) (a2 : Bool) (w : World) :
    Calls Try.prog 7 #[.agg c0.toArray, .int .i64 (1), .bool a2] w fun r w' => r = .returned (.bool true) ∧ Below w.heap.size w w' := by
  have hc0 : cellsOf (⟨[intV (c0.getD 78 Go.undef), intV (c0.getD 79 Go.undef), intV (c0.getD 80 Go.undef), 0], [a2], [arrOf c0 0 64, arrOf c0 64 4, arrOf c0 68 4, arrOf c0 72 6], [], Iv (fun _ _ => Ext.none)⟩ : Env) Loc.id (pcSegs 0 0 0 Pc0) = c0 := by
    rw [pc_cells Pc0 0 0 0 0 f0 (by intro j hj; rcases j with _ | _ | _ | _ | j <;> first | rfl | (simp [Pc0, pcA, pcB, pcI] at hj; omega)) (by intro j hj; simp [Pc0, pcA, pcB, pcI] at hj) (by intro j hj; rcases j with _ | _ | _ | j <;> first | rfl | (simp [Pc0, pcA, pcB, pcI] at hj; omega)), List.drop_zero, ← l0, List.take_length]
  have hargs : (e1xLs.map (SV.conc (⟨[intV (c0.getD 78 Go.undef), intV (c0.getD 79 Go.undef), intV (c0.getD 80 Go.undef), 0], [a2], [arrOf c0 0 64, arrOf c0 64 4, arrOf c0 68 4, arrOf c0 72 6], [], Iv (fun _ _ => Ext.none)⟩ : Env) Loc.id)).toArray = #[.agg c0.toArray, .int .i64 (1), .bool a2] := by
    refine congrArg List.toArray ?_
    exact (cons_eq (congrArg (fun l => Value.agg (List.toArray l)) hc0) (cons_eq rfl (cons_eq rfl rfl)))
  rw [← hargs]
  have hok : Hyp.ok e1xHy (⟨[intV (c0.getD 78 Go.undef), intV (c0.getD 79 Go.undef), intV (c0.getD 80 Go.undef), 0], [a2], [arrOf c0 0 64, arrOf c0 64 4, arrOf c0 68 4, arrOf c0 72 6], [], Iv (fun _ _ => Ext.none)⟩ : Env) := by
    refine ⟨?_, ?_, ?_, by simp [e1xHy], ?_, by simp [e1xHy]⟩
    · simp [e1xHy]
    · intro p hp
      simp only [e1xHy, List.mem_cons, List.not_mem_nil, or_false] at hp
      rcases hp with rfl | rfl | rfl
      · exact num_rng (f0.tail.tail.tail.tail)
      · exact num_rng (f0.tail.tail.tail.tail.tail)
      · exact num_rng (f0.tail.tail.tail.tail.tail.tail)
    · intro p hp
      simp only [e1xHy, List.mem_cons, List.not_mem_nil, or_false] at hp
      rcases hp with rfl | rfl | rfl | rfl
      · exact arrOf_rng (f0)
      · exact arrOf_rng (f0.tail)
      · exact arrOf_rng (f0.tail.tail)
      · exact arrOf_rng (f0.tail.tail.tail)
    · simp [e1xHy]
  refine law_loops (D := e1xD) (hs := e1xhs) (ρ := (⟨[intV (c0.getD 78 Go.undef), intV (c0.getD 79 Go.undef), intV (c0.getD 80 Go.undef), 0], [a2], [arrOf c0 0 64, arrOf c0 64 4, arrOf c0 68 4, arrOf c0 72 6], [], Iv (fun _ _ => Ext.none)⟩ : Env)) (G_ok _) (by kernel_rfl) rfl (e1xInv ) e1xmu e1xst rfl ⟨rfl, rfl, rfl⟩ hok (e1xvcS (intV (c0.getD 78 Go.undef)) (intV (c0.getD 79 Go.undef)) (intV (c0.getD 80 Go.undef)) (a2) (arrOf c0 0 64) (arrOf c0 64 4) (arrOf c0 68 4) (arrOf c0 72 6) ⟨num_rng (f0.tail.tail.tail.tail), num_rng (f0.tail.tail.tail.tail.tail), num_rng (f0.tail.tail.tail.tail.tail.tail), arrOf_rng (f0), arrOf_rng (f0.tail), arrOf_rng (f0.tail.tail), arrOf_rng (f0.tail.tail.tail), trivial⟩) ?_ w (fun i j => Ext.none_ok _)
  intro j h ρ hj hI hz hInv
  rcases j with _ | j
  · simp only [e1xhs, List.getElem?_cons_zero, List.getElem?_cons_succ, Option.some.injEq] at hj; subst hj
    obtain ⟨n0_4, n0_5, n0_6, x3, p0, A0, A1, A2, A3, rfl, hB, hJ⟩ := hInv
    refine ⟨?_, _, e1xsg0, e1xvc0 n0_4 n0_5 n0_6 x3 p0 A0 A1 A2 A3 hB hJ⟩
    have hB2 := hB; have hJ2 := hJ
    simp only [e1xBase] at hB2; simp only [e1xJ0] at hJ2
    obtain ⟨hb0, hb1, hb2, hb3, hb4, hb5, hb6, _⟩ := hB2
    obtain ⟨hl0, _⟩ := hJ2
    refine ⟨?_, ?_, ?_, by simp [e1xh0], ?_, by simp [e1xh0]⟩
    · simp [e1xh0]
    · intro p hp
      simp only [e1xh0, List.mem_cons, List.not_mem_nil, or_false] at hp
      rcases hp with rfl | rfl | rfl | rfl
      · exact hb0
      · exact hb1
      · exact hb2
      · exact hl0
    · intro p hp
      simp only [e1xh0, List.mem_cons, List.not_mem_nil, or_false] at hp
      rcases hp with rfl | rfl | rfl | rfl
      · exact hb3
      · exact hb4
      · exact hb5
      · exact hb6
    · simp [e1xh0]
  · simp [e1xhs] at hj
end Go.Proofs.Ytgbncbclhdnbmaa.BlendWindows
