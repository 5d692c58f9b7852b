/- A part of the law BlendWindows, which returns true for every input. What lies within each layer's window, and where it is shown, is what the document says. No condition. -/
import Derived.Test.YtgbncbclhdnbmaaBlendWindows0
namespace Go.Proofs.Ytgbncbclhdnbmaa.BlendWindows
open Go.Sx Go.ChangeShapes Go.WideShapes Go.ChangeAt Go.RowKit
set_option linter.unusedVariables false
set_option linter.unusedSimpArgs false
set_option maxRecDepth 100000
def e4xHy : Hyp := ⟨[(.v 0, (-32768, 32767)), (.v 1, (-32768, 32767)), (.v 2, (0, 65535))], [(0, (0, 255)), (1, (0, 65535)), (2, (0, 65535)), (3, (-32768, 32767))], [], [], [], []⟩
def e4xLs : List SV := [.agg (pcSegs 0 0 0 Pc0), .s (.int .i64 (.lit (4))), .s (.bool (.bv 0))]
def e4x0 : E := .le (.v 3) (.lit 256)
def e4x1 : E := .sel (.av 0) (.lit 37)
def e4x2 : E := .div e4x1 (.lit 8)
def e4x3 : E := .mod e4x2 (.lit 2)
def e4x4 : E := .mul e4x3 (.lit 8)
def e4x5 : E := .div e4x1 (.lit 2)
def e4x6 : E := .mod e4x5 (.lit 2)
def e4x7 : E := .mul e4x6 (.lit 2)
def e4x8 : E := .add e4x4 e4x7
def e4x9 : E := .eq e4x8 (.lit 2)
def e4x10 : E := .sel (.av 0) (.lit 39)
def e4x11 : E := .le (.v 3) e4x10
def e4x12 : E := .sel (.av 0) (.lit 38)
def e4x13 : E := .le e4x12 (.v 3)
def e4x14 : E := .and e4x11 e4x13
def e4x15 : E := .mod e4x1 (.lit 2)
def e4x16 : E := .eq e4x15 (.lit 0)
def e4x17 : E := .not e4x16
def e4x18 : E := .iff e4x14 e4x17
def e4x19 : E := .not e4x18
def e4x20 : E := .eq e4x8 (.lit 8)
def e4x21 : E := .sel (.av 0) (.lit 41)
def e4x22 : E := .le (.v 3) e4x21
def e4x23 : E := .sel (.av 0) (.lit 40)
def e4x24 : E := .le e4x23 (.v 3)
def e4x25 : E := .and e4x22 e4x24
def e4x26 : E := .div e4x1 (.lit 4)
def e4x27 : E := .mod e4x26 (.lit 2)
def e4x28 : E := .eq e4x27 (.lit 0)
def e4x29 : E := .not e4x28
def e4x30 : E := .iff e4x25 e4x29
def e4x31 : E := .not e4x30
def e4x32 : E := .sel (.av 0) (.lit 43)
def e4x33 : E := .mod e4x32 (.lit 4)
def e4x34 : E := .eq e4x33 (.lit 0)
def e4x35 : E := .or e4x19 e4x31
def e4x36 : E := .eq e4x33 (.lit 1)
def e4x37 : E := .and e4x19 e4x31
def e4x38 : E := .eq e4x33 (.lit 2)
def e4x39 : E := .iff e4x19 e4x31
def e4x40 : E := .not e4x39
def e4x41 : E := .ite e4x38 e4x40 e4x39
def e4x42 : E := .ite e4x36 e4x37 e4x41
def e4x43 : E := .ite e4x34 e4x35 e4x42
def e4x44 : E := .ite e4x20 e4x31 e4x43
def e4x45 : E := .ite e4x9 e4x19 e4x44
def e4x46 : E := .le (.v 3) (.lit 255)
def e4x47 : E := .and e4x45 e4x46
def e4x48 : E := .le (.lit 0) (.v 3)
def e4x49 : E := .and e4x47 e4x48
def e4x50 : E := .eq e4x8 (.lit 0)
def e4x51 : E := .not e4x50
def e4x52 : E := .and e4x49 e4x51
def e4x53 : E := .eq e4x6 (.lit 0)
def e4x54 : E := .eq e4x3 (.lit 0)
def e4x55 : E := .or e4x53 e4x54
def e4x56 : E := .not e4x53
def e4x57 : E := .and e4x56 e4x19
def e4x58 : E := .not e4x54
def e4x59 : E := .and e4x58 e4x31
def e4x60 : E := .or e4x57 e4x59
def e4x61 : E := .ite e4x55 e4x60 e4x43
def e4x62 : E := .and e4x61 e4x46
def e4x63 : E := .and e4x62 e4x48
def e4x64 : E := .iff e4x52 e4x63
def e4x65 : E := .not e4x64
def e4x66 : E := .and e4x46 e4x48
def e4x67 : E := .sel (.av 0) (.lit 45)
def e4x68 : E := .sel (.av 0) (.lit 44)
def e4x69 : E := .ite (.bv 0) e4x67 e4x68
def e4x70 : E := .div e4x69 (.lit 16)
def e4x71 : E := .mod e4x70 (.lit 2)
def e4x72 : E := .eq e4x71 (.lit 0)
def e4x73 : E := .not e4x72
def e4x74 : E := .and e4x66 e4x73
def e4x75 : E := .sel (.av 0) (.lit 47)
def e4x76 : E := .sel (.av 0) (.lit 46)
def e4x77 : E := .ite (.bv 0) e4x75 e4x76
def e4x78 : E := .div e4x77 (.lit 16)
def e4x79 : E := .mod e4x78 (.lit 2)
def e4x80 : E := .eq e4x79 (.lit 0)
def e4x81 : E := .or e4x50 e4x80
def e4x82 : E := .not e4x45
def e4x83 : E := .or e4x81 e4x82
def e4x84 : E := .and e4x74 e4x83
def e4x85 : E := .not e4x61
def e4x86 : E := .or e4x80 e4x85
def e4x87 : E := .and e4x74 e4x86
def e4x88 : E := .iff e4x84 e4x87
def e4x89 : E := .not e4x88
def e4x90 : E := .or e4x65 e4x89
def e4x91 : E := .add (.v 3) (.lit 1)
noncomputable def e4xT0 : List Item := todoS Try.prog G Gh [] 3000 0 7 e4xHy e4xLs [] 3
noncomputable def e4xh0 : Head := ⟨3, e4xT0, ⟨[((.v 0), ((-32768), 32767)), ((.v 1), ((-32768), 32767)), ((.v 2), (0, 65535)), ((.v 3), ((-1), 257))], [(0, (0, 255)), (1, (0, 65535)), (2, (0, 65535)), (3, ((-32768), 32767))], [], [], [], []⟩, [⟨7, [], .s (.int .i64 (.v 3))⟩, ⟨3, [], .s (.ptr 0 (.lit 0))⟩, ⟨1, [], .s (.int .i64 (.lit 4))⟩, ⟨2, [], .s (.bool (.bv 0))⟩], [⟨33, [.run .u8 (.lit 64) (.av 0) 0, .run .u16 (.lit 4) (.av 1) 0, .run .u16 (.lit 4) (.av 2) 0, .run .i16 (.lit 6) (.av 3) 0, .one (.int .i16 (.v 0)), .one (.int .i16 (.v 1)), .one (.int .u16 (.v 2))], true, none, false⟩]⟩
noncomputable def e4xhs : List Head := [e4xh0]
def e4xD : Dim := ⟨4, 1, 4, 3, 1, 4, 0⟩
theorem e4xst : startL Try.prog G Gh e4xD e4xhs [] 3000 0 7 e4xHy e4xLs [] = some (.jump 0 e4xT0 ⟨[(3, (.lit (-1)))], [], []⟩) := by kernel_rfl
theorem e4xsg0 : segL Try.prog G Gh e4xD e4xhs [] 3000 0 7 e4xh0 = some (.ite e4x0 (.ite e4x90 (.ret (.s (.bool (.blit false))) [⟨33, [.run .u8 (.lit 64) (.av 0) 0, .run .u16 (.lit 4) (.av 1) 0, .run .u16 (.lit 4) (.av 2) 0, .run .i16 (.lit 6) (.av 3) 0, .one (.int .i16 (.v 0)), .one (.int .i16 (.v 1)), .one (.int .u16 (.v 2))], true, none, false⟩]) (.jump 0 e4xT0 ⟨[(3, e4x91)], [], []⟩)) (.ret (.s (.bool (.blit true))) [⟨33, [.run .u8 (.lit 64) (.av 0) 0, .run .u16 (.lit 4) (.av 1) 0, .run .u16 (.lit 4) (.av 2) 0, .run .i16 (.lit 6) (.av 3) 0, .one (.int .i16 (.v 0)), .one (.int .i16 (.v 1)), .one (.int .u16 (.v 2))], true, none, false⟩])) := by kernel_rfl
def e4xBase (n0_4 n0_5 n0_6 : Int) (p0 : Bool) (A0 A1 A2 A3 : Nat → Int) : Prop := (-32768 ≤ n0_4 ∧ n0_4 ≤ 32767) ∧ (-32768 ≤ n0_5 ∧ n0_5 ≤ 32767) ∧ (0 ≤ n0_6 ∧ n0_6 ≤ 65535) ∧ (∀ j, 0 ≤ A0 j ∧ A0 j ≤ 255) ∧ (∀ j, 0 ≤ A1 j ∧ A1 j ≤ 65535) ∧ (∀ j, 0 ≤ A2 j ∧ A2 j ≤ 65535) ∧ (∀ j, -32768 ≤ A3 j ∧ A3 j ≤ 32767) ∧ True
def e4xJ0 (n0_4 n0_5 n0_6 x3 : Int) (p0 : Bool) (A0 A1 A2 A3 : Nat → Int) : Prop := (-1 ≤ x3 ∧ x3 ≤ 257) ∧ True
def e4xInv : Nat → Env → Prop
  | 0, ρ => ∃ (n0_4 n0_5 n0_6 x3 : Int) (p0 : Bool) (A0 A1 A2 A3 : Nat → Int), ρ = (⟨[n0_4, n0_5, n0_6, x3], [p0], [A0, A1, A2, A3], [], Iv (fun _ _ => Ext.none)⟩ : Env) ∧ e4xBase n0_4 n0_5 n0_6 p0 A0 A1 A2 A3 ∧ e4xJ0 n0_4 n0_5 n0_6 x3 p0 A0 A1 A2 A3
  | _, _ => False
def e4xmu : Nat → Env → Nat := fun _ ρ => (257 - ρ.i.getD 3 0).toNat
theorem e4xvc0 (n0_4 n0_5 n0_6 x3 : Int) (p0 : Bool) (A0 A1 A2 A3 : Nat → Int) (hB : e4xBase n0_4 n0_5 n0_6 p0 A0 A1 A2 A3) (hJ : e4xJ0 n0_4 n0_5 n0_6 x3 p0 A0 A1 A2 A3) :
    LT.holds (⟨[n0_4, n0_5, n0_6, x3], [p0], [A0, A1, A2, A3], [], Iv (fun _ _ => Ext.none)⟩ : Env) (fun v _ => retTrue (⟨[n0_4, n0_5, n0_6, x3], [p0], [A0, A1, A2, A3], [], Iv (fun _ _ => Ext.none)⟩ : Env) v) (fun j' todo ρ' => (e4xhs[j']?.map (·.todo)) = some todo ∧ e4xInv j' ρ' ∧ e4xmu j' ρ' < e4xmu 0 (⟨[n0_4, n0_5, n0_6, x3], [p0], [A0, A1, A2, A3], [], Iv (fun _ _ => Ext.none)⟩ : Env)) (.ite e4x0 (.ite e4x90 (.ret (.s (.bool (.blit false))) [⟨33, [.run .u8 (.lit 64) (.av 0) 0, .run .u16 (.lit 4) (.av 1) 0, .run .u16 (.lit 4) (.av 2) 0, .run .i16 (.lit 6) (.av 3) 0, .one (.int .i16 (.v 0)), .one (.int .i16 (.v 1)), .one (.int .u16 (.v 2))], true, none, false⟩]) (.jump 0 e4xT0 ⟨[(3, e4x91)], [], []⟩)) (.ret (.s (.bool (.blit true))) [⟨33, [.run .u8 (.lit 64) (.av 0) 0, .run .u16 (.lit 4) (.av 1) 0, .run .u16 (.lit 4) (.av 2) 0, .run .i16 (.lit 6) (.av 3) 0, .one (.int .i16 (.v 0)), .one (.int .i16 (.v 1)), .one (.int .u16 (.v 2))], true, none, false⟩])) := by
  simp only [LT.holds, retTrue]
  refine ⟨fun hc0 => ?_, fun hc0 => ?_⟩
  ·
    refine ⟨fun hc1 => ?_, fun hc1 => ?_⟩
    ·
      exfalso
      have hA : ∀ j, 0 ≤ A0 j ∧ A0 j ≤ 255 := by simp only [e4xBase] at hB; exact hB.2.2.2.1
      have hX : (E.i (⟨[n0_4, n0_5, n0_6, x3], [p0], [A0, A1, A2, A3], [], Iv (fun _ _ => Ext.none)⟩ : Env) e4x3 = 0) ∨ (E.i (⟨[n0_4, n0_5, n0_6, x3], [p0], [A0, A1, A2, A3], [], Iv (fun _ _ => Ext.none)⟩ : Env) e4x3 = 1) := by
        have h5 := hA (Int.toNat 35); have h6 := hA (Int.toNat 36); have h7 := hA (Int.toNat 37)
        simp only [e4x1, e4x2, e4x3, i_v, b_bv, i_lit, b_blit, i_add, i_sub, i_mul, i_div, i_mod, i_tdiv, i_tmod, i_ite, b_ite, b_lt, b_le, b_eq, b_not, b_and, b_or, b_iff, i_sel, a_tab, i_pow2, List.getD_cons_zero, List.getD_cons_succ, decide_eq_true_eq, decide_eq_false_iff_not, Bool.and_eq_true, Bool.or_eq_true, Bool.not_eq_true', Bool.not_eq_false', Bool.and_eq_false_iff, Bool.or_eq_false_iff, Bool.not_not, ite_tt, ite_ff, iff_tt, iff_ff, a_av, a_ite, a_upd, decide_eq_true_eq, decide_eq_false_iff_not]
        omega
      have hY : (E.i (⟨[n0_4, n0_5, n0_6, x3], [p0], [A0, A1, A2, A3], [], Iv (fun _ _ => Ext.none)⟩ : Env) e4x6 = 0) ∨ (E.i (⟨[n0_4, n0_5, n0_6, x3], [p0], [A0, A1, A2, A3], [], Iv (fun _ _ => Ext.none)⟩ : Env) e4x6 = 1) := by
        have h5 := hA (Int.toNat 35); have h6 := hA (Int.toNat 36); have h7 := hA (Int.toNat 37)
        simp only [e4x1, e4x5, e4x6, i_v, b_bv, i_lit, b_blit, i_add, i_sub, i_mul, i_div, i_mod, i_tdiv, i_tmod, i_ite, b_ite, b_lt, b_le, b_eq, b_not, b_and, b_or, b_iff, i_sel, a_tab, i_pow2, List.getD_cons_zero, List.getD_cons_succ, decide_eq_true_eq, decide_eq_false_iff_not, Bool.and_eq_true, Bool.or_eq_true, Bool.not_eq_true', Bool.not_eq_false', Bool.and_eq_false_iff, Bool.or_eq_false_iff, Bool.not_not, ite_tt, ite_ff, iff_tt, iff_ff, a_av, a_ite, a_upd, decide_eq_true_eq, decide_eq_false_iff_not]
        omega
      have h : E.b (⟨[n0_4, n0_5, n0_6, x3], [p0], [A0, A1, A2, A3], [], Iv (fun _ _ => Ext.none)⟩ : Env) e4x90 = false := by
        simp only [e4x90, e4x89, e4x88, e4x87, e4x86, e4x85, e4x61, e4x60, e4x59, e4x31, e4x58, e4x54, e4x57, e4x19, e4x56, e4x53, e4x55, e4x74, e4x73, e4x66, e4x84, e4x83, e4x82, e4x45, e4x44, e4x20, e4x8, e4x7, e4x4, e4x9, e4x81, e4x50, e4x65, e4x64, e4x63, e4x62, e4x52, e4x51, e4x49, e4x47, b_or, b_and, b_not, b_iff, b_eq, b_ite, i_add, i_mul, i_lit]
        clear hc0 hc1 hB hJ hA
        generalize E.b _ e4x43 = g0
        generalize E.b _ e4x18 = g1
        generalize E.b _ e4x30 = g2
        generalize E.b _ e4x80 = g3
        generalize E.b _ e4x72 = g4
        generalize E.b _ e4x48 = g5
        generalize E.b _ e4x46 = g6
        rcases hX with hX | hX <;> rcases hY with hY | hY <;> simp only [hX, hY] <;> revert g0 g1 g2 g3 g4 g5 g6 <;> decide
      rw [h] at hc1
      cases hc1
    ·
      refine ⟨rfl, ⟨_, _, _, _, _, _, _, _, _, rfl, hB, ?_⟩, ?_⟩
      simp only [e4xJ0, and_true] at *
      first | omega | (simp only [e4x0, e4x1, e4x2, e4x3, e4x4, e4x5, e4x6, e4x7, e4x8, e4x9, e4x10, e4x11, e4x12, e4x13, e4x14, e4x15, e4x16, e4x17, e4x18, e4x19, e4x20, e4x21, e4x22, e4x23, e4x24, e4x25, e4x26, e4x27, e4x28, e4x29, e4x30, e4x31, e4x32, e4x33, e4x34, e4x35, e4x36, e4x37, e4x38, e4x39, e4x40, e4x41, e4x42, e4x43, e4x44, e4x45, e4x46, e4x47, e4x48, e4x49, e4x50, e4x51, e4x52, e4x53, e4x54, e4x55, e4x56, e4x57, e4x58, e4x59, e4x60, e4x61, e4x62, e4x63, e4x64, e4x65, e4x66, e4x67, e4x68, e4x69, e4x70, e4x71, e4x72, e4x73, e4x74, e4x75, e4x76, e4x77, e4x78, e4x79, e4x80, e4x81, e4x82, e4x83, e4x84, e4x85, e4x86, e4x87, e4x88, e4x89, e4x90, e4x91, i_v, b_bv, i_lit, b_blit, i_add, i_sub, i_mul, i_div, i_mod, i_tdiv, i_tmod, i_ite, b_ite, b_lt, b_le, b_eq, b_not, b_and, b_or, b_iff, i_sel, a_tab, i_pow2, List.getD_cons_zero, List.getD_cons_succ, decide_eq_true_eq, decide_eq_false_iff_not, Bool.and_eq_true, Bool.or_eq_true, Bool.not_eq_true', Bool.not_eq_false', Bool.and_eq_false_iff, Bool.or_eq_false_iff, Bool.not_not, ite_tt, ite_ff, iff_tt, iff_ff, a_av, a_ite, a_upd] at *; omega)
      simp only [e4xmu, e4xJ0, Env.app, setAll, List.map_cons, List.map_nil, List.set, List.getD_cons_zero, List.getD_cons_succ, e4x0, e4x1, e4x2, e4x3, e4x4, e4x5, e4x6, e4x7, e4x8, e4x9, e4x10, e4x11, e4x12, e4x13, e4x14, e4x15, e4x16, e4x17, e4x18, e4x19, e4x20, e4x21, e4x22, e4x23, e4x24, e4x25, e4x26, e4x27, e4x28, e4x29, e4x30, e4x31, e4x32, e4x33, e4x34, e4x35, e4x36, e4x37, e4x38, e4x39, e4x40, e4x41, e4x42, e4x43, e4x44, e4x45, e4x46, e4x47, e4x48, e4x49, e4x50, e4x51, e4x52, e4x53, e4x54, e4x55, e4x56, e4x57, e4x58, e4x59, e4x60, e4x61, e4x62, e4x63, e4x64, e4x65, e4x66, e4x67, e4x68, e4x69, e4x70, e4x71, e4x72, e4x73, e4x74, e4x75, e4x76, e4x77, e4x78, e4x79, e4x80, e4x81, e4x82, e4x83, e4x84, e4x85, e4x86, e4x87, e4x88, e4x89, e4x90, e4x91, i_v, b_bv, i_lit, b_blit, i_add, i_sub, i_mul, i_div, i_mod, i_tdiv, i_tmod, i_ite, b_ite, b_lt, b_le, b_eq, b_not, b_and, b_or, b_iff, i_sel, a_tab, i_pow2, List.getD_cons_zero, List.getD_cons_succ, decide_eq_true_eq, decide_eq_false_iff_not, Bool.and_eq_true, Bool.or_eq_true, Bool.not_eq_true', Bool.not_eq_false', Bool.and_eq_false_iff, Bool.or_eq_false_iff, Bool.not_not, ite_tt, ite_ff, iff_tt, iff_ff, a_av, a_ite, a_upd] at *
      omega
  ·
    rfl
theorem e4xvcS (n0_4 n0_5 n0_6 : Int) (p0 : Bool) (A0 A1 A2 A3 : Nat → Int) (hB : e4xBase n0_4 n0_5 n0_6 p0 A0 A1 A2 A3) :
    LT.holds (⟨[n0_4, n0_5, n0_6, 0], [p0], [A0, A1, A2, A3], [], Iv (fun _ _ => Ext.none)⟩ : Env) (fun v _ => retTrue (⟨[n0_4, n0_5, n0_6, 0], [p0], [A0, A1, A2, A3], [], Iv (fun _ _ => Ext.none)⟩ : Env) v) (fun j' todo ρ' => (e4xhs[j']?.map (·.todo)) = some todo ∧ e4xInv j' ρ') (.jump 0 e4xT0 ⟨[(3, (.lit (-1)))], [], []⟩) := by
  simp only [LT.holds, retTrue]
  refine ⟨rfl, _, _, _, _, _, _, _, _, _, rfl, hB, ?_⟩
  simp only [e4xJ0, and_true] at *
  first | omega | (simp only [e4x0, e4x1, e4x2, e4x3, e4x4, e4x5, e4x6, e4x7, e4x8, e4x9, e4x10, e4x11, e4x12, e4x13, e4x14, e4x15, e4x16, e4x17, e4x18, e4x19, e4x20, e4x21, e4x22, e4x23, e4x24, e4x25, e4x26, e4x27, e4x28, e4x29, e4x30, e4x31, e4x32, e4x33, e4x34, e4x35, e4x36, e4x37, e4x38, e4x39, e4x40, e4x41, e4x42, e4x43, e4x44, e4x45, e4x46, e4x47, e4x48, e4x49, e4x50, e4x51, e4x52, e4x53, e4x54, e4x55, e4x56, e4x57, e4x58, e4x59, e4x60, e4x61, e4x62, e4x63, e4x64, e4x65, e4x66, e4x67, e4x68, e4x69, e4x70, e4x71, e4x72, e4x73, e4x74, e4x75, e4x76, e4x77, e4x78, e4x79, e4x80, e4x81, e4x82, e4x83, e4x84, e4x85, e4x86, e4x87, e4x88, e4x89, e4x90, e4x91, i_v, b_bv, i_lit, b_blit, i_add, i_sub, i_mul, i_div, i_mod, i_tdiv, i_tmod, i_ite, b_ite, b_lt, b_le, b_eq, b_not, b_and, b_or, b_iff, i_sel, a_tab, i_pow2, List.getD_cons_zero, List.getD_cons_succ, decide_eq_true_eq, decide_eq_false_iff_not, Bool.and_eq_true, Bool.or_eq_true, Bool.not_eq_true', Bool.not_eq_false', Bool.and_eq_false_iff, Bool.or_eq_false_iff, Bool.not_not, ite_tt, ite_ff, iff_tt, iff_ff, a_av, a_ite, a_upd] at *; omega)
theorem e4xcalls (c0 : List Value) (l0 : c0.length = pcTotal Pc0) (f0 : PcFit c0 0 Pc0) (a2 : Bool) (w : World) :
    Calls Try.prog 7 #[.agg c0.toArray, .int .i64 (4), .bool a2] w fun r w' => r = .returned (.bool true) ∧ Below w.heap.size w w' := by
  have hc0 : cellsOf (⟨[intV (c0.getD 78 Go.undef), intV (c0.getD 79 Go.undef), intV (c0.getD 80 Go.undef), 0], [a2], [arrOf c0 0 64, arrOf c0 64 4, arrOf c0 68 4, arrOf c0 72 6], [], Iv (fun _ _ => Ext.none)⟩ : Env) Loc.id (pcSegs 0 0 0 Pc0) = c0 := by
    rw [pc_cells Pc0 0 0 0 0 f0 (by intro j hj; rcases j with _ | _ | _ | _ | j <;> first | rfl | (simp [Pc0, pcA, pcB, pcI] at hj; omega)) (by intro j hj; simp [Pc0, pcA, pcB, pcI] at hj) (by intro j hj; rcases j with _ | _ | _ | j <;> first | rfl | (simp [Pc0, pcA, pcB, pcI] at hj; omega)), List.drop_zero, ← l0, List.take_length]
  have hargs : (e4xLs.map (SV.conc (⟨[intV (c0.getD 78 Go.undef), intV (c0.getD 79 Go.undef), intV (c0.getD 80 Go.undef), 0], [a2], [arrOf c0 0 64, arrOf c0 64 4, arrOf c0 68 4, arrOf c0 72 6], [], Iv (fun _ _ => Ext.none)⟩ : Env) Loc.id)).toArray = #[.agg c0.toArray, .int .i64 (4), .bool a2] := by
    refine congrArg List.toArray ?_
    exact (cons_eq (congrArg (fun l => Value.agg (List.toArray l)) hc0) (cons_eq rfl (cons_eq rfl rfl)))
  rw [← hargs]
  have hok : Hyp.ok e4xHy (⟨[intV (c0.getD 78 Go.undef), intV (c0.getD 79 Go.undef), intV (c0.getD 80 Go.undef), 0], [a2], [arrOf c0 0 64, arrOf c0 64 4, arrOf c0 68 4, arrOf c0 72 6], [], Iv (fun _ _ => Ext.none)⟩ : Env) := by
    refine ⟨?_, ?_, ?_, by simp [e4xHy], ?_, by simp [e4xHy]⟩
    · simp [e4xHy]
    · intro p hp
      simp only [e4xHy, List.mem_cons, List.not_mem_nil, or_false] at hp
      rcases hp with rfl | rfl | rfl
      · exact num_rng (f0.tail.tail.tail.tail)
      · exact num_rng (f0.tail.tail.tail.tail.tail)
      · exact num_rng (f0.tail.tail.tail.tail.tail.tail)
    · intro p hp
      simp only [e4xHy, List.mem_cons, List.not_mem_nil, or_false] at hp
      rcases hp with rfl | rfl | rfl | rfl
      · exact arrOf_rng (f0)
      · exact arrOf_rng (f0.tail)
      · exact arrOf_rng (f0.tail.tail)
      · exact arrOf_rng (f0.tail.tail.tail)
    · simp [e4xHy]
  refine law_loops (D := e4xD) (hs := e4xhs) (ρ := (⟨[intV (c0.getD 78 Go.undef), intV (c0.getD 79 Go.undef), intV (c0.getD 80 Go.undef), 0], [a2], [arrOf c0 0 64, arrOf c0 64 4, arrOf c0 68 4, arrOf c0 72 6], [], Iv (fun _ _ => Ext.none)⟩ : Env)) (G_ok _) (by kernel_rfl) rfl (e4xInv ) e4xmu e4xst rfl ⟨rfl, rfl, rfl⟩ hok (e4xvcS (intV (c0.getD 78 Go.undef)) (intV (c0.getD 79 Go.undef)) (intV (c0.getD 80 Go.undef)) (a2) (arrOf c0 0 64) (arrOf c0 64 4) (arrOf c0 68 4) (arrOf c0 72 6) ⟨num_rng (f0.tail.tail.tail.tail), num_rng (f0.tail.tail.tail.tail.tail), num_rng (f0.tail.tail.tail.tail.tail.tail), arrOf_rng (f0), arrOf_rng (f0.tail), arrOf_rng (f0.tail.tail), arrOf_rng (f0.tail.tail.tail), trivial⟩) ?_ w (fun i j => Ext.none_ok _)
  intro j h ρ hj hI hz hInv
  rcases j with _ | j
  · simp only [e4xhs, List.getElem?_cons_zero, List.getElem?_cons_succ, Option.some.injEq] at hj; subst hj
    obtain ⟨n0_4, n0_5, n0_6, x3, p0, A0, A1, A2, A3, rfl, hB, hJ⟩ := hInv
    refine ⟨?_, _, e4xsg0, e4xvc0 n0_4 n0_5 n0_6 x3 p0 A0 A1 A2 A3 hB hJ⟩
    have hB2 := hB; have hJ2 := hJ
    simp only [e4xBase] at hB2; simp only [e4xJ0] at hJ2
    obtain ⟨hb0, hb1, hb2, hb3, hb4, hb5, hb6, _⟩ := hB2
    obtain ⟨hl0, _⟩ := hJ2
    refine ⟨?_, ?_, ?_, by simp [e4xh0], ?_, by simp [e4xh0]⟩
    · simp [e4xh0]
    · intro p hp
      simp only [e4xh0, List.mem_cons, List.not_mem_nil, or_false] at hp
      rcases hp with rfl | rfl | rfl | rfl
      · exact hb0
      · exact hb1
      · exact hb2
      · exact hl0
    · intro p hp
      simp only [e4xh0, List.mem_cons, List.not_mem_nil, or_false] at hp
      rcases hp with rfl | rfl | rfl | rfl
      · exact hb3
      · exact hb4
      · exact hb5
      · exact hb6
    · simp [e4xh0]
  · simp [e4xhs] at hj
end Go.Proofs.Ytgbncbclhdnbmaa.BlendWindows
