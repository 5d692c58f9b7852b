/- A part of the law BlendWindows, which returns true for every input. What lies within each layer's window, and where it is shown, is what the document says. No condition. -/
import Derived.Test.YtgbncbclhdnbmaaBlendWindows0
namespace Go.Proofs.Ytgbncbclhdnbmaa.BlendWindows
open Go.Sx Go.ChangeShapes Go.WideShapes Go.ChangeAt Go.RowKit
set_option linter.unusedVariables false
set_option linter.unusedSimpArgs false
set_option maxRecDepth 100000
def e2xHy : Hyp := ⟨[(.v 0, (-32768, 32767)), (.v 1, (-32768, 32767)), (.v 2, (0, 65535))], [(0, (0, 255)), (1, (0, 65535)), (2, (0, 65535)), (3, (-32768, 32767))], [], [], [], []⟩
def e2xLs : List SV := [.agg (pcSegs 0 0 0 Pc0), .s (.int .i64 (.lit (2))), .s (.bool (.bv 0))]
def e2x0 : E := .le (.v 3) (.lit 256)
def e2x1 : E := .sel (.av 0) (.lit 36)
def e2x2 : E := .div e2x1 (.lit 8)
def e2x3 : E := .mod e2x2 (.lit 2)
def e2x4 : E := .mul e2x3 (.lit 8)
def e2x5 : E := .div e2x1 (.lit 2)
def e2x6 : E := .mod e2x5 (.lit 2)
def e2x7 : E := .mul e2x6 (.lit 2)
def e2x8 : E := .add e2x4 e2x7
def e2x9 : E := .eq e2x8 (.lit 2)
def e2x10 : E := .sel (.av 0) (.lit 39)
def e2x11 : E := .le (.v 3) e2x10
def e2x12 : E := .sel (.av 0) (.lit 38)
def e2x13 : E := .le e2x12 (.v 3)
def e2x14 : E := .and e2x11 e2x13
def e2x15 : E := .mod e2x1 (.lit 2)
def e2x16 : E := .eq e2x15 (.lit 0)
def e2x17 : E := .not e2x16
def e2x18 : E := .iff e2x14 e2x17
def e2x19 : E := .not e2x18
def e2x20 : E := .eq e2x8 (.lit 8)
def e2x21 : E := .sel (.av 0) (.lit 41)
def e2x22 : E := .le (.v 3) e2x21
def e2x23 : E := .sel (.av 0) (.lit 40)
def e2x24 : E := .le e2x23 (.v 3)
def e2x25 : E := .and e2x22 e2x24
def e2x26 : E := .div e2x1 (.lit 4)
def e2x27 : E := .mod e2x26 (.lit 2)
def e2x28 : E := .eq e2x27 (.lit 0)
def e2x29 : E := .not e2x28
def e2x30 : E := .iff e2x25 e2x29
def e2x31 : E := .not e2x30
def e2x32 : E := .sel (.av 0) (.lit 42)
def e2x33 : E := .div e2x32 (.lit 16)
def e2x34 : E := .mod e2x33 (.lit 4)
def e2x35 : E := .eq e2x34 (.lit 0)
def e2x36 : E := .or e2x19 e2x31
def e2x37 : E := .eq e2x34 (.lit 1)
def e2x38 : E := .and e2x19 e2x31
def e2x39 : E := .eq e2x34 (.lit 2)
def e2x40 : E := .iff e2x19 e2x31
def e2x41 : E := .not e2x40
def e2x42 : E := .ite e2x39 e2x41 e2x40
def e2x43 : E := .ite e2x37 e2x38 e2x42
def e2x44 : E := .ite e2x35 e2x36 e2x43
def e2x45 : E := .ite e2x20 e2x31 e2x44
def e2x46 : E := .ite e2x9 e2x19 e2x45
def e2x47 : E := .le (.v 3) (.lit 255)
def e2x48 : E := .and e2x46 e2x47
def e2x49 : E := .le (.lit 0) (.v 3)
def e2x50 : E := .and e2x48 e2x49
def e2x51 : E := .eq e2x8 (.lit 0)
def e2x52 : E := .not e2x51
def e2x53 : E := .and e2x50 e2x52
def e2x54 : E := .eq e2x6 (.lit 0)
def e2x55 : E := .eq e2x3 (.lit 0)
def e2x56 : E := .or e2x54 e2x55
def e2x57 : E := .not e2x54
def e2x58 : E := .and e2x57 e2x19
def e2x59 : E := .not e2x55
def e2x60 : E := .and e2x59 e2x31
def e2x61 : E := .or e2x58 e2x60
def e2x62 : E := .ite e2x56 e2x61 e2x44
def e2x63 : E := .and e2x62 e2x47
def e2x64 : E := .and e2x63 e2x49
def e2x65 : E := .iff e2x53 e2x64
def e2x66 : E := .not e2x65
def e2x67 : E := .and e2x47 e2x49
def e2x68 : E := .sel (.av 0) (.lit 45)
def e2x69 : E := .sel (.av 0) (.lit 44)
def e2x70 : E := .ite (.bv 0) e2x68 e2x69
def e2x71 : E := .div e2x70 (.lit 4)
def e2x72 : E := .mod e2x71 (.lit 2)
def e2x73 : E := .eq e2x72 (.lit 0)
def e2x74 : E := .not e2x73
def e2x75 : E := .and e2x67 e2x74
def e2x76 : E := .sel (.av 0) (.lit 47)
def e2x77 : E := .sel (.av 0) (.lit 46)
def e2x78 : E := .ite (.bv 0) e2x76 e2x77
def e2x79 : E := .div e2x78 (.lit 4)
def e2x80 : E := .mod e2x79 (.lit 2)
def e2x81 : E := .eq e2x80 (.lit 0)
def e2x82 : E := .or e2x51 e2x81
def e2x83 : E := .not e2x46
def e2x84 : E := .or e2x82 e2x83
def e2x85 : E := .and e2x75 e2x84
def e2x86 : E := .not e2x62
def e2x87 : E := .or e2x81 e2x86
def e2x88 : E := .and e2x75 e2x87
def e2x89 : E := .iff e2x85 e2x88
def e2x90 : E := .not e2x89
def e2x91 : E := .or e2x66 e2x90
def e2x92 : E := .add (.v 3) (.lit 1)
noncomputable def e2xT0 : List Item := todoS Try.prog G Gh [] 3000 0 7 e2xHy e2xLs [] 3
noncomputable def e2xh0 : Head := ⟨3, e2xT0, ⟨[((.v 0), ((-32768), 32767)), ((.v 1), ((-32768), 32767)), ((.v 2), (0, 65535)), ((.v 3), ((-1), 257))], [(0, (0, 255)), (1, (0, 65535)), (2, (0, 65535)), (3, ((-32768), 32767))], [], [], [], []⟩, [⟨7, [], .s (.int .i64 (.v 3))⟩, ⟨3, [], .s (.ptr 0 (.lit 0))⟩, ⟨1, [], .s (.int .i64 (.lit 2))⟩, ⟨2, [], .s (.bool (.bv 0))⟩], [⟨33, [.run .u8 (.lit 64) (.av 0) 0, .run .u16 (.lit 4) (.av 1) 0, .run .u16 (.lit 4) (.av 2) 0, .run .i16 (.lit 6) (.av 3) 0, .one (.int .i16 (.v 0)), .one (.int .i16 (.v 1)), .one (.int .u16 (.v 2))], true, none, false⟩]⟩
noncomputable def e2xhs : List Head := [e2xh0]
def e2xD : Dim := ⟨4, 1, 4, 3, 1, 4, 0⟩
theorem e2xst : startL Try.prog G Gh e2xD e2xhs [] 3000 0 7 e2xHy e2xLs [] = some (.jump 0 e2xT0 ⟨[(3, (.lit (-1)))], [], []⟩) := by kernel_rfl
theorem e2xsg0 : segL Try.prog G Gh e2xD e2xhs [] 3000 0 7 e2xh0 = some (.ite e2x0 (.ite e2x91 (.ret (.s (.bool (.blit false))) [⟨33, [.run .u8 (.lit 64) (.av 0) 0, .run .u16 (.lit 4) (.av 1) 0, .run .u16 (.lit 4) (.av 2) 0, .run .i16 (.lit 6) (.av 3) 0, .one (.int .i16 (.v 0)), .one (.int .i16 (.v 1)), .one (.int .u16 (.v 2))], true, none, false⟩]) (.jump 0 e2xT0 ⟨[(3, e2x92)], [], []⟩)) (.ret (.s (.bool (.blit true))) [⟨33, [.run .u8 (.lit 64) (.av 0) 0, .run .u16 (.lit 4) (.av 1) 0, .run .u16 (.lit 4) (.av 2) 0, .run .i16 (.lit 6) (.av 3) 0, .one (.int .i16 (.v 0)), .one (.int .i16 (.v 1)), .one (.int .u16 (.v 2))], true, none, false⟩])) := by kernel_rfl
def e2xBase (n0_4 n0_5 n0_6 : Int) (p0 : Bool) (A0 A1 A2 A3 : Nat → Int) : Prop := (-32768 ≤ n0_4 ∧ n0_4 ≤ 32767) ∧ (-32768 ≤ n0_5 ∧ n0_5 ≤ 32767) ∧ (0 ≤ n0_6 ∧ n0_6 ≤ 65535) ∧ (∀ j, 0 ≤ A0 j ∧ A0 j ≤ 255) ∧ (∀ j, 0 ≤ A1 j ∧ A1 j ≤ 65535) ∧ (∀ j, 0 ≤ A2 j ∧ A2 j ≤ 65535) ∧ (∀ j, -32768 ≤ A3 j ∧ A3 j ≤ 32767) ∧ True
def e2xJ0 (n0_4 n0_5 n0_6 x3 : Int) (p0 : Bool) (A0 A1 A2 A3 : Nat → Int) : Prop := (-1 ≤ x3 ∧ x3 ≤ 257) ∧ True
def e2xInv : Nat → Env → Prop
  | 0, ρ => ∃ (n0_4 n0_5 n0_6 x3 : Int) (p0 : Bool) (A0 A1 A2 A3 : Nat → Int), ρ = (⟨[n0_4, n0_5, n0_6, x3], [p0], [A0, A1, A2, A3], [], Iv (fun _ _ => Ext.none)⟩ : Env) ∧ e2xBase n0_4 n0_5 n0_6 p0 A0 A1 A2 A3 ∧ e2xJ0 n0_4 n0_5 n0_6 x3 p0 A0 A1 A2 A3
  | _, _ => False
def e2xmu : Nat → Env → Nat := fun _ ρ => (257 - ρ.i.getD 3 0).toNat
theorem e2xvc0 (n0_4 n0_5 n0_6 x3 : Int) (p0 : Bool) (A0 A1 A2 A3 : Nat → Int) (hB : e2xBase n0_4 n0_5 n0_6 p0 A0 A1 A2 A3) (hJ : e2xJ0 n0_4 n0_5 n0_6 x3 p0 A0 A1 A2 A3) :
    LT.holds (⟨[n0_4, n0_5, n0_6, x3], [p0], [A0, A1, A2, A3], [], Iv (fun _ _ => Ext.none)⟩ : Env) (fun v _ => retTrue (⟨[n0_4, n0_5, n0_6, x3], [p0], [A0, A1, A2, A3], [], Iv (fun _ _ => Ext.none)⟩ : Env) v) (fun j' todo ρ' => (e2xhs[j']?.map (·.todo)) = some todo ∧ e2xInv j' ρ' ∧ e2xmu j' ρ' < e2xmu 0 (⟨[n0_4, n0_5, n0_6, x3], [p0], [A0, A1, A2, A3], [], Iv (fun _ _ => Ext.none)⟩ : Env)) (.ite e2x0 (.ite e2x91 (.ret (.s (.bool (.blit false))) [⟨33, [.run .u8 (.lit 64) (.av 0) 0, .run .u16 (.lit 4) (.av 1) 0, .run .u16 (.lit 4) (.av 2) 0, .run .i16 (.lit 6) (.av 3) 0, .one (.int .i16 (.v 0)), .one (.int .i16 (.v 1)), .one (.int .u16 (.v 2))], true, none, false⟩]) (.jump 0 e2xT0 ⟨[(3, e2x92)], [], []⟩)) (.ret (.s (.bool (.blit true))) [⟨33, [.run .u8 (.lit 64) (.av 0) 0, .run .u16 (.lit 4) (.av 1) 0, .run .u16 (.lit 4) (.av 2) 0, .run .i16 (.lit 6) (.av 3) 0, .one (.int .i16 (.v 0)), .one (.int .i16 (.v 1)), .one (.int .u16 (.v 2))], true, none, false⟩])) := by
  simp only [LT.holds, retTrue]
  refine ⟨fun hc0 => ?_, fun hc0 => ?_⟩
  ·
    refine ⟨fun hc1 => ?_, fun hc1 => ?_⟩
    ·
      exfalso
      have hA : ∀ j, 0 ≤ A0 j ∧ A0 j ≤ 255 := by simp only [e2xBase] at hB; exact hB.2.2.2.1
      have hX : (E.i (⟨[n0_4, n0_5, n0_6, x3], [p0], [A0, A1, A2, A3], [], Iv (fun _ _ => Ext.none)⟩ : Env) e2x3 = 0) ∨ (E.i (⟨[n0_4, n0_5, n0_6, x3], [p0], [A0, A1, A2, A3], [], Iv (fun _ _ => Ext.none)⟩ : Env) e2x3 = 1) := by
        have h5 := hA (Int.toNat 35); have h6 := hA (Int.toNat 36); have h7 := hA (Int.toNat 37)
        simp only [e2x1, e2x2, e2x3, i_v, b_bv, i_lit, b_blit, i_add, i_sub, i_mul, i_div, i_mod, i_tdiv, i_tmod, i_ite, b_ite, b_lt, b_le, b_eq, b_not, b_and, b_or, b_iff, i_sel, a_tab, i_pow2, List.getD_cons_zero, List.getD_cons_succ, decide_eq_true_eq, decide_eq_false_iff_not, Bool.and_eq_true, Bool.or_eq_true, Bool.not_eq_true', Bool.not_eq_false', Bool.and_eq_false_iff, Bool.or_eq_false_iff, Bool.not_not, ite_tt, ite_ff, iff_tt, iff_ff, a_av, a_ite, a_upd, decide_eq_true_eq, decide_eq_false_iff_not]
        omega
      have hY : (E.i (⟨[n0_4, n0_5, n0_6, x3], [p0], [A0, A1, A2, A3], [], Iv (fun _ _ => Ext.none)⟩ : Env) e2x6 = 0) ∨ (E.i (⟨[n0_4, n0_5, n0_6, x3], [p0], [A0, A1, A2, A3], [], Iv (fun _ _ => Ext.none)⟩ : Env) e2x6 = 1) := by
        have h5 := hA (Int.toNat 35); have h6 := hA (Int.toNat 36); have h7 := hA (Int.toNat 37)
        simp only [e2x1, e2x5, e2x6, i_v, b_bv, i_lit, b_blit, i_add, i_sub, i_mul, i_div, i_mod, i_tdiv, i_tmod, i_ite, b_ite, b_lt, b_le, b_eq, b_not, b_and, b_or, b_iff, i_sel, a_tab, i_pow2, List.getD_cons_zero, List.getD_cons_succ, decide_eq_true_eq, decide_eq_false_iff_not, Bool.and_eq_true, Bool.or_eq_true, Bool.not_eq_true', Bool.not_eq_false', Bool.and_eq_false_iff, Bool.or_eq_false_iff, Bool.not_not, ite_tt, ite_ff, iff_tt, iff_ff, a_av, a_ite, a_upd, decide_eq_true_eq, decide_eq_false_iff_not]
        omega
      have h : E.b (⟨[n0_4, n0_5, n0_6, x3], [p0], [A0, A1, A2, A3], [], Iv (fun _ _ => Ext.none)⟩ : Env) e2x91 = false := by
        simp only [e2x91, e2x90, e2x89, e2x88, e2x87, e2x86, e2x62, e2x61, e2x60, e2x31, e2x59, e2x55, e2x58, e2x19, e2x57, e2x54, e2x56, e2x75, e2x74, e2x67, e2x85, e2x84, e2x83, e2x46, e2x45, e2x20, e2x8, e2x7, e2x4, e2x9, e2x82, e2x51, e2x66, e2x65, e2x64, e2x63, e2x53, e2x52, e2x50, e2x48, b_or, b_and, b_not, b_iff, b_eq, b_ite, i_add, i_mul, i_lit]
        clear hc0 hc1 hB hJ hA
        generalize E.b _ e2x44 = g0
        generalize E.b _ e2x18 = g1
        generalize E.b _ e2x30 = g2
        generalize E.b _ e2x81 = g3
        generalize E.b _ e2x73 = g4
        generalize E.b _ e2x49 = g5
        generalize E.b _ e2x47 = g6
        rcases hX with hX | hX <;> rcases hY with hY | hY <;> simp only [hX, hY] <;> revert g0 g1 g2 g3 g4 g5 g6 <;> decide
      rw [h] at hc1
      cases hc1
    ·
      refine ⟨rfl, ⟨_, _, _, _, _, _, _, _, _, rfl, hB, ?_⟩, ?_⟩
      simp only [e2xJ0, and_true] at *
      first | omega | (simp only [e2x0, e2x1, e2x2, e2x3, e2x4, e2x5, e2x6, e2x7, e2x8, e2x9, e2x10, e2x11, e2x12, e2x13, e2x14, e2x15, e2x16, e2x17, e2x18, e2x19, e2x20, e2x21, e2x22, e2x23, e2x24, e2x25, e2x26, e2x27, e2x28, e2x29, e2x30, e2x31, e2x32, e2x33, e2x34, e2x35, e2x36, e2x37, e2x38, e2x39, e2x40, e2x41, e2x42, e2x43, e2x44, e2x45, e2x46, e2x47, e2x48, e2x49, e2x50, e2x51, e2x52, e2x53, e2x54, e2x55, e2x56, e2x57, e2x58, e2x59, e2x60, e2x61, e2x62, e2x63, e2x64, e2x65, e2x66, e2x67, e2x68, e2x69, e2x70, e2x71, e2x72, e2x73, e2x74, e2x75, e2x76, e2x77, e2x78, e2x79, e2x80, e2x81, e2x82, e2x83, e2x84, e2x85, e2x86, e2x87, e2x88, e2x89, e2x90, e2x91, e2x92, i_v, b_bv, i_lit, b_blit, i_add, i_sub, i_mul, i_div, i_mod, i_tdiv, i_tmod, i_ite, b_ite, b_lt, b_le, b_eq, b_not, b_and, b_or, b_iff, i_sel, a_tab, i_pow2, List.getD_cons_zero, List.getD_cons_succ, decide_eq_true_eq, decide_eq_false_iff_not, Bool.and_eq_true, Bool.or_eq_true, Bool.not_eq_true', Bool.not_eq_false', Bool.and_eq_false_iff, Bool.or_eq_false_iff, Bool.not_not, ite_tt, ite_ff, iff_tt, iff_ff, a_av, a_ite, a_upd] at *; omega)
      simp only [e2xmu, e2xJ0, Env.app, setAll, List.map_cons, List.map_nil, List.set, List.getD_cons_zero, List.getD_cons_succ, e2x0, e2x1, e2x2, e2x3, e2x4, e2x5, e2x6, e2x7, e2x8, e2x9, e2x10, e2x11, e2x12, e2x13, e2x14, e2x15, e2x16, e2x17, e2x18, e2x19, e2x20, e2x21, e2x22, e2x23, e2x24, e2x25, e2x26, e2x27, e2x28, e2x29, e2x30, e2x31, e2x32, e2x33, e2x34, e2x35, e2x36, e2x37, e2x38, e2x39, e2x40, e2x41, e2x42, e2x43, e2x44, e2x45, e2x46, e2x47, e2x48, e2x49, e2x50, e2x51, e2x52, e2x53, e2x54, e2x55, e2x56, e2x57, e2x58, e2x59, e2x60, e2x61, e2x62, e2x63, e2x64, e2x65, e2x66, e2x67, e2x68, e2x69, e2x70, e2x71, e2x72, e2x73, e2x74, e2x75, e2x76, e2x77, e2x78, e2x79, e2x80, e2x81, e2x82, e2x83, e2x84, e2x85, e2x86, e2x87, e2x88, e2x89, e2x90, e2x91, e2x92, i_v, b_bv, i_lit, b_blit, i_add, i_sub, i_mul, i_div, i_mod, i_tdiv, i_tmod, i_ite, b_ite, b_lt, b_le, b_eq, b_not, b_and, b_or, b_iff, i_sel, a_tab, i_pow2, List.getD_cons_zero, List.getD_cons_succ, decide_eq_true_eq, decide_eq_false_iff_not, Bool.and_eq_true, Bool.or_eq_true, Bool.not_eq_true', Bool.not_eq_false', Bool.and_eq_false_iff, Bool.or_eq_false_iff, Bool.not_not, ite_tt, ite_ff, iff_tt, iff_ff, a_av, a_ite, a_upd] at *
      omega
  ·
    rfl
theorem e2xvcS (n0_4 n0_5 n0_6 : Int) (p0 : Bool) (A0 A1 A2 A3 : Nat → Int) (hB : e2xBase n0_4 n0_5 n0_6 p0 A0 A1 A2 A3) :
    LT.holds (⟨[n0_4, n0_5, n0_6, 0], [p0], [A0, A1, A2, A3], [], Iv (fun _ _ => Ext.none)⟩ : Env) (fun v _ => retTrue (⟨[n0_4, n0_5, n0_6, 0], [p0], [A0, A1, A2, A3], [], Iv (fun _ _ => Ext.none)⟩ : Env) v) (fun j' todo ρ' => (e2xhs[j']?.map (·.todo)) = some todo ∧ e2xInv j' ρ') (.jump 0 e2xT0 ⟨[(3, (.lit (-1)))], [], []⟩) := by
  simp only [LT.holds, retTrue]
  refine ⟨rfl, _, _, _, _, _, _, _, _, _, rfl, hB, ?_⟩
  simp only [e2xJ0, and_true] at *
  first | omega | (simp only [e2x0, e2x1, e2x2, e2x3, e2x4, e2x5, e2x6, e2x7, e2x8, e2x9, e2x10, e2x11, e2x12, e2x13, e2x14, e2x15, e2x16, e2x17, e2x18, e2x19, e2x20, e2x21, e2x22, e2x23, e2x24, e2x25, e2x26, e2x27, e2x28, e2x29, e2x30, e2x31, e2x32, e2x33, e2x34, e2x35, e2x36, e2x37, e2x38, e2x39, e2x40, e2x41, e2x42, e2x43, e2x44, e2x45, e2x46, e2x47, e2x48, e2x49, e2x50, e2x51, e2x52, e2x53, e2x54, e2x55, e2x56, e2x57, e2x58, e2x59, e2x60, e2x61, e2x62, e2x63, e2x64, e2x65, e2x66, e2x67, e2x68, e2x69, e2x70, e2x71, e2x72, e2x73, e2x74, e2x75, e2x76, e2x77, e2x78, e2x79, e2x80, e2x81, e2x82, e2x83, e2x84, e2x85, e2x86, e2x87, e2x88, e2x89, e2x90, e2x91, e2x92, i_v, b_bv, i_lit, b_blit, i_add, i_sub, i_mul, i_div, i_mod, i_tdiv, i_tmod, i_ite, b_ite, b_lt, b_le, b_eq, b_not, b_and, b_or, b_iff, i_sel, a_tab, i_pow2, List.getD_cons_zero, List.getD_cons_succ, decide_eq_true_eq, decide_eq_false_iff_not, Bool.and_eq_true, Bool.or_eq_true, Bool.not_eq_true', Bool.not_eq_false', Bool.and_eq_false_iff, Bool.or_eq_false_iff, Bool.not_not, ite_tt, ite_ff, iff_tt, iff_ff, a_av, a_ite, a_upd] at *; omega)
theorem e2xcalls (c0 : List Value) (l0 : c0.length = pcTotal Pc0) (f0 : PcFit c0 0 Pc0) (a2 : Bool) (w : World) :
    Calls Try.prog 7 #[.agg c0.toArray, .int .i64 (2), .bool a2] w fun r w' => r = .returned (.bool true) ∧ Below w.heap.size w w' := by
  have hc0 : cellsOf (⟨[intV (c0.getD 78 Go.undef), intV (c0.getD 79 Go.undef), intV (c0.getD 80 Go.undef), 0], [a2], [arrOf c0 0 64, arrOf c0 64 4, arrOf c0 68 4, arrOf c0 72 6], [], Iv (fun _ _ => Ext.none)⟩ : Env) Loc.id (pcSegs 0 0 0 Pc0) = c0 := by
    rw [pc_cells Pc0 0 0 0 0 f0 (by intro j hj; rcases j with _ | _ | _ | _ | j <;> first | rfl | (simp [Pc0, pcA, pcB, pcI] at hj; omega)) (by intro j hj; simp [Pc0, pcA, pcB, pcI] at hj) (by intro j hj; rcases j with _ | _ | _ | j <;> first | rfl | (simp [Pc0, pcA, pcB, pcI] at hj; omega)), List.drop_zero, ← l0, List.take_length]
  have hargs : (e2xLs.map (SV.conc (⟨[intV (c0.getD 78 Go.undef), intV (c0.getD 79 Go.undef), intV (c0.getD 80 Go.undef), 0], [a2], [arrOf c0 0 64, arrOf c0 64 4, arrOf c0 68 4, arrOf c0 72 6], [], Iv (fun _ _ => Ext.none)⟩ : Env) Loc.id)).toArray = #[.agg c0.toArray, .int .i64 (2), .bool a2] := by
    refine congrArg List.toArray ?_
    exact (cons_eq (congrArg (fun l => Value.agg (List.toArray l)) hc0) (cons_eq rfl (cons_eq rfl rfl)))
  rw [← hargs]
  have hok : Hyp.ok e2xHy (⟨[intV (c0.getD 78 Go.undef), intV (c0.getD 79 Go.undef), intV (c0.getD 80 Go.undef), 0], [a2], [arrOf c0 0 64, arrOf c0 64 4, arrOf c0 68 4, arrOf c0 72 6], [], Iv (fun _ _ => Ext.none)⟩ : Env) := by
    refine ⟨?_, ?_, ?_, by simp [e2xHy], ?_, by simp [e2xHy]⟩
    · simp [e2xHy]
    · intro p hp
      simp only [e2xHy, List.mem_cons, List.not_mem_nil, or_false] at hp
      rcases hp with rfl | rfl | rfl
      · exact num_rng (f0.tail.tail.tail.tail)
      · exact num_rng (f0.tail.tail.tail.tail.tail)
      · exact num_rng (f0.tail.tail.tail.tail.tail.tail)
    · intro p hp
      simp only [e2xHy, List.mem_cons, List.not_mem_nil, or_false] at hp
      rcases hp with rfl | rfl | rfl | rfl
      · exact arrOf_rng (f0)
      · exact arrOf_rng (f0.tail)
      · exact arrOf_rng (f0.tail.tail)
      · exact arrOf_rng (f0.tail.tail.tail)
    · simp [e2xHy]
  refine law_loops (D := e2xD) (hs := e2xhs) (ρ := (⟨[intV (c0.getD 78 Go.undef), intV (c0.getD 79 Go.undef), intV (c0.getD 80 Go.undef), 0], [a2], [arrOf c0 0 64, arrOf c0 64 4, arrOf c0 68 4, arrOf c0 72 6], [], Iv (fun _ _ => Ext.none)⟩ : Env)) (G_ok _) (by kernel_rfl) rfl (e2xInv ) e2xmu e2xst rfl ⟨rfl, rfl, rfl⟩ hok (e2xvcS (intV (c0.getD 78 Go.undef)) (intV (c0.getD 79 Go.undef)) (intV (c0.getD 80 Go.undef)) (a2) (arrOf c0 0 64) (arrOf c0 64 4) (arrOf c0 68 4) (arrOf c0 72 6) ⟨num_rng (f0.tail.tail.tail.tail), num_rng (f0.tail.tail.tail.tail.tail), num_rng (f0.tail.tail.tail.tail.tail.tail), arrOf_rng (f0), arrOf_rng (f0.tail), arrOf_rng (f0.tail.tail), arrOf_rng (f0.tail.tail.tail), trivial⟩) ?_ w (fun i j => Ext.none_ok _)
  intro j h ρ hj hI hz hInv
  rcases j with _ | j
  · simp only [e2xhs, List.getElem?_cons_zero, List.getElem?_cons_succ, Option.some.injEq] at hj; subst hj
    obtain ⟨n0_4, n0_5, n0_6, x3, p0, A0, A1, A2, A3, rfl, hB, hJ⟩ := hInv
    refine ⟨?_, _, e2xsg0, e2xvc0 n0_4 n0_5 n0_6 x3 p0 A0 A1 A2 A3 hB hJ⟩
    have hB2 := hB; have hJ2 := hJ
    simp only [e2xBase] at hB2; simp only [e2xJ0] at hJ2
    obtain ⟨hb0, hb1, hb2, hb3, hb4, hb5, hb6, _⟩ := hB2
    obtain ⟨hl0, _⟩ := hJ2
    refine ⟨?_, ?_, ?_, by simp [e2xh0], ?_, by simp [e2xh0]⟩
    · simp [e2xh0]
    · intro p hp
      simp only [e2xh0, List.mem_cons, List.not_mem_nil, or_false] at hp
      rcases hp with rfl | rfl | rfl | rfl
      · exact hb0
      · exact hb1
      · exact hb2
      · exact hl0
    · intro p hp
      simp only [e2xh0, List.mem_cons, List.not_mem_nil, or_false] at hp
      rcases hp with rfl | rfl | rfl | rfl
      · exact hb3
      · exact hb4
      · exact hb5
      · exact hb6
    · simp [e2xh0]
  · simp [e2xhs] at hj
end Go.Proofs.Ytgbncbclhdnbmaa.BlendWindows
