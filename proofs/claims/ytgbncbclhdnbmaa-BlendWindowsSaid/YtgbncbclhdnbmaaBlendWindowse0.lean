/- A part of the law BlendWindows, which returns true for every input. What lies within each layer's window, and where it is shown, is what the document says. No condition. -/
import Derived.Test.YtgbncbclhdnbmaaBlendWindows0
namespace Go.Proofs.Ytgbncbclhdnbmaa.BlendWindows
open Go.Sx Go.ChangeShapes Go.WideShapes Go.ChangeAt Go.RowKit
set_option linter.unusedVariables false
set_option linter.unusedSimpArgs false
set_option maxRecDepth 100000
def e0xHy : Hyp := ⟨[(.v 0, (-32768, 32767)), (.v 1, (-32768, 32767)), (.v 2, (0, 65535))], [(0, (0, 255)), (1, (0, 65535)), (2, (0, 65535)), (3, (-32768, 32767))], [], [], [], []⟩
def e0xLs : List SV := [.agg (pcSegs 0 0 0 Pc0), .s (.int .i64 (.lit (0))), .s (.bool (.bv 0))]
def e0x0 : E := .le (.v 3) (.lit 256)
def e0x1 : E := .sel (.av 0) (.lit 35)
def e0x2 : E := .div e0x1 (.lit 8)
def e0x3 : E := .mod e0x2 (.lit 2)
def e0x4 : E := .mul e0x3 (.lit 8)
def e0x5 : E := .div e0x1 (.lit 2)
def e0x6 : E := .mod e0x5 (.lit 2)
def e0x7 : E := .mul e0x6 (.lit 2)
def e0x8 : E := .add e0x4 e0x7
def e0x9 : E := .eq e0x8 (.lit 2)
def e0x10 : E := .sel (.av 0) (.lit 39)
def e0x11 : E := .le (.v 3) e0x10
def e0x12 : E := .sel (.av 0) (.lit 38)
def e0x13 : E := .le e0x12 (.v 3)
def e0x14 : E := .and e0x11 e0x13
def e0x15 : E := .mod e0x1 (.lit 2)
def e0x16 : E := .eq e0x15 (.lit 0)
def e0x17 : E := .not e0x16
def e0x18 : E := .iff e0x14 e0x17
def e0x19 : E := .not e0x18
def e0x20 : E := .eq e0x8 (.lit 8)
def e0x21 : E := .sel (.av 0) (.lit 41)
def e0x22 : E := .le (.v 3) e0x21
def e0x23 : E := .sel (.av 0) (.lit 40)
def e0x24 : E := .le e0x23 (.v 3)
def e0x25 : E := .and e0x22 e0x24
def e0x26 : E := .div e0x1 (.lit 4)
def e0x27 : E := .mod e0x26 (.lit 2)
def e0x28 : E := .eq e0x27 (.lit 0)
def e0x29 : E := .not e0x28
def e0x30 : E := .iff e0x25 e0x29
def e0x31 : E := .not e0x30
def e0x32 : E := .sel (.av 0) (.lit 42)
def e0x33 : E := .mod e0x32 (.lit 4)
def e0x34 : E := .eq e0x33 (.lit 0)
def e0x35 : E := .or e0x19 e0x31
def e0x36 : E := .eq e0x33 (.lit 1)
def e0x37 : E := .and e0x19 e0x31
def e0x38 : E := .eq e0x33 (.lit 2)
def e0x39 : E := .iff e0x19 e0x31
def e0x40 : E := .not e0x39
def e0x41 : E := .ite e0x38 e0x40 e0x39
def e0x42 : E := .ite e0x36 e0x37 e0x41
def e0x43 : E := .ite e0x34 e0x35 e0x42
def e0x44 : E := .ite e0x20 e0x31 e0x43
def e0x45 : E := .ite e0x9 e0x19 e0x44
def e0x46 : E := .le (.v 3) (.lit 255)
def e0x47 : E := .and e0x45 e0x46
def e0x48 : E := .le (.lit 0) (.v 3)
def e0x49 : E := .and e0x47 e0x48
def e0x50 : E := .eq e0x8 (.lit 0)
def e0x51 : E := .not e0x50
def e0x52 : E := .and e0x49 e0x51
def e0x53 : E := .eq e0x6 (.lit 0)
def e0x54 : E := .eq e0x3 (.lit 0)
def e0x55 : E := .or e0x53 e0x54
def e0x56 : E := .not e0x53
def e0x57 : E := .and e0x56 e0x19
def e0x58 : E := .not e0x54
def e0x59 : E := .and e0x58 e0x31
def e0x60 : E := .or e0x57 e0x59
def e0x61 : E := .ite e0x55 e0x60 e0x43
def e0x62 : E := .and e0x61 e0x46
def e0x63 : E := .and e0x62 e0x48
def e0x64 : E := .iff e0x52 e0x63
def e0x65 : E := .not e0x64
def e0x66 : E := .and e0x46 e0x48
def e0x67 : E := .sel (.av 0) (.lit 45)
def e0x68 : E := .sel (.av 0) (.lit 44)
def e0x69 : E := .ite (.bv 0) e0x67 e0x68
def e0x70 : E := .mod e0x69 (.lit 2)
def e0x71 : E := .eq e0x70 (.lit 0)
def e0x72 : E := .not e0x71
def e0x73 : E := .and e0x66 e0x72
def e0x74 : E := .sel (.av 0) (.lit 47)
def e0x75 : E := .sel (.av 0) (.lit 46)
def e0x76 : E := .ite (.bv 0) e0x74 e0x75
def e0x77 : E := .mod e0x76 (.lit 2)
def e0x78 : E := .eq e0x77 (.lit 0)
def e0x79 : E := .or e0x50 e0x78
def e0x80 : E := .not e0x45
def e0x81 : E := .or e0x79 e0x80
def e0x82 : E := .and e0x73 e0x81
def e0x83 : E := .not e0x61
def e0x84 : E := .or e0x78 e0x83
def e0x85 : E := .and e0x73 e0x84
def e0x86 : E := .iff e0x82 e0x85
def e0x87 : E := .not e0x86
def e0x88 : E := .or e0x65 e0x87
def e0x89 : E := .add (.v 3) (.lit 1)
noncomputable def e0xT0 : List Item := todoS Try.prog G Gh [] 3000 0 7 e0xHy e0xLs [] 3
noncomputable def e0xh0 : Head := ⟨3, e0xT0, ⟨[((.v 0), ((-32768), 32767)), ((.v 1), ((-32768), 32767)), ((.v 2), (0, 65535)), ((.v 3), ((-1), 257))], [(0, (0, 255)), (1, (0, 65535)), (2, (0, 65535)), (3, ((-32768), 32767))], [], [], [], []⟩, [⟨7, [], .s (.int .i64 (.v 3))⟩, ⟨3, [], .s (.ptr 0 (.lit 0))⟩, ⟨1, [], .s (.int .i64 (.lit 0))⟩, ⟨2, [], .s (.bool (.bv 0))⟩], [⟨33, [.run .u8 (.lit 64) (.av 0) 0, .run .u16 (.lit 4) (.av 1) 0, .run .u16 (.lit 4) (.av 2) 0, .run .i16 (.lit 6) (.av 3) 0, .one (.int .i16 (.v 0)), .one (.int .i16 (.v 1)), .one (.int .u16 (.v 2))], true, none, false⟩]⟩
noncomputable def e0xhs : List Head := [e0xh0]
def e0xD : Dim := ⟨4, 1, 4, 3, 1, 4, 0⟩
theorem e0xst : startL Try.prog G Gh e0xD e0xhs [] 3000 0 7 e0xHy e0xLs [] = some (.jump 0 e0xT0 ⟨[(3, (.lit (-1)))], [], []⟩) := by kernel_rfl
theorem e0xsg0 : segL Try.prog G Gh e0xD e0xhs [] 3000 0 7 e0xh0 = some (.ite e0x0 (.ite e0x88 (.ret (.s (.bool (.blit false))) [⟨33, [.run .u8 (.lit 64) (.av 0) 0, .run .u16 (.lit 4) (.av 1) 0, .run .u16 (.lit 4) (.av 2) 0, .run .i16 (.lit 6) (.av 3) 0, .one (.int .i16 (.v 0)), .one (.int .i16 (.v 1)), .one (.int .u16 (.v 2))], true, none, false⟩]) (.jump 0 e0xT0 ⟨[(3, e0x89)], [], []⟩)) (.ret (.s (.bool (.blit true))) [⟨33, [.run .u8 (.lit 64) (.av 0) 0, .run .u16 (.lit 4) (.av 1) 0, .run .u16 (.lit 4) (.av 2) 0, .run .i16 (.lit 6) (.av 3) 0, .one (.int .i16 (.v 0)), .one (.int .i16 (.v 1)), .one (.int .u16 (.v 2))], true, none, false⟩])) := by kernel_rfl
def e0xBase (n0_4 n0_5 n0_6 : Int) (p0 : Bool) (A0 A1 A2 A3 : Nat → Int) : Prop := (-32768 ≤ n0_4 ∧ n0_4 ≤ 32767) ∧ (-32768 ≤ n0_5 ∧ n0_5 ≤ 32767) ∧ (0 ≤ n0_6 ∧ n0_6 ≤ 65535) ∧ (∀ j, 0 ≤ A0 j ∧ A0 j ≤ 255) ∧ (∀ j, 0 ≤ A1 j ∧ A1 j ≤ 65535) ∧ (∀ j, 0 ≤ A2 j ∧ A2 j ≤ 65535) ∧ (∀ j, -32768 ≤ A3 j ∧ A3 j ≤ 32767) ∧ True
def e0xJ0 (n0_4 n0_5 n0_6 x3 : Int) (p0 : Bool) (A0 A1 A2 A3 : Nat → Int) : Prop := (-1 ≤ x3 ∧ x3 ≤ 257) ∧ True
def e0xInv : Nat → Env → Prop
  | 0, ρ => ∃ (n0_4 n0_5 n0_6 x3 : Int) (p0 : Bool) (A0 A1 A2 A3 : Nat → Int), ρ = (⟨[n0_4, n0_5, n0_6, x3], [p0], [A0, A1, A2, A3], [], Iv (fun _ _ => Ext.none)⟩ : Env) ∧ e0xBase n0_4 n0_5 n0_6 p0 A0 A1 A2 A3 ∧ e0xJ0 n0_4 n0_5 n0_6 x3 p0 A0 A1 A2 A3
  | _, _ => False
def e0xmu : Nat → Env → Nat := fun _ ρ => (257 - ρ.i.getD 3 0).toNat
theorem e0xvc0 (n0_4 n0_5 n0_6 x3 : Int) (p0 : Bool) (A0 A1 A2 A3 : Nat → Int) (hB : e0xBase n0_4 n0_5 n0_6 p0 A0 A1 A2 A3) (hJ : e0xJ0 n0_4 n0_5 n0_6 x3 p0 A0 A1 A2 A3) :
    LT.holds (⟨[n0_4, n0_5, n0_6, x3], [p0], [A0, A1, A2, A3], [], Iv (fun _ _ => Ext.none)⟩ : Env) (fun v _ => retTrue (⟨[n0_4, n0_5, n0_6, x3], [p0], [A0, A1, A2, A3], [], Iv (fun _ _ => Ext.none)⟩ : Env) v) (fun j' todo ρ' => (e0xhs[j']?.map (·.todo)) = some todo ∧ e0xInv j' ρ' ∧ e0xmu j' ρ' < e0xmu 0 (⟨[n0_4, n0_5, n0_6, x3], [p0], [A0, A1, A2, A3], [], Iv (fun _ _ => Ext.none)⟩ : Env)) (.ite e0x0 (.ite e0x88 (.ret (.s (.bool (.blit false))) [⟨33, [.run .u8 (.lit 64) (.av 0) 0, .run .u16 (.lit 4) (.av 1) 0, .run .u16 (.lit 4) (.av 2) 0, .run .i16 (.lit 6) (.av 3) 0, .one (.int .i16 (.v 0)), .one (.int .i16 (.v 1)), .one (.int .u16 (.v 2))], true, none, false⟩]) (.jump 0 e0xT0 ⟨[(3, e0x89)], [], []⟩)) (.ret (.s (.bool (.blit true))) [⟨33, [.run .u8 (.lit 64) (.av 0) 0, .run .u16 (.lit 4) (.av 1) 0, .run .u16 (.lit 4) (.av 2) 0, .run .i16 (.lit 6) (.av 3) 0, .one (.int .i16 (.v 0)), .one (.int .i16 (.v 1)), .one (.int .u16 (.v 2))], true, none, false⟩])) := by
  simp only [LT.holds, retTrue]
  refine ⟨fun hc0 => ?_, fun hc0 => ?_⟩
  ·
    refine ⟨fun hc1 => ?_, fun hc1 => ?_⟩
    ·
      exfalso
      have hA : ∀ j, 0 ≤ A0 j ∧ A0 j ≤ 255 := by simp only [e0xBase] at hB; exact hB.2.2.2.1
      have hX : (E.i (⟨[n0_4, n0_5, n0_6, x3], [p0], [A0, A1, A2, A3], [], Iv (fun _ _ => Ext.none)⟩ : Env) e0x3 = 0) ∨ (E.i (⟨[n0_4, n0_5, n0_6, x3], [p0], [A0, A1, A2, A3], [], Iv (fun _ _ => Ext.none)⟩ : Env) e0x3 = 1) := by
        have h5 := hA (Int.toNat 35); have h6 := hA (Int.toNat 36); have h7 := hA (Int.toNat 37)
        simp only [e0x1, e0x2, e0x3, i_v, b_bv, i_lit, b_blit, i_add, i_sub, i_mul, i_div, i_mod, i_tdiv, i_tmod, i_ite, b_ite, b_lt, b_le, b_eq, b_not, b_and, b_or, b_iff, i_sel, a_tab, i_pow2, List.getD_cons_zero, List.getD_cons_succ, decide_eq_true_eq, decide_eq_false_iff_not, Bool.and_eq_true, Bool.or_eq_true, Bool.not_eq_true', Bool.not_eq_false', Bool.and_eq_false_iff, Bool.or_eq_false_iff, Bool.not_not, ite_tt, ite_ff, iff_tt, iff_ff, a_av, a_ite, a_upd, decide_eq_true_eq, decide_eq_false_iff_not]
        omega
      have hY : (E.i (⟨[n0_4, n0_5, n0_6, x3], [p0], [A0, A1, A2, A3], [], Iv (fun _ _ => Ext.none)⟩ : Env) e0x6 = 0) ∨ (E.i (⟨[n0_4, n0_5, n0_6, x3], [p0], [A0, A1, A2, A3], [], Iv (fun _ _ => Ext.none)⟩ : Env) e0x6 = 1) := by
        have h5 := hA (Int.toNat 35); have h6 := hA (Int.toNat 36); have h7 := hA (Int.toNat 37)
        simp only [e0x1, e0x5, e0x6, i_v, b_bv, i_lit, b_blit, i_add, i_sub, i_mul, i_div, i_mod, i_tdiv, i_tmod, i_ite, b_ite, b_lt, b_le, b_eq, b_not, b_and, b_or, b_iff, i_sel, a_tab, i_pow2, List.getD_cons_zero, List.getD_cons_succ, decide_eq_true_eq, decide_eq_false_iff_not, Bool.and_eq_true, Bool.or_eq_true, Bool.not_eq_true', Bool.not_eq_false', Bool.and_eq_false_iff, Bool.or_eq_false_iff, Bool.not_not, ite_tt, ite_ff, iff_tt, iff_ff, a_av, a_ite, a_upd, decide_eq_true_eq, decide_eq_false_iff_not]
        omega
      have h : E.b (⟨[n0_4, n0_5, n0_6, x3], [p0], [A0, A1, A2, A3], [], Iv (fun _ _ => Ext.none)⟩ : Env) e0x88 = false := by
        simp only [e0x88, e0x87, e0x86, e0x85, e0x84, e0x83, e0x61, e0x60, e0x59, e0x31, e0x58, e0x54, e0x57, e0x19, e0x56, e0x53, e0x55, e0x73, e0x72, e0x66, e0x82, e0x81, e0x80, e0x45, e0x44, e0x20, e0x8, e0x7, e0x4, e0x9, e0x79, e0x50, e0x65, e0x64, e0x63, e0x62, e0x52, e0x51, e0x49, e0x47, b_or, b_and, b_not, b_iff, b_eq, b_ite, i_add, i_mul, i_lit]
        clear hc0 hc1 hB hJ hA
        generalize E.b _ e0x43 = g0
        generalize E.b _ e0x18 = g1
        generalize E.b _ e0x30 = g2
        generalize E.b _ e0x78 = g3
        generalize E.b _ e0x71 = g4
        generalize E.b _ e0x48 = g5
        generalize E.b _ e0x46 = g6
        rcases hX with hX | hX <;> rcases hY with hY | hY <;> simp only [hX, hY] <;> revert g0 g1 g2 g3 g4 g5 g6 <;> decide
      rw [h] at hc1
      cases hc1
    ·
      refine ⟨rfl, ⟨_, _, _, _, _, _, _, _, _, rfl, hB, ?_⟩, ?_⟩
      simp only [e0xJ0, and_true] at *
      first | omega | (simp only [e0x0, e0x1, e0x2, e0x3, e0x4, e0x5, e0x6, e0x7, e0x8, e0x9, e0x10, e0x11, e0x12, e0x13, e0x14, e0x15, e0x16, e0x17, e0x18, e0x19, e0x20, e0x21, e0x22, e0x23, e0x24, e0x25, e0x26, e0x27, e0x28, e0x29, e0x30, e0x31, e0x32, e0x33, e0x34, e0x35, e0x36, e0x37, e0x38, e0x39, e0x40, e0x41, e0x42, e0x43, e0x44, e0x45, e0x46, e0x47, e0x48, e0x49, e0x50, e0x51, e0x52, e0x53, e0x54, e0x55, e0x56, e0x57, e0x58, e0x59, e0x60, e0x61, e0x62, e0x63, e0x64, e0x65, e0x66, e0x67, e0x68, e0x69, e0x70, e0x71, e0x72, e0x73, e0x74, e0x75, e0x76, e0x77, e0x78, e0x79, e0x80, e0x81, e0x82, e0x83, e0x84, e0x85, e0x86, e0x87, e0x88, e0x89, i_v, b_bv, i_lit, b_blit, i_add, i_sub, i_mul, i_div, i_mod, i_tdiv, i_tmod, i_ite, b_ite, b_lt, b_le, b_eq, b_not, b_and, b_or, b_iff, i_sel, a_tab, i_pow2, List.getD_cons_zero, List.getD_cons_succ, decide_eq_true_eq, decide_eq_false_iff_not, Bool.and_eq_true, Bool.or_eq_true, Bool.not_eq_true', Bool.not_eq_false', Bool.and_eq_false_iff, Bool.or_eq_false_iff, Bool.not_not, ite_tt, ite_ff, iff_tt, iff_ff, a_av, a_ite, a_upd] at *; omega)
      simp only [e0xmu, e0xJ0, Env.app, setAll, List.map_cons, List.map_nil, List.set, List.getD_cons_zero, List.getD_cons_succ, e0x0, e0x1, e0x2, e0x3, e0x4, e0x5, e0x6, e0x7, e0x8, e0x9, e0x10, e0x11, e0x12, e0x13, e0x14, e0x15, e0x16, e0x17, e0x18, e0x19, e0x20, e0x21, e0x22, e0x23, e0x24, e0x25, e0x26, e0x27, e0x28, e0x29, e0x30, e0x31, e0x32, e0x33, e0x34, e0x35, e0x36, e0x37, e0x38, e0x39, e0x40, e0x41, e0x42, e0x43, e0x44, e0x45, e0x46, e0x47, e0x48, e0x49, e0x50, e0x51, e0x52, e0x53, e0x54, e0x55, e0x56, e0x57, e0x58, e0x59, e0x60, e0x61, e0x62, e0x63, e0x64, e0x65, e0x66, e0x67, e0x68, e0x69, e0x70, e0x71, e0x72, e0x73, e0x74, e0x75, e0x76, e0x77, e0x78, e0x79, e0x80, e0x81, e0x82, e0x83, e0x84, e0x85, e0x86, e0x87, e0x88, e0x89, i_v, b_bv, i_lit, b_blit, i_add, i_sub, i_mul, i_div, i_mod, i_tdiv, i_tmod, i_ite, b_ite, b_lt, b_le, b_eq, b_not, b_and, b_or, b_iff, i_sel, a_tab, i_pow2, List.getD_cons_zero, List.getD_cons_succ, decide_eq_true_eq, decide_eq_false_iff_not, Bool.and_eq_true, Bool.or_eq_true, Bool.not_eq_true', Bool.not_eq_false', Bool.and_eq_false_iff, Bool.or_eq_false_iff, Bool.not_not, ite_tt, ite_ff, iff_tt, iff_ff, a_av, a_ite, a_upd] at *
      omega
  ·
    rfl
theorem e0xvcS (n0_4 n0_5 n0_6 : Int) (p0 : Bool) (A0 A1 A2 A3 : Nat → Int) (hB : e0xBase n0_4 n0_5 n0_6 p0 A0 A1 A2 A3) :
    LT.holds (⟨[n0_4, n0_5, n0_6, 0], [p0], [A0, A1, A2, A3], [], Iv (fun _ _ => Ext.none)⟩ : Env) (fun v _ => retTrue (⟨[n0_4, n0_5, n0_6, 0], [p0], [A0, A1, A2, A3], [], Iv (fun _ _ => Ext.none)⟩ : Env) v) (fun j' todo ρ' => (e0xhs[j']?.map (·.todo)) = some todo ∧ e0xInv j' ρ') (.jump 0 e0xT0 ⟨[(3, (.lit (-1)))], [], []⟩) := by
  simp only [LT.holds, retTrue]
  refine ⟨rfl, _, _, _, _, _, _, _, _, _, rfl, hB, ?_⟩
  simp only [e0xJ0, and_true] at *
  first | omega | (simp only [e0x0, e0x1, e0x2, e0x3, e0x4, e0x5, e0x6, e0x7, e0x8, e0x9, e0x10, e0x11, e0x12, e0x13, e0x14, e0x15, e0x16, e0x17, e0x18, e0x19, e0x20, e0x21, e0x22, e0x23, e0x24, e0x25, e0x26, e0x27, e0x28, e0x29, e0x30, e0x31, e0x32, e0x33, e0x34, e0x35, e0x36, e0x37, e0x38, e0x39, e0x40, e0x41, e0x42, e0x43, e0x44, e0x45, e0x46, e0x47, e0x48, e0x49, e0x50, e0x51, e0x52, e0x53, e0x54, e0x55, e0x56, e0x57, e0x58, e0x59, e0x60, e0x61, e0x62, e0x63, e0x64, e0x65, e0x66, e0x67, e0x68, e0x69, e0x70, e0x71, e0x72, e0x73, e0x74, e0x75, e0x76, e0x77, e0x78, e0x79, e0x80, e0x81, e0x82, e0x83, e0x84, e0x85, e0x86, e0x87, e0x88, e0x89, i_v, b_bv, i_lit, b_blit, i_add, i_sub, i_mul, i_div, i_mod, i_tdiv, i_tmod, i_ite, b_ite, b_lt, b_le, b_eq, b_not, b_and, b_or, b_iff, i_sel, a_tab, i_pow2, List.getD_cons_zero, List.getD_cons_succ, decide_eq_true_eq, decide_eq_false_iff_not, Bool.and_eq_true, Bool.or_eq_true, Bool.not_eq_true', Bool.not_eq_false', Bool.and_eq_false_iff, Bool.or_eq_false_iff, Bool.not_not, ite_tt, ite_ff, iff_tt, iff_ff, a_av, a_ite, a_upd] at *; omega)
theorem e0xcalls (c0 : List Value) (l0 : c0.length = pcTotal Pc0) (f0 : PcFit c0 0 Pc0) (a2 : Bool) (w : World) :
    Calls Try.prog 7 #[.agg c0.toArray, .int .i64 (0), .bool a2] w fun r w' => r = .returned (.bool true) ∧ Below w.heap.size w w' := by
  have hc0 : cellsOf (⟨[intV (c0.getD 78 Go.undef), intV (c0.getD 79 Go.undef), intV (c0.getD 80 Go.undef), 0], [a2], [arrOf c0 0 64, arrOf c0 64 4, arrOf c0 68 4, arrOf c0 72 6], [], Iv (fun _ _ => Ext.none)⟩ : Env) Loc.id (pcSegs 0 0 0 Pc0) = c0 := by
    rw [pc_cells Pc0 0 0 0 0 f0 (by intro j hj; rcases j with _ | _ | _ | _ | j <;> first | rfl | (simp [Pc0, pcA, pcB, pcI] at hj; omega)) (by intro j hj; simp [Pc0, pcA, pcB, pcI] at hj) (by intro j hj; rcases j with _ | _ | _ | j <;> first | rfl | (simp [Pc0, pcA, pcB, pcI] at hj; omega)), List.drop_zero, ← l0, List.take_length]
  have hargs : (e0xLs.map (SV.conc (⟨[intV (c0.getD 78 Go.undef), intV (c0.getD 79 Go.undef), intV (c0.getD 80 Go.undef), 0], [a2], [arrOf c0 0 64, arrOf c0 64 4, arrOf c0 68 4, arrOf c0 72 6], [], Iv (fun _ _ => Ext.none)⟩ : Env) Loc.id)).toArray = #[.agg c0.toArray, .int .i64 (0), .bool a2] := by
    refine congrArg List.toArray ?_
    exact (cons_eq (congrArg (fun l => Value.agg (List.toArray l)) hc0) (cons_eq rfl (cons_eq rfl rfl)))
  rw [← hargs]
  have hok : Hyp.ok e0xHy (⟨[intV (c0.getD 78 Go.undef), intV (c0.getD 79 Go.undef), intV (c0.getD 80 Go.undef), 0], [a2], [arrOf c0 0 64, arrOf c0 64 4, arrOf c0 68 4, arrOf c0 72 6], [], Iv (fun _ _ => Ext.none)⟩ : Env) := by
    refine ⟨?_, ?_, ?_, by simp [e0xHy], ?_, by simp [e0xHy]⟩
    · simp [e0xHy]
    · intro p hp
      simp only [e0xHy, List.mem_cons, List.not_mem_nil, or_false] at hp
      rcases hp with rfl | rfl | rfl
      · exact num_rng (f0.tail.tail.tail.tail)
      · exact num_rng (f0.tail.tail.tail.tail.tail)
      · exact num_rng (f0.tail.tail.tail.tail.tail.tail)
    · intro p hp
      simp only [e0xHy, List.mem_cons, List.not_mem_nil, or_false] at hp
      rcases hp with rfl | rfl | rfl | rfl
      · exact arrOf_rng (f0)
      · exact arrOf_rng (f0.tail)
      · exact arrOf_rng (f0.tail.tail)
      · exact arrOf_rng (f0.tail.tail.tail)
    · simp [e0xHy]
  refine law_loops (D := e0xD) (hs := e0xhs) (ρ := (⟨[intV (c0.getD 78 Go.undef), intV (c0.getD 79 Go.undef), intV (c0.getD 80 Go.undef), 0], [a2], [arrOf c0 0 64, arrOf c0 64 4, arrOf c0 68 4, arrOf c0 72 6], [], Iv (fun _ _ => Ext.none)⟩ : Env)) (G_ok _) (by kernel_rfl) rfl (e0xInv ) e0xmu e0xst rfl ⟨rfl, rfl, rfl⟩ hok (e0xvcS (intV (c0.getD 78 Go.undef)) (intV (c0.getD 79 Go.undef)) (intV (c0.getD 80 Go.undef)) (a2) (arrOf c0 0 64) (arrOf c0 64 4) (arrOf c0 68 4) (arrOf c0 72 6) ⟨num_rng (f0.tail.tail.tail.tail), num_rng (f0.tail.tail.tail.tail.tail), num_rng (f0.tail.tail.tail.tail.tail.tail), arrOf_rng (f0), arrOf_rng (f0.tail), arrOf_rng (f0.tail.tail), arrOf_rng (f0.tail.tail.tail), trivial⟩) ?_ w (fun i j => Ext.none_ok _)
  intro j h ρ hj hI hz hInv
  rcases j with _ | j
  · simp only [e0xhs, List.getElem?_cons_zero, List.getElem?_cons_succ, Option.some.injEq] at hj; subst hj
    obtain ⟨n0_4, n0_5, n0_6, x3, p0, A0, A1, A2, A3, rfl, hB, hJ⟩ := hInv
    refine ⟨?_, _, e0xsg0, e0xvc0 n0_4 n0_5 n0_6 x3 p0 A0 A1 A2 A3 hB hJ⟩
    have hB2 := hB; have hJ2 := hJ
    simp only [e0xBase] at hB2; simp only [e0xJ0] at hJ2
    obtain ⟨hb0, hb1, hb2, hb3, hb4, hb5, hb6, _⟩ := hB2
    obtain ⟨hl0, _⟩ := hJ2
    refine ⟨?_, ?_, ?_, by simp [e0xh0], ?_, by simp [e0xh0]⟩
    · simp [e0xh0]
    · intro p hp
      simp only [e0xh0, List.mem_cons, List.not_mem_nil, or_false] at hp
      rcases hp with rfl | rfl | rfl | rfl
      · exact hb0
      · exact hb1
      · exact hb2
      · exact hl0
    · intro p hp
      simp only [e0xh0, List.mem_cons, List.not_mem_nil, or_false] at hp
      rcases hp with rfl | rfl | rfl | rfl
      · exact hb3
      · exact hb4
      · exact hb5
      · exact hb6
    · simp [e0xh0]
  · simp [e0xhs] at hj
end Go.Proofs.Ytgbncbclhdnbmaa.BlendWindows
