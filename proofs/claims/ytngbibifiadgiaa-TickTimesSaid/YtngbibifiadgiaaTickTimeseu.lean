/- A part of the law TickTimes, which returns true for every input. A timer that is on has made its tally one more behind each period times its target cycles, and not ahead of that; what was read is gone. No condition. -/
import Derived.Test.YtngbibifiadgiaaTickTimes0
namespace Go.Proofs.Ytngbibifiadgiaa.TickTimes
open Go.Sx Go.ChangeShapes Go.WideShapes Go.ChangeAt Go.RowKit
set_option linter.unusedVariables false
set_option linter.unusedSimpArgs false
set_option maxRecDepth 100000
def eu_Hy : Hyp := ⟨[(.v 0, (-9223372036854775808, -1)), (.v 1, (0, 255)), (.v 2, (0, 40))], [], [], [], [], []⟩
def eu_Ls : List SV := [.s (.int .i64 (.v 0)), .s (.int .u8 (.v 1)), .s (.int .i64 (.v 2))]
def eu_0 : E := .eq (.v 1) (.lit 0)
def eu_1 : E := .ite eu_0 (.lit 256) (.v 1)
def eu_2 : E := .upd (.tab []) (.lit 2) (.v 1)
def eu_3 : E := .upd (.tab []) (.lit 2) (.lit 0)
def eu_4 : E := .le (.v 4) (.lit 0)
def eu_5 : E := .sel (.av 5) (.lit 0)
def eu_6 : E := .eq eu_5 (.lit 0)
def eu_7 : E := .upd (.av 5) (.lit 0) (.lit 0)
def eu_8 : E := .mul eu_1 (.lit 16)
def eu_9 : E := .add eu_8 (.lit (-1))
def eu_10 : E := .lt (.v 3) eu_9
def eu_11 : E := .add (.v 3) (.lit 1)
def eu_12 : E := .sel (.av 0) (.lit 2)
def eu_13 : E := .add eu_12 (.lit 1)
def eu_14 : E := .mod eu_13 (.lit 256)
def eu_15 : E := .le eu_14 (.lit 15)
def eu_16 : E := .sel (.av 2) (.lit 2)
def eu_17 : E := .sel (.av 1) (.lit 2)
def eu_18 : E := .add eu_17 (.lit 1)
def eu_19 : E := .mod eu_18 (.lit 256)
def eu_20 : E := .eq eu_19 (.v 1)
def eu_21 : E := .add eu_16 (.lit 1)
def eu_22 : E := .mod eu_21 (.lit 16)
def eu_23 : E := .ite eu_20 eu_22 eu_16
def eu_24 : E := .ite eu_15 eu_16 eu_23
def eu_25 : E := .upd (.av 2) (.lit 2) eu_24
def eu_26 : E := .ite eu_20 (.lit 0) eu_19
def eu_27 : E := .ite eu_15 eu_17 eu_26
def eu_28 : E := .upd (.av 1) (.lit 2) eu_27
def eu_29 : E := .sel (.av 0) (.lit 0)
def eu_30 : E := .add eu_29 (.lit 1)
def eu_31 : E := .div eu_30 (.lit 128)
def eu_32 : E := .mod eu_31 (.lit 2)
def eu_33 : E := .eq eu_32 (.lit 0)
def eu_34 : E := .mod eu_30 (.lit 256)
def eu_35 : E := .ite eu_33 eu_34 (.lit 0)
def eu_36 : E := .upd (.av 0) (.lit 0) eu_35
def eu_37 : E := .sel (.av 0) (.lit 1)
def eu_38 : E := .add eu_37 (.lit 1)
def eu_39 : E := .div eu_38 (.lit 128)
def eu_40 : E := .mod eu_39 (.lit 2)
def eu_41 : E := .eq eu_40 (.lit 0)
def eu_42 : E := .mod eu_38 (.lit 256)
def eu_43 : E := .ite eu_41 eu_42 (.lit 0)
def eu_44 : E := .upd eu_36 (.lit 1) eu_43
def eu_45 : E := .ite eu_15 eu_14 (.lit 0)
def eu_46 : E := .upd eu_44 (.lit 2) eu_45
def eu_47 : E := .eq eu_16 (.lit 0)
def eu_48 : E := .not eu_47
def eu_49 : E := .upd (.av 2) (.lit 2) (.lit 0)
def eu_50 : E := .ite eu_20 (.lit 1) (.lit 0)
def eu_51 : E := .ite eu_15 (.lit 0) eu_50
def eu_52 : E := .eq eu_51 (.lit 0)
def eu_53 : E := .add (.v 5) (.lit 1)
noncomputable def eu_T0 : List Item := todoS Try.prog G Gh [] 3000 0 4 eu_Hy eu_Ls [] 15
noncomputable def eu_h0 : Head := ⟨15, eu_T0, ⟨[((.v 0), ((-9223372036854775808), (-1))), ((.v 1), (0, 255)), ((.v 2), (0, 40)), ((.v 3), (0, 32768)), ((.v 4), (0, 41)), ((.v 5), (0, 41))], [(0, (0, 255)), (1, (0, 255)), (2, (0, 255)), (3, (0, 255)), (4, (0, 255)), (5, (0, 255))], [], [], [], []⟩, [⟨10, [], .s (.int .i64 (.v 4))⟩, ⟨9, [], .s (.ptr 0 (.lit 0))⟩, ⟨8, [], .s (.int .i64 eu_1)⟩, ⟨7, [], .s (.int .i64 (.lit 16))⟩, ⟨2, [], .s (.int .i64 (.lit 1))⟩, ⟨0, [], .s (.int .i64 (.lit 2))⟩], [⟨68, [.one (.int .u8 (.lit 4)), .rows (.lit 3) [(some .u8, eu_2), (some .u8, (.av 3)), (some .u8, (.av 4)), (some .u8, (.av 5))] 0, .run .u8 (.lit 4) (.tab []) 0, .run .u8 (.lit 4) (.tab []) 0, .run .u8 (.lit 2) (.tab []) 0], true, none, false⟩]⟩
noncomputable def eu_T1 : List Item := todoH Try.prog G Gh [] 3000 0 4 eu_h0 18
noncomputable def eu_h1 : Head := ⟨18, eu_T1, ⟨[((.v 0), ((-9223372036854775808), (-1))), ((.v 1), (0, 255)), ((.v 2), (0, 40)), ((.v 3), (0, 32768)), ((.v 4), (0, 41)), ((.v 5), (0, 41))], [(0, (0, 255)), (1, (0, 255)), (2, (0, 255)), (3, (0, 255)), (4, (0, 255)), (5, (0, 255))], [], [], [], []⟩, [⟨11, [], .s (.int .i64 (.v 3))⟩, ⟨10, [], .s (.int .i64 (.v 5))⟩, ⟨9, [], .s (.ptr 0 (.lit 0))⟩, ⟨8, [], .s (.int .i64 eu_1)⟩, ⟨7, [], .s (.int .i64 (.lit 16))⟩, ⟨2, [], .s (.int .i64 (.lit 1))⟩, ⟨0, [], .s (.int .i64 (.lit 2))⟩], [⟨68, [.one (.int .u8 (.lit 4)), .rows (.lit 3) [(some .u8, eu_2), (some .u8, (.av 0)), (some .u8, (.av 1)), (some .u8, (.av 2))] 0, .run .u8 (.lit 4) (.tab []) 0, .run .u8 (.lit 4) (.tab []) 0, .run .u8 (.lit 2) (.tab []) 0], true, none, false⟩]⟩
noncomputable def eu_hs : List Head := [eu_h0, eu_h1]
def eu_D : Dim := ⟨6, 0, 6, 3, 0, 0, 0⟩
theorem eu_st : startL Try.prog G Gh eu_D eu_hs [] 3000 0 4 eu_Hy eu_Ls [] = some (.jump 0 eu_T0 ⟨[(4, (.lit 0))], [], [(5, eu_3), (4, eu_3), (3, (.tab []))]⟩) := by kernel_rfl
theorem eu_sg0 : segL Try.prog G Gh eu_D eu_hs [] 3000 0 4 eu_h0 = some (.ite eu_4 (.jump 1 eu_T1 ⟨[(5, (.v 4)), (3, (.lit 0))], [], [(2, (.av 5)), (1, (.av 4)), (0, (.av 3))]⟩) (.ret (.s (.bool eu_6)) [⟨68, [.one (.int .u8 (.lit 4)), .rows (.lit 3) [(some .u8, eu_2), (some .u8, (.av 3)), (some .u8, (.av 4)), (some .u8, eu_7)] 0, .run .u8 (.lit 4) (.tab []) 0, .run .u8 (.lit 4) (.tab []) 0, .run .u8 (.lit 2) (.tab []) 0], true, none, false⟩])) := by kernel_rfl
theorem eu_sg1 : segL Try.prog G Gh eu_D eu_hs [] 3000 0 4 eu_h1 = some (.ite eu_10 (.jump 1 eu_T1 ⟨[(5, (.v 5)), (3, eu_11)], [], [(2, eu_25), (1, eu_28), (0, eu_46)]⟩) (.ite eu_48 (.ret (.s (.bool (.blit false))) [⟨68, [.one (.int .u8 (.lit 4)), .rows (.lit 3) [(some .u8, eu_2), (some .u8, (.av 0)), (some .u8, (.av 1)), (some .u8, eu_49)] 0, .run .u8 (.lit 4) (.tab []) 0, .run .u8 (.lit 4) (.tab []) 0, .run .u8 (.lit 2) (.tab []) 0], true, none, false⟩]) (.ite eu_52 (.ret (.s (.bool (.blit false))) [⟨68, [.one (.int .u8 (.lit 4)), .rows (.lit 3) [(some .u8, eu_2), (some .u8, eu_46), (some .u8, eu_28), (some .u8, eu_49)] 0, .run .u8 (.lit 4) (.tab []) 0, .run .u8 (.lit 4) (.tab []) 0, .run .u8 (.lit 2) (.tab []) 0], true, none, false⟩]) (.jump 0 eu_T0 ⟨[(4, eu_53)], [], [(5, eu_49), (4, eu_28), (3, eu_46)]⟩)))) := by kernel_rfl
def eu_Base (a0 a1 a2 : Int) : Prop := (-9223372036854775808 ≤ a0 ∧ a0 ≤ -1) ∧ (0 ≤ a1 ∧ a1 ≤ 255) ∧ (0 ≤ a2 ∧ a2 ≤ 40) ∧ True
def eu_J0 (a0 a1 a2 x3 x4 x5 : Int) (Z0 Z1 Z2 Z3 Z4 Z5 : Nat → Int) : Prop := (0 ≤ x3 ∧ x3 ≤ 32768) ∧ (0 ≤ x4 ∧ x4 ≤ 41) ∧ (0 ≤ x5 ∧ x5 ≤ 41) ∧ (∀ j, 0 ≤ Z0 j ∧ Z0 j ≤ 255) ∧ (∀ j, 0 ≤ Z1 j ∧ Z1 j ≤ 255) ∧ (∀ j, 0 ≤ Z2 j ∧ Z2 j ≤ 255) ∧ (∀ j, 0 ≤ Z3 j ∧ Z3 j ≤ 255) ∧ (∀ j, 0 ≤ Z4 j ∧ Z4 j ≤ 255) ∧ (∀ j, 0 ≤ Z5 j ∧ Z5 j ≤ 255) ∧ Z3 2 = 0 ∧ Z4 2 = 0 ∧ Z5 2 = 0 ∧ Z5 0 = 0 ∧ 0 ≤ x4 ∧ x4 ≤ 1 ∧ True
def eu_J1 (a0 a1 a2 x3 x4 x5 : Int) (Z0 Z1 Z2 Z3 Z4 Z5 : Nat → Int) : Prop := (0 ≤ x3 ∧ x3 ≤ 32768) ∧ (0 ≤ x4 ∧ x4 ≤ 41) ∧ (0 ≤ x5 ∧ x5 ≤ 41) ∧ (∀ j, 0 ≤ Z0 j ∧ Z0 j ≤ 255) ∧ (∀ j, 0 ≤ Z1 j ∧ Z1 j ≤ 255) ∧ (∀ j, 0 ≤ Z2 j ∧ Z2 j ≤ 255) ∧ (∀ j, 0 ≤ Z3 j ∧ Z3 j ≤ 255) ∧ (∀ j, 0 ≤ Z4 j ∧ Z4 j ≤ 255) ∧ (∀ j, 0 ≤ Z5 j ∧ Z5 j ≤ 255) ∧ Z1 2 * 16 + Z0 2 = x3 ∧ Z0 2 ≤ 15 ∧ Z2 2 = 0 ∧ Z2 0 = 0 ∧ 0 ≤ x3 ∧ x3 ≤ (if a1 = 0 then 256 else a1) * 16 - 1 ∧ 0 ≤ x5 ∧ x5 < 1 ∧ True
def eu_Inv : Nat → Env → Prop
  | 0, ρ => ∃ (a0 a1 a2 x3 x4 x5 : Int) (Z0 Z1 Z2 Z3 Z4 Z5 : Nat → Int), ρ = (⟨[a0, a1, a2, x3, x4, x5], [], [Z0, Z1, Z2, Z3, Z4, Z5], [], Iv (fun _ _ => Ext.none)⟩ : Env) ∧ eu_Base a0 a1 a2 ∧ eu_J0 a0 a1 a2 x3 x4 x5 Z0 Z1 Z2 Z3 Z4 Z5
  | 1, ρ => ∃ (a0 a1 a2 x3 x4 x5 : Int) (Z0 Z1 Z2 Z3 Z4 Z5 : Nat → Int), ρ = (⟨[a0, a1, a2, x3, x4, x5], [], [Z0, Z1, Z2, Z3, Z4, Z5], [], Iv (fun _ _ => Ext.none)⟩ : Env) ∧ eu_Base a0 a1 a2 ∧ eu_J1 a0 a1 a2 x3 x4 x5 Z0 Z1 Z2 Z3 Z4 Z5
  | _, _ => False
def eu_mu : Nat → Env → Nat := fun j ρ => match j with | 0 => ((41 - ρ.i.getD 4 0) * 40000).toNat | _ => ((40 - ρ.i.getD 5 0) * 40000 + 33000 - ρ.i.getD 3 0).toNat
theorem eu_vc0 (a0 a1 a2 x3 x4 x5 : Int) (Z0 Z1 Z2 Z3 Z4 Z5 : Nat → Int) (hB : eu_Base a0 a1 a2) (hJ : eu_J0 a0 a1 a2 x3 x4 x5 Z0 Z1 Z2 Z3 Z4 Z5) :
    LT.holds (⟨[a0, a1, a2, x3, x4, x5], [], [Z0, Z1, Z2, Z3, Z4, Z5], [], Iv (fun _ _ => Ext.none)⟩ : Env) (fun v _ => retTrue (⟨[a0, a1, a2, x3, x4, x5], [], [Z0, Z1, Z2, Z3, Z4, Z5], [], Iv (fun _ _ => Ext.none)⟩ : Env) v) (fun j' todo ρ' => (eu_hs[j']?.map (·.todo)) = some todo ∧ eu_Inv j' ρ' ∧ eu_mu j' ρ' < eu_mu 0 (⟨[a0, a1, a2, x3, x4, x5], [], [Z0, Z1, Z2, Z3, Z4, Z5], [], Iv (fun _ _ => Ext.none)⟩ : Env)) (.ite eu_4 (.jump 1 eu_T1 ⟨[(5, (.v 4)), (3, (.lit 0))], [], [(2, (.av 5)), (1, (.av 4)), (0, (.av 3))]⟩) (.ret (.s (.bool eu_6)) [⟨68, [.one (.int .u8 (.lit 4)), .rows (.lit 3) [(some .u8, eu_2), (some .u8, (.av 3)), (some .u8, (.av 4)), (some .u8, eu_7)] 0, .run .u8 (.lit 4) (.tab []) 0, .run .u8 (.lit 4) (.tab []) 0, .run .u8 (.lit 2) (.tab []) 0], true, none, false⟩])) := by
  simp only [LT.holds, retTrue]
  refine ⟨fun hc0 => ?_, fun hc0 => ?_⟩
  ·
    refine ⟨rfl, ⟨_, _, _, _, _, _, _, _, _, _, _, _, rfl, hB, ?_⟩, ?_⟩
    ·
      simp only [eu_Base] at hB
      obtain ⟨hb0, hb1, hb2, _⟩ := hB
      simp only [eu_J0] at hJ
      obtain ⟨l0, l1, l2, m0, m1, m2, m3, m4, m5, i0, i1, i2, i3, i4, i5, i6, _⟩ := hJ
      have q00 := m0 0
      have q01 := m0 1
      have q02 := m0 2
      have q10 := m1 0
      have q11 := m1 1
      have q12 := m1 2
      have q20 := m2 0
      have q21 := m2 1
      have q22 := m2 2
      have q30 := m3 0
      have q31 := m3 1
      have q32 := m3 2
      have q40 := m4 0
      have q41 := m4 1
      have q42 := m4 2
      have q50 := m5 0
      have q51 := m5 1
      have q52 := m5 2
      simp only [eu_0, eu_1, eu_2, eu_3, eu_4, eu_5, eu_6, eu_7, eu_8, eu_9, eu_10, eu_11, eu_12, eu_13, eu_14, eu_15, eu_16, eu_17, eu_18, eu_19, eu_20, eu_21, eu_22, eu_23, eu_24, eu_25, eu_26, eu_27, eu_28, eu_29, eu_30, eu_31, eu_32, eu_33, eu_34, eu_35, eu_36, eu_37, eu_38, eu_39, eu_40, eu_41, eu_42, eu_43, eu_44, eu_45, eu_46, eu_47, eu_48, eu_49, eu_50, eu_51, eu_52, eu_53, i_v, b_bv, i_lit, b_blit, i_add, i_sub, i_mul, i_div, i_mod, i_tdiv, i_tmod, i_ite, b_ite, b_lt, b_le, b_eq, b_not, b_and, b_or, b_iff, i_sel, a_tab, i_pow2, List.getD_cons_zero, List.getD_cons_succ, decide_eq_true_eq, decide_eq_false_iff_not, Bool.and_eq_true, Bool.or_eq_true, Bool.not_eq_true', Bool.not_eq_false', Bool.and_eq_false_iff, Bool.or_eq_false_iff, Bool.not_not, ite_tt, ite_ff, iff_tt, iff_ff, a_av, a_ite, a_upd, show Int.toNat 0 = 0 from rfl, show Int.toNat 1 = 1 from rfl, show Int.toNat 2 = 2 from rfl] at hc0
      simp only [eu_J1, eu_0, eu_1, eu_2, eu_3, eu_4, eu_5, eu_6, eu_7, eu_8, eu_9, eu_10, eu_11, eu_12, eu_13, eu_14, eu_15, eu_16, eu_17, eu_18, eu_19, eu_20, eu_21, eu_22, eu_23, eu_24, eu_25, eu_26, eu_27, eu_28, eu_29, eu_30, eu_31, eu_32, eu_33, eu_34, eu_35, eu_36, eu_37, eu_38, eu_39, eu_40, eu_41, eu_42, eu_43, eu_44, eu_45, eu_46, eu_47, eu_48, eu_49, eu_50, eu_51, eu_52, eu_53, i_v, b_bv, i_lit, b_blit, i_add, i_sub, i_mul, i_div, i_mod, i_tdiv, i_tmod, i_ite, b_ite, b_lt, b_le, b_eq, b_not, b_and, b_or, b_iff, i_sel, a_tab, i_pow2, List.getD_cons_zero, List.getD_cons_succ, decide_eq_true_eq, decide_eq_false_iff_not, Bool.and_eq_true, Bool.or_eq_true, Bool.not_eq_true', Bool.not_eq_false', Bool.and_eq_false_iff, Bool.or_eq_false_iff, Bool.not_not, ite_tt, ite_ff, iff_tt, iff_ff, a_av, a_ite, a_upd, show Int.toNat 0 = 0 from rfl, show Int.toNat 1 = 1 from rfl, show Int.toNat 2 = 2 from rfl]
      refine ⟨?_, ?_, ?_, ?_, ?_, ?_, ?_, ?_, ?_, ?_, ?_, ?_, ?_, ?_, ?_, ?_, ?_, trivial⟩
      all_goals first | omega | (intro j; have r0 := m0 j; have r1 := m1 j; have r2 := m2 j; have r3 := m3 j; have r4 := m4 j; have r5 := m5 j; (repeat' split) <;> first | omega | simp) | ((repeat' split) <;> first | omega | simp_all | (simp at *; omega))
    simp only [eu_Base] at hB
    obtain ⟨hb0, hb1, hb2, _⟩ := hB
    simp only [eu_J0] at hJ
    obtain ⟨l0, l1, l2, m0, m1, m2, m3, m4, m5, i0, i1, i2, i3, i4, i5, i6, _⟩ := hJ
    simp only [eu_0, eu_1, eu_2, eu_3, eu_4, eu_5, eu_6, eu_7, eu_8, eu_9, eu_10, eu_11, eu_12, eu_13, eu_14, eu_15, eu_16, eu_17, eu_18, eu_19, eu_20, eu_21, eu_22, eu_23, eu_24, eu_25, eu_26, eu_27, eu_28, eu_29, eu_30, eu_31, eu_32, eu_33, eu_34, eu_35, eu_36, eu_37, eu_38, eu_39, eu_40, eu_41, eu_42, eu_43, eu_44, eu_45, eu_46, eu_47, eu_48, eu_49, eu_50, eu_51, eu_52, eu_53, i_v, b_bv, i_lit, b_blit, i_add, i_sub, i_mul, i_div, i_mod, i_tdiv, i_tmod, i_ite, b_ite, b_lt, b_le, b_eq, b_not, b_and, b_or, b_iff, i_sel, a_tab, i_pow2, List.getD_cons_zero, List.getD_cons_succ, decide_eq_true_eq, decide_eq_false_iff_not, Bool.and_eq_true, Bool.or_eq_true, Bool.not_eq_true', Bool.not_eq_false', Bool.and_eq_false_iff, Bool.or_eq_false_iff, Bool.not_not, ite_tt, ite_ff, iff_tt, iff_ff, a_av, a_ite, a_upd, show Int.toNat 0 = 0 from rfl, show Int.toNat 1 = 1 from rfl, show Int.toNat 2 = 2 from rfl] at hc0
    simp only [eu_mu, Env.app, setAll, List.map_cons, List.map_nil, List.set, List.getD_cons_zero, List.getD_cons_succ, eu_0, eu_1, eu_2, eu_3, eu_4, eu_5, eu_6, eu_7, eu_8, eu_9, eu_10, eu_11, eu_12, eu_13, eu_14, eu_15, eu_16, eu_17, eu_18, eu_19, eu_20, eu_21, eu_22, eu_23, eu_24, eu_25, eu_26, eu_27, eu_28, eu_29, eu_30, eu_31, eu_32, eu_33, eu_34, eu_35, eu_36, eu_37, eu_38, eu_39, eu_40, eu_41, eu_42, eu_43, eu_44, eu_45, eu_46, eu_47, eu_48, eu_49, eu_50, eu_51, eu_52, eu_53, i_v, b_bv, i_lit, b_blit, i_add, i_sub, i_mul, i_div, i_mod, i_tdiv, i_tmod, i_ite, b_ite, b_lt, b_le, b_eq, b_not, b_and, b_or, b_iff, i_sel, a_tab, i_pow2, List.getD_cons_zero, List.getD_cons_succ, decide_eq_true_eq, decide_eq_false_iff_not, Bool.and_eq_true, Bool.or_eq_true, Bool.not_eq_true', Bool.not_eq_false', Bool.and_eq_false_iff, Bool.or_eq_false_iff, Bool.not_not, ite_tt, ite_ff, iff_tt, iff_ff, a_av, a_ite, a_upd]
    omega
  ·
    simp only [eu_Base] at hB
    obtain ⟨hb0, hb1, hb2, _⟩ := hB
    simp only [eu_J0] at hJ
    obtain ⟨l0, l1, l2, m0, m1, m2, m3, m4, m5, i0, i1, i2, i3, i4, i5, i6, _⟩ := hJ
    simp only [eu_0, eu_1, eu_2, eu_3, eu_4, eu_5, eu_6, eu_7, eu_8, eu_9, eu_10, eu_11, eu_12, eu_13, eu_14, eu_15, eu_16, eu_17, eu_18, eu_19, eu_20, eu_21, eu_22, eu_23, eu_24, eu_25, eu_26, eu_27, eu_28, eu_29, eu_30, eu_31, eu_32, eu_33, eu_34, eu_35, eu_36, eu_37, eu_38, eu_39, eu_40, eu_41, eu_42, eu_43, eu_44, eu_45, eu_46, eu_47, eu_48, eu_49, eu_50, eu_51, eu_52, eu_53, i_v, b_bv, i_lit, b_blit, i_add, i_sub, i_mul, i_div, i_mod, i_tdiv, i_tmod, i_ite, b_ite, b_lt, b_le, b_eq, b_not, b_and, b_or, b_iff, i_sel, a_tab, i_pow2, List.getD_cons_zero, List.getD_cons_succ, decide_eq_true_eq, decide_eq_false_iff_not, Bool.and_eq_true, Bool.or_eq_true, Bool.not_eq_true', Bool.not_eq_false', Bool.and_eq_false_iff, Bool.or_eq_false_iff, Bool.not_not, ite_tt, ite_ff, iff_tt, iff_ff, a_av, a_ite, a_upd, show Int.toNat 0 = 0 from rfl, show Int.toNat 1 = 1 from rfl, show Int.toNat 2 = 2 from rfl]
    exact i3
theorem eu_vc1 (a0 a1 a2 x3 x4 x5 : Int) (Z0 Z1 Z2 Z3 Z4 Z5 : Nat → Int) (hB : eu_Base a0 a1 a2) (hJ : eu_J1 a0 a1 a2 x3 x4 x5 Z0 Z1 Z2 Z3 Z4 Z5) :
    LT.holds (⟨[a0, a1, a2, x3, x4, x5], [], [Z0, Z1, Z2, Z3, Z4, Z5], [], Iv (fun _ _ => Ext.none)⟩ : Env) (fun v _ => retTrue (⟨[a0, a1, a2, x3, x4, x5], [], [Z0, Z1, Z2, Z3, Z4, Z5], [], Iv (fun _ _ => Ext.none)⟩ : Env) v) (fun j' todo ρ' => (eu_hs[j']?.map (·.todo)) = some todo ∧ eu_Inv j' ρ' ∧ eu_mu j' ρ' < eu_mu 1 (⟨[a0, a1, a2, x3, x4, x5], [], [Z0, Z1, Z2, Z3, Z4, Z5], [], Iv (fun _ _ => Ext.none)⟩ : Env)) (.ite eu_10 (.jump 1 eu_T1 ⟨[(5, (.v 5)), (3, eu_11)], [], [(2, eu_25), (1, eu_28), (0, eu_46)]⟩) (.ite eu_48 (.ret (.s (.bool (.blit false))) [⟨68, [.one (.int .u8 (.lit 4)), .rows (.lit 3) [(some .u8, eu_2), (some .u8, (.av 0)), (some .u8, (.av 1)), (some .u8, eu_49)] 0, .run .u8 (.lit 4) (.tab []) 0, .run .u8 (.lit 4) (.tab []) 0, .run .u8 (.lit 2) (.tab []) 0], true, none, false⟩]) (.ite eu_52 (.ret (.s (.bool (.blit false))) [⟨68, [.one (.int .u8 (.lit 4)), .rows (.lit 3) [(some .u8, eu_2), (some .u8, eu_46), (some .u8, eu_28), (some .u8, eu_49)] 0, .run .u8 (.lit 4) (.tab []) 0, .run .u8 (.lit 4) (.tab []) 0, .run .u8 (.lit 2) (.tab []) 0], true, none, false⟩]) (.jump 0 eu_T0 ⟨[(4, eu_53)], [], [(5, eu_49), (4, eu_28), (3, eu_46)]⟩)))) := by
  simp only [LT.holds, retTrue]
  refine ⟨fun hc0 => ?_, fun hc0 => ?_⟩
  ·
    refine ⟨rfl, ⟨_, _, _, _, _, _, _, _, _, _, _, _, rfl, hB, ?_⟩, ?_⟩
    ·
      simp only [eu_Base] at hB
      obtain ⟨hb0, hb1, hb2, _⟩ := hB
      simp only [eu_J1] at hJ
      obtain ⟨l0, l1, l2, m0, m1, m2, m3, m4, m5, i0, i1, i2, i3, i4, i5, i6, i7, i8, _⟩ := hJ
      have q00 := m0 0
      have q01 := m0 1
      have q02 := m0 2
      have q10 := m1 0
      have q11 := m1 1
      have q12 := m1 2
      have q20 := m2 0
      have q21 := m2 1
      have q22 := m2 2
      have q30 := m3 0
      have q31 := m3 1
      have q32 := m3 2
      have q40 := m4 0
      have q41 := m4 1
      have q42 := m4 2
      have q50 := m5 0
      have q51 := m5 1
      have q52 := m5 2
      simp only [eu_0, eu_1, eu_2, eu_3, eu_4, eu_5, eu_6, eu_7, eu_8, eu_9, eu_10, eu_11, eu_12, eu_13, eu_14, eu_15, eu_16, eu_17, eu_18, eu_19, eu_20, eu_21, eu_22, eu_23, eu_24, eu_25, eu_26, eu_27, eu_28, eu_29, eu_30, eu_31, eu_32, eu_33, eu_34, eu_35, eu_36, eu_37, eu_38, eu_39, eu_40, eu_41, eu_42, eu_43, eu_44, eu_45, eu_46, eu_47, eu_48, eu_49, eu_50, eu_51, eu_52, eu_53, i_v, b_bv, i_lit, b_blit, i_add, i_sub, i_mul, i_div, i_mod, i_tdiv, i_tmod, i_ite, b_ite, b_lt, b_le, b_eq, b_not, b_and, b_or, b_iff, i_sel, a_tab, i_pow2, List.getD_cons_zero, List.getD_cons_succ, decide_eq_true_eq, decide_eq_false_iff_not, Bool.and_eq_true, Bool.or_eq_true, Bool.not_eq_true', Bool.not_eq_false', Bool.and_eq_false_iff, Bool.or_eq_false_iff, Bool.not_not, ite_tt, ite_ff, iff_tt, iff_ff, a_av, a_ite, a_upd, show Int.toNat 0 = 0 from rfl, show Int.toNat 1 = 1 from rfl, show Int.toNat 2 = 2 from rfl] at hc0
      simp only [eu_J1, eu_0, eu_1, eu_2, eu_3, eu_4, eu_5, eu_6, eu_7, eu_8, eu_9, eu_10, eu_11, eu_12, eu_13, eu_14, eu_15, eu_16, eu_17, eu_18, eu_19, eu_20, eu_21, eu_22, eu_23, eu_24, eu_25, eu_26, eu_27, eu_28, eu_29, eu_30, eu_31, eu_32, eu_33, eu_34, eu_35, eu_36, eu_37, eu_38, eu_39, eu_40, eu_41, eu_42, eu_43, eu_44, eu_45, eu_46, eu_47, eu_48, eu_49, eu_50, eu_51, eu_52, eu_53, i_v, b_bv, i_lit, b_blit, i_add, i_sub, i_mul, i_div, i_mod, i_tdiv, i_tmod, i_ite, b_ite, b_lt, b_le, b_eq, b_not, b_and, b_or, b_iff, i_sel, a_tab, i_pow2, List.getD_cons_zero, List.getD_cons_succ, decide_eq_true_eq, decide_eq_false_iff_not, Bool.and_eq_true, Bool.or_eq_true, Bool.not_eq_true', Bool.not_eq_false', Bool.and_eq_false_iff, Bool.or_eq_false_iff, Bool.not_not, ite_tt, ite_ff, iff_tt, iff_ff, a_av, a_ite, a_upd, show Int.toNat 0 = 0 from rfl, show Int.toNat 1 = 1 from rfl, show Int.toNat 2 = 2 from rfl]
      refine ⟨?_, ?_, ?_, ?_, ?_, ?_, ?_, ?_, ?_, ?_, ?_, ?_, ?_, ?_, ?_, ?_, ?_, trivial⟩
      all_goals first | omega | (intro j; have r0 := m0 j; have r1 := m1 j; have r2 := m2 j; have r3 := m3 j; have r4 := m4 j; have r5 := m5 j; (repeat' split) <;> first | omega | simp) | ((repeat' split) <;> first | omega | simp_all | (simp at *; omega))
    simp only [eu_Base] at hB
    obtain ⟨hb0, hb1, hb2, _⟩ := hB
    simp only [eu_J1] at hJ
    obtain ⟨l0, l1, l2, m0, m1, m2, m3, m4, m5, i0, i1, i2, i3, i4, i5, i6, i7, i8, _⟩ := hJ
    simp only [eu_0, eu_1, eu_2, eu_3, eu_4, eu_5, eu_6, eu_7, eu_8, eu_9, eu_10, eu_11, eu_12, eu_13, eu_14, eu_15, eu_16, eu_17, eu_18, eu_19, eu_20, eu_21, eu_22, eu_23, eu_24, eu_25, eu_26, eu_27, eu_28, eu_29, eu_30, eu_31, eu_32, eu_33, eu_34, eu_35, eu_36, eu_37, eu_38, eu_39, eu_40, eu_41, eu_42, eu_43, eu_44, eu_45, eu_46, eu_47, eu_48, eu_49, eu_50, eu_51, eu_52, eu_53, i_v, b_bv, i_lit, b_blit, i_add, i_sub, i_mul, i_div, i_mod, i_tdiv, i_tmod, i_ite, b_ite, b_lt, b_le, b_eq, b_not, b_and, b_or, b_iff, i_sel, a_tab, i_pow2, List.getD_cons_zero, List.getD_cons_succ, decide_eq_true_eq, decide_eq_false_iff_not, Bool.and_eq_true, Bool.or_eq_true, Bool.not_eq_true', Bool.not_eq_false', Bool.and_eq_false_iff, Bool.or_eq_false_iff, Bool.not_not, ite_tt, ite_ff, iff_tt, iff_ff, a_av, a_ite, a_upd, show Int.toNat 0 = 0 from rfl, show Int.toNat 1 = 1 from rfl, show Int.toNat 2 = 2 from rfl] at hc0
    simp only [eu_mu, Env.app, setAll, List.map_cons, List.map_nil, List.set, List.getD_cons_zero, List.getD_cons_succ, eu_0, eu_1, eu_2, eu_3, eu_4, eu_5, eu_6, eu_7, eu_8, eu_9, eu_10, eu_11, eu_12, eu_13, eu_14, eu_15, eu_16, eu_17, eu_18, eu_19, eu_20, eu_21, eu_22, eu_23, eu_24, eu_25, eu_26, eu_27, eu_28, eu_29, eu_30, eu_31, eu_32, eu_33, eu_34, eu_35, eu_36, eu_37, eu_38, eu_39, eu_40, eu_41, eu_42, eu_43, eu_44, eu_45, eu_46, eu_47, eu_48, eu_49, eu_50, eu_51, eu_52, eu_53, i_v, b_bv, i_lit, b_blit, i_add, i_sub, i_mul, i_div, i_mod, i_tdiv, i_tmod, i_ite, b_ite, b_lt, b_le, b_eq, b_not, b_and, b_or, b_iff, i_sel, a_tab, i_pow2, List.getD_cons_zero, List.getD_cons_succ, decide_eq_true_eq, decide_eq_false_iff_not, Bool.and_eq_true, Bool.or_eq_true, Bool.not_eq_true', Bool.not_eq_false', Bool.and_eq_false_iff, Bool.or_eq_false_iff, Bool.not_not, ite_tt, ite_ff, iff_tt, iff_ff, a_av, a_ite, a_upd]
    first | omega | ((repeat' split at i5) <;> omega)
  ·
    refine ⟨fun hc2 => ?_, fun hc2 => ?_⟩
    ·
      exfalso
      simp only [eu_Base] at hB
      obtain ⟨hb0, hb1, hb2, _⟩ := hB
      simp only [eu_J1] at hJ
      obtain ⟨l0, l1, l2, m0, m1, m2, m3, m4, m5, i0, i1, i2, i3, i4, i5, i6, i7, i8, _⟩ := hJ
      simp only [eu_0, eu_1, eu_2, eu_3, eu_4, eu_5, eu_6, eu_7, eu_8, eu_9, eu_10, eu_11, eu_12, eu_13, eu_14, eu_15, eu_16, eu_17, eu_18, eu_19, eu_20, eu_21, eu_22, eu_23, eu_24, eu_25, eu_26, eu_27, eu_28, eu_29, eu_30, eu_31, eu_32, eu_33, eu_34, eu_35, eu_36, eu_37, eu_38, eu_39, eu_40, eu_41, eu_42, eu_43, eu_44, eu_45, eu_46, eu_47, eu_48, eu_49, eu_50, eu_51, eu_52, eu_53, i_v, b_bv, i_lit, b_blit, i_add, i_sub, i_mul, i_div, i_mod, i_tdiv, i_tmod, i_ite, b_ite, b_lt, b_le, b_eq, b_not, b_and, b_or, b_iff, i_sel, a_tab, i_pow2, List.getD_cons_zero, List.getD_cons_succ, decide_eq_true_eq, decide_eq_false_iff_not, Bool.and_eq_true, Bool.or_eq_true, Bool.not_eq_true', Bool.not_eq_false', Bool.and_eq_false_iff, Bool.or_eq_false_iff, Bool.not_not, ite_tt, ite_ff, iff_tt, iff_ff, a_av, a_ite, a_upd, show Int.toNat 0 = 0 from rfl, show Int.toNat 1 = 1 from rfl, show Int.toNat 2 = 2 from rfl] at hc0 hc2
      omega
    ·
      refine ⟨fun hc4 => ?_, fun hc4 => ?_⟩
      ·
        exfalso
        simp only [eu_Base] at hB
        obtain ⟨hb0, hb1, hb2, _⟩ := hB
        simp only [eu_J1] at hJ
        obtain ⟨l0, l1, l2, m0, m1, m2, m3, m4, m5, i0, i1, i2, i3, i4, i5, i6, i7, i8, _⟩ := hJ
        have q00 := m0 0
        have q01 := m0 1
        have q02 := m0 2
        have q10 := m1 0
        have q11 := m1 1
        have q12 := m1 2
        have q20 := m2 0
        have q21 := m2 1
        have q22 := m2 2
        have q30 := m3 0
        have q31 := m3 1
        have q32 := m3 2
        have q40 := m4 0
        have q41 := m4 1
        have q42 := m4 2
        have q50 := m5 0
        have q51 := m5 1
        have q52 := m5 2
        simp only [eu_0, eu_1, eu_2, eu_3, eu_4, eu_5, eu_6, eu_7, eu_8, eu_9, eu_10, eu_11, eu_12, eu_13, eu_14, eu_15, eu_16, eu_17, eu_18, eu_19, eu_20, eu_21, eu_22, eu_23, eu_24, eu_25, eu_26, eu_27, eu_28, eu_29, eu_30, eu_31, eu_32, eu_33, eu_34, eu_35, eu_36, eu_37, eu_38, eu_39, eu_40, eu_41, eu_42, eu_43, eu_44, eu_45, eu_46, eu_47, eu_48, eu_49, eu_50, eu_51, eu_52, eu_53, i_v, b_bv, i_lit, b_blit, i_add, i_sub, i_mul, i_div, i_mod, i_tdiv, i_tmod, i_ite, b_ite, b_lt, b_le, b_eq, b_not, b_and, b_or, b_iff, i_sel, a_tab, i_pow2, List.getD_cons_zero, List.getD_cons_succ, decide_eq_true_eq, decide_eq_false_iff_not, Bool.and_eq_true, Bool.or_eq_true, Bool.not_eq_true', Bool.not_eq_false', Bool.and_eq_false_iff, Bool.or_eq_false_iff, Bool.not_not, ite_tt, ite_ff, iff_tt, iff_ff, a_av, a_ite, a_upd, show Int.toNat 0 = 0 from rfl, show Int.toNat 1 = 1 from rfl, show Int.toNat 2 = 2 from rfl] at hc0 hc2 hc4
        repeat' split at i5
        all_goals (first | omega | (repeat' split at hc0 <;> first | omega | (repeat' split at hc4 <;> omega)))
      ·
        refine ⟨rfl, ⟨_, _, _, _, _, _, _, _, _, _, _, _, rfl, hB, ?_⟩, ?_⟩
        ·
          simp only [eu_Base] at hB
          obtain ⟨hb0, hb1, hb2, _⟩ := hB
          simp only [eu_J1] at hJ
          obtain ⟨l0, l1, l2, m0, m1, m2, m3, m4, m5, i0, i1, i2, i3, i4, i5, i6, i7, i8, _⟩ := hJ
          have q00 := m0 0
          have q01 := m0 1
          have q02 := m0 2
          have q10 := m1 0
          have q11 := m1 1
          have q12 := m1 2
          have q20 := m2 0
          have q21 := m2 1
          have q22 := m2 2
          have q30 := m3 0
          have q31 := m3 1
          have q32 := m3 2
          have q40 := m4 0
          have q41 := m4 1
          have q42 := m4 2
          have q50 := m5 0
          have q51 := m5 1
          have q52 := m5 2
          simp only [eu_0, eu_1, eu_2, eu_3, eu_4, eu_5, eu_6, eu_7, eu_8, eu_9, eu_10, eu_11, eu_12, eu_13, eu_14, eu_15, eu_16, eu_17, eu_18, eu_19, eu_20, eu_21, eu_22, eu_23, eu_24, eu_25, eu_26, eu_27, eu_28, eu_29, eu_30, eu_31, eu_32, eu_33, eu_34, eu_35, eu_36, eu_37, eu_38, eu_39, eu_40, eu_41, eu_42, eu_43, eu_44, eu_45, eu_46, eu_47, eu_48, eu_49, eu_50, eu_51, eu_52, eu_53, i_v, b_bv, i_lit, b_blit, i_add, i_sub, i_mul, i_div, i_mod, i_tdiv, i_tmod, i_ite, b_ite, b_lt, b_le, b_eq, b_not, b_and, b_or, b_iff, i_sel, a_tab, i_pow2, List.getD_cons_zero, List.getD_cons_succ, decide_eq_true_eq, decide_eq_false_iff_not, Bool.and_eq_true, Bool.or_eq_true, Bool.not_eq_true', Bool.not_eq_false', Bool.and_eq_false_iff, Bool.or_eq_false_iff, Bool.not_not, ite_tt, ite_ff, iff_tt, iff_ff, a_av, a_ite, a_upd, show Int.toNat 0 = 0 from rfl, show Int.toNat 1 = 1 from rfl, show Int.toNat 2 = 2 from rfl] at hc0 hc2 hc4
          simp only [eu_J0, eu_0, eu_1, eu_2, eu_3, eu_4, eu_5, eu_6, eu_7, eu_8, eu_9, eu_10, eu_11, eu_12, eu_13, eu_14, eu_15, eu_16, eu_17, eu_18, eu_19, eu_20, eu_21, eu_22, eu_23, eu_24, eu_25, eu_26, eu_27, eu_28, eu_29, eu_30, eu_31, eu_32, eu_33, eu_34, eu_35, eu_36, eu_37, eu_38, eu_39, eu_40, eu_41, eu_42, eu_43, eu_44, eu_45, eu_46, eu_47, eu_48, eu_49, eu_50, eu_51, eu_52, eu_53, i_v, b_bv, i_lit, b_blit, i_add, i_sub, i_mul, i_div, i_mod, i_tdiv, i_tmod, i_ite, b_ite, b_lt, b_le, b_eq, b_not, b_and, b_or, b_iff, i_sel, a_tab, i_pow2, List.getD_cons_zero, List.getD_cons_succ, decide_eq_true_eq, decide_eq_false_iff_not, Bool.and_eq_true, Bool.or_eq_true, Bool.not_eq_true', Bool.not_eq_false', Bool.and_eq_false_iff, Bool.or_eq_false_iff, Bool.not_not, ite_tt, ite_ff, iff_tt, iff_ff, a_av, a_ite, a_upd, show Int.toNat 0 = 0 from rfl, show Int.toNat 1 = 1 from rfl, show Int.toNat 2 = 2 from rfl]
          refine ⟨?_, ?_, ?_, ?_, ?_, ?_, ?_, ?_, ?_, ?_, ?_, ?_, ?_, ?_, ?_, trivial⟩
          all_goals first | omega | (intro j; have r0 := m0 j; have r1 := m1 j; have r2 := m2 j; have r3 := m3 j; have r4 := m4 j; have r5 := m5 j; (repeat' split) <;> first | omega | simp) | ((repeat' split) <;> first | omega | simp_all | (simp at *; omega))
        simp only [eu_Base] at hB
        obtain ⟨hb0, hb1, hb2, _⟩ := hB
        simp only [eu_J1] at hJ
        obtain ⟨l0, l1, l2, m0, m1, m2, m3, m4, m5, i0, i1, i2, i3, i4, i5, i6, i7, i8, _⟩ := hJ
        simp only [eu_0, eu_1, eu_2, eu_3, eu_4, eu_5, eu_6, eu_7, eu_8, eu_9, eu_10, eu_11, eu_12, eu_13, eu_14, eu_15, eu_16, eu_17, eu_18, eu_19, eu_20, eu_21, eu_22, eu_23, eu_24, eu_25, eu_26, eu_27, eu_28, eu_29, eu_30, eu_31, eu_32, eu_33, eu_34, eu_35, eu_36, eu_37, eu_38, eu_39, eu_40, eu_41, eu_42, eu_43, eu_44, eu_45, eu_46, eu_47, eu_48, eu_49, eu_50, eu_51, eu_52, eu_53, i_v, b_bv, i_lit, b_blit, i_add, i_sub, i_mul, i_div, i_mod, i_tdiv, i_tmod, i_ite, b_ite, b_lt, b_le, b_eq, b_not, b_and, b_or, b_iff, i_sel, a_tab, i_pow2, List.getD_cons_zero, List.getD_cons_succ, decide_eq_true_eq, decide_eq_false_iff_not, Bool.and_eq_true, Bool.or_eq_true, Bool.not_eq_true', Bool.not_eq_false', Bool.and_eq_false_iff, Bool.or_eq_false_iff, Bool.not_not, ite_tt, ite_ff, iff_tt, iff_ff, a_av, a_ite, a_upd, show Int.toNat 0 = 0 from rfl, show Int.toNat 1 = 1 from rfl, show Int.toNat 2 = 2 from rfl] at hc0 hc2 hc4
        simp only [eu_mu, Env.app, setAll, List.map_cons, List.map_nil, List.set, List.getD_cons_zero, List.getD_cons_succ, eu_0, eu_1, eu_2, eu_3, eu_4, eu_5, eu_6, eu_7, eu_8, eu_9, eu_10, eu_11, eu_12, eu_13, eu_14, eu_15, eu_16, eu_17, eu_18, eu_19, eu_20, eu_21, eu_22, eu_23, eu_24, eu_25, eu_26, eu_27, eu_28, eu_29, eu_30, eu_31, eu_32, eu_33, eu_34, eu_35, eu_36, eu_37, eu_38, eu_39, eu_40, eu_41, eu_42, eu_43, eu_44, eu_45, eu_46, eu_47, eu_48, eu_49, eu_50, eu_51, eu_52, eu_53, i_v, b_bv, i_lit, b_blit, i_add, i_sub, i_mul, i_div, i_mod, i_tdiv, i_tmod, i_ite, b_ite, b_lt, b_le, b_eq, b_not, b_and, b_or, b_iff, i_sel, a_tab, i_pow2, List.getD_cons_zero, List.getD_cons_succ, decide_eq_true_eq, decide_eq_false_iff_not, Bool.and_eq_true, Bool.or_eq_true, Bool.not_eq_true', Bool.not_eq_false', Bool.and_eq_false_iff, Bool.or_eq_false_iff, Bool.not_not, ite_tt, ite_ff, iff_tt, iff_ff, a_av, a_ite, a_upd]
        first | omega | ((repeat' split at i5) <;> omega)
theorem eu_vcS (a0 a1 a2 : Int) (hB : eu_Base a0 a1 a2) :
    LT.holds (⟨[a0, a1, a2, 0, 0, 0], [], [fun _ => 0, fun _ => 0, fun _ => 0, fun _ => 0, fun _ => 0, fun _ => 0], [], Iv (fun _ _ => Ext.none)⟩ : Env) (fun v _ => retTrue (⟨[a0, a1, a2, 0, 0, 0], [], [fun _ => 0, fun _ => 0, fun _ => 0, fun _ => 0, fun _ => 0, fun _ => 0], [], Iv (fun _ _ => Ext.none)⟩ : Env) v) (fun j' todo ρ' => (eu_hs[j']?.map (·.todo)) = some todo ∧ eu_Inv j' ρ') (.jump 0 eu_T0 ⟨[(4, (.lit 0))], [], [(5, eu_3), (4, eu_3), (3, (.tab []))]⟩) := by
  simp only [LT.holds, retTrue]
  refine ⟨rfl, _, _, _, _, _, _, _, _, _, _, _, _, rfl, hB, ?_⟩
  ·
    simp only [eu_Base] at hB
    obtain ⟨hb0, hb1, hb2, _⟩ := hB
    simp only [eu_J0, eu_0, eu_1, eu_2, eu_3, eu_4, eu_5, eu_6, eu_7, eu_8, eu_9, eu_10, eu_11, eu_12, eu_13, eu_14, eu_15, eu_16, eu_17, eu_18, eu_19, eu_20, eu_21, eu_22, eu_23, eu_24, eu_25, eu_26, eu_27, eu_28, eu_29, eu_30, eu_31, eu_32, eu_33, eu_34, eu_35, eu_36, eu_37, eu_38, eu_39, eu_40, eu_41, eu_42, eu_43, eu_44, eu_45, eu_46, eu_47, eu_48, eu_49, eu_50, eu_51, eu_52, eu_53, i_v, b_bv, i_lit, b_blit, i_add, i_sub, i_mul, i_div, i_mod, i_tdiv, i_tmod, i_ite, b_ite, b_lt, b_le, b_eq, b_not, b_and, b_or, b_iff, i_sel, a_tab, i_pow2, List.getD_cons_zero, List.getD_cons_succ, decide_eq_true_eq, decide_eq_false_iff_not, Bool.and_eq_true, Bool.or_eq_true, Bool.not_eq_true', Bool.not_eq_false', Bool.and_eq_false_iff, Bool.or_eq_false_iff, Bool.not_not, ite_tt, ite_ff, iff_tt, iff_ff, a_av, a_ite, a_upd, show Int.toNat 0 = 0 from rfl, show Int.toNat 1 = 1 from rfl, show Int.toNat 2 = 2 from rfl]
    refine ⟨?_, ?_, ?_, ?_, ?_, ?_, ?_, ?_, ?_, ?_, ?_, ?_, ?_, ?_, ?_, trivial⟩
    all_goals first | omega | (intro j; (repeat' split) <;> first | omega | simp) | ((repeat' split) <;> first | omega | simp_all | (simp at *; omega))
theorem eu_calls (a0 : Int) (w0 : -9223372036854775808 ≤ a0 ∧ a0 ≤ -1) (a1 : Int) (w1 : (Lit.int .u8 a1).wf = true) (a2 : Int) (w2 : 0 ≤ a2 ∧ a2 ≤ 40) (w : World) :
    Calls Try.prog 4 #[.int .i64 a0, .int .u8 a1, .int .i64 a2] w fun r w' => r = .returned (.bool true) ∧ Below w.heap.size w w' := by
  have hargs : (eu_Ls.map (SV.conc (⟨[a0, a1, a2, 0, 0, 0], [], [fun _ => 0, fun _ => 0, fun _ => 0, fun _ => 0, fun _ => 0, fun _ => 0], [], Iv (fun _ _ => Ext.none)⟩ : Env) Loc.id)).toArray = #[.int .i64 a0, .int .u8 a1, .int .i64 a2] := by
    refine congrArg List.toArray ?_
    exact (cons_eq rfl (cons_eq rfl (cons_eq rfl rfl)))
  rw [← hargs]
  have hok : Hyp.ok eu_Hy (⟨[a0, a1, a2, 0, 0, 0], [], [fun _ => 0, fun _ => 0, fun _ => 0, fun _ => 0, fun _ => 0, fun _ => 0], [], Iv (fun _ _ => Ext.none)⟩ : Env) := by
    refine ⟨?_, ?_, ?_, by simp [eu_Hy], ?_, by simp [eu_Hy]⟩
    · simp [eu_Hy]
    · intro p hp
      simp only [eu_Hy, List.mem_cons, List.not_mem_nil, or_false] at hp
      rcases hp with rfl | rfl | rfl
      · exact w0
      · exact bounds_u8 w1
      · exact w2
    · simp [eu_Hy]
    · simp [eu_Hy]
  refine law_loops (D := eu_D) (hs := eu_hs) (ρ := (⟨[a0, a1, a2, 0, 0, 0], [], [fun _ => 0, fun _ => 0, fun _ => 0, fun _ => 0, fun _ => 0, fun _ => 0], [], Iv (fun _ _ => Ext.none)⟩ : Env)) (G_ok _) (by kernel_rfl) rfl (eu_Inv ) eu_mu eu_st rfl ⟨rfl, rfl, rfl⟩ hok (eu_vcS (a0) (a1) (a2) ⟨w0, bounds_u8 w1, w2, trivial⟩) ?_ w (fun i j => Ext.none_ok _)
  intro j h ρ hj hI hz hInv
  rcases j with _ | _ | j
  · simp only [eu_hs, List.getElem?_cons_zero, List.getElem?_cons_succ, Option.some.injEq] at hj; subst hj
    obtain ⟨a0, a1, a2, x3, x4, x5, Z0, Z1, Z2, Z3, Z4, Z5, rfl, hB, hJ⟩ := hInv
    refine ⟨?_, _, eu_sg0, eu_vc0 a0 a1 a2 x3 x4 x5 Z0 Z1 Z2 Z3 Z4 Z5 hB hJ⟩
    have hB2 := hB; have hJ2 := hJ
    simp only [eu_Base] at hB2; simp only [eu_J0] at hJ2
    obtain ⟨hb0, hb1, hb2, _⟩ := hB2
    obtain ⟨hl0, hl1, hl2, hl3, hl4, hl5, hl6, hl7, hl8, hx, _⟩ := hJ2
    refine ⟨?_, ?_, ?_, by simp [eu_h0], ?_, by simp [eu_h0]⟩
    · simp [eu_h0]
    · intro p hp
      simp only [eu_h0, List.mem_cons, List.not_mem_nil, or_false] at hp
      rcases hp with rfl | rfl | rfl | rfl | rfl | rfl
      · exact hb0
      · exact hb1
      · exact hb2
      · exact hl0
      · exact hl1
      · exact hl2
    · intro p hp
      simp only [eu_h0, List.mem_cons, List.not_mem_nil, or_false] at hp
      rcases hp with rfl | rfl | rfl | rfl | rfl | rfl
      · exact hl3
      · exact hl4
      · exact hl5
      · exact hl6
      · exact hl7
      · exact hl8
    · simp [eu_h0]
  · simp only [eu_hs, List.getElem?_cons_zero, List.getElem?_cons_succ, Option.some.injEq] at hj; subst hj
    obtain ⟨a0, a1, a2, x3, x4, x5, Z0, Z1, Z2, Z3, Z4, Z5, rfl, hB, hJ⟩ := hInv
    refine ⟨?_, _, eu_sg1, eu_vc1 a0 a1 a2 x3 x4 x5 Z0 Z1 Z2 Z3 Z4 Z5 hB hJ⟩
    have hB2 := hB; have hJ2 := hJ
    simp only [eu_Base] at hB2; simp only [eu_J1] at hJ2
    obtain ⟨hb0, hb1, hb2, _⟩ := hB2
    obtain ⟨hl0, hl1, hl2, hl3, hl4, hl5, hl6, hl7, hl8, hx, _⟩ := hJ2
    refine ⟨?_, ?_, ?_, by simp [eu_h1], ?_, by simp [eu_h1]⟩
    · simp [eu_h1]
    · intro p hp
      simp only [eu_h1, List.mem_cons, List.not_mem_nil, or_false] at hp
      rcases hp with rfl | rfl | rfl | rfl | rfl | rfl
      · exact hb0
      · exact hb1
      · exact hb2
      · exact hl0
      · exact hl1
      · exact hl2
    · intro p hp
      simp only [eu_h1, List.mem_cons, List.not_mem_nil, or_false] at hp
      rcases hp with rfl | rfl | rfl | rfl | rfl | rfl
      · exact hl3
      · exact hl4
      · exact hl5
      · exact hl6
      · exact hl7
      · exact hl8
    · simp [eu_h1]
  · simp [eu_hs] at hj
end Go.Proofs.Ytngbibifiadgiaa.TickTimes
