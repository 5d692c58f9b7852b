/- A part of the law TickTimes, which returns true for every input. A timer that is on has made its tally one more behind each period times its target cycles, and not ahead of that; what was read is gone. No condition. -/
import Derived.Test.YtngbibifiadgiaaTickTimes0
namespace Go.Proofs.Ytngbibifiadgiaa.TickTimes
open Go.Sx Go.ChangeShapes Go.WideShapes Go.ChangeAt Go.RowKit
set_option linter.unusedVariables false
set_option linter.unusedSimpArgs false
set_option maxRecDepth 100000
def en_Hy : Hyp := ⟨[(.v 0, (-9223372036854775808, 9223372036854775807)), (.v 1, (0, 255)), (.v 2, (-9223372036854775808, -1))], [], [], [], [], []⟩
def en_Ls : List SV := [.s (.int .i64 (.v 0)), .s (.int .u8 (.v 1)), .s (.int .i64 (.v 2))]
def en_0 : E := .eq (.v 1) (.lit 0)
def en_1 : E := .ite en_0 (.lit 256) (.v 1)
def en_2 : E := .upd (.tab []) (.lit 2) (.v 1)
def en_3 : E := .upd (.tab []) (.lit 2) (.lit 0)
def en_4 : E := .le (.v 4) (.lit 0)
def en_5 : E := .sel (.av 5) (.lit 0)
def en_6 : E := .eq en_5 (.lit 0)
def en_7 : E := .upd (.av 5) (.lit 0) (.lit 0)
def en_8 : E := .mul en_1 (.lit 16)
def en_9 : E := .add en_8 (.lit (-1))
def en_10 : E := .lt (.v 3) en_9
def en_11 : E := .add (.v 3) (.lit 1)
def en_12 : E := .sel (.av 0) (.lit 2)
def en_13 : E := .add en_12 (.lit 1)
def en_14 : E := .mod en_13 (.lit 256)
def en_15 : E := .le en_14 (.lit 15)
def en_16 : E := .sel (.av 2) (.lit 2)
def en_17 : E := .sel (.av 1) (.lit 2)
def en_18 : E := .add en_17 (.lit 1)
def en_19 : E := .mod en_18 (.lit 256)
def en_20 : E := .eq en_19 (.v 1)
def en_21 : E := .add en_16 (.lit 1)
def en_22 : E := .mod en_21 (.lit 16)
def en_23 : E := .ite en_20 en_22 en_16
def en_24 : E := .ite en_15 en_16 en_23
def en_25 : E := .upd (.av 2) (.lit 2) en_24
def en_26 : E := .ite en_20 (.lit 0) en_19
def en_27 : E := .ite en_15 en_17 en_26
def en_28 : E := .upd (.av 1) (.lit 2) en_27
def en_29 : E := .sel (.av 0) (.lit 0)
def en_30 : E := .add en_29 (.lit 1)
def en_31 : E := .div en_30 (.lit 128)
def en_32 : E := .mod en_31 (.lit 2)
def en_33 : E := .eq en_32 (.lit 0)
def en_34 : E := .mod en_30 (.lit 256)
def en_35 : E := .ite en_33 en_34 (.lit 0)
def en_36 : E := .upd (.av 0) (.lit 0) en_35
def en_37 : E := .sel (.av 0) (.lit 1)
def en_38 : E := .add en_37 (.lit 1)
def en_39 : E := .div en_38 (.lit 128)
def en_40 : E := .mod en_39 (.lit 2)
def en_41 : E := .eq en_40 (.lit 0)
def en_42 : E := .mod en_38 (.lit 256)
def en_43 : E := .ite en_41 en_42 (.lit 0)
def en_44 : E := .upd en_36 (.lit 1) en_43
def en_45 : E := .ite en_15 en_14 (.lit 0)
def en_46 : E := .upd en_44 (.lit 2) en_45
def en_47 : E := .eq en_16 (.lit 0)
def en_48 : E := .not en_47
def en_49 : E := .upd (.av 2) (.lit 2) (.lit 0)
def en_50 : E := .ite en_20 (.lit 1) (.lit 0)
def en_51 : E := .ite en_15 (.lit 0) en_50
def en_52 : E := .eq en_51 (.lit 0)
def en_53 : E := .add (.v 5) (.lit 1)
noncomputable def en_T0 : List Item := todoS Try.prog G Gh [] 3000 0 4 en_Hy en_Ls [] 15
noncomputable def en_h0 : Head := ⟨15, en_T0, ⟨[((.v 0), ((-9223372036854775808), 9223372036854775807)), ((.v 1), (0, 255)), ((.v 2), ((-9223372036854775808), (-1))), ((.v 3), (0, 32768)), ((.v 4), (0, 41)), ((.v 5), (0, 41))], [(0, (0, 255)), (1, (0, 255)), (2, (0, 255)), (3, (0, 255)), (4, (0, 255)), (5, (0, 255))], [], [], [], []⟩, [⟨10, [], .s (.int .i64 (.v 4))⟩, ⟨9, [], .s (.ptr 0 (.lit 0))⟩, ⟨8, [], .s (.int .i64 en_1)⟩, ⟨7, [], .s (.int .i64 (.lit 16))⟩, ⟨2, [], .s (.int .i64 (.lit 1))⟩, ⟨0, [], .s (.int .i64 (.lit 2))⟩], [⟨68, [.one (.int .u8 (.lit 4)), .rows (.lit 3) [(some .u8, en_2), (some .u8, (.av 3)), (some .u8, (.av 4)), (some .u8, (.av 5))] 0, .run .u8 (.lit 4) (.tab []) 0, .run .u8 (.lit 4) (.tab []) 0, .run .u8 (.lit 2) (.tab []) 0], true, none, false⟩]⟩
noncomputable def en_T1 : List Item := todoH Try.prog G Gh [] 3000 0 4 en_h0 18
noncomputable def en_h1 : Head := ⟨18, en_T1, ⟨[((.v 0), ((-9223372036854775808), 9223372036854775807)), ((.v 1), (0, 255)), ((.v 2), ((-9223372036854775808), (-1))), ((.v 3), (0, 32768)), ((.v 4), (0, 41)), ((.v 5), (0, 41))], [(0, (0, 255)), (1, (0, 255)), (2, (0, 255)), (3, (0, 255)), (4, (0, 255)), (5, (0, 255))], [], [], [], []⟩, [⟨11, [], .s (.int .i64 (.v 3))⟩, ⟨10, [], .s (.int .i64 (.v 5))⟩, ⟨9, [], .s (.ptr 0 (.lit 0))⟩, ⟨8, [], .s (.int .i64 en_1)⟩, ⟨7, [], .s (.int .i64 (.lit 16))⟩, ⟨2, [], .s (.int .i64 (.lit 1))⟩, ⟨0, [], .s (.int .i64 (.lit 2))⟩], [⟨68, [.one (.int .u8 (.lit 4)), .rows (.lit 3) [(some .u8, en_2), (some .u8, (.av 0)), (some .u8, (.av 1)), (some .u8, (.av 2))] 0, .run .u8 (.lit 4) (.tab []) 0, .run .u8 (.lit 4) (.tab []) 0, .run .u8 (.lit 2) (.tab []) 0], true, none, false⟩]⟩
noncomputable def en_hs : List Head := [en_h0, en_h1]
def en_D : Dim := ⟨6, 0, 6, 3, 0, 0, 0⟩
theorem en_st : startL Try.prog G Gh en_D en_hs [] 3000 0 4 en_Hy en_Ls [] = some (.jump 0 en_T0 ⟨[(4, (.lit 0))], [], [(5, en_3), (4, en_3), (3, (.tab []))]⟩) := by kernel_rfl
theorem en_sg0 : segL Try.prog G Gh en_D en_hs [] 3000 0 4 en_h0 = some (.ite en_4 (.jump 1 en_T1 ⟨[(5, (.v 4)), (3, (.lit 0))], [], [(2, (.av 5)), (1, (.av 4)), (0, (.av 3))]⟩) (.ret (.s (.bool en_6)) [⟨68, [.one (.int .u8 (.lit 4)), .rows (.lit 3) [(some .u8, en_2), (some .u8, (.av 3)), (some .u8, (.av 4)), (some .u8, en_7)] 0, .run .u8 (.lit 4) (.tab []) 0, .run .u8 (.lit 4) (.tab []) 0, .run .u8 (.lit 2) (.tab []) 0], true, none, false⟩])) := by kernel_rfl
theorem en_sg1 : segL Try.prog G Gh en_D en_hs [] 3000 0 4 en_h1 = some (.ite en_10 (.jump 1 en_T1 ⟨[(5, (.v 5)), (3, en_11)], [], [(2, en_25), (1, en_28), (0, en_46)]⟩) (.ite en_48 (.ret (.s (.bool (.blit false))) [⟨68, [.one (.int .u8 (.lit 4)), .rows (.lit 3) [(some .u8, en_2), (some .u8, (.av 0)), (some .u8, (.av 1)), (some .u8, en_49)] 0, .run .u8 (.lit 4) (.tab []) 0, .run .u8 (.lit 4) (.tab []) 0, .run .u8 (.lit 2) (.tab []) 0], true, none, false⟩]) (.ite en_52 (.ret (.s (.bool (.blit false))) [⟨68, [.one (.int .u8 (.lit 4)), .rows (.lit 3) [(some .u8, en_2), (some .u8, en_46), (some .u8, en_28), (some .u8, en_49)] 0, .run .u8 (.lit 4) (.tab []) 0, .run .u8 (.lit 4) (.tab []) 0, .run .u8 (.lit 2) (.tab []) 0], true, none, false⟩]) (.jump 0 en_T0 ⟨[(4, en_53)], [], [(5, en_49), (4, en_28), (3, en_46)]⟩)))) := by kernel_rfl
def en_Base (a0 a1 a2 : Int) : Prop := (-9223372036854775808 ≤ a0 ∧ a0 ≤ 9223372036854775807) ∧ (0 ≤ a1 ∧ a1 ≤ 255) ∧ (-9223372036854775808 ≤ a2 ∧ a2 ≤ -1) ∧ True
def en_J0 (a0 a1 a2 x3 x4 x5 : Int) (Z0 Z1 Z2 Z3 Z4 Z5 : Nat → Int) : Prop := (0 ≤ x3 ∧ x3 ≤ 32768) ∧ (0 ≤ x4 ∧ x4 ≤ 41) ∧ (0 ≤ x5 ∧ x5 ≤ 41) ∧ (∀ j, 0 ≤ Z0 j ∧ Z0 j ≤ 255) ∧ (∀ j, 0 ≤ Z1 j ∧ Z1 j ≤ 255) ∧ (∀ j, 0 ≤ Z2 j ∧ Z2 j ≤ 255) ∧ (∀ j, 0 ≤ Z3 j ∧ Z3 j ≤ 255) ∧ (∀ j, 0 ≤ Z4 j ∧ Z4 j ≤ 255) ∧ (∀ j, 0 ≤ Z5 j ∧ Z5 j ≤ 255) ∧ Z3 2 = 0 ∧ Z4 2 = 0 ∧ Z5 2 = 0 ∧ Z5 0 = 0 ∧ 0 ≤ x4 ∧ x4 ≤ 1 ∧ True
def en_J1 (a0 a1 a2 x3 x4 x5 : Int) (Z0 Z1 Z2 Z3 Z4 Z5 : Nat → Int) : Prop := (0 ≤ x3 ∧ x3 ≤ 32768) ∧ (0 ≤ x4 ∧ x4 ≤ 41) ∧ (0 ≤ x5 ∧ x5 ≤ 41) ∧ (∀ j, 0 ≤ Z0 j ∧ Z0 j ≤ 255) ∧ (∀ j, 0 ≤ Z1 j ∧ Z1 j ≤ 255) ∧ (∀ j, 0 ≤ Z2 j ∧ Z2 j ≤ 255) ∧ (∀ j, 0 ≤ Z3 j ∧ Z3 j ≤ 255) ∧ (∀ j, 0 ≤ Z4 j ∧ Z4 j ≤ 255) ∧ (∀ j, 0 ≤ Z5 j ∧ Z5 j ≤ 255) ∧ Z1 2 * 16 + Z0 2 = x3 ∧ Z0 2 ≤ 15 ∧ Z2 2 = 0 ∧ Z2 0 = 0 ∧ 0 ≤ x3 ∧ x3 ≤ (if a1 = 0 then 256 else a1) * 16 - 1 ∧ 0 ≤ x5 ∧ x5 < 1 ∧ True
def en_Inv : Nat → Env → Prop
  | 0, ρ => ∃ (a0 a1 a2 x3 x4 x5 : Int) (Z0 Z1 Z2 Z3 Z4 Z5 : Nat → Int), ρ = (⟨[a0, a1, a2, x3, x4, x5], [], [Z0, Z1, Z2, Z3, Z4, Z5], [], Iv (fun _ _ => Ext.none)⟩ : Env) ∧ en_Base a0 a1 a2 ∧ en_J0 a0 a1 a2 x3 x4 x5 Z0 Z1 Z2 Z3 Z4 Z5
  | 1, ρ => ∃ (a0 a1 a2 x3 x4 x5 : Int) (Z0 Z1 Z2 Z3 Z4 Z5 : Nat → Int), ρ = (⟨[a0, a1, a2, x3, x4, x5], [], [Z0, Z1, Z2, Z3, Z4, Z5], [], Iv (fun _ _ => Ext.none)⟩ : Env) ∧ en_Base a0 a1 a2 ∧ en_J1 a0 a1 a2 x3 x4 x5 Z0 Z1 Z2 Z3 Z4 Z5
  | _, _ => False
def en_mu : Nat → Env → Nat := fun j ρ => match j with | 0 => ((41 - ρ.i.getD 4 0) * 40000).toNat | _ => ((40 - ρ.i.getD 5 0) * 40000 + 33000 - ρ.i.getD 3 0).toNat
theorem en_vc0 (a0 a1 a2 x3 x4 x5 : Int) (Z0 Z1 Z2 Z3 Z4 Z5 : Nat → Int) (hB : en_Base a0 a1 a2) (hJ : en_J0 a0 a1 a2 x3 x4 x5 Z0 Z1 Z2 Z3 Z4 Z5) :
    LT.holds (⟨[a0, a1, a2, x3, x4, x5], [], [Z0, Z1, Z2, Z3, Z4, Z5], [], Iv (fun _ _ => Ext.none)⟩ : Env) (fun v _ => retTrue (⟨[a0, a1, a2, x3, x4, x5], [], [Z0, Z1, Z2, Z3, Z4, Z5], [], Iv (fun _ _ => Ext.none)⟩ : Env) v) (fun j' todo ρ' => (en_hs[j']?.map (·.todo)) = some todo ∧ en_Inv j' ρ' ∧ en_mu j' ρ' < en_mu 0 (⟨[a0, a1, a2, x3, x4, x5], [], [Z0, Z1, Z2, Z3, Z4, Z5], [], Iv (fun _ _ => Ext.none)⟩ : Env)) (.ite en_4 (.jump 1 en_T1 ⟨[(5, (.v 4)), (3, (.lit 0))], [], [(2, (.av 5)), (1, (.av 4)), (0, (.av 3))]⟩) (.ret (.s (.bool en_6)) [⟨68, [.one (.int .u8 (.lit 4)), .rows (.lit 3) [(some .u8, en_2), (some .u8, (.av 3)), (some .u8, (.av 4)), (some .u8, en_7)] 0, .run .u8 (.lit 4) (.tab []) 0, .run .u8 (.lit 4) (.tab []) 0, .run .u8 (.lit 2) (.tab []) 0], true, none, false⟩])) := by
  simp only [LT.holds, retTrue]
  refine ⟨fun hc0 => ?_, fun hc0 => ?_⟩
  ·
    refine ⟨rfl, ⟨_, _, _, _, _, _, _, _, _, _, _, _, rfl, hB, ?_⟩, ?_⟩
    ·
      simp only [en_Base] at hB
      obtain ⟨hb0, hb1, hb2, _⟩ := hB
      simp only [en_J0] at hJ
      obtain ⟨l0, l1, l2, m0, m1, m2, m3, m4, m5, i0, i1, i2, i3, i4, i5, i6, _⟩ := hJ
      have q00 := m0 0
      have q01 := m0 1
      have q02 := m0 2
      have q10 := m1 0
      have q11 := m1 1
      have q12 := m1 2
      have q20 := m2 0
      have q21 := m2 1
      have q22 := m2 2
      have q30 := m3 0
      have q31 := m3 1
      have q32 := m3 2
      have q40 := m4 0
      have q41 := m4 1
      have q42 := m4 2
      have q50 := m5 0
      have q51 := m5 1
      have q52 := m5 2
      simp only [en_0, en_1, en_2, en_3, en_4, en_5, en_6, en_7, en_8, en_9, en_10, en_11, en_12, en_13, en_14, en_15, en_16, en_17, en_18, en_19, en_20, en_21, en_22, en_23, en_24, en_25, en_26, en_27, en_28, en_29, en_30, en_31, en_32, en_33, en_34, en_35, en_36, en_37, en_38, en_39, en_40, en_41, en_42, en_43, en_44, en_45, en_46, en_47, en_48, en_49, en_50, en_51, en_52, en_53, i_v, b_bv, i_lit, b_blit, i_add, i_sub, i_mul, i_div, i_mod, i_tdiv, i_tmod, i_ite, b_ite, b_lt, b_le, b_eq, b_not, b_and, b_or, b_iff, i_sel, a_tab, i_pow2, List.getD_cons_zero, List.getD_cons_succ, decide_eq_true_eq, decide_eq_false_iff_not, Bool.and_eq_true, Bool.or_eq_true, Bool.not_eq_true', Bool.not_eq_false', Bool.and_eq_false_iff, Bool.or_eq_false_iff, Bool.not_not, ite_tt, ite_ff, iff_tt, iff_ff, a_av, a_ite, a_upd, show Int.toNat 0 = 0 from rfl, show Int.toNat 1 = 1 from rfl, show Int.toNat 2 = 2 from rfl] at hc0
      simp only [en_J1, en_0, en_1, en_2, en_3, en_4, en_5, en_6, en_7, en_8, en_9, en_10, en_11, en_12, en_13, en_14, en_15, en_16, en_17, en_18, en_19, en_20, en_21, en_22, en_23, en_24, en_25, en_26, en_27, en_28, en_29, en_30, en_31, en_32, en_33, en_34, en_35, en_36, en_37, en_38, en_39, en_40, en_41, en_42, en_43, en_44, en_45, en_46, en_47, en_48, en_49, en_50, en_51, en_52, en_53, i_v, b_bv, i_lit, b_blit, i_add, i_sub, i_mul, i_div, i_mod, i_tdiv, i_tmod, i_ite, b_ite, b_lt, b_le, b_eq, b_not, b_and, b_or, b_iff, i_sel, a_tab, i_pow2, List.getD_cons_zero, List.getD_cons_succ, decide_eq_true_eq, decide_eq_false_iff_not, Bool.and_eq_true, Bool.or_eq_true, Bool.not_eq_true', Bool.not_eq_false', Bool.and_eq_false_iff, Bool.or_eq_false_iff, Bool.not_not, ite_tt, ite_ff, iff_tt, iff_ff, a_av, a_ite, a_upd, show Int.toNat 0 = 0 from rfl, show Int.toNat 1 = 1 from rfl, show Int.toNat 2 = 2 from rfl]
      refine ⟨?_, ?_, ?_, ?_, ?_, ?_, ?_, ?_, ?_, ?_, ?_, ?_, ?_, ?_, ?_, ?_, ?_, trivial⟩
      all_goals first | omega | (intro j; have r0 := m0 j; have r1 := m1 j; have r2 := m2 j; have r3 := m3 j; have r4 := m4 j; have r5 := m5 j; (repeat' split) <;> first | omega | simp) | ((repeat' split) <;> first | omega | simp_all | (simp at *; omega))
    simp only [en_Base] at hB
    obtain ⟨hb0, hb1, hb2, _⟩ := hB
    simp only [en_J0] at hJ
    obtain ⟨l0, l1, l2, m0, m1, m2, m3, m4, m5, i0, i1, i2, i3, i4, i5, i6, _⟩ := hJ
    simp only [en_0, en_1, en_2, en_3, en_4, en_5, en_6, en_7, en_8, en_9, en_10, en_11, en_12, en_13, en_14, en_15, en_16, en_17, en_18, en_19, en_20, en_21, en_22, en_23, en_24, en_25, en_26, en_27, en_28, en_29, en_30, en_31, en_32, en_33, en_34, en_35, en_36, en_37, en_38, en_39, en_40, en_41, en_42, en_43, en_44, en_45, en_46, en_47, en_48, en_49, en_50, en_51, en_52, en_53, i_v, b_bv, i_lit, b_blit, i_add, i_sub, i_mul, i_div, i_mod, i_tdiv, i_tmod, i_ite, b_ite, b_lt, b_le, b_eq, b_not, b_and, b_or, b_iff, i_sel, a_tab, i_pow2, List.getD_cons_zero, List.getD_cons_succ, decide_eq_true_eq, decide_eq_false_iff_not, Bool.and_eq_true, Bool.or_eq_true, Bool.not_eq_true', Bool.not_eq_false', Bool.and_eq_false_iff, Bool.or_eq_false_iff, Bool.not_not, ite_tt, ite_ff, iff_tt, iff_ff, a_av, a_ite, a_upd, show Int.toNat 0 = 0 from rfl, show Int.toNat 1 = 1 from rfl, show Int.toNat 2 = 2 from rfl] at hc0
    simp only [en_mu, Env.app, setAll, List.map_cons, List.map_nil, List.set, List.getD_cons_zero, List.getD_cons_succ, en_0, en_1, en_2, en_3, en_4, en_5, en_6, en_7, en_8, en_9, en_10, en_11, en_12, en_13, en_14, en_15, en_16, en_17, en_18, en_19, en_20, en_21, en_22, en_23, en_24, en_25, en_26, en_27, en_28, en_29, en_30, en_31, en_32, en_33, en_34, en_35, en_36, en_37, en_38, en_39, en_40, en_41, en_42, en_43, en_44, en_45, en_46, en_47, en_48, en_49, en_50, en_51, en_52, en_53, i_v, b_bv, i_lit, b_blit, i_add, i_sub, i_mul, i_div, i_mod, i_tdiv, i_tmod, i_ite, b_ite, b_lt, b_le, b_eq, b_not, b_and, b_or, b_iff, i_sel, a_tab, i_pow2, List.getD_cons_zero, List.getD_cons_succ, decide_eq_true_eq, decide_eq_false_iff_not, Bool.and_eq_true, Bool.or_eq_true, Bool.not_eq_true', Bool.not_eq_false', Bool.and_eq_false_iff, Bool.or_eq_false_iff, Bool.not_not, ite_tt, ite_ff, iff_tt, iff_ff, a_av, a_ite, a_upd]
    omega
  ·
    simp only [en_Base] at hB
    obtain ⟨hb0, hb1, hb2, _⟩ := hB
    simp only [en_J0] at hJ
    obtain ⟨l0, l1, l2, m0, m1, m2, m3, m4, m5, i0, i1, i2, i3, i4, i5, i6, _⟩ := hJ
    simp only [en_0, en_1, en_2, en_3, en_4, en_5, en_6, en_7, en_8, en_9, en_10, en_11, en_12, en_13, en_14, en_15, en_16, en_17, en_18, en_19, en_20, en_21, en_22, en_23, en_24, en_25, en_26, en_27, en_28, en_29, en_30, en_31, en_32, en_33, en_34, en_35, en_36, en_37, en_38, en_39, en_40, en_41, en_42, en_43, en_44, en_45, en_46, en_47, en_48, en_49, en_50, en_51, en_52, en_53, i_v, b_bv, i_lit, b_blit, i_add, i_sub, i_mul, i_div, i_mod, i_tdiv, i_tmod, i_ite, b_ite, b_lt, b_le, b_eq, b_not, b_and, b_or, b_iff, i_sel, a_tab, i_pow2, List.getD_cons_zero, List.getD_cons_succ, decide_eq_true_eq, decide_eq_false_iff_not, Bool.and_eq_true, Bool.or_eq_true, Bool.not_eq_true', Bool.not_eq_false', Bool.and_eq_false_iff, Bool.or_eq_false_iff, Bool.not_not, ite_tt, ite_ff, iff_tt, iff_ff, a_av, a_ite, a_upd, show Int.toNat 0 = 0 from rfl, show Int.toNat 1 = 1 from rfl, show Int.toNat 2 = 2 from rfl]
    exact i3
theorem en_vc1 (a0 a1 a2 x3 x4 x5 : Int) (Z0 Z1 Z2 Z3 Z4 Z5 : Nat → Int) (hB : en_Base a0 a1 a2) (hJ : en_J1 a0 a1 a2 x3 x4 x5 Z0 Z1 Z2 Z3 Z4 Z5) :
    LT.holds (⟨[a0, a1, a2, x3, x4, x5], [], [Z0, Z1, Z2, Z3, Z4, Z5], [], Iv (fun _ _ => Ext.none)⟩ : Env) (fun v _ => retTrue (⟨[a0, a1, a2, x3, x4, x5], [], [Z0, Z1, Z2, Z3, Z4, Z5], [], Iv (fun _ _ => Ext.none)⟩ : Env) v) (fun j' todo ρ' => (en_hs[j']?.map (·.todo)) = some todo ∧ en_Inv j' ρ' ∧ en_mu j' ρ' < en_mu 1 (⟨[a0, a1, a2, x3, x4, x5], [], [Z0, Z1, Z2, Z3, Z4, Z5], [], Iv (fun _ _ => Ext.none)⟩ : Env)) (.ite en_10 (.jump 1 en_T1 ⟨[(5, (.v 5)), (3, en_11)], [], [(2, en_25), (1, en_28), (0, en_46)]⟩) (.ite en_48 (.ret (.s (.bool (.blit false))) [⟨68, [.one (.int .u8 (.lit 4)), .rows (.lit 3) [(some .u8, en_2), (some .u8, (.av 0)), (some .u8, (.av 1)), (some .u8, en_49)] 0, .run .u8 (.lit 4) (.tab []) 0, .run .u8 (.lit 4) (.tab []) 0, .run .u8 (.lit 2) (.tab []) 0], true, none, false⟩]) (.ite en_52 (.ret (.s (.bool (.blit false))) [⟨68, [.one (.int .u8 (.lit 4)), .rows (.lit 3) [(some .u8, en_2), (some .u8, en_46), (some .u8, en_28), (some .u8, en_49)] 0, .run .u8 (.lit 4) (.tab []) 0, .run .u8 (.lit 4) (.tab []) 0, .run .u8 (.lit 2) (.tab []) 0], true, none, false⟩]) (.jump 0 en_T0 ⟨[(4, en_53)], [], [(5, en_49), (4, en_28), (3, en_46)]⟩)))) := by
  simp only [LT.holds, retTrue]
  refine ⟨fun hc0 => ?_, fun hc0 => ?_⟩
  ·
    refine ⟨rfl, ⟨_, _, _, _, _, _, _, _, _, _, _, _, rfl, hB, ?_⟩, ?_⟩
    ·
      simp only [en_Base] at hB
      obtain ⟨hb0, hb1, hb2, _⟩ := hB
      simp only [en_J1] at hJ
      obtain ⟨l0, l1, l2, m0, m1, m2, m3, m4, m5, i0, i1, i2, i3, i4, i5, i6, i7, i8, _⟩ := hJ
      have q00 := m0 0
      have q01 := m0 1
      have q02 := m0 2
      have q10 := m1 0
      have q11 := m1 1
      have q12 := m1 2
      have q20 := m2 0
      have q21 := m2 1
      have q22 := m2 2
      have q30 := m3 0
      have q31 := m3 1
      have q32 := m3 2
      have q40 := m4 0
      have q41 := m4 1
      have q42 := m4 2
      have q50 := m5 0
      have q51 := m5 1
      have q52 := m5 2
      simp only [en_0, en_1, en_2, en_3, en_4, en_5, en_6, en_7, en_8, en_9, en_10, en_11, en_12, en_13, en_14, en_15, en_16, en_17, en_18, en_19, en_20, en_21, en_22, en_23, en_24, en_25, en_26, en_27, en_28, en_29, en_30, en_31, en_32, en_33, en_34, en_35, en_36, en_37, en_38, en_39, en_40, en_41, en_42, en_43, en_44, en_45, en_46, en_47, en_48, en_49, en_50, en_51, en_52, en_53, i_v, b_bv, i_lit, b_blit, i_add, i_sub, i_mul, i_div, i_mod, i_tdiv, i_tmod, i_ite, b_ite, b_lt, b_le, b_eq, b_not, b_and, b_or, b_iff, i_sel, a_tab, i_pow2, List.getD_cons_zero, List.getD_cons_succ, decide_eq_true_eq, decide_eq_false_iff_not, Bool.and_eq_true, Bool.or_eq_true, Bool.not_eq_true', Bool.not_eq_false', Bool.and_eq_false_iff, Bool.or_eq_false_iff, Bool.not_not, ite_tt, ite_ff, iff_tt, iff_ff, a_av, a_ite, a_upd, show Int.toNat 0 = 0 from rfl, show Int.toNat 1 = 1 from rfl, show Int.toNat 2 = 2 from rfl] at hc0
      simp only [en_J1, en_0, en_1, en_2, en_3, en_4, en_5, en_6, en_7, en_8, en_9, en_10, en_11, en_12, en_13, en_14, en_15, en_16, en_17, en_18, en_19, en_20, en_21, en_22, en_23, en_24, en_25, en_26, en_27, en_28, en_29, en_30, en_31, en_32, en_33, en_34, en_35, en_36, en_37, en_38, en_39, en_40, en_41, en_42, en_43, en_44, en_45, en_46, en_47, en_48, en_49, en_50, en_51, en_52, en_53, i_v, b_bv, i_lit, b_blit, i_add, i_sub, i_mul, i_div, i_mod, i_tdiv, i_tmod, i_ite, b_ite, b_lt, b_le, b_eq, b_not, b_and, b_or, b_iff, i_sel, a_tab, i_pow2, List.getD_cons_zero, List.getD_cons_succ, decide_eq_true_eq, decide_eq_false_iff_not, Bool.and_eq_true, Bool.or_eq_true, Bool.not_eq_true', Bool.not_eq_false', Bool.and_eq_false_iff, Bool.or_eq_false_iff, Bool.not_not, ite_tt, ite_ff, iff_tt, iff_ff, a_av, a_ite, a_upd, show Int.toNat 0 = 0 from rfl, show Int.toNat 1 = 1 from rfl, show Int.toNat 2 = 2 from rfl]
      refine ⟨?_, ?_, ?_, ?_, ?_, ?_, ?_, ?_, ?_, ?_, ?_, ?_, ?_, ?_, ?_, ?_, ?_, trivial⟩
      all_goals first | omega | (intro j; have r0 := m0 j; have r1 := m1 j; have r2 := m2 j; have r3 := m3 j; have r4 := m4 j; have r5 := m5 j; (repeat' split) <;> first | omega | simp) | ((repeat' split) <;> first | omega | simp_all | (simp at *; omega))
    simp only [en_Base] at hB
    obtain ⟨hb0, hb1, hb2, _⟩ := hB
    simp only [en_J1] at hJ
    obtain ⟨l0, l1, l2, m0, m1, m2, m3, m4, m5, i0, i1, i2, i3, i4, i5, i6, i7, i8, _⟩ := hJ
    simp only [en_0, en_1, en_2, en_3, en_4, en_5, en_6, en_7, en_8, en_9, en_10, en_11, en_12, en_13, en_14, en_15, en_16, en_17, en_18, en_19, en_20, en_21, en_22, en_23, en_24, en_25, en_26, en_27, en_28, en_29, en_30, en_31, en_32, en_33, en_34, en_35, en_36, en_37, en_38, en_39, en_40, en_41, en_42, en_43, en_44, en_45, en_46, en_47, en_48, en_49, en_50, en_51, en_52, en_53, i_v, b_bv, i_lit, b_blit, i_add, i_sub, i_mul, i_div, i_mod, i_tdiv, i_tmod, i_ite, b_ite, b_lt, b_le, b_eq, b_not, b_and, b_or, b_iff, i_sel, a_tab, i_pow2, List.getD_cons_zero, List.getD_cons_succ, decide_eq_true_eq, decide_eq_false_iff_not, Bool.and_eq_true, Bool.or_eq_true, Bool.not_eq_true', Bool.not_eq_false', Bool.and_eq_false_iff, Bool.or_eq_false_iff, Bool.not_not, ite_tt, ite_ff, iff_tt, iff_ff, a_av, a_ite, a_upd, show Int.toNat 0 = 0 from rfl, show Int.toNat 1 = 1 from rfl, show Int.toNat 2 = 2 from rfl] at hc0
    simp only [en_mu, Env.app, setAll, List.map_cons, List.map_nil, List.set, List.getD_cons_zero, List.getD_cons_succ, en_0, en_1, en_2, en_3, en_4, en_5, en_6, en_7, en_8, en_9, en_10, en_11, en_12, en_13, en_14, en_15, en_16, en_17, en_18, en_19, en_20, en_21, en_22, en_23, en_24, en_25, en_26, en_27, en_28, en_29, en_30, en_31, en_32, en_33, en_34, en_35, en_36, en_37, en_38, en_39, en_40, en_41, en_42, en_43, en_44, en_45, en_46, en_47, en_48, en_49, en_50, en_51, en_52, en_53, i_v, b_bv, i_lit, b_blit, i_add, i_sub, i_mul, i_div, i_mod, i_tdiv, i_tmod, i_ite, b_ite, b_lt, b_le, b_eq, b_not, b_and, b_or, b_iff, i_sel, a_tab, i_pow2, List.getD_cons_zero, List.getD_cons_succ, decide_eq_true_eq, decide_eq_false_iff_not, Bool.and_eq_true, Bool.or_eq_true, Bool.not_eq_true', Bool.not_eq_false', Bool.and_eq_false_iff, Bool.or_eq_false_iff, Bool.not_not, ite_tt, ite_ff, iff_tt, iff_ff, a_av, a_ite, a_upd]
    first | omega | ((repeat' split at i5) <;> omega)
  ·
    refine ⟨fun hc2 => ?_, fun hc2 => ?_⟩
    ·
      exfalso
      simp only [en_Base] at hB
      obtain ⟨hb0, hb1, hb2, _⟩ := hB
      simp only [en_J1] at hJ
      obtain ⟨l0, l1, l2, m0, m1, m2, m3, m4, m5, i0, i1, i2, i3, i4, i5, i6, i7, i8, _⟩ := hJ
      simp only [en_0, en_1, en_2, en_3, en_4, en_5, en_6, en_7, en_8, en_9, en_10, en_11, en_12, en_13, en_14, en_15, en_16, en_17, en_18, en_19, en_20, en_21, en_22, en_23, en_24, en_25, en_26, en_27, en_28, en_29, en_30, en_31, en_32, en_33, en_34, en_35, en_36, en_37, en_38, en_39, en_40, en_41, en_42, en_43, en_44, en_45, en_46, en_47, en_48, en_49, en_50, en_51, en_52, en_53, i_v, b_bv, i_lit, b_blit, i_add, i_sub, i_mul, i_div, i_mod, i_tdiv, i_tmod, i_ite, b_ite, b_lt, b_le, b_eq, b_not, b_and, b_or, b_iff, i_sel, a_tab, i_pow2, List.getD_cons_zero, List.getD_cons_succ, decide_eq_true_eq, decide_eq_false_iff_not, Bool.and_eq_true, Bool.or_eq_true, Bool.not_eq_true', Bool.not_eq_false', Bool.and_eq_false_iff, Bool.or_eq_false_iff, Bool.not_not, ite_tt, ite_ff, iff_tt, iff_ff, a_av, a_ite, a_upd, show Int.toNat 0 = 0 from rfl, show Int.toNat 1 = 1 from rfl, show Int.toNat 2 = 2 from rfl] at hc0 hc2
      omega
    ·
      refine ⟨fun hc4 => ?_, fun hc4 => ?_⟩
      ·
        exfalso
        simp only [en_Base] at hB
        obtain ⟨hb0, hb1, hb2, _⟩ := hB
        simp only [en_J1] at hJ
        obtain ⟨l0, l1, l2, m0, m1, m2, m3, m4, m5, i0, i1, i2, i3, i4, i5, i6, i7, i8, _⟩ := hJ
        have q00 := m0 0
        have q01 := m0 1
        have q02 := m0 2
        have q10 := m1 0
        have q11 := m1 1
        have q12 := m1 2
        have q20 := m2 0
        have q21 := m2 1
        have q22 := m2 2
        have q30 := m3 0
        have q31 := m3 1
        have q32 := m3 2
        have q40 := m4 0
        have q41 := m4 1
        have q42 := m4 2
        have q50 := m5 0
        have q51 := m5 1
        have q52 := m5 2
        simp only [en_0, en_1, en_2, en_3, en_4, en_5, en_6, en_7, en_8, en_9, en_10, en_11, en_12, en_13, en_14, en_15, en_16, en_17, en_18, en_19, en_20, en_21, en_22, en_23, en_24, en_25, en_26, en_27, en_28, en_29, en_30, en_31, en_32, en_33, en_34, en_35, en_36, en_37, en_38, en_39, en_40, en_41, en_42, en_43, en_44, en_45, en_46, en_47, en_48, en_49, en_50, en_51, en_52, en_53, i_v, b_bv, i_lit, b_blit, i_add, i_sub, i_mul, i_div, i_mod, i_tdiv, i_tmod, i_ite, b_ite, b_lt, b_le, b_eq, b_not, b_and, b_or, b_iff, i_sel, a_tab, i_pow2, List.getD_cons_zero, List.getD_cons_succ, decide_eq_true_eq, decide_eq_false_iff_not, Bool.and_eq_true, Bool.or_eq_true, Bool.not_eq_true', Bool.not_eq_false', Bool.and_eq_false_iff, Bool.or_eq_false_iff, Bool.not_not, ite_tt, ite_ff, iff_tt, iff_ff, a_av, a_ite, a_upd, show Int.toNat 0 = 0 from rfl, show Int.toNat 1 = 1 from rfl, show Int.toNat 2 = 2 from rfl] at hc0 hc2 hc4
        repeat' split at i5
        all_goals (first | omega | (repeat' split at hc0 <;> first | omega | (repeat' split at hc4 <;> omega)))
      ·
        refine ⟨rfl, ⟨_, _, _, _, _, _, _, _, _, _, _, _, rfl, hB, ?_⟩, ?_⟩
        ·
          simp only [en_Base] at hB
          obtain ⟨hb0, hb1, hb2, _⟩ := hB
          simp only [en_J1] at hJ
          obtain ⟨l0, l1, l2, m0, m1, m2, m3, m4, m5, i0, i1, i2, i3, i4, i5, i6, i7, i8, _⟩ := hJ
          have q00 := m0 0
          have q01 := m0 1
          have q02 := m0 2
          have q10 := m1 0
          have q11 := m1 1
          have q12 := m1 2
          have q20 := m2 0
          have q21 := m2 1
          have q22 := m2 2
          have q30 := m3 0
          have q31 := m3 1
          have q32 := m3 2
          have q40 := m4 0
          have q41 := m4 1
          have q42 := m4 2
          have q50 := m5 0
          have q51 := m5 1
          have q52 := m5 2
          simp only [en_0, en_1, en_2, en_3, en_4, en_5, en_6, en_7, en_8, en_9, en_10, en_11, en_12, en_13, en_14, en_15, en_16, en_17, en_18, en_19, en_20, en_21, en_22, en_23, en_24, en_25, en_26, en_27, en_28, en_29, en_30, en_31, en_32, en_33, en_34, en_35, en_36, en_37, en_38, en_39, en_40, en_41, en_42, en_43, en_44, en_45, en_46, en_47, en_48, en_49, en_50, en_51, en_52, en_53, i_v, b_bv, i_lit, b_blit, i_add, i_sub, i_mul, i_div, i_mod, i_tdiv, i_tmod, i_ite, b_ite, b_lt, b_le, b_eq, b_not, b_and, b_or, b_iff, i_sel, a_tab, i_pow2, List.getD_cons_zero, List.getD_cons_succ, decide_eq_true_eq, decide_eq_false_iff_not, Bool.and_eq_true, Bool.or_eq_true, Bool.not_eq_true', Bool.not_eq_false', Bool.and_eq_false_iff, Bool.or_eq_false_iff, Bool.not_not, ite_tt, ite_ff, iff_tt, iff_ff, a_av, a_ite, a_upd, show Int.toNat 0 = 0 from rfl, show Int.toNat 1 = 1 from rfl, show Int.toNat 2 = 2 from rfl] at hc0 hc2 hc4
          simp only [en_J0, en_0, en_1, en_2, en_3, en_4, en_5, en_6, en_7, en_8, en_9, en_10, en_11, en_12, en_13, en_14, en_15, en_16, en_17, en_18, en_19, en_20, en_21, en_22, en_23, en_24, en_25, en_26, en_27, en_28, en_29, en_30, en_31, en_32, en_33, en_34, en_35, en_36, en_37, en_38, en_39, en_40, en_41, en_42, en_43, en_44, en_45, en_46, en_47, en_48, en_49, en_50, en_51, en_52, en_53, i_v, b_bv, i_lit, b_blit, i_add, i_sub, i_mul, i_div, i_mod, i_tdiv, i_tmod, i_ite, b_ite, b_lt, b_le, b_eq, b_not, b_and, b_or, b_iff, i_sel, a_tab, i_pow2, List.getD_cons_zero, List.getD_cons_succ, decide_eq_true_eq, decide_eq_false_iff_not, Bool.and_eq_true, Bool.or_eq_true, Bool.not_eq_true', Bool.not_eq_false', Bool.and_eq_false_iff, Bool.or_eq_false_iff, Bool.not_not, ite_tt, ite_ff, iff_tt, iff_ff, a_av, a_ite, a_upd, show Int.toNat 0 = 0 from rfl, show Int.toNat 1 = 1 from rfl, show Int.toNat 2 = 2 from rfl]
          refine ⟨?_, ?_, ?_, ?_, ?_, ?_, ?_, ?_, ?_, ?_, ?_, ?_, ?_, ?_, ?_, trivial⟩
          all_goals first | omega | (intro j; have r0 := m0 j; have r1 := m1 j; have r2 := m2 j; have r3 := m3 j; have r4 := m4 j; have r5 := m5 j; (repeat' split) <;> first | omega | simp) | ((repeat' split) <;> first | omega | simp_all | (simp at *; omega))
        simp only [en_Base] at hB
        obtain ⟨hb0, hb1, hb2, _⟩ := hB
        simp only [en_J1] at hJ
        obtain ⟨l0, l1, l2, m0, m1, m2, m3, m4, m5, i0, i1, i2, i3, i4, i5, i6, i7, i8, _⟩ := hJ
        simp only [en_0, en_1, en_2, en_3, en_4, en_5, en_6, en_7, en_8, en_9, en_10, en_11, en_12, en_13, en_14, en_15, en_16, en_17, en_18, en_19, en_20, en_21, en_22, en_23, en_24, en_25, en_26, en_27, en_28, en_29, en_30, en_31, en_32, en_33, en_34, en_35, en_36, en_37, en_38, en_39, en_40, en_41, en_42, en_43, en_44, en_45, en_46, en_47, en_48, en_49, en_50, en_51, en_52, en_53, i_v, b_bv, i_lit, b_blit, i_add, i_sub, i_mul, i_div, i_mod, i_tdiv, i_tmod, i_ite, b_ite, b_lt, b_le, b_eq, b_not, b_and, b_or, b_iff, i_sel, a_tab, i_pow2, List.getD_cons_zero, List.getD_cons_succ, decide_eq_true_eq, decide_eq_false_iff_not, Bool.and_eq_true, Bool.or_eq_true, Bool.not_eq_true', Bool.not_eq_false', Bool.and_eq_false_iff, Bool.or_eq_false_iff, Bool.not_not, ite_tt, ite_ff, iff_tt, iff_ff, a_av, a_ite, a_upd, show Int.toNat 0 = 0 from rfl, show Int.toNat 1 = 1 from rfl, show Int.toNat 2 = 2 from rfl] at hc0 hc2 hc4
        simp only [en_mu, Env.app, setAll, List.map_cons, List.map_nil, List.set, List.getD_cons_zero, List.getD_cons_succ, en_0, en_1, en_2, en_3, en_4, en_5, en_6, en_7, en_8, en_9, en_10, en_11, en_12, en_13, en_14, en_15, en_16, en_17, en_18, en_19, en_20, en_21, en_22, en_23, en_24, en_25, en_26, en_27, en_28, en_29, en_30, en_31, en_32, en_33, en_34, en_35, en_36, en_37, en_38, en_39, en_40, en_41, en_42, en_43, en_44, en_45, en_46, en_47, en_48, en_49, en_50, en_51, en_52, en_53, i_v, b_bv, i_lit, b_blit, i_add, i_sub, i_mul, i_div, i_mod, i_tdiv, i_tmod, i_ite, b_ite, b_lt, b_le, b_eq, b_not, b_and, b_or, b_iff, i_sel, a_tab, i_pow2, List.getD_cons_zero, List.getD_cons_succ, decide_eq_true_eq, decide_eq_false_iff_not, Bool.and_eq_true, Bool.or_eq_true, Bool.not_eq_true', Bool.not_eq_false', Bool.and_eq_false_iff, Bool.or_eq_false_iff, Bool.not_not, ite_tt, ite_ff, iff_tt, iff_ff, a_av, a_ite, a_upd]
        first | omega | ((repeat' split at i5) <;> omega)
theorem en_vcS (a0 a1 a2 : Int) (hB : en_Base a0 a1 a2) :
    LT.holds (⟨[a0, a1, a2, 0, 0, 0], [], [fun _ => 0, fun _ => 0, fun _ => 0, fun _ => 0, fun _ => 0, fun _ => 0], [], Iv (fun _ _ => Ext.none)⟩ : Env) (fun v _ => retTrue (⟨[a0, a1, a2, 0, 0, 0], [], [fun _ => 0, fun _ => 0, fun _ => 0, fun _ => 0, fun _ => 0, fun _ => 0], [], Iv (fun _ _ => Ext.none)⟩ : Env) v) (fun j' todo ρ' => (en_hs[j']?.map (·.todo)) = some todo ∧ en_Inv j' ρ') (.jump 0 en_T0 ⟨[(4, (.lit 0))], [], [(5, en_3), (4, en_3), (3, (.tab []))]⟩) := by
  simp only [LT.holds, retTrue]
  refine ⟨rfl, _, _, _, _, _, _, _, _, _, _, _, _, rfl, hB, ?_⟩
  ·
    simp only [en_Base] at hB
    obtain ⟨hb0, hb1, hb2, _⟩ := hB
    simp only [en_J0, en_0, en_1, en_2, en_3, en_4, en_5, en_6, en_7, en_8, en_9, en_10, en_11, en_12, en_13, en_14, en_15, en_16, en_17, en_18, en_19, en_20, en_21, en_22, en_23, en_24, en_25, en_26, en_27, en_28, en_29, en_30, en_31, en_32, en_33, en_34, en_35, en_36, en_37, en_38, en_39, en_40, en_41, en_42, en_43, en_44, en_45, en_46, en_47, en_48, en_49, en_50, en_51, en_52, en_53, i_v, b_bv, i_lit, b_blit, i_add, i_sub, i_mul, i_div, i_mod, i_tdiv, i_tmod, i_ite, b_ite, b_lt, b_le, b_eq, b_not, b_and, b_or, b_iff, i_sel, a_tab, i_pow2, List.getD_cons_zero, List.getD_cons_succ, decide_eq_true_eq, decide_eq_false_iff_not, Bool.and_eq_true, Bool.or_eq_true, Bool.not_eq_true', Bool.not_eq_false', Bool.and_eq_false_iff, Bool.or_eq_false_iff, Bool.not_not, ite_tt, ite_ff, iff_tt, iff_ff, a_av, a_ite, a_upd, show Int.toNat 0 = 0 from rfl, show Int.toNat 1 = 1 from rfl, show Int.toNat 2 = 2 from rfl]
    refine ⟨?_, ?_, ?_, ?_, ?_, ?_, ?_, ?_, ?_, ?_, ?_, ?_, ?_, ?_, ?_, trivial⟩
    all_goals first | omega | (intro j; (repeat' split) <;> first | omega | simp) | ((repeat' split) <;> first | omega | simp_all | (simp at *; omega))
theorem en_calls (a0 : Int) (w0 : (Lit.int .i64 a0).wf = true) (a1 : Int) (w1 : (Lit.int .u8 a1).wf = true) (a2 : Int) (w2 : -9223372036854775808 ≤ a2 ∧ a2 ≤ -1) (w : World) :
    Calls Try.prog 4 #[.int .i64 a0, .int .u8 a1, .int .i64 a2] w fun r w' => r = .returned (.bool true) ∧ Below w.heap.size w w' := by
  have hargs : (en_Ls.map (SV.conc (⟨[a0, a1, a2, 0, 0, 0], [], [fun _ => 0, fun _ => 0, fun _ => 0, fun _ => 0, fun _ => 0, fun _ => 0], [], Iv (fun _ _ => Ext.none)⟩ : Env) Loc.id)).toArray = #[.int .i64 a0, .int .u8 a1, .int .i64 a2] := by
    refine congrArg List.toArray ?_
    exact (cons_eq rfl (cons_eq rfl (cons_eq rfl rfl)))
  rw [← hargs]
  have hok : Hyp.ok en_Hy (⟨[a0, a1, a2, 0, 0, 0], [], [fun _ => 0, fun _ => 0, fun _ => 0, fun _ => 0, fun _ => 0, fun _ => 0], [], Iv (fun _ _ => Ext.none)⟩ : Env) := by
    refine ⟨?_, ?_, ?_, by simp [en_Hy], ?_, by simp [en_Hy]⟩
    · simp [en_Hy]
    · intro p hp
      simp only [en_Hy, List.mem_cons, List.not_mem_nil, or_false] at hp
      rcases hp with rfl | rfl | rfl
      · exact bounds_i64 w0
      · exact bounds_u8 w1
      · exact w2
    · simp [en_Hy]
    · simp [en_Hy]
  refine law_loops (D := en_D) (hs := en_hs) (ρ := (⟨[a0, a1, a2, 0, 0, 0], [], [fun _ => 0, fun _ => 0, fun _ => 0, fun _ => 0, fun _ => 0, fun _ => 0], [], Iv (fun _ _ => Ext.none)⟩ : Env)) (G_ok _) (by kernel_rfl) rfl (en_Inv ) en_mu en_st rfl ⟨rfl, rfl, rfl⟩ hok (en_vcS (a0) (a1) (a2) ⟨bounds_i64 w0, bounds_u8 w1, w2, trivial⟩) ?_ w (fun i j => Ext.none_ok _)
  intro j h ρ hj hI hz hInv
  rcases j with _ | _ | j
  · simp only [en_hs, List.getElem?_cons_zero, List.getElem?_cons_succ, Option.some.injEq] at hj; subst hj
    obtain ⟨a0, a1, a2, x3, x4, x5, Z0, Z1, Z2, Z3, Z4, Z5, rfl, hB, hJ⟩ := hInv
    refine ⟨?_, _, en_sg0, en_vc0 a0 a1 a2 x3 x4 x5 Z0 Z1 Z2 Z3 Z4 Z5 hB hJ⟩
    have hB2 := hB; have hJ2 := hJ
    simp only [en_Base] at hB2; simp only [en_J0] at hJ2
    obtain ⟨hb0, hb1, hb2, _⟩ := hB2
    obtain ⟨hl0, hl1, hl2, hl3, hl4, hl5, hl6, hl7, hl8, hx, _⟩ := hJ2
    refine ⟨?_, ?_, ?_, by simp [en_h0], ?_, by simp [en_h0]⟩
    · simp [en_h0]
    · intro p hp
      simp only [en_h0, List.mem_cons, List.not_mem_nil, or_false] at hp
      rcases hp with rfl | rfl | rfl | rfl | rfl | rfl
      · exact hb0
      · exact hb1
      · exact hb2
      · exact hl0
      · exact hl1
      · exact hl2
    · intro p hp
      simp only [en_h0, List.mem_cons, List.not_mem_nil, or_false] at hp
      rcases hp with rfl | rfl | rfl | rfl | rfl | rfl
      · exact hl3
      · exact hl4
      · exact hl5
      · exact hl6
      · exact hl7
      · exact hl8
    · simp [en_h0]
  · simp only [en_hs, List.getElem?_cons_zero, List.getElem?_cons_succ, Option.some.injEq] at hj; subst hj
    obtain ⟨a0, a1, a2, x3, x4, x5, Z0, Z1, Z2, Z3, Z4, Z5, rfl, hB, hJ⟩ := hInv
    refine ⟨?_, _, en_sg1, en_vc1 a0 a1 a2 x3 x4 x5 Z0 Z1 Z2 Z3 Z4 Z5 hB hJ⟩
    have hB2 := hB; have hJ2 := hJ
    simp only [en_Base] at hB2; simp only [en_J1] at hJ2
    obtain ⟨hb0, hb1, hb2, _⟩ := hB2
    obtain ⟨hl0, hl1, hl2, hl3, hl4, hl5, hl6, hl7, hl8, hx, _⟩ := hJ2
    refine ⟨?_, ?_, ?_, by simp [en_h1], ?_, by simp [en_h1]⟩
    · simp [en_h1]
    · intro p hp
      simp only [en_h1, List.mem_cons, List.not_mem_nil, or_false] at hp
      rcases hp with rfl | rfl | rfl | rfl | rfl | rfl
      · exact hb0
      · exact hb1
      · exact hb2
      · exact hl0
      · exact hl1
      · exact hl2
    · intro p hp
      simp only [en_h1, List.mem_cons, List.not_mem_nil, or_false] at hp
      rcases hp with rfl | rfl | rfl | rfl | rfl | rfl
      · exact hl3
      · exact hl4
      · exact hl5
      · exact hl6
      · exact hl7
      · exact hl8
    · simp [en_h1]
  · simp [en_hs] at hj
end Go.Proofs.Ytngbibifiadgiaa.TickTimes
