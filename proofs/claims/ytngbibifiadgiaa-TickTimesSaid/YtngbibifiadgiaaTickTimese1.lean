/- A part of the law TickTimes, which returns true for every input. A timer that is on has made its tally one more behind each period times its target cycles, and not ahead of that; what was read is gone. No condition. -/
import Derived.Test.YtngbibifiadgiaaTickTimes0
namespace Go.Proofs.Ytngbibifiadgiaa.TickTimes
open Go.Sx Go.ChangeShapes Go.WideShapes Go.ChangeAt Go.RowKit
set_option linter.unusedVariables false
set_option linter.unusedSimpArgs false
set_option maxRecDepth 100000
def e1_Hy : Hyp := ⟨[(.v 0, (0, 255)), (.v 1, (0, 40))], [], [], [], [], []⟩
def e1_Ls : List SV := [.s (.int .i64 (.lit (1))), .s (.int .u8 (.v 0)), .s (.int .i64 (.v 1))]
def e1_0 : E := .eq (.v 0) (.lit 0)
def e1_1 : E := .ite e1_0 (.lit 256) (.v 0)
def e1_2 : E := .upd (.tab []) (.lit 1) (.v 0)
def e1_3 : E := .upd (.tab []) (.lit 1) (.lit 0)
def e1_4 : E := .lt (.v 3) (.v 1)
def e1_5 : E := .sel (.av 5) (.lit 2)
def e1_6 : E := .eq e1_5 (.lit 0)
def e1_7 : E := .upd (.av 5) (.lit 2) (.lit 0)
def e1_8 : E := .mul e1_1 (.lit 128)
def e1_9 : E := .add e1_8 (.lit (-1))
def e1_10 : E := .lt (.v 2) e1_9
def e1_11 : E := .add (.v 2) (.lit 1)
def e1_12 : E := .sel (.av 0) (.lit 1)
def e1_13 : E := .add e1_12 (.lit 1)
def e1_14 : E := .div e1_13 (.lit 128)
def e1_15 : E := .mod e1_14 (.lit 2)
def e1_16 : E := .eq e1_15 (.lit 0)
def e1_17 : E := .sel (.av 2) (.lit 1)
def e1_18 : E := .sel (.av 1) (.lit 1)
def e1_19 : E := .add e1_18 (.lit 1)
def e1_20 : E := .mod e1_19 (.lit 256)
def e1_21 : E := .eq e1_20 (.v 0)
def e1_22 : E := .add e1_17 (.lit 1)
def e1_23 : E := .mod e1_22 (.lit 16)
def e1_24 : E := .ite e1_21 e1_23 e1_17
def e1_25 : E := .ite e1_16 e1_17 e1_24
def e1_26 : E := .upd (.av 2) (.lit 1) e1_25
def e1_27 : E := .ite e1_21 (.lit 0) e1_20
def e1_28 : E := .ite e1_16 e1_18 e1_27
def e1_29 : E := .upd (.av 1) (.lit 1) e1_28
def e1_30 : E := .sel (.av 0) (.lit 0)
def e1_31 : E := .add e1_30 (.lit 1)
def e1_32 : E := .div e1_31 (.lit 128)
def e1_33 : E := .mod e1_32 (.lit 2)
def e1_34 : E := .eq e1_33 (.lit 0)
def e1_35 : E := .mod e1_31 (.lit 256)
def e1_36 : E := .ite e1_34 e1_35 (.lit 0)
def e1_37 : E := .upd (.av 0) (.lit 0) e1_36
def e1_38 : E := .mod e1_13 (.lit 256)
def e1_39 : E := .ite e1_16 e1_38 (.lit 0)
def e1_40 : E := .upd e1_37 (.lit 1) e1_39
def e1_41 : E := .sel (.av 0) (.lit 2)
def e1_42 : E := .add e1_41 (.lit 1)
def e1_43 : E := .mod e1_42 (.lit 256)
def e1_44 : E := .le e1_43 (.lit 15)
def e1_45 : E := .ite e1_44 e1_43 (.lit 0)
def e1_46 : E := .upd e1_40 (.lit 2) e1_45
def e1_47 : E := .eq e1_17 (.lit 0)
def e1_48 : E := .not e1_47
def e1_49 : E := .upd (.av 2) (.lit 1) (.lit 0)
def e1_50 : E := .ite e1_21 (.lit 1) (.lit 0)
def e1_51 : E := .ite e1_16 (.lit 0) e1_50
def e1_52 : E := .eq e1_51 (.lit 0)
def e1_53 : E := .add (.v 4) (.lit 1)
noncomputable def e1_T0 : List Item := todoS Try.prog G Gh [] 3000 0 4 e1_Hy e1_Ls [] 15
noncomputable def e1_h0 : Head := ⟨15, e1_T0, ⟨[((.v 0), (0, 255)), ((.v 1), (0, 40)), ((.v 2), (0, 32768)), ((.v 3), (0, 41)), ((.v 4), (0, 41))], [(0, (0, 255)), (1, (0, 255)), (2, (0, 255)), (3, (0, 255)), (4, (0, 255)), (5, (0, 255))], [], [], [], []⟩, [⟨10, [], .s (.int .i64 (.v 3))⟩, ⟨9, [], .s (.ptr 0 (.lit 0))⟩, ⟨8, [], .s (.int .i64 e1_1)⟩, ⟨7, [], .s (.int .i64 (.lit 128))⟩, ⟨0, [], .s (.int .i64 (.lit 1))⟩, ⟨2, [], .s (.int .i64 (.v 1))⟩], [⟨68, [.one (.int .u8 (.lit 2)), .rows (.lit 3) [(some .u8, e1_2), (some .u8, (.av 3)), (some .u8, (.av 4)), (some .u8, (.av 5))] 0, .run .u8 (.lit 4) (.tab []) 0, .run .u8 (.lit 4) (.tab []) 0, .run .u8 (.lit 2) (.tab []) 0], true, none, false⟩]⟩
noncomputable def e1_T1 : List Item := todoH Try.prog G Gh [] 3000 0 4 e1_h0 18
noncomputable def e1_h1 : Head := ⟨18, e1_T1, ⟨[((.v 0), (0, 255)), ((.v 1), (0, 40)), ((.v 2), (0, 32768)), ((.v 3), (0, 41)), ((.v 4), (0, 41))], [(0, (0, 255)), (1, (0, 255)), (2, (0, 255)), (3, (0, 255)), (4, (0, 255)), (5, (0, 255))], [], [], [], []⟩, [⟨11, [], .s (.int .i64 (.v 2))⟩, ⟨10, [], .s (.int .i64 (.v 4))⟩, ⟨9, [], .s (.ptr 0 (.lit 0))⟩, ⟨8, [], .s (.int .i64 e1_1)⟩, ⟨7, [], .s (.int .i64 (.lit 128))⟩, ⟨0, [], .s (.int .i64 (.lit 1))⟩, ⟨2, [], .s (.int .i64 (.v 1))⟩], [⟨68, [.one (.int .u8 (.lit 2)), .rows (.lit 3) [(some .u8, e1_2), (some .u8, (.av 0)), (some .u8, (.av 1)), (some .u8, (.av 2))] 0, .run .u8 (.lit 4) (.tab []) 0, .run .u8 (.lit 4) (.tab []) 0, .run .u8 (.lit 2) (.tab []) 0], true, none, false⟩]⟩
noncomputable def e1_hs : List Head := [e1_h0, e1_h1]
def e1_D : Dim := ⟨5, 0, 6, 2, 0, 0, 0⟩
theorem e1_st : startL Try.prog G Gh e1_D e1_hs [] 3000 0 4 e1_Hy e1_Ls [] = some (.jump 0 e1_T0 ⟨[(3, (.lit 0))], [], [(5, e1_3), (4, e1_3), (3, (.tab []))]⟩) := by kernel_rfl
theorem e1_sg0 : segL Try.prog G Gh e1_D e1_hs [] 3000 0 4 e1_h0 = some (.ite e1_4 (.jump 1 e1_T1 ⟨[(4, (.v 3)), (2, (.lit 0))], [], [(2, (.av 5)), (1, (.av 4)), (0, (.av 3))]⟩) (.ret (.s (.bool e1_6)) [⟨68, [.one (.int .u8 (.lit 2)), .rows (.lit 3) [(some .u8, e1_2), (some .u8, (.av 3)), (some .u8, (.av 4)), (some .u8, e1_7)] 0, .run .u8 (.lit 4) (.tab []) 0, .run .u8 (.lit 4) (.tab []) 0, .run .u8 (.lit 2) (.tab []) 0], true, none, false⟩])) := by kernel_rfl
theorem e1_sg1 : segL Try.prog G Gh e1_D e1_hs [] 3000 0 4 e1_h1 = some (.ite e1_10 (.jump 1 e1_T1 ⟨[(4, (.v 4)), (2, e1_11)], [], [(2, e1_26), (1, e1_29), (0, e1_46)]⟩) (.ite e1_48 (.ret (.s (.bool (.blit false))) [⟨68, [.one (.int .u8 (.lit 2)), .rows (.lit 3) [(some .u8, e1_2), (some .u8, (.av 0)), (some .u8, (.av 1)), (some .u8, e1_49)] 0, .run .u8 (.lit 4) (.tab []) 0, .run .u8 (.lit 4) (.tab []) 0, .run .u8 (.lit 2) (.tab []) 0], true, none, false⟩]) (.ite e1_52 (.ret (.s (.bool (.blit false))) [⟨68, [.one (.int .u8 (.lit 2)), .rows (.lit 3) [(some .u8, e1_2), (some .u8, e1_46), (some .u8, e1_29), (some .u8, e1_49)] 0, .run .u8 (.lit 4) (.tab []) 0, .run .u8 (.lit 4) (.tab []) 0, .run .u8 (.lit 2) (.tab []) 0], true, none, false⟩]) (.jump 0 e1_T0 ⟨[(3, e1_53)], [], [(5, e1_49), (4, e1_29), (3, e1_46)]⟩)))) := by kernel_rfl
def e1_Base (a1 a2 : Int) : Prop := (0 ≤ a1 ∧ a1 ≤ 255) ∧ (0 ≤ a2 ∧ a2 ≤ 40) ∧ True
def e1_J0 (a1 a2 x2 x3 x4 : Int) (Z0 Z1 Z2 Z3 Z4 Z5 : Nat → Int) : Prop := (0 ≤ x2 ∧ x2 ≤ 32768) ∧ (0 ≤ x3 ∧ x3 ≤ 41) ∧ (0 ≤ x4 ∧ x4 ≤ 41) ∧ (∀ j, 0 ≤ Z0 j ∧ Z0 j ≤ 255) ∧ (∀ j, 0 ≤ Z1 j ∧ Z1 j ≤ 255) ∧ (∀ j, 0 ≤ Z2 j ∧ Z2 j ≤ 255) ∧ (∀ j, 0 ≤ Z3 j ∧ Z3 j ≤ 255) ∧ (∀ j, 0 ≤ Z4 j ∧ Z4 j ≤ 255) ∧ (∀ j, 0 ≤ Z5 j ∧ Z5 j ≤ 255) ∧ Z3 1 = 0 ∧ Z4 1 = 0 ∧ Z5 1 = 0 ∧ Z5 2 = 0 ∧ 0 ≤ x3 ∧ x3 ≤ a2 ∧ True
def e1_J1 (a1 a2 x2 x3 x4 : Int) (Z0 Z1 Z2 Z3 Z4 Z5 : Nat → Int) : Prop := (0 ≤ x2 ∧ x2 ≤ 32768) ∧ (0 ≤ x3 ∧ x3 ≤ 41) ∧ (0 ≤ x4 ∧ x4 ≤ 41) ∧ (∀ j, 0 ≤ Z0 j ∧ Z0 j ≤ 255) ∧ (∀ j, 0 ≤ Z1 j ∧ Z1 j ≤ 255) ∧ (∀ j, 0 ≤ Z2 j ∧ Z2 j ≤ 255) ∧ (∀ j, 0 ≤ Z3 j ∧ Z3 j ≤ 255) ∧ (∀ j, 0 ≤ Z4 j ∧ Z4 j ≤ 255) ∧ (∀ j, 0 ≤ Z5 j ∧ Z5 j ≤ 255) ∧ Z1 1 * 128 + Z0 1 = x2 ∧ Z0 1 ≤ 127 ∧ Z2 1 = 0 ∧ Z2 2 = 0 ∧ 0 ≤ x2 ∧ x2 ≤ (if a1 = 0 then 256 else a1) * 128 - 1 ∧ 0 ≤ x4 ∧ x4 < a2 ∧ True
def e1_Inv : Nat → Env → Prop
  | 0, ρ => ∃ (a1 a2 x2 x3 x4 : Int) (Z0 Z1 Z2 Z3 Z4 Z5 : Nat → Int), ρ = (⟨[a1, a2, x2, x3, x4], [], [Z0, Z1, Z2, Z3, Z4, Z5], [], Iv (fun _ _ => Ext.none)⟩ : Env) ∧ e1_Base a1 a2 ∧ e1_J0 a1 a2 x2 x3 x4 Z0 Z1 Z2 Z3 Z4 Z5
  | 1, ρ => ∃ (a1 a2 x2 x3 x4 : Int) (Z0 Z1 Z2 Z3 Z4 Z5 : Nat → Int), ρ = (⟨[a1, a2, x2, x3, x4], [], [Z0, Z1, Z2, Z3, Z4, Z5], [], Iv (fun _ _ => Ext.none)⟩ : Env) ∧ e1_Base a1 a2 ∧ e1_J1 a1 a2 x2 x3 x4 Z0 Z1 Z2 Z3 Z4 Z5
  | _, _ => False
def e1_mu : Nat → Env → Nat := fun j ρ => match j with | 0 => ((41 - ρ.i.getD 3 0) * 40000).toNat | _ => ((40 - ρ.i.getD 4 0) * 40000 + 33000 - ρ.i.getD 2 0).toNat
theorem e1_vc0 (a1 a2 x2 x3 x4 : Int) (Z0 Z1 Z2 Z3 Z4 Z5 : Nat → Int) (hB : e1_Base a1 a2) (hJ : e1_J0 a1 a2 x2 x3 x4 Z0 Z1 Z2 Z3 Z4 Z5) :
    LT.holds (⟨[a1, a2, x2, x3, x4], [], [Z0, Z1, Z2, Z3, Z4, Z5], [], Iv (fun _ _ => Ext.none)⟩ : Env) (fun v _ => retTrue (⟨[a1, a2, x2, x3, x4], [], [Z0, Z1, Z2, Z3, Z4, Z5], [], Iv (fun _ _ => Ext.none)⟩ : Env) v) (fun j' todo ρ' => (e1_hs[j']?.map (·.todo)) = some todo ∧ e1_Inv j' ρ' ∧ e1_mu j' ρ' < e1_mu 0 (⟨[a1, a2, x2, x3, x4], [], [Z0, Z1, Z2, Z3, Z4, Z5], [], Iv (fun _ _ => Ext.none)⟩ : Env)) (.ite e1_4 (.jump 1 e1_T1 ⟨[(4, (.v 3)), (2, (.lit 0))], [], [(2, (.av 5)), (1, (.av 4)), (0, (.av 3))]⟩) (.ret (.s (.bool e1_6)) [⟨68, [.one (.int .u8 (.lit 2)), .rows (.lit 3) [(some .u8, e1_2), (some .u8, (.av 3)), (some .u8, (.av 4)), (some .u8, e1_7)] 0, .run .u8 (.lit 4) (.tab []) 0, .run .u8 (.lit 4) (.tab []) 0, .run .u8 (.lit 2) (.tab []) 0], true, none, false⟩])) := by
  simp only [LT.holds, retTrue]
  refine ⟨fun hc0 => ?_, fun hc0 => ?_⟩
  ·
    refine ⟨rfl, ⟨_, _, _, _, _, _, _, _, _, _, _, rfl, hB, ?_⟩, ?_⟩
    ·
      simp only [e1_Base] at hB
      obtain ⟨hb0, hb1, _⟩ := hB
      simp only [e1_J0] at hJ
      obtain ⟨l0, l1, l2, m0, m1, m2, m3, m4, m5, i0, i1, i2, i3, i4, i5, i6, _⟩ := hJ
      have q00 := m0 0
      have q01 := m0 1
      have q02 := m0 2
      have q10 := m1 0
      have q11 := m1 1
      have q12 := m1 2
      have q20 := m2 0
      have q21 := m2 1
      have q22 := m2 2
      have q30 := m3 0
      have q31 := m3 1
      have q32 := m3 2
      have q40 := m4 0
      have q41 := m4 1
      have q42 := m4 2
      have q50 := m5 0
      have q51 := m5 1
      have q52 := m5 2
      simp only [e1_0, e1_1, e1_2, e1_3, e1_4, e1_5, e1_6, e1_7, e1_8, e1_9, e1_10, e1_11, e1_12, e1_13, e1_14, e1_15, e1_16, e1_17, e1_18, e1_19, e1_20, e1_21, e1_22, e1_23, e1_24, e1_25, e1_26, e1_27, e1_28, e1_29, e1_30, e1_31, e1_32, e1_33, e1_34, e1_35, e1_36, e1_37, e1_38, e1_39, e1_40, e1_41, e1_42, e1_43, e1_44, e1_45, e1_46, e1_47, e1_48, e1_49, e1_50, e1_51, e1_52, e1_53, i_v, b_bv, i_lit, b_blit, i_add, i_sub, i_mul, i_div, i_mod, i_tdiv, i_tmod, i_ite, b_ite, b_lt, b_le, b_eq, b_not, b_and, b_or, b_iff, i_sel, a_tab, i_pow2, List.getD_cons_zero, List.getD_cons_succ, decide_eq_true_eq, decide_eq_false_iff_not, Bool.and_eq_true, Bool.or_eq_true, Bool.not_eq_true', Bool.not_eq_false', Bool.and_eq_false_iff, Bool.or_eq_false_iff, Bool.not_not, ite_tt, ite_ff, iff_tt, iff_ff, a_av, a_ite, a_upd, show Int.toNat 0 = 0 from rfl, show Int.toNat 1 = 1 from rfl, show Int.toNat 2 = 2 from rfl] at hc0
      simp only [e1_J1, e1_0, e1_1, e1_2, e1_3, e1_4, e1_5, e1_6, e1_7, e1_8, e1_9, e1_10, e1_11, e1_12, e1_13, e1_14, e1_15, e1_16, e1_17, e1_18, e1_19, e1_20, e1_21, e1_22, e1_23, e1_24, e1_25, e1_26, e1_27, e1_28, e1_29, e1_30, e1_31, e1_32, e1_33, e1_34, e1_35, e1_36, e1_37, e1_38, e1_39, e1_40, e1_41, e1_42, e1_43, e1_44, e1_45, e1_46, e1_47, e1_48, e1_49, e1_50, e1_51, e1_52, e1_53, i_v, b_bv, i_lit, b_blit, i_add, i_sub, i_mul, i_div, i_mod, i_tdiv, i_tmod, i_ite, b_ite, b_lt, b_le, b_eq, b_not, b_and, b_or, b_iff, i_sel, a_tab, i_pow2, List.getD_cons_zero, List.getD_cons_succ, decide_eq_true_eq, decide_eq_false_iff_not, Bool.and_eq_true, Bool.or_eq_true, Bool.not_eq_true', Bool.not_eq_false', Bool.and_eq_false_iff, Bool.or_eq_false_iff, Bool.not_not, ite_tt, ite_ff, iff_tt, iff_ff, a_av, a_ite, a_upd, show Int.toNat 0 = 0 from rfl, show Int.toNat 1 = 1 from rfl, show Int.toNat 2 = 2 from rfl]
      refine ⟨?_, ?_, ?_, ?_, ?_, ?_, ?_, ?_, ?_, ?_, ?_, ?_, ?_, ?_, ?_, ?_, ?_, trivial⟩
      all_goals first | omega | (intro j; have r0 := m0 j; have r1 := m1 j; have r2 := m2 j; have r3 := m3 j; have r4 := m4 j; have r5 := m5 j; (repeat' split) <;> first | omega | simp) | ((repeat' split) <;> first | omega | simp_all | (simp at *; omega))
    simp only [e1_Base] at hB
    obtain ⟨hb0, hb1, _⟩ := hB
    simp only [e1_J0] at hJ
    obtain ⟨l0, l1, l2, m0, m1, m2, m3, m4, m5, i0, i1, i2, i3, i4, i5, i6, _⟩ := hJ
    simp only [e1_0, e1_1, e1_2, e1_3, e1_4, e1_5, e1_6, e1_7, e1_8, e1_9, e1_10, e1_11, e1_12, e1_13, e1_14, e1_15, e1_16, e1_17, e1_18, e1_19, e1_20, e1_21, e1_22, e1_23, e1_24, e1_25, e1_26, e1_27, e1_28, e1_29, e1_30, e1_31, e1_32, e1_33, e1_34, e1_35, e1_36, e1_37, e1_38, e1_39, e1_40, e1_41, e1_42, e1_43, e1_44, e1_45, e1_46, e1_47, e1_48, e1_49, e1_50, e1_51, e1_52, e1_53, i_v, b_bv, i_lit, b_blit, i_add, i_sub, i_mul, i_div, i_mod, i_tdiv, i_tmod, i_ite, b_ite, b_lt, b_le, b_eq, b_not, b_and, b_or, b_iff, i_sel, a_tab, i_pow2, List.getD_cons_zero, List.getD_cons_succ, decide_eq_true_eq, decide_eq_false_iff_not, Bool.and_eq_true, Bool.or_eq_true, Bool.not_eq_true', Bool.not_eq_false', Bool.and_eq_false_iff, Bool.or_eq_false_iff, Bool.not_not, ite_tt, ite_ff, iff_tt, iff_ff, a_av, a_ite, a_upd, show Int.toNat 0 = 0 from rfl, show Int.toNat 1 = 1 from rfl, show Int.toNat 2 = 2 from rfl] at hc0
    simp only [e1_mu, Env.app, setAll, List.map_cons, List.map_nil, List.set, List.getD_cons_zero, List.getD_cons_succ, e1_0, e1_1, e1_2, e1_3, e1_4, e1_5, e1_6, e1_7, e1_8, e1_9, e1_10, e1_11, e1_12, e1_13, e1_14, e1_15, e1_16, e1_17, e1_18, e1_19, e1_20, e1_21, e1_22, e1_23, e1_24, e1_25, e1_26, e1_27, e1_28, e1_29, e1_30, e1_31, e1_32, e1_33, e1_34, e1_35, e1_36, e1_37, e1_38, e1_39, e1_40, e1_41, e1_42, e1_43, e1_44, e1_45, e1_46, e1_47, e1_48, e1_49, e1_50, e1_51, e1_52, e1_53, i_v, b_bv, i_lit, b_blit, i_add, i_sub, i_mul, i_div, i_mod, i_tdiv, i_tmod, i_ite, b_ite, b_lt, b_le, b_eq, b_not, b_and, b_or, b_iff, i_sel, a_tab, i_pow2, List.getD_cons_zero, List.getD_cons_succ, decide_eq_true_eq, decide_eq_false_iff_not, Bool.and_eq_true, Bool.or_eq_true, Bool.not_eq_true', Bool.not_eq_false', Bool.and_eq_false_iff, Bool.or_eq_false_iff, Bool.not_not, ite_tt, ite_ff, iff_tt, iff_ff, a_av, a_ite, a_upd]
    omega
  ·
    simp only [e1_Base] at hB
    obtain ⟨hb0, hb1, _⟩ := hB
    simp only [e1_J0] at hJ
    obtain ⟨l0, l1, l2, m0, m1, m2, m3, m4, m5, i0, i1, i2, i3, i4, i5, i6, _⟩ := hJ
    simp only [e1_0, e1_1, e1_2, e1_3, e1_4, e1_5, e1_6, e1_7, e1_8, e1_9, e1_10, e1_11, e1_12, e1_13, e1_14, e1_15, e1_16, e1_17, e1_18, e1_19, e1_20, e1_21, e1_22, e1_23, e1_24, e1_25, e1_26, e1_27, e1_28, e1_29, e1_30, e1_31, e1_32, e1_33, e1_34, e1_35, e1_36, e1_37, e1_38, e1_39, e1_40, e1_41, e1_42, e1_43, e1_44, e1_45, e1_46, e1_47, e1_48, e1_49, e1_50, e1_51, e1_52, e1_53, i_v, b_bv, i_lit, b_blit, i_add, i_sub, i_mul, i_div, i_mod, i_tdiv, i_tmod, i_ite, b_ite, b_lt, b_le, b_eq, b_not, b_and, b_or, b_iff, i_sel, a_tab, i_pow2, List.getD_cons_zero, List.getD_cons_succ, decide_eq_true_eq, decide_eq_false_iff_not, Bool.and_eq_true, Bool.or_eq_true, Bool.not_eq_true', Bool.not_eq_false', Bool.and_eq_false_iff, Bool.or_eq_false_iff, Bool.not_not, ite_tt, ite_ff, iff_tt, iff_ff, a_av, a_ite, a_upd, show Int.toNat 0 = 0 from rfl, show Int.toNat 1 = 1 from rfl, show Int.toNat 2 = 2 from rfl]
    exact i3
theorem e1_vc1 (a1 a2 x2 x3 x4 : Int) (Z0 Z1 Z2 Z3 Z4 Z5 : Nat → Int) (hB : e1_Base a1 a2) (hJ : e1_J1 a1 a2 x2 x3 x4 Z0 Z1 Z2 Z3 Z4 Z5) :
    LT.holds (⟨[a1, a2, x2, x3, x4], [], [Z0, Z1, Z2, Z3, Z4, Z5], [], Iv (fun _ _ => Ext.none)⟩ : Env) (fun v _ => retTrue (⟨[a1, a2, x2, x3, x4], [], [Z0, Z1, Z2, Z3, Z4, Z5], [], Iv (fun _ _ => Ext.none)⟩ : Env) v) (fun j' todo ρ' => (e1_hs[j']?.map (·.todo)) = some todo ∧ e1_Inv j' ρ' ∧ e1_mu j' ρ' < e1_mu 1 (⟨[a1, a2, x2, x3, x4], [], [Z0, Z1, Z2, Z3, Z4, Z5], [], Iv (fun _ _ => Ext.none)⟩ : Env)) (.ite e1_10 (.jump 1 e1_T1 ⟨[(4, (.v 4)), (2, e1_11)], [], [(2, e1_26), (1, e1_29), (0, e1_46)]⟩) (.ite e1_48 (.ret (.s (.bool (.blit false))) [⟨68, [.one (.int .u8 (.lit 2)), .rows (.lit 3) [(some .u8, e1_2), (some .u8, (.av 0)), (some .u8, (.av 1)), (some .u8, e1_49)] 0, .run .u8 (.lit 4) (.tab []) 0, .run .u8 (.lit 4) (.tab []) 0, .run .u8 (.lit 2) (.tab []) 0], true, none, false⟩]) (.ite e1_52 (.ret (.s (.bool (.blit false))) [⟨68, [.one (.int .u8 (.lit 2)), .rows (.lit 3) [(some .u8, e1_2), (some .u8, e1_46), (some .u8, e1_29), (some .u8, e1_49)] 0, .run .u8 (.lit 4) (.tab []) 0, .run .u8 (.lit 4) (.tab []) 0, .run .u8 (.lit 2) (.tab []) 0], true, none, false⟩]) (.jump 0 e1_T0 ⟨[(3, e1_53)], [], [(5, e1_49), (4, e1_29), (3, e1_46)]⟩)))) := by
  simp only [LT.holds, retTrue]
  refine ⟨fun hc0 => ?_, fun hc0 => ?_⟩
  ·
    refine ⟨rfl, ⟨_, _, _, _, _, _, _, _, _, _, _, rfl, hB, ?_⟩, ?_⟩
    ·
      simp only [e1_Base] at hB
      obtain ⟨hb0, hb1, _⟩ := hB
      simp only [e1_J1] at hJ
      obtain ⟨l0, l1, l2, m0, m1, m2, m3, m4, m5, i0, i1, i2, i3, i4, i5, i6, i7, i8, _⟩ := hJ
      have q00 := m0 0
      have q01 := m0 1
      have q02 := m0 2
      have q10 := m1 0
      have q11 := m1 1
      have q12 := m1 2
      have q20 := m2 0
      have q21 := m2 1
      have q22 := m2 2
      have q30 := m3 0
      have q31 := m3 1
      have q32 := m3 2
      have q40 := m4 0
      have q41 := m4 1
      have q42 := m4 2
      have q50 := m5 0
      have q51 := m5 1
      have q52 := m5 2
      simp only [e1_0, e1_1, e1_2, e1_3, e1_4, e1_5, e1_6, e1_7, e1_8, e1_9, e1_10, e1_11, e1_12, e1_13, e1_14, e1_15, e1_16, e1_17, e1_18, e1_19, e1_20, e1_21, e1_22, e1_23, e1_24, e1_25, e1_26, e1_27, e1_28, e1_29, e1_30, e1_31, e1_32, e1_33, e1_34, e1_35, e1_36, e1_37, e1_38, e1_39, e1_40, e1_41, e1_42, e1_43, e1_44, e1_45, e1_46, e1_47, e1_48, e1_49, e1_50, e1_51, e1_52, e1_53, i_v, b_bv, i_lit, b_blit, i_add, i_sub, i_mul, i_div, i_mod, i_tdiv, i_tmod, i_ite, b_ite, b_lt, b_le, b_eq, b_not, b_and, b_or, b_iff, i_sel, a_tab, i_pow2, List.getD_cons_zero, List.getD_cons_succ, decide_eq_true_eq, decide_eq_false_iff_not, Bool.and_eq_true, Bool.or_eq_true, Bool.not_eq_true', Bool.not_eq_false', Bool.and_eq_false_iff, Bool.or_eq_false_iff, Bool.not_not, ite_tt, ite_ff, iff_tt, iff_ff, a_av, a_ite, a_upd, show Int.toNat 0 = 0 from rfl, show Int.toNat 1 = 1 from rfl, show Int.toNat 2 = 2 from rfl] at hc0
      simp only [e1_J1, e1_0, e1_1, e1_2, e1_3, e1_4, e1_5, e1_6, e1_7, e1_8, e1_9, e1_10, e1_11, e1_12, e1_13, e1_14, e1_15, e1_16, e1_17, e1_18, e1_19, e1_20, e1_21, e1_22, e1_23, e1_24, e1_25, e1_26, e1_27, e1_28, e1_29, e1_30, e1_31, e1_32, e1_33, e1_34, e1_35, e1_36, e1_37, e1_38, e1_39, e1_40, e1_41, e1_42, e1_43, e1_44, e1_45, e1_46, e1_47, e1_48, e1_49, e1_50, e1_51, e1_52, e1_53, i_v, b_bv, i_lit, b_blit, i_add, i_sub, i_mul, i_div, i_mod, i_tdiv, i_tmod, i_ite, b_ite, b_lt, b_le, b_eq, b_not, b_and, b_or, b_iff, i_sel, a_tab, i_pow2, List.getD_cons_zero, List.getD_cons_succ, decide_eq_true_eq, decide_eq_false_iff_not, Bool.and_eq_true, Bool.or_eq_true, Bool.not_eq_true', Bool.not_eq_false', Bool.and_eq_false_iff, Bool.or_eq_false_iff, Bool.not_not, ite_tt, ite_ff, iff_tt, iff_ff, a_av, a_ite, a_upd, show Int.toNat 0 = 0 from rfl, show Int.toNat 1 = 1 from rfl, show Int.toNat 2 = 2 from rfl]
      refine ⟨?_, ?_, ?_, ?_, ?_, ?_, ?_, ?_, ?_, ?_, ?_, ?_, ?_, ?_, ?_, ?_, ?_, trivial⟩
      all_goals first | omega | (intro j; have r0 := m0 j; have r1 := m1 j; have r2 := m2 j; have r3 := m3 j; have r4 := m4 j; have r5 := m5 j; (repeat' split) <;> first | omega | simp) | ((repeat' split) <;> first | omega | simp_all | (simp at *; omega))
    simp only [e1_Base] at hB
    obtain ⟨hb0, hb1, _⟩ := hB
    simp only [e1_J1] at hJ
    obtain ⟨l0, l1, l2, m0, m1, m2, m3, m4, m5, i0, i1, i2, i3, i4, i5, i6, i7, i8, _⟩ := hJ
    simp only [e1_0, e1_1, e1_2, e1_3, e1_4, e1_5, e1_6, e1_7, e1_8, e1_9, e1_10, e1_11, e1_12, e1_13, e1_14, e1_15, e1_16, e1_17, e1_18, e1_19, e1_20, e1_21, e1_22, e1_23, e1_24, e1_25, e1_26, e1_27, e1_28, e1_29, e1_30, e1_31, e1_32, e1_33, e1_34, e1_35, e1_36, e1_37, e1_38, e1_39, e1_40, e1_41, e1_42, e1_43, e1_44, e1_45, e1_46, e1_47, e1_48, e1_49, e1_50, e1_51, e1_52, e1_53, i_v, b_bv, i_lit, b_blit, i_add, i_sub, i_mul, i_div, i_mod, i_tdiv, i_tmod, i_ite, b_ite, b_lt, b_le, b_eq, b_not, b_and, b_or, b_iff, i_sel, a_tab, i_pow2, List.getD_cons_zero, List.getD_cons_succ, decide_eq_true_eq, decide_eq_false_iff_not, Bool.and_eq_true, Bool.or_eq_true, Bool.not_eq_true', Bool.not_eq_false', Bool.and_eq_false_iff, Bool.or_eq_false_iff, Bool.not_not, ite_tt, ite_ff, iff_tt, iff_ff, a_av, a_ite, a_upd, show Int.toNat 0 = 0 from rfl, show Int.toNat 1 = 1 from rfl, show Int.toNat 2 = 2 from rfl] at hc0
    simp only [e1_mu, Env.app, setAll, List.map_cons, List.map_nil, List.set, List.getD_cons_zero, List.getD_cons_succ, e1_0, e1_1, e1_2, e1_3, e1_4, e1_5, e1_6, e1_7, e1_8, e1_9, e1_10, e1_11, e1_12, e1_13, e1_14, e1_15, e1_16, e1_17, e1_18, e1_19, e1_20, e1_21, e1_22, e1_23, e1_24, e1_25, e1_26, e1_27, e1_28, e1_29, e1_30, e1_31, e1_32, e1_33, e1_34, e1_35, e1_36, e1_37, e1_38, e1_39, e1_40, e1_41, e1_42, e1_43, e1_44, e1_45, e1_46, e1_47, e1_48, e1_49, e1_50, e1_51, e1_52, e1_53, i_v, b_bv, i_lit, b_blit, i_add, i_sub, i_mul, i_div, i_mod, i_tdiv, i_tmod, i_ite, b_ite, b_lt, b_le, b_eq, b_not, b_and, b_or, b_iff, i_sel, a_tab, i_pow2, List.getD_cons_zero, List.getD_cons_succ, decide_eq_true_eq, decide_eq_false_iff_not, Bool.and_eq_true, Bool.or_eq_true, Bool.not_eq_true', Bool.not_eq_false', Bool.and_eq_false_iff, Bool.or_eq_false_iff, Bool.not_not, ite_tt, ite_ff, iff_tt, iff_ff, a_av, a_ite, a_upd]
    first | omega | ((repeat' split at i5) <;> omega)
  ·
    refine ⟨fun hc2 => ?_, fun hc2 => ?_⟩
    ·
      exfalso
      simp only [e1_Base] at hB
      obtain ⟨hb0, hb1, _⟩ := hB
      simp only [e1_J1] at hJ
      obtain ⟨l0, l1, l2, m0, m1, m2, m3, m4, m5, i0, i1, i2, i3, i4, i5, i6, i7, i8, _⟩ := hJ
      simp only [e1_0, e1_1, e1_2, e1_3, e1_4, e1_5, e1_6, e1_7, e1_8, e1_9, e1_10, e1_11, e1_12, e1_13, e1_14, e1_15, e1_16, e1_17, e1_18, e1_19, e1_20, e1_21, e1_22, e1_23, e1_24, e1_25, e1_26, e1_27, e1_28, e1_29, e1_30, e1_31, e1_32, e1_33, e1_34, e1_35, e1_36, e1_37, e1_38, e1_39, e1_40, e1_41, e1_42, e1_43, e1_44, e1_45, e1_46, e1_47, e1_48, e1_49, e1_50, e1_51, e1_52, e1_53, i_v, b_bv, i_lit, b_blit, i_add, i_sub, i_mul, i_div, i_mod, i_tdiv, i_tmod, i_ite, b_ite, b_lt, b_le, b_eq, b_not, b_and, b_or, b_iff, i_sel, a_tab, i_pow2, List.getD_cons_zero, List.getD_cons_succ, decide_eq_true_eq, decide_eq_false_iff_not, Bool.and_eq_true, Bool.or_eq_true, Bool.not_eq_true', Bool.not_eq_false', Bool.and_eq_false_iff, Bool.or_eq_false_iff, Bool.not_not, ite_tt, ite_ff, iff_tt, iff_ff, a_av, a_ite, a_upd, show Int.toNat 0 = 0 from rfl, show Int.toNat 1 = 1 from rfl, show Int.toNat 2 = 2 from rfl] at hc0 hc2
      omega
    ·
      refine ⟨fun hc4 => ?_, fun hc4 => ?_⟩
      ·
        exfalso
        simp only [e1_Base] at hB
        obtain ⟨hb0, hb1, _⟩ := hB
        simp only [e1_J1] at hJ
        obtain ⟨l0, l1, l2, m0, m1, m2, m3, m4, m5, i0, i1, i2, i3, i4, i5, i6, i7, i8, _⟩ := hJ
        have q00 := m0 0
        have q01 := m0 1
        have q02 := m0 2
        have q10 := m1 0
        have q11 := m1 1
        have q12 := m1 2
        have q20 := m2 0
        have q21 := m2 1
        have q22 := m2 2
        have q30 := m3 0
        have q31 := m3 1
        have q32 := m3 2
        have q40 := m4 0
        have q41 := m4 1
        have q42 := m4 2
        have q50 := m5 0
        have q51 := m5 1
        have q52 := m5 2
        simp only [e1_0, e1_1, e1_2, e1_3, e1_4, e1_5, e1_6, e1_7, e1_8, e1_9, e1_10, e1_11, e1_12, e1_13, e1_14, e1_15, e1_16, e1_17, e1_18, e1_19, e1_20, e1_21, e1_22, e1_23, e1_24, e1_25, e1_26, e1_27, e1_28, e1_29, e1_30, e1_31, e1_32, e1_33, e1_34, e1_35, e1_36, e1_37, e1_38, e1_39, e1_40, e1_41, e1_42, e1_43, e1_44, e1_45, e1_46, e1_47, e1_48, e1_49, e1_50, e1_51, e1_52, e1_53, i_v, b_bv, i_lit, b_blit, i_add, i_sub, i_mul, i_div, i_mod, i_tdiv, i_tmod, i_ite, b_ite, b_lt, b_le, b_eq, b_not, b_and, b_or, b_iff, i_sel, a_tab, i_pow2, List.getD_cons_zero, List.getD_cons_succ, decide_eq_true_eq, decide_eq_false_iff_not, Bool.and_eq_true, Bool.or_eq_true, Bool.not_eq_true', Bool.not_eq_false', Bool.and_eq_false_iff, Bool.or_eq_false_iff, Bool.not_not, ite_tt, ite_ff, iff_tt, iff_ff, a_av, a_ite, a_upd, show Int.toNat 0 = 0 from rfl, show Int.toNat 1 = 1 from rfl, show Int.toNat 2 = 2 from rfl] at hc0 hc2 hc4
        repeat' split at i5
        all_goals (first | omega | (repeat' split at hc0 <;> first | omega | (repeat' split at hc4 <;> omega)))
      ·
        refine ⟨rfl, ⟨_, _, _, _, _, _, _, _, _, _, _, rfl, hB, ?_⟩, ?_⟩
        ·
          simp only [e1_Base] at hB
          obtain ⟨hb0, hb1, _⟩ := hB
          simp only [e1_J1] at hJ
          obtain ⟨l0, l1, l2, m0, m1, m2, m3, m4, m5, i0, i1, i2, i3, i4, i5, i6, i7, i8, _⟩ := hJ
          have q00 := m0 0
          have q01 := m0 1
          have q02 := m0 2
          have q10 := m1 0
          have q11 := m1 1
          have q12 := m1 2
          have q20 := m2 0
          have q21 := m2 1
          have q22 := m2 2
          have q30 := m3 0
          have q31 := m3 1
          have q32 := m3 2
          have q40 := m4 0
          have q41 := m4 1
          have q42 := m4 2
          have q50 := m5 0
          have q51 := m5 1
          have q52 := m5 2
          simp only [e1_0, e1_1, e1_2, e1_3, e1_4, e1_5, e1_6, e1_7, e1_8, e1_9, e1_10, e1_11, e1_12, e1_13, e1_14, e1_15, e1_16, e1_17, e1_18, e1_19, e1_20, e1_21, e1_22, e1_23, e1_24, e1_25, e1_26, e1_27, e1_28, e1_29, e1_30, e1_31, e1_32, e1_33, e1_34, e1_35, e1_36, e1_37, e1_38, e1_39, e1_40, e1_41, e1_42, e1_43, e1_44, e1_45, e1_46, e1_47, e1_48, e1_49, e1_50, e1_51, e1_52, e1_53, i_v, b_bv, i_lit, b_blit, i_add, i_sub, i_mul, i_div, i_mod, i_tdiv, i_tmod, i_ite, b_ite, b_lt, b_le, b_eq, b_not, b_and, b_or, b_iff, i_sel, a_tab, i_pow2, List.getD_cons_zero, List.getD_cons_succ, decide_eq_true_eq, decide_eq_false_iff_not, Bool.and_eq_true, Bool.or_eq_true, Bool.not_eq_true', Bool.not_eq_false', Bool.and_eq_false_iff, Bool.or_eq_false_iff, Bool.not_not, ite_tt, ite_ff, iff_tt, iff_ff, a_av, a_ite, a_upd, show Int.toNat 0 = 0 from rfl, show Int.toNat 1 = 1 from rfl, show Int.toNat 2 = 2 from rfl] at hc0 hc2 hc4
          simp only [e1_J0, e1_0, e1_1, e1_2, e1_3, e1_4, e1_5, e1_6, e1_7, e1_8, e1_9, e1_10, e1_11, e1_12, e1_13, e1_14, e1_15, e1_16, e1_17, e1_18, e1_19, e1_20, e1_21, e1_22, e1_23, e1_24, e1_25, e1_26, e1_27, e1_28, e1_29, e1_30, e1_31, e1_32, e1_33, e1_34, e1_35, e1_36, e1_37, e1_38, e1_39, e1_40, e1_41, e1_42, e1_43, e1_44, e1_45, e1_46, e1_47, e1_48, e1_49, e1_50, e1_51, e1_52, e1_53, i_v, b_bv, i_lit, b_blit, i_add, i_sub, i_mul, i_div, i_mod, i_tdiv, i_tmod, i_ite, b_ite, b_lt, b_le, b_eq, b_not, b_and, b_or, b_iff, i_sel, a_tab, i_pow2, List.getD_cons_zero, List.getD_cons_succ, decide_eq_true_eq, decide_eq_false_iff_not, Bool.and_eq_true, Bool.or_eq_true, Bool.not_eq_true', Bool.not_eq_false', Bool.and_eq_false_iff, Bool.or_eq_false_iff, Bool.not_not, ite_tt, ite_ff, iff_tt, iff_ff, a_av, a_ite, a_upd, show Int.toNat 0 = 0 from rfl, show Int.toNat 1 = 1 from rfl, show Int.toNat 2 = 2 from rfl]
          refine ⟨?_, ?_, ?_, ?_, ?_, ?_, ?_, ?_, ?_, ?_, ?_, ?_, ?_, ?_, ?_, trivial⟩
          all_goals first | omega | (intro j; have r0 := m0 j; have r1 := m1 j; have r2 := m2 j; have r3 := m3 j; have r4 := m4 j; have r5 := m5 j; (repeat' split) <;> first | omega | simp) | ((repeat' split) <;> first | omega | simp_all | (simp at *; omega))
        simp only [e1_Base] at hB
        obtain ⟨hb0, hb1, _⟩ := hB
        simp only [e1_J1] at hJ
        obtain ⟨l0, l1, l2, m0, m1, m2, m3, m4, m5, i0, i1, i2, i3, i4, i5, i6, i7, i8, _⟩ := hJ
        simp only [e1_0, e1_1, e1_2, e1_3, e1_4, e1_5, e1_6, e1_7, e1_8, e1_9, e1_10, e1_11, e1_12, e1_13, e1_14, e1_15, e1_16, e1_17, e1_18, e1_19, e1_20, e1_21, e1_22, e1_23, e1_24, e1_25, e1_26, e1_27, e1_28, e1_29, e1_30, e1_31, e1_32, e1_33, e1_34, e1_35, e1_36, e1_37, e1_38, e1_39, e1_40, e1_41, e1_42, e1_43, e1_44, e1_45, e1_46, e1_47, e1_48, e1_49, e1_50, e1_51, e1_52, e1_53, i_v, b_bv, i_lit, b_blit, i_add, i_sub, i_mul, i_div, i_mod, i_tdiv, i_tmod, i_ite, b_ite, b_lt, b_le, b_eq, b_not, b_and, b_or, b_iff, i_sel, a_tab, i_pow2, List.getD_cons_zero, List.getD_cons_succ, decide_eq_true_eq, decide_eq_false_iff_not, Bool.and_eq_true, Bool.or_eq_true, Bool.not_eq_true', Bool.not_eq_false', Bool.and_eq_false_iff, Bool.or_eq_false_iff, Bool.not_not, ite_tt, ite_ff, iff_tt, iff_ff, a_av, a_ite, a_upd, show Int.toNat 0 = 0 from rfl, show Int.toNat 1 = 1 from rfl, show Int.toNat 2 = 2 from rfl] at hc0 hc2 hc4
        simp only [e1_mu, Env.app, setAll, List.map_cons, List.map_nil, List.set, List.getD_cons_zero, List.getD_cons_succ, e1_0, e1_1, e1_2, e1_3, e1_4, e1_5, e1_6, e1_7, e1_8, e1_9, e1_10, e1_11, e1_12, e1_13, e1_14, e1_15, e1_16, e1_17, e1_18, e1_19, e1_20, e1_21, e1_22, e1_23, e1_24, e1_25, e1_26, e1_27, e1_28, e1_29, e1_30, e1_31, e1_32, e1_33, e1_34, e1_35, e1_36, e1_37, e1_38, e1_39, e1_40, e1_41, e1_42, e1_43, e1_44, e1_45, e1_46, e1_47, e1_48, e1_49, e1_50, e1_51, e1_52, e1_53, i_v, b_bv, i_lit, b_blit, i_add, i_sub, i_mul, i_div, i_mod, i_tdiv, i_tmod, i_ite, b_ite, b_lt, b_le, b_eq, b_not, b_and, b_or, b_iff, i_sel, a_tab, i_pow2, List.getD_cons_zero, List.getD_cons_succ, decide_eq_true_eq, decide_eq_false_iff_not, Bool.and_eq_true, Bool.or_eq_true, Bool.not_eq_true', Bool.not_eq_false', Bool.and_eq_false_iff, Bool.or_eq_false_iff, Bool.not_not, ite_tt, ite_ff, iff_tt, iff_ff, a_av, a_ite, a_upd]
        first | omega | ((repeat' split at i5) <;> omega)
theorem e1_vcS (a1 a2 : Int) (hB : e1_Base a1 a2) :
    LT.holds (⟨[a1, a2, 0, 0, 0], [], [fun _ => 0, fun _ => 0, fun _ => 0, fun _ => 0, fun _ => 0, fun _ => 0], [], Iv (fun _ _ => Ext.none)⟩ : Env) (fun v _ => retTrue (⟨[a1, a2, 0, 0, 0], [], [fun _ => 0, fun _ => 0, fun _ => 0, fun _ => 0, fun _ => 0, fun _ => 0], [], Iv (fun _ _ => Ext.none)⟩ : Env) v) (fun j' todo ρ' => (e1_hs[j']?.map (·.todo)) = some todo ∧ e1_Inv j' ρ') (.jump 0 e1_T0 ⟨[(3, (.lit 0))], [], [(5, e1_3), (4, e1_3), (3, (.tab []))]⟩) := by
  simp only [LT.holds, retTrue]
  refine ⟨rfl, _, _, _, _, _, _, _, _, _, _, _, rfl, hB, ?_⟩
  ·
    simp only [e1_Base] at hB
    obtain ⟨hb0, hb1, _⟩ := hB
    simp only [e1_J0, e1_0, e1_1, e1_2, e1_3, e1_4, e1_5, e1_6, e1_7, e1_8, e1_9, e1_10, e1_11, e1_12, e1_13, e1_14, e1_15, e1_16, e1_17, e1_18, e1_19, e1_20, e1_21, e1_22, e1_23, e1_24, e1_25, e1_26, e1_27, e1_28, e1_29, e1_30, e1_31, e1_32, e1_33, e1_34, e1_35, e1_36, e1_37, e1_38, e1_39, e1_40, e1_41, e1_42, e1_43, e1_44, e1_45, e1_46, e1_47, e1_48, e1_49, e1_50, e1_51, e1_52, e1_53, i_v, b_bv, i_lit, b_blit, i_add, i_sub, i_mul, i_div, i_mod, i_tdiv, i_tmod, i_ite, b_ite, b_lt, b_le, b_eq, b_not, b_and, b_or, b_iff, i_sel, a_tab, i_pow2, List.getD_cons_zero, List.getD_cons_succ, decide_eq_true_eq, decide_eq_false_iff_not, Bool.and_eq_true, Bool.or_eq_true, Bool.not_eq_true', Bool.not_eq_false', Bool.and_eq_false_iff, Bool.or_eq_false_iff, Bool.not_not, ite_tt, ite_ff, iff_tt, iff_ff, a_av, a_ite, a_upd, show Int.toNat 0 = 0 from rfl, show Int.toNat 1 = 1 from rfl, show Int.toNat 2 = 2 from rfl]
    refine ⟨?_, ?_, ?_, ?_, ?_, ?_, ?_, ?_, ?_, ?_, ?_, ?_, ?_, ?_, ?_, trivial⟩
    all_goals first | omega | (intro j; (repeat' split) <;> first | omega | simp) | ((repeat' split) <;> first | omega | simp_all | (simp at *; omega))
theorem e1_calls (a1 : Int) (w1 : (Lit.int .u8 a1).wf = true) (a2 : Int) (w2 : 0 ≤ a2 ∧ a2 ≤ 40) (w : World) :
    Calls Try.prog 4 #[.int .i64 (1), .int .u8 a1, .int .i64 a2] w fun r w' => r = .returned (.bool true) ∧ Below w.heap.size w w' := by
  have hargs : (e1_Ls.map (SV.conc (⟨[a1, a2, 0, 0, 0], [], [fun _ => 0, fun _ => 0, fun _ => 0, fun _ => 0, fun _ => 0, fun _ => 0], [], Iv (fun _ _ => Ext.none)⟩ : Env) Loc.id)).toArray = #[.int .i64 (1), .int .u8 a1, .int .i64 a2] := by
    refine congrArg List.toArray ?_
    exact (cons_eq rfl (cons_eq rfl (cons_eq rfl rfl)))
  rw [← hargs]
  have hok : Hyp.ok e1_Hy (⟨[a1, a2, 0, 0, 0], [], [fun _ => 0, fun _ => 0, fun _ => 0, fun _ => 0, fun _ => 0, fun _ => 0], [], Iv (fun _ _ => Ext.none)⟩ : Env) := by
    refine ⟨?_, ?_, ?_, by simp [e1_Hy], ?_, by simp [e1_Hy]⟩
    · simp [e1_Hy]
    · intro p hp
      simp only [e1_Hy, List.mem_cons, List.not_mem_nil, or_false] at hp
      rcases hp with rfl | rfl
      · exact bounds_u8 w1
      · exact w2
    · simp [e1_Hy]
    · simp [e1_Hy]
  refine law_loops (D := e1_D) (hs := e1_hs) (ρ := (⟨[a1, a2, 0, 0, 0], [], [fun _ => 0, fun _ => 0, fun _ => 0, fun _ => 0, fun _ => 0, fun _ => 0], [], Iv (fun _ _ => Ext.none)⟩ : Env)) (G_ok _) (by kernel_rfl) rfl (e1_Inv ) e1_mu e1_st rfl ⟨rfl, rfl, rfl⟩ hok (e1_vcS (a1) (a2) ⟨bounds_u8 w1, w2, trivial⟩) ?_ w (fun i j => Ext.none_ok _)
  intro j h ρ hj hI hz hInv
  rcases j with _ | _ | j
  · simp only [e1_hs, List.getElem?_cons_zero, List.getElem?_cons_succ, Option.some.injEq] at hj; subst hj
    obtain ⟨a1, a2, x2, x3, x4, Z0, Z1, Z2, Z3, Z4, Z5, rfl, hB, hJ⟩ := hInv
    refine ⟨?_, _, e1_sg0, e1_vc0 a1 a2 x2 x3 x4 Z0 Z1 Z2 Z3 Z4 Z5 hB hJ⟩
    have hB2 := hB; have hJ2 := hJ
    simp only [e1_Base] at hB2; simp only [e1_J0] at hJ2
    obtain ⟨hb0, hb1, _⟩ := hB2
    obtain ⟨hl0, hl1, hl2, hl3, hl4, hl5, hl6, hl7, hl8, hx, _⟩ := hJ2
    refine ⟨?_, ?_, ?_, by simp [e1_h0], ?_, by simp [e1_h0]⟩
    · simp [e1_h0]
    · intro p hp
      simp only [e1_h0, List.mem_cons, List.not_mem_nil, or_false] at hp
      rcases hp with rfl | rfl | rfl | rfl | rfl
      · exact hb0
      · exact hb1
      · exact hl0
      · exact hl1
      · exact hl2
    · intro p hp
      simp only [e1_h0, List.mem_cons, List.not_mem_nil, or_false] at hp
      rcases hp with rfl | rfl | rfl | rfl | rfl | rfl
      · exact hl3
      · exact hl4
      · exact hl5
      · exact hl6
      · exact hl7
      · exact hl8
    · simp [e1_h0]
  · simp only [e1_hs, List.getElem?_cons_zero, List.getElem?_cons_succ, Option.some.injEq] at hj; subst hj
    obtain ⟨a1, a2, x2, x3, x4, Z0, Z1, Z2, Z3, Z4, Z5, rfl, hB, hJ⟩ := hInv
    refine ⟨?_, _, e1_sg1, e1_vc1 a1 a2 x2 x3 x4 Z0 Z1 Z2 Z3 Z4 Z5 hB hJ⟩
    have hB2 := hB; have hJ2 := hJ
    simp only [e1_Base] at hB2; simp only [e1_J1] at hJ2
    obtain ⟨hb0, hb1, _⟩ := hB2
    obtain ⟨hl0, hl1, hl2, hl3, hl4, hl5, hl6, hl7, hl8, hx, _⟩ := hJ2
    refine ⟨?_, ?_, ?_, by simp [e1_h1], ?_, by simp [e1_h1]⟩
    · simp [e1_h1]
    · intro p hp
      simp only [e1_h1, List.mem_cons, List.not_mem_nil, or_false] at hp
      rcases hp with rfl | rfl | rfl | rfl | rfl
      · exact hb0
      · exact hb1
      · exact hl0
      · exact hl1
      · exact hl2
    · intro p hp
      simp only [e1_h1, List.mem_cons, List.not_mem_nil, or_false] at hp
      rcases hp with rfl | rfl | rfl | rfl | rfl | rfl
      · exact hl3
      · exact hl4
      · exact hl5
      · exact hl6
      · exact hl7
      · exact hl8
    · simp [e1_h1]
  · simp [e1_hs] at hj
end Go.Proofs.Ytngbibifiadgiaa.TickTimes
