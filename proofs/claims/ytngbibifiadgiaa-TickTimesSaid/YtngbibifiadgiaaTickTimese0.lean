/- A part of the law TickTimes, which returns true for every input. A timer that is on has made its tally one more behind each period times its target cycles, and not ahead of that; what was read is gone. No condition. -/
import Derived.Test.YtngbibifiadgiaaTickTimes0
namespace Go.Proofs.Ytngbibifiadgiaa.TickTimes
open Go.Sx Go.ChangeShapes Go.WideShapes Go.ChangeAt Go.RowKit
set_option linter.unusedVariables false
set_option linter.unusedSimpArgs false
set_option maxRecDepth 100000
def e0_Hy : Hyp := ⟨[(.v 0, (0, 255)), (.v 1, (0, 40))], [], [], [], [], []⟩
def e0_Ls : List SV := [.s (.int .i64 (.lit (0))), .s (.int .u8 (.v 0)), .s (.int .i64 (.v 1))]
def e0_0 : E := .eq (.v 0) (.lit 0)
def e0_1 : E := .ite e0_0 (.lit 256) (.v 0)
def e0_2 : E := .upd (.tab []) (.lit 0) (.v 0)
def e0_3 : E := .upd (.tab []) (.lit 0) (.lit 0)
def e0_4 : E := .lt (.v 3) (.v 1)
def e0_5 : E := .sel (.av 5) (.lit 1)
def e0_6 : E := .eq e0_5 (.lit 0)
def e0_7 : E := .upd (.av 5) (.lit 1) (.lit 0)
def e0_8 : E := .mul e0_1 (.lit 128)
def e0_9 : E := .add e0_8 (.lit (-1))
def e0_10 : E := .lt (.v 2) e0_9
def e0_11 : E := .add (.v 2) (.lit 1)
def e0_12 : E := .sel (.av 0) (.lit 0)
def e0_13 : E := .add e0_12 (.lit 1)
def e0_14 : E := .div e0_13 (.lit 128)
def e0_15 : E := .mod e0_14 (.lit 2)
def e0_16 : E := .eq e0_15 (.lit 0)
def e0_17 : E := .sel (.av 2) (.lit 0)
def e0_18 : E := .sel (.av 1) (.lit 0)
def e0_19 : E := .add e0_18 (.lit 1)
def e0_20 : E := .mod e0_19 (.lit 256)
def e0_21 : E := .eq e0_20 (.v 0)
def e0_22 : E := .add e0_17 (.lit 1)
def e0_23 : E := .mod e0_22 (.lit 16)
def e0_24 : E := .ite e0_21 e0_23 e0_17
def e0_25 : E := .ite e0_16 e0_17 e0_24
def e0_26 : E := .upd (.av 2) (.lit 0) e0_25
def e0_27 : E := .ite e0_21 (.lit 0) e0_20
def e0_28 : E := .ite e0_16 e0_18 e0_27
def e0_29 : E := .upd (.av 1) (.lit 0) e0_28
def e0_30 : E := .mod e0_13 (.lit 256)
def e0_31 : E := .ite e0_16 e0_30 (.lit 0)
def e0_32 : E := .upd (.av 0) (.lit 0) e0_31
def e0_33 : E := .sel (.av 0) (.lit 1)
def e0_34 : E := .add e0_33 (.lit 1)
def e0_35 : E := .div e0_34 (.lit 128)
def e0_36 : E := .mod e0_35 (.lit 2)
def e0_37 : E := .eq e0_36 (.lit 0)
def e0_38 : E := .mod e0_34 (.lit 256)
def e0_39 : E := .ite e0_37 e0_38 (.lit 0)
def e0_40 : E := .upd e0_32 (.lit 1) e0_39
def e0_41 : E := .sel (.av 0) (.lit 2)
def e0_42 : E := .add e0_41 (.lit 1)
def e0_43 : E := .mod e0_42 (.lit 256)
def e0_44 : E := .le e0_43 (.lit 15)
def e0_45 : E := .ite e0_44 e0_43 (.lit 0)
def e0_46 : E := .upd e0_40 (.lit 2) e0_45
def e0_47 : E := .eq e0_17 (.lit 0)
def e0_48 : E := .not e0_47
def e0_49 : E := .upd (.av 2) (.lit 0) (.lit 0)
def e0_50 : E := .ite e0_21 (.lit 1) (.lit 0)
def e0_51 : E := .ite e0_16 (.lit 0) e0_50
def e0_52 : E := .eq e0_51 (.lit 0)
def e0_53 : E := .add (.v 4) (.lit 1)
noncomputable def e0_T0 : List Item := todoS Try.prog G Gh [] 3000 0 4 e0_Hy e0_Ls [] 15
noncomputable def e0_h0 : Head := ⟨15, e0_T0, ⟨[((.v 0), (0, 255)), ((.v 1), (0, 40)), ((.v 2), (0, 32768)), ((.v 3), (0, 41)), ((.v 4), (0, 41))], [(0, (0, 255)), (1, (0, 255)), (2, (0, 255)), (3, (0, 255)), (4, (0, 255)), (5, (0, 255))], [], [], [], []⟩, [⟨10, [], .s (.int .i64 (.v 3))⟩, ⟨9, [], .s (.ptr 0 (.lit 0))⟩, ⟨8, [], .s (.int .i64 e0_1)⟩, ⟨7, [], .s (.int .i64 (.lit 128))⟩, ⟨0, [], .s (.int .i64 (.lit 0))⟩, ⟨2, [], .s (.int .i64 (.v 1))⟩], [⟨68, [.one (.int .u8 (.lit 1)), .rows (.lit 3) [(some .u8, e0_2), (some .u8, (.av 3)), (some .u8, (.av 4)), (some .u8, (.av 5))] 0, .run .u8 (.lit 4) (.tab []) 0, .run .u8 (.lit 4) (.tab []) 0, .run .u8 (.lit 2) (.tab []) 0], true, none, false⟩]⟩
noncomputable def e0_T1 : List Item := todoH Try.prog G Gh [] 3000 0 4 e0_h0 18
noncomputable def e0_h1 : Head := ⟨18, e0_T1, ⟨[((.v 0), (0, 255)), ((.v 1), (0, 40)), ((.v 2), (0, 32768)), ((.v 3), (0, 41)), ((.v 4), (0, 41))], [(0, (0, 255)), (1, (0, 255)), (2, (0, 255)), (3, (0, 255)), (4, (0, 255)), (5, (0, 255))], [], [], [], []⟩, [⟨11, [], .s (.int .i64 (.v 2))⟩, ⟨10, [], .s (.int .i64 (.v 4))⟩, ⟨9, [], .s (.ptr 0 (.lit 0))⟩, ⟨8, [], .s (.int .i64 e0_1)⟩, ⟨7, [], .s (.int .i64 (.lit 128))⟩, ⟨0, [], .s (.int .i64 (.lit 0))⟩, ⟨2, [], .s (.int .i64 (.v 1))⟩], [⟨68, [.one (.int .u8 (.lit 1)), .rows (.lit 3) [(some .u8, e0_2), (some .u8, (.av 0)), (some .u8, (.av 1)), (some .u8, (.av 2))] 0, .run .u8 (.lit 4) (.tab []) 0, .run .u8 (.lit 4) (.tab []) 0, .run .u8 (.lit 2) (.tab []) 0], true, none, false⟩]⟩
noncomputable def e0_hs : List Head := [e0_h0, e0_h1]
def e0_D : Dim := ⟨5, 0, 6, 2, 0, 0, 0⟩
theorem e0_st : startL Try.prog G Gh e0_D e0_hs [] 3000 0 4 e0_Hy e0_Ls [] = some (.jump 0 e0_T0 ⟨[(3, (.lit 0))], [], [(5, e0_3), (4, e0_3), (3, (.tab []))]⟩) := by kernel_rfl
theorem e0_sg0 : segL Try.prog G Gh e0_D e0_hs [] 3000 0 4 e0_h0 = some (.ite e0_4 (.jump 1 e0_T1 ⟨[(4, (.v 3)), (2, (.lit 0))], [], [(2, (.av 5)), (1, (.av 4)), (0, (.av 3))]⟩) (.ret (.s (.bool e0_6)) [⟨68, [.one (.int .u8 (.lit 1)), .rows (.lit 3) [(some .u8, e0_2), (some .u8, (.av 3)), (some .u8, (.av 4)), (some .u8, e0_7)] 0, .run .u8 (.lit 4) (.tab []) 0, .run .u8 (.lit 4) (.tab []) 0, .run .u8 (.lit 2) (.tab []) 0], true, none, false⟩])) := by kernel_rfl
theorem e0_sg1 : segL Try.prog G Gh e0_D e0_hs [] 3000 0 4 e0_h1 = some (.ite e0_10 (.jump 1 e0_T1 ⟨[(4, (.v 4)), (2, e0_11)], [], [(2, e0_26), (1, e0_29), (0, e0_46)]⟩) (.ite e0_48 (.ret (.s (.bool (.blit false))) [⟨68, [.one (.int .u8 (.lit 1)), .rows (.lit 3) [(some .u8, e0_2), (some .u8, (.av 0)), (some .u8, (.av 1)), (some .u8, e0_49)] 0, .run .u8 (.lit 4) (.tab []) 0, .run .u8 (.lit 4) (.tab []) 0, .run .u8 (.lit 2) (.tab []) 0], true, none, false⟩]) (.ite e0_52 (.ret (.s (.bool (.blit false))) [⟨68, [.one (.int .u8 (.lit 1)), .rows (.lit 3) [(some .u8, e0_2), (some .u8, e0_46), (some .u8, e0_29), (some .u8, e0_49)] 0, .run .u8 (.lit 4) (.tab []) 0, .run .u8 (.lit 4) (.tab []) 0, .run .u8 (.lit 2) (.tab []) 0], true, none, false⟩]) (.jump 0 e0_T0 ⟨[(3, e0_53)], [], [(5, e0_49), (4, e0_29), (3, e0_46)]⟩)))) := by kernel_rfl
def e0_Base (a1 a2 : Int) : Prop := (0 ≤ a1 ∧ a1 ≤ 255) ∧ (0 ≤ a2 ∧ a2 ≤ 40) ∧ True
def e0_J0 (a1 a2 x2 x3 x4 : Int) (Z0 Z1 Z2 Z3 Z4 Z5 : Nat → Int) : Prop := (0 ≤ x2 ∧ x2 ≤ 32768) ∧ (0 ≤ x3 ∧ x3 ≤ 41) ∧ (0 ≤ x4 ∧ x4 ≤ 41) ∧ (∀ j, 0 ≤ Z0 j ∧ Z0 j ≤ 255) ∧ (∀ j, 0 ≤ Z1 j ∧ Z1 j ≤ 255) ∧ (∀ j, 0 ≤ Z2 j ∧ Z2 j ≤ 255) ∧ (∀ j, 0 ≤ Z3 j ∧ Z3 j ≤ 255) ∧ (∀ j, 0 ≤ Z4 j ∧ Z4 j ≤ 255) ∧ (∀ j, 0 ≤ Z5 j ∧ Z5 j ≤ 255) ∧ Z3 0 = 0 ∧ Z4 0 = 0 ∧ Z5 0 = 0 ∧ Z5 1 = 0 ∧ 0 ≤ x3 ∧ x3 ≤ a2 ∧ True
def e0_J1 (a1 a2 x2 x3 x4 : Int) (Z0 Z1 Z2 Z3 Z4 Z5 : Nat → Int) : Prop := (0 ≤ x2 ∧ x2 ≤ 32768) ∧ (0 ≤ x3 ∧ x3 ≤ 41) ∧ (0 ≤ x4 ∧ x4 ≤ 41) ∧ (∀ j, 0 ≤ Z0 j ∧ Z0 j ≤ 255) ∧ (∀ j, 0 ≤ Z1 j ∧ Z1 j ≤ 255) ∧ (∀ j, 0 ≤ Z2 j ∧ Z2 j ≤ 255) ∧ (∀ j, 0 ≤ Z3 j ∧ Z3 j ≤ 255) ∧ (∀ j, 0 ≤ Z4 j ∧ Z4 j ≤ 255) ∧ (∀ j, 0 ≤ Z5 j ∧ Z5 j ≤ 255) ∧ Z1 0 * 128 + Z0 0 = x2 ∧ Z0 0 ≤ 127 ∧ Z2 0 = 0 ∧ Z2 1 = 0 ∧ 0 ≤ x2 ∧ x2 ≤ (if a1 = 0 then 256 else a1) * 128 - 1 ∧ 0 ≤ x4 ∧ x4 < a2 ∧ True
def e0_Inv : Nat → Env → Prop
  | 0, ρ => ∃ (a1 a2 x2 x3 x4 : Int) (Z0 Z1 Z2 Z3 Z4 Z5 : Nat → Int), ρ = (⟨[a1, a2, x2, x3, x4], [], [Z0, Z1, Z2, Z3, Z4, Z5], [], Iv (fun _ _ => Ext.none)⟩ : Env) ∧ e0_Base a1 a2 ∧ e0_J0 a1 a2 x2 x3 x4 Z0 Z1 Z2 Z3 Z4 Z5
  | 1, ρ => ∃ (a1 a2 x2 x3 x4 : Int) (Z0 Z1 Z2 Z3 Z4 Z5 : Nat → Int), ρ = (⟨[a1, a2, x2, x3, x4], [], [Z0, Z1, Z2, Z3, Z4, Z5], [], Iv (fun _ _ => Ext.none)⟩ : Env) ∧ e0_Base a1 a2 ∧ e0_J1 a1 a2 x2 x3 x4 Z0 Z1 Z2 Z3 Z4 Z5
  | _, _ => False
def e0_mu : Nat → Env → Nat := fun j ρ => match j with | 0 => ((41 - ρ.i.getD 3 0) * 40000).toNat | _ => ((40 - ρ.i.getD 4 0) * 40000 + 33000 - ρ.i.getD 2 0).toNat
theorem e0_vc0 (a1 a2 x2 x3 x4 : Int) (Z0 Z1 Z2 Z3 Z4 Z5 : Nat → Int) (hB : e0_Base a1 a2) (hJ : e0_J0 a1 a2 x2 x3 x4 Z0 Z1 Z2 Z3 Z4 Z5) :
    LT.holds (⟨[a1, a2, x2, x3, x4], [], [Z0, Z1, Z2, Z3, Z4, Z5], [], Iv (fun _ _ => Ext.none)⟩ : Env) (fun v _ => retTrue (⟨[a1, a2, x2, x3, x4], [], [Z0, Z1, Z2, Z3, Z4, Z5], [], Iv (fun _ _ => Ext.none)⟩ : Env) v) (fun j' todo ρ' => (e0_hs[j']?.map (·.todo)) = some todo ∧ e0_Inv j' ρ' ∧ e0_mu j' ρ' < e0_mu 0 (⟨[a1, a2, x2, x3, x4], [], [Z0, Z1, Z2, Z3, Z4, Z5], [], Iv (fun _ _ => Ext.none)⟩ : Env)) (.ite e0_4 (.jump 1 e0_T1 ⟨[(4, (.v 3)), (2, (.lit 0))], [], [(2, (.av 5)), (1, (.av 4)), (0, (.av 3))]⟩) (.ret (.s (.bool e0_6)) [⟨68, [.one (.int .u8 (.lit 1)), .rows (.lit 3) [(some .u8, e0_2), (some .u8, (.av 3)), (some .u8, (.av 4)), (some .u8, e0_7)] 0, .run .u8 (.lit 4) (.tab []) 0, .run .u8 (.lit 4) (.tab []) 0, .run .u8 (.lit 2) (.tab []) 0], true, none, false⟩])) := by
  simp only [LT.holds, retTrue]
  refine ⟨fun hc0 => ?_, fun hc0 => ?_⟩
  ·
    refine ⟨rfl, ⟨_, _, _, _, _, _, _, _, _, _, _, rfl, hB, ?_⟩, ?_⟩
    ·
      simp only [e0_Base] at hB
      obtain ⟨hb0, hb1, _⟩ := hB
      simp only [e0_J0] at hJ
      obtain ⟨l0, l1, l2, m0, m1, m2, m3, m4, m5, i0, i1, i2, i3, i4, i5, i6, _⟩ := hJ
      have q00 := m0 0
      have q01 := m0 1
      have q02 := m0 2
      have q10 := m1 0
      have q11 := m1 1
      have q12 := m1 2
      have q20 := m2 0
      have q21 := m2 1
      have q22 := m2 2
      have q30 := m3 0
      have q31 := m3 1
      have q32 := m3 2
      have q40 := m4 0
      have q41 := m4 1
      have q42 := m4 2
      have q50 := m5 0
      have q51 := m5 1
      have q52 := m5 2
      simp only [e0_0, e0_1, e0_2, e0_3, e0_4, e0_5, e0_6, e0_7, e0_8, e0_9, e0_10, e0_11, e0_12, e0_13, e0_14, e0_15, e0_16, e0_17, e0_18, e0_19, e0_20, e0_21, e0_22, e0_23, e0_24, e0_25, e0_26, e0_27, e0_28, e0_29, e0_30, e0_31, e0_32, e0_33, e0_34, e0_35, e0_36, e0_37, e0_38, e0_39, e0_40, e0_41, e0_42, e0_43, e0_44, e0_45, e0_46, e0_47, e0_48, e0_49, e0_50, e0_51, e0_52, e0_53, i_v, b_bv, i_lit, b_blit, i_add, i_sub, i_mul, i_div, i_mod, i_tdiv, i_tmod, i_ite, b_ite, b_lt, b_le, b_eq, b_not, b_and, b_or, b_iff, i_sel, a_tab, i_pow2, List.getD_cons_zero, List.getD_cons_succ, decide_eq_true_eq, decide_eq_false_iff_not, Bool.and_eq_true, Bool.or_eq_true, Bool.not_eq_true', Bool.not_eq_false', Bool.and_eq_false_iff, Bool.or_eq_false_iff, Bool.not_not, ite_tt, ite_ff, iff_tt, iff_ff, a_av, a_ite, a_upd, show Int.toNat 0 = 0 from rfl, show Int.toNat 1 = 1 from rfl, show Int.toNat 2 = 2 from rfl] at hc0
      simp only [e0_J1, e0_0, e0_1, e0_2, e0_3, e0_4, e0_5, e0_6, e0_7, e0_8, e0_9, e0_10, e0_11, e0_12, e0_13, e0_14, e0_15, e0_16, e0_17, e0_18, e0_19, e0_20, e0_21, e0_22, e0_23, e0_24, e0_25, e0_26, e0_27, e0_28, e0_29, e0_30, e0_31, e0_32, e0_33, e0_34, e0_35, e0_36, e0_37, e0_38, e0_39, e0_40, e0_41, e0_42, e0_43, e0_44, e0_45, e0_46, e0_47, e0_48, e0_49, e0_50, e0_51, e0_52, e0_53, i_v, b_bv, i_lit, b_blit, i_add, i_sub, i_mul, i_div, i_mod, i_tdiv, i_tmod, i_ite, b_ite, b_lt, b_le, b_eq, b_not, b_and, b_or, b_iff, i_sel, a_tab, i_pow2, List.getD_cons_zero, List.getD_cons_succ, decide_eq_true_eq, decide_eq_false_iff_not, Bool.and_eq_true, Bool.or_eq_true, Bool.not_eq_true', Bool.not_eq_false', Bool.and_eq_false_iff, Bool.or_eq_false_iff, Bool.not_not, ite_tt, ite_ff, iff_tt, iff_ff, a_av, a_ite, a_upd, show Int.toNat 0 = 0 from rfl, show Int.toNat 1 = 1 from rfl, show Int.toNat 2 = 2 from rfl]
      refine ⟨?_, ?_, ?_, ?_, ?_, ?_, ?_, ?_, ?_, ?_, ?_, ?_, ?_, ?_, ?_, ?_, ?_, trivial⟩
      all_goals first | omega | (intro j; have r0 := m0 j; have r1 := m1 j; have r2 := m2 j; have r3 := m3 j; have r4 := m4 j; have r5 := m5 j; (repeat' split) <;> first | omega | simp) | ((repeat' split) <;> first | omega | simp_all | (simp at *; omega))
    simp only [e0_Base] at hB
    obtain ⟨hb0, hb1, _⟩ := hB
    simp only [e0_J0] at hJ
    obtain ⟨l0, l1, l2, m0, m1, m2, m3, m4, m5, i0, i1, i2, i3, i4, i5, i6, _⟩ := hJ
    simp only [e0_0, e0_1, e0_2, e0_3, e0_4, e0_5, e0_6, e0_7, e0_8, e0_9, e0_10, e0_11, e0_12, e0_13, e0_14, e0_15, e0_16, e0_17, e0_18, e0_19, e0_20, e0_21, e0_22, e0_23, e0_24, e0_25, e0_26, e0_27, e0_28, e0_29, e0_30, e0_31, e0_32, e0_33, e0_34, e0_35, e0_36, e0_37, e0_38, e0_39, e0_40, e0_41, e0_42, e0_43, e0_44, e0_45, e0_46, e0_47, e0_48, e0_49, e0_50, e0_51, e0_52, e0_53, i_v, b_bv, i_lit, b_blit, i_add, i_sub, i_mul, i_div, i_mod, i_tdiv, i_tmod, i_ite, b_ite, b_lt, b_le, b_eq, b_not, b_and, b_or, b_iff, i_sel, a_tab, i_pow2, List.getD_cons_zero, List.getD_cons_succ, decide_eq_true_eq, decide_eq_false_iff_not, Bool.and_eq_true, Bool.or_eq_true, Bool.not_eq_true', Bool.not_eq_false', Bool.and_eq_false_iff, Bool.or_eq_false_iff, Bool.not_not, ite_tt, ite_ff, iff_tt, iff_ff, a_av, a_ite, a_upd, show Int.toNat 0 = 0 from rfl, show Int.toNat 1 = 1 from rfl, show Int.toNat 2 = 2 from rfl] at hc0
    simp only [e0_mu, Env.app, setAll, List.map_cons, List.map_nil, List.set, List.getD_cons_zero, List.getD_cons_succ, e0_0, e0_1, e0_2, e0_3, e0_4, e0_5, e0_6, e0_7, e0_8, e0_9, e0_10, e0_11, e0_12, e0_13, e0_14, e0_15, e0_16, e0_17, e0_18, e0_19, e0_20, e0_21, e0_22, e0_23, e0_24, e0_25, e0_26, e0_27, e0_28, e0_29, e0_30, e0_31, e0_32, e0_33, e0_34, e0_35, e0_36, e0_37, e0_38, e0_39, e0_40, e0_41, e0_42, e0_43, e0_44, e0_45, e0_46, e0_47, e0_48, e0_49, e0_50, e0_51, e0_52, e0_53, i_v, b_bv, i_lit, b_blit, i_add, i_sub, i_mul, i_div, i_mod, i_tdiv, i_tmod, i_ite, b_ite, b_lt, b_le, b_eq, b_not, b_and, b_or, b_iff, i_sel, a_tab, i_pow2, List.getD_cons_zero, List.getD_cons_succ, decide_eq_true_eq, decide_eq_false_iff_not, Bool.and_eq_true, Bool.or_eq_true, Bool.not_eq_true', Bool.not_eq_false', Bool.and_eq_false_iff, Bool.or_eq_false_iff, Bool.not_not, ite_tt, ite_ff, iff_tt, iff_ff, a_av, a_ite, a_upd]
    omega
  ·
    simp only [e0_Base] at hB
    obtain ⟨hb0, hb1, _⟩ := hB
    simp only [e0_J0] at hJ
    obtain ⟨l0, l1, l2, m0, m1, m2, m3, m4, m5, i0, i1, i2, i3, i4, i5, i6, _⟩ := hJ
    simp only [e0_0, e0_1, e0_2, e0_3, e0_4, e0_5, e0_6, e0_7, e0_8, e0_9, e0_10, e0_11, e0_12, e0_13, e0_14, e0_15, e0_16, e0_17, e0_18, e0_19, e0_20, e0_21, e0_22, e0_23, e0_24, e0_25, e0_26, e0_27, e0_28, e0_29, e0_30, e0_31, e0_32, e0_33, e0_34, e0_35, e0_36, e0_37, e0_38, e0_39, e0_40, e0_41, e0_42, e0_43, e0_44, e0_45, e0_46, e0_47, e0_48, e0_49, e0_50, e0_51, e0_52, e0_53, i_v, b_bv, i_lit, b_blit, i_add, i_sub, i_mul, i_div, i_mod, i_tdiv, i_tmod, i_ite, b_ite, b_lt, b_le, b_eq, b_not, b_and, b_or, b_iff, i_sel, a_tab, i_pow2, List.getD_cons_zero, List.getD_cons_succ, decide_eq_true_eq, decide_eq_false_iff_not, Bool.and_eq_true, Bool.or_eq_true, Bool.not_eq_true', Bool.not_eq_false', Bool.and_eq_false_iff, Bool.or_eq_false_iff, Bool.not_not, ite_tt, ite_ff, iff_tt, iff_ff, a_av, a_ite, a_upd, show Int.toNat 0 = 0 from rfl, show Int.toNat 1 = 1 from rfl, show Int.toNat 2 = 2 from rfl]
    exact i3
theorem e0_vc1 (a1 a2 x2 x3 x4 : Int) (Z0 Z1 Z2 Z3 Z4 Z5 : Nat → Int) (hB : e0_Base a1 a2) (hJ : e0_J1 a1 a2 x2 x3 x4 Z0 Z1 Z2 Z3 Z4 Z5) :
    LT.holds (⟨[a1, a2, x2, x3, x4], [], [Z0, Z1, Z2, Z3, Z4, Z5], [], Iv (fun _ _ => Ext.none)⟩ : Env) (fun v _ => retTrue (⟨[a1, a2, x2, x3, x4], [], [Z0, Z1, Z2, Z3, Z4, Z5], [], Iv (fun _ _ => Ext.none)⟩ : Env) v) (fun j' todo ρ' => (e0_hs[j']?.map (·.todo)) = some todo ∧ e0_Inv j' ρ' ∧ e0_mu j' ρ' < e0_mu 1 (⟨[a1, a2, x2, x3, x4], [], [Z0, Z1, Z2, Z3, Z4, Z5], [], Iv (fun _ _ => Ext.none)⟩ : Env)) (.ite e0_10 (.jump 1 e0_T1 ⟨[(4, (.v 4)), (2, e0_11)], [], [(2, e0_26), (1, e0_29), (0, e0_46)]⟩) (.ite e0_48 (.ret (.s (.bool (.blit false))) [⟨68, [.one (.int .u8 (.lit 1)), .rows (.lit 3) [(some .u8, e0_2), (some .u8, (.av 0)), (some .u8, (.av 1)), (some .u8, e0_49)] 0, .run .u8 (.lit 4) (.tab []) 0, .run .u8 (.lit 4) (.tab []) 0, .run .u8 (.lit 2) (.tab []) 0], true, none, false⟩]) (.ite e0_52 (.ret (.s (.bool (.blit false))) [⟨68, [.one (.int .u8 (.lit 1)), .rows (.lit 3) [(some .u8, e0_2), (some .u8, e0_46), (some .u8, e0_29), (some .u8, e0_49)] 0, .run .u8 (.lit 4) (.tab []) 0, .run .u8 (.lit 4) (.tab []) 0, .run .u8 (.lit 2) (.tab []) 0], true, none, false⟩]) (.jump 0 e0_T0 ⟨[(3, e0_53)], [], [(5, e0_49), (4, e0_29), (3, e0_46)]⟩)))) := by
  simp only [LT.holds, retTrue]
  refine ⟨fun hc0 => ?_, fun hc0 => ?_⟩
  ·
    refine ⟨rfl, ⟨_, _, _, _, _, _, _, _, _, _, _, rfl, hB, ?_⟩, ?_⟩
    ·
      simp only [e0_Base] at hB
      obtain ⟨hb0, hb1, _⟩ := hB
      simp only [e0_J1] at hJ
      obtain ⟨l0, l1, l2, m0, m1, m2, m3, m4, m5, i0, i1, i2, i3, i4, i5, i6, i7, i8, _⟩ := hJ
      have q00 := m0 0
      have q01 := m0 1
      have q02 := m0 2
      have q10 := m1 0
      have q11 := m1 1
      have q12 := m1 2
      have q20 := m2 0
      have q21 := m2 1
      have q22 := m2 2
      have q30 := m3 0
      have q31 := m3 1
      have q32 := m3 2
      have q40 := m4 0
      have q41 := m4 1
      have q42 := m4 2
      have q50 := m5 0
      have q51 := m5 1
      have q52 := m5 2
      simp only [e0_0, e0_1, e0_2, e0_3, e0_4, e0_5, e0_6, e0_7, e0_8, e0_9, e0_10, e0_11, e0_12, e0_13, e0_14, e0_15, e0_16, e0_17, e0_18, e0_19, e0_20, e0_21, e0_22, e0_23, e0_24, e0_25, e0_26, e0_27, e0_28, e0_29, e0_30, e0_31, e0_32, e0_33, e0_34, e0_35, e0_36, e0_37, e0_38, e0_39, e0_40, e0_41, e0_42, e0_43, e0_44, e0_45, e0_46, e0_47, e0_48, e0_49, e0_50, e0_51, e0_52, e0_53, i_v, b_bv, i_lit, b_blit, i_add, i_sub, i_mul, i_div, i_mod, i_tdiv, i_tmod, i_ite, b_ite, b_lt, b_le, b_eq, b_not, b_and, b_or, b_iff, i_sel, a_tab, i_pow2, List.getD_cons_zero, List.getD_cons_succ, decide_eq_true_eq, decide_eq_false_iff_not, Bool.and_eq_true, Bool.or_eq_true, Bool.not_eq_true', Bool.not_eq_false', Bool.and_eq_false_iff, Bool.or_eq_false_iff, Bool.not_not, ite_tt, ite_ff, iff_tt, iff_ff, a_av, a_ite, a_upd, show Int.toNat 0 = 0 from rfl, show Int.toNat 1 = 1 from rfl, show Int.toNat 2 = 2 from rfl] at hc0
      simp only [e0_J1, e0_0, e0_1, e0_2, e0_3, e0_4, e0_5, e0_6, e0_7, e0_8, e0_9, e0_10, e0_11, e0_12, e0_13, e0_14, e0_15, e0_16, e0_17, e0_18, e0_19, e0_20, e0_21, e0_22, e0_23, e0_24, e0_25, e0_26, e0_27, e0_28, e0_29, e0_30, e0_31, e0_32, e0_33, e0_34, e0_35, e0_36, e0_37, e0_38, e0_39, e0_40, e0_41, e0_42, e0_43, e0_44, e0_45, e0_46, e0_47, e0_48, e0_49, e0_50, e0_51, e0_52, e0_53, i_v, b_bv, i_lit, b_blit, i_add, i_sub, i_mul, i_div, i_mod, i_tdiv, i_tmod, i_ite, b_ite, b_lt, b_le, b_eq, b_not, b_and, b_or, b_iff, i_sel, a_tab, i_pow2, List.getD_cons_zero, List.getD_cons_succ, decide_eq_true_eq, decide_eq_false_iff_not, Bool.and_eq_true, Bool.or_eq_true, Bool.not_eq_true', Bool.not_eq_false', Bool.and_eq_false_iff, Bool.or_eq_false_iff, Bool.not_not, ite_tt, ite_ff, iff_tt, iff_ff, a_av, a_ite, a_upd, show Int.toNat 0 = 0 from rfl, show Int.toNat 1 = 1 from rfl, show Int.toNat 2 = 2 from rfl]
      refine ⟨?_, ?_, ?_, ?_, ?_, ?_, ?_, ?_, ?_, ?_, ?_, ?_, ?_, ?_, ?_, ?_, ?_, trivial⟩
      all_goals first | omega | (intro j; have r0 := m0 j; have r1 := m1 j; have r2 := m2 j; have r3 := m3 j; have r4 := m4 j; have r5 := m5 j; (repeat' split) <;> first | omega | simp) | ((repeat' split) <;> first | omega | simp_all | (simp at *; omega))
    simp only [e0_Base] at hB
    obtain ⟨hb0, hb1, _⟩ := hB
    simp only [e0_J1] at hJ
    obtain ⟨l0, l1, l2, m0, m1, m2, m3, m4, m5, i0, i1, i2, i3, i4, i5, i6, i7, i8, _⟩ := hJ
    simp only [e0_0, e0_1, e0_2, e0_3, e0_4, e0_5, e0_6, e0_7, e0_8, e0_9, e0_10, e0_11, e0_12, e0_13, e0_14, e0_15, e0_16, e0_17, e0_18, e0_19, e0_20, e0_21, e0_22, e0_23, e0_24, e0_25, e0_26, e0_27, e0_28, e0_29, e0_30, e0_31, e0_32, e0_33, e0_34, e0_35, e0_36, e0_37, e0_38, e0_39, e0_40, e0_41, e0_42, e0_43, e0_44, e0_45, e0_46, e0_47, e0_48, e0_49, e0_50, e0_51, e0_52, e0_53, i_v, b_bv, i_lit, b_blit, i_add, i_sub, i_mul, i_div, i_mod, i_tdiv, i_tmod, i_ite, b_ite, b_lt, b_le, b_eq, b_not, b_and, b_or, b_iff, i_sel, a_tab, i_pow2, List.getD_cons_zero, List.getD_cons_succ, decide_eq_true_eq, decide_eq_false_iff_not, Bool.and_eq_true, Bool.or_eq_true, Bool.not_eq_true', Bool.not_eq_false', Bool.and_eq_false_iff, Bool.or_eq_false_iff, Bool.not_not, ite_tt, ite_ff, iff_tt, iff_ff, a_av, a_ite, a_upd, show Int.toNat 0 = 0 from rfl, show Int.toNat 1 = 1 from rfl, show Int.toNat 2 = 2 from rfl] at hc0
    simp only [e0_mu, Env.app, setAll, List.map_cons, List.map_nil, List.set, List.getD_cons_zero, List.getD_cons_succ, e0_0, e0_1, e0_2, e0_3, e0_4, e0_5, e0_6, e0_7, e0_8, e0_9, e0_10, e0_11, e0_12, e0_13, e0_14, e0_15, e0_16, e0_17, e0_18, e0_19, e0_20, e0_21, e0_22, e0_23, e0_24, e0_25, e0_26, e0_27, e0_28, e0_29, e0_30, e0_31, e0_32, e0_33, e0_34, e0_35, e0_36, e0_37, e0_38, e0_39, e0_40, e0_41, e0_42, e0_43, e0_44, e0_45, e0_46, e0_47, e0_48, e0_49, e0_50, e0_51, e0_52, e0_53, i_v, b_bv, i_lit, b_blit, i_add, i_sub, i_mul, i_div, i_mod, i_tdiv, i_tmod, i_ite, b_ite, b_lt, b_le, b_eq, b_not, b_and, b_or, b_iff, i_sel, a_tab, i_pow2, List.getD_cons_zero, List.getD_cons_succ, decide_eq_true_eq, decide_eq_false_iff_not, Bool.and_eq_true, Bool.or_eq_true, Bool.not_eq_true', Bool.not_eq_false', Bool.and_eq_false_iff, Bool.or_eq_false_iff, Bool.not_not, ite_tt, ite_ff, iff_tt, iff_ff, a_av, a_ite, a_upd]
    first | omega | ((repeat' split at i5) <;> omega)
  ·
    refine ⟨fun hc2 => ?_, fun hc2 => ?_⟩
    ·
      exfalso
      simp only [e0_Base] at hB
      obtain ⟨hb0, hb1, _⟩ := hB
      simp only [e0_J1] at hJ
      obtain ⟨l0, l1, l2, m0, m1, m2, m3, m4, m5, i0, i1, i2, i3, i4, i5, i6, i7, i8, _⟩ := hJ
      simp only [e0_0, e0_1, e0_2, e0_3, e0_4, e0_5, e0_6, e0_7, e0_8, e0_9, e0_10, e0_11, e0_12, e0_13, e0_14, e0_15, e0_16, e0_17, e0_18, e0_19, e0_20, e0_21, e0_22, e0_23, e0_24, e0_25, e0_26, e0_27, e0_28, e0_29, e0_30, e0_31, e0_32, e0_33, e0_34, e0_35, e0_36, e0_37, e0_38, e0_39, e0_40, e0_41, e0_42, e0_43, e0_44, e0_45, e0_46, e0_47, e0_48, e0_49, e0_50, e0_51, e0_52, e0_53, i_v, b_bv, i_lit, b_blit, i_add, i_sub, i_mul, i_div, i_mod, i_tdiv, i_tmod, i_ite, b_ite, b_lt, b_le, b_eq, b_not, b_and, b_or, b_iff, i_sel, a_tab, i_pow2, List.getD_cons_zero, List.getD_cons_succ, decide_eq_true_eq, decide_eq_false_iff_not, Bool.and_eq_true, Bool.or_eq_true, Bool.not_eq_true', Bool.not_eq_false', Bool.and_eq_false_iff, Bool.or_eq_false_iff, Bool.not_not, ite_tt, ite_ff, iff_tt, iff_ff, a_av, a_ite, a_upd, show Int.toNat 0 = 0 from rfl, show Int.toNat 1 = 1 from rfl, show Int.toNat 2 = 2 from rfl] at hc0 hc2
      omega
    ·
      refine ⟨fun hc4 => ?_, fun hc4 => ?_⟩
      ·
        exfalso
        simp only [e0_Base] at hB
        obtain ⟨hb0, hb1, _⟩ := hB
        simp only [e0_J1] at hJ
        obtain ⟨l0, l1, l2, m0, m1, m2, m3, m4, m5, i0, i1, i2, i3, i4, i5, i6, i7, i8, _⟩ := hJ
        have q00 := m0 0
        have q01 := m0 1
        have q02 := m0 2
        have q10 := m1 0
        have q11 := m1 1
        have q12 := m1 2
        have q20 := m2 0
        have q21 := m2 1
        have q22 := m2 2
        have q30 := m3 0
        have q31 := m3 1
        have q32 := m3 2
        have q40 := m4 0
        have q41 := m4 1
        have q42 := m4 2
        have q50 := m5 0
        have q51 := m5 1
        have q52 := m5 2
        simp only [e0_0, e0_1, e0_2, e0_3, e0_4, e0_5, e0_6, e0_7, e0_8, e0_9, e0_10, e0_11, e0_12, e0_13, e0_14, e0_15, e0_16, e0_17, e0_18, e0_19, e0_20, e0_21, e0_22, e0_23, e0_24, e0_25, e0_26, e0_27, e0_28, e0_29, e0_30, e0_31, e0_32, e0_33, e0_34, e0_35, e0_36, e0_37, e0_38, e0_39, e0_40, e0_41, e0_42, e0_43, e0_44, e0_45, e0_46, e0_47, e0_48, e0_49, e0_50, e0_51, e0_52, e0_53, i_v, b_bv, i_lit, b_blit, i_add, i_sub, i_mul, i_div, i_mod, i_tdiv, i_tmod, i_ite, b_ite, b_lt, b_le, b_eq, b_not, b_and, b_or, b_iff, i_sel, a_tab, i_pow2, List.getD_cons_zero, List.getD_cons_succ, decide_eq_true_eq, decide_eq_false_iff_not, Bool.and_eq_true, Bool.or_eq_true, Bool.not_eq_true', Bool.not_eq_false', Bool.and_eq_false_iff, Bool.or_eq_false_iff, Bool.not_not, ite_tt, ite_ff, iff_tt, iff_ff, a_av, a_ite, a_upd, show Int.toNat 0 = 0 from rfl, show Int.toNat 1 = 1 from rfl, show Int.toNat 2 = 2 from rfl] at hc0 hc2 hc4
        repeat' split at i5
        all_goals (first | omega | (repeat' split at hc0 <;> first | omega | (repeat' split at hc4 <;> omega)))
      ·
        refine ⟨rfl, ⟨_, _, _, _, _, _, _, _, _, _, _, rfl, hB, ?_⟩, ?_⟩
        ·
          simp only [e0_Base] at hB
          obtain ⟨hb0, hb1, _⟩ := hB
          simp only [e0_J1] at hJ
          obtain ⟨l0, l1, l2, m0, m1, m2, m3, m4, m5, i0, i1, i2, i3, i4, i5, i6, i7, i8, _⟩ := hJ
          have q00 := m0 0
          have q01 := m0 1
          have q02 := m0 2
          have q10 := m1 0
          have q11 := m1 1
          have q12 := m1 2
          have q20 := m2 0
          have q21 := m2 1
          have q22 := m2 2
          have q30 := m3 0
          have q31 := m3 1
          have q32 := m3 2
          have q40 := m4 0
          have q41 := m4 1
          have q42 := m4 2
          have q50 := m5 0
          have q51 := m5 1
          have q52 := m5 2
          simp only [e0_0, e0_1, e0_2, e0_3, e0_4, e0_5, e0_6, e0_7, e0_8, e0_9, e0_10, e0_11, e0_12, e0_13, e0_14, e0_15, e0_16, e0_17, e0_18, e0_19, e0_20, e0_21, e0_22, e0_23, e0_24, e0_25, e0_26, e0_27, e0_28, e0_29, e0_30, e0_31, e0_32, e0_33, e0_34, e0_35, e0_36, e0_37, e0_38, e0_39, e0_40, e0_41, e0_42, e0_43, e0_44, e0_45, e0_46, e0_47, e0_48, e0_49, e0_50, e0_51, e0_52, e0_53, i_v, b_bv, i_lit, b_blit, i_add, i_sub, i_mul, i_div, i_mod, i_tdiv, i_tmod, i_ite, b_ite, b_lt, b_le, b_eq, b_not, b_and, b_or, b_iff, i_sel, a_tab, i_pow2, List.getD_cons_zero, List.getD_cons_succ, decide_eq_true_eq, decide_eq_false_iff_not, Bool.and_eq_true, Bool.or_eq_true, Bool.not_eq_true', Bool.not_eq_false', Bool.and_eq_false_iff, Bool.or_eq_false_iff, Bool.not_not, ite_tt, ite_ff, iff_tt, iff_ff, a_av, a_ite, a_upd, show Int.toNat 0 = 0 from rfl, show Int.toNat 1 = 1 from rfl, show Int.toNat 2 = 2 from rfl] at hc0 hc2 hc4
          simp only [e0_J0, e0_0, e0_1, e0_2, e0_3, e0_4, e0_5, e0_6, e0_7, e0_8, e0_9, e0_10, e0_11, e0_12, e0_13, e0_14, e0_15, e0_16, e0_17, e0_18, e0_19, e0_20, e0_21, e0_22, e0_23, e0_24, e0_25, e0_26, e0_27, e0_28, e0_29, e0_30, e0_31, e0_32, e0_33, e0_34, e0_35, e0_36, e0_37, e0_38, e0_39, e0_40, e0_41, e0_42, e0_43, e0_44, e0_45, e0_46, e0_47, e0_48, e0_49, e0_50, e0_51, e0_52, e0_53, i_v, b_bv, i_lit, b_blit, i_add, i_sub, i_mul, i_div, i_mod, i_tdiv, i_tmod, i_ite, b_ite, b_lt, b_le, b_eq, b_not, b_and, b_or, b_iff, i_sel, a_tab, i_pow2, List.getD_cons_zero, List.getD_cons_succ, decide_eq_true_eq, decide_eq_false_iff_not, Bool.and_eq_true, Bool.or_eq_true, Bool.not_eq_true', Bool.not_eq_false', Bool.and_eq_false_iff, Bool.or_eq_false_iff, Bool.not_not, ite_tt, ite_ff, iff_tt, iff_ff, a_av, a_ite, a_upd, show Int.toNat 0 = 0 from rfl, show Int.toNat 1 = 1 from rfl, show Int.toNat 2 = 2 from rfl]
          refine ⟨?_, ?_, ?_, ?_, ?_, ?_, ?_, ?_, ?_, ?_, ?_, ?_, ?_, ?_, ?_, trivial⟩
          all_goals first | omega | (intro j; have r0 := m0 j; have r1 := m1 j; have r2 := m2 j; have r3 := m3 j; have r4 := m4 j; have r5 := m5 j; (repeat' split) <;> first | omega | simp) | ((repeat' split) <;> first | omega | simp_all | (simp at *; omega))
        simp only [e0_Base] at hB
        obtain ⟨hb0, hb1, _⟩ := hB
        simp only [e0_J1] at hJ
        obtain ⟨l0, l1, l2, m0, m1, m2, m3, m4, m5, i0, i1, i2, i3, i4, i5, i6, i7, i8, _⟩ := hJ
        simp only [e0_0, e0_1, e0_2, e0_3, e0_4, e0_5, e0_6, e0_7, e0_8, e0_9, e0_10, e0_11, e0_12, e0_13, e0_14, e0_15, e0_16, e0_17, e0_18, e0_19, e0_20, e0_21, e0_22, e0_23, e0_24, e0_25, e0_26, e0_27, e0_28, e0_29, e0_30, e0_31, e0_32, e0_33, e0_34, e0_35, e0_36, e0_37, e0_38, e0_39, e0_40, e0_41, e0_42, e0_43, e0_44, e0_45, e0_46, e0_47, e0_48, e0_49, e0_50, e0_51, e0_52, e0_53, i_v, b_bv, i_lit, b_blit, i_add, i_sub, i_mul, i_div, i_mod, i_tdiv, i_tmod, i_ite, b_ite, b_lt, b_le, b_eq, b_not, b_and, b_or, b_iff, i_sel, a_tab, i_pow2, List.getD_cons_zero, List.getD_cons_succ, decide_eq_true_eq, decide_eq_false_iff_not, Bool.and_eq_true, Bool.or_eq_true, Bool.not_eq_true', Bool.not_eq_false', Bool.and_eq_false_iff, Bool.or_eq_false_iff, Bool.not_not, ite_tt, ite_ff, iff_tt, iff_ff, a_av, a_ite, a_upd, show Int.toNat 0 = 0 from rfl, show Int.toNat 1 = 1 from rfl, show Int.toNat 2 = 2 from rfl] at hc0 hc2 hc4
        simp only [e0_mu, Env.app, setAll, List.map_cons, List.map_nil, List.set, List.getD_cons_zero, List.getD_cons_succ, e0_0, e0_1, e0_2, e0_3, e0_4, e0_5, e0_6, e0_7, e0_8, e0_9, e0_10, e0_11, e0_12, e0_13, e0_14, e0_15, e0_16, e0_17, e0_18, e0_19, e0_20, e0_21, e0_22, e0_23, e0_24, e0_25, e0_26, e0_27, e0_28, e0_29, e0_30, e0_31, e0_32, e0_33, e0_34, e0_35, e0_36, e0_37, e0_38, e0_39, e0_40, e0_41, e0_42, e0_43, e0_44, e0_45, e0_46, e0_47, e0_48, e0_49, e0_50, e0_51, e0_52, e0_53, i_v, b_bv, i_lit, b_blit, i_add, i_sub, i_mul, i_div, i_mod, i_tdiv, i_tmod, i_ite, b_ite, b_lt, b_le, b_eq, b_not, b_and, b_or, b_iff, i_sel, a_tab, i_pow2, List.getD_cons_zero, List.getD_cons_succ, decide_eq_true_eq, decide_eq_false_iff_not, Bool.and_eq_true, Bool.or_eq_true, Bool.not_eq_true', Bool.not_eq_false', Bool.and_eq_false_iff, Bool.or_eq_false_iff, Bool.not_not, ite_tt, ite_ff, iff_tt, iff_ff, a_av, a_ite, a_upd]
        first | omega | ((repeat' split at i5) <;> omega)
theorem e0_vcS (a1 a2 : Int) (hB : e0_Base a1 a2) :
    LT.holds (⟨[a1, a2, 0, 0, 0], [], [fun _ => 0, fun _ => 0, fun _ => 0, fun _ => 0, fun _ => 0, fun _ => 0], [], Iv (fun _ _ => Ext.none)⟩ : Env) (fun v _ => retTrue (⟨[a1, a2, 0, 0, 0], [], [fun _ => 0, fun _ => 0, fun _ => 0, fun _ => 0, fun _ => 0, fun _ => 0], [], Iv (fun _ _ => Ext.none)⟩ : Env) v) (fun j' todo ρ' => (e0_hs[j']?.map (·.todo)) = some todo ∧ e0_Inv j' ρ') (.jump 0 e0_T0 ⟨[(3, (.lit 0))], [], [(5, e0_3), (4, e0_3), (3, (.tab []))]⟩) := by
  simp only [LT.holds, retTrue]
  refine ⟨rfl, _, _, _, _, _, _, _, _, _, _, _, rfl, hB, ?_⟩
  ·
    simp only [e0_Base] at hB
    obtain ⟨hb0, hb1, _⟩ := hB
    simp only [e0_J0, e0_0, e0_1, e0_2, e0_3, e0_4, e0_5, e0_6, e0_7, e0_8, e0_9, e0_10, e0_11, e0_12, e0_13, e0_14, e0_15, e0_16, e0_17, e0_18, e0_19, e0_20, e0_21, e0_22, e0_23, e0_24, e0_25, e0_26, e0_27, e0_28, e0_29, e0_30, e0_31, e0_32, e0_33, e0_34, e0_35, e0_36, e0_37, e0_38, e0_39, e0_40, e0_41, e0_42, e0_43, e0_44, e0_45, e0_46, e0_47, e0_48, e0_49, e0_50, e0_51, e0_52, e0_53, i_v, b_bv, i_lit, b_blit, i_add, i_sub, i_mul, i_div, i_mod, i_tdiv, i_tmod, i_ite, b_ite, b_lt, b_le, b_eq, b_not, b_and, b_or, b_iff, i_sel, a_tab, i_pow2, List.getD_cons_zero, List.getD_cons_succ, decide_eq_true_eq, decide_eq_false_iff_not, Bool.and_eq_true, Bool.or_eq_true, Bool.not_eq_true', Bool.not_eq_false', Bool.and_eq_false_iff, Bool.or_eq_false_iff, Bool.not_not, ite_tt, ite_ff, iff_tt, iff_ff, a_av, a_ite, a_upd, show Int.toNat 0 = 0 from rfl, show Int.toNat 1 = 1 from rfl, show Int.toNat 2 = 2 from rfl]
    refine ⟨?_, ?_, ?_, ?_, ?_, ?_, ?_, ?_, ?_, ?_, ?_, ?_, ?_, ?_, ?_, trivial⟩
    all_goals first | omega | (intro j; (repeat' split) <;> first | omega | simp) | ((repeat' split) <;> first | omega | simp_all | (simp at *; omega))
theorem e0_calls (a1 : Int) (w1 : (Lit.int .u8 a1).wf = true) (a2 : Int) (w2 : 0 ≤ a2 ∧ a2 ≤ 40) (w : World) :
    Calls Try.prog 4 #[.int .i64 (0), .int .u8 a1, .int .i64 a2] w fun r w' => r = .returned (.bool true) ∧ Below w.heap.size w w' := by
  have hargs : (e0_Ls.map (SV.conc (⟨[a1, a2, 0, 0, 0], [], [fun _ => 0, fun _ => 0, fun _ => 0, fun _ => 0, fun _ => 0, fun _ => 0], [], Iv (fun _ _ => Ext.none)⟩ : Env) Loc.id)).toArray = #[.int .i64 (0), .int .u8 a1, .int .i64 a2] := by
    refine congrArg List.toArray ?_
    exact (cons_eq rfl (cons_eq rfl (cons_eq rfl rfl)))
  rw [← hargs]
  have hok : Hyp.ok e0_Hy (⟨[a1, a2, 0, 0, 0], [], [fun _ => 0, fun _ => 0, fun _ => 0, fun _ => 0, fun _ => 0, fun _ => 0], [], Iv (fun _ _ => Ext.none)⟩ : Env) := by
    refine ⟨?_, ?_, ?_, by simp [e0_Hy], ?_, by simp [e0_Hy]⟩
    · simp [e0_Hy]
    · intro p hp
      simp only [e0_Hy, List.mem_cons, List.not_mem_nil, or_false] at hp
      rcases hp with rfl | rfl
      · exact bounds_u8 w1
      · exact w2
    · simp [e0_Hy]
    · simp [e0_Hy]
  refine law_loops (D := e0_D) (hs := e0_hs) (ρ := (⟨[a1, a2, 0, 0, 0], [], [fun _ => 0, fun _ => 0, fun _ => 0, fun _ => 0, fun _ => 0, fun _ => 0], [], Iv (fun _ _ => Ext.none)⟩ : Env)) (G_ok _) (by kernel_rfl) rfl (e0_Inv ) e0_mu e0_st rfl ⟨rfl, rfl, rfl⟩ hok (e0_vcS (a1) (a2) ⟨bounds_u8 w1, w2, trivial⟩) ?_ w (fun i j => Ext.none_ok _)
  intro j h ρ hj hI hz hInv
  rcases j with _ | _ | j
  · simp only [e0_hs, List.getElem?_cons_zero, List.getElem?_cons_succ, Option.some.injEq] at hj; subst hj
    obtain ⟨a1, a2, x2, x3, x4, Z0, Z1, Z2, Z3, Z4, Z5, rfl, hB, hJ⟩ := hInv
    refine ⟨?_, _, e0_sg0, e0_vc0 a1 a2 x2 x3 x4 Z0 Z1 Z2 Z3 Z4 Z5 hB hJ⟩
    have hB2 := hB; have hJ2 := hJ
    simp only [e0_Base] at hB2; simp only [e0_J0] at hJ2
    obtain ⟨hb0, hb1, _⟩ := hB2
    obtain ⟨hl0, hl1, hl2, hl3, hl4, hl5, hl6, hl7, hl8, hx, _⟩ := hJ2
    refine ⟨?_, ?_, ?_, by simp [e0_h0], ?_, by simp [e0_h0]⟩
    · simp [e0_h0]
    · intro p hp
      simp only [e0_h0, List.mem_cons, List.not_mem_nil, or_false] at hp
      rcases hp with rfl | rfl | rfl | rfl | rfl
      · exact hb0
      · exact hb1
      · exact hl0
      · exact hl1
      · exact hl2
    · intro p hp
      simp only [e0_h0, List.mem_cons, List.not_mem_nil, or_false] at hp
      rcases hp with rfl | rfl | rfl | rfl | rfl | rfl
      · exact hl3
      · exact hl4
      · exact hl5
      · exact hl6
      · exact hl7
      · exact hl8
    · simp [e0_h0]
  · simp only [e0_hs, List.getElem?_cons_zero, List.getElem?_cons_succ, Option.some.injEq] at hj; subst hj
    obtain ⟨a1, a2, x2, x3, x4, Z0, Z1, Z2, Z3, Z4, Z5, rfl, hB, hJ⟩ := hInv
    refine ⟨?_, _, e0_sg1, e0_vc1 a1 a2 x2 x3 x4 Z0 Z1 Z2 Z3 Z4 Z5 hB hJ⟩
    have hB2 := hB; have hJ2 := hJ
    simp only [e0_Base] at hB2; simp only [e0_J1] at hJ2
    obtain ⟨hb0, hb1, _⟩ := hB2
    obtain ⟨hl0, hl1, hl2, hl3, hl4, hl5, hl6, hl7, hl8, hx, _⟩ := hJ2
    refine ⟨?_, ?_, ?_, by simp [e0_h1], ?_, by simp [e0_h1]⟩
    · simp [e0_h1]
    · intro p hp
      simp only [e0_h1, List.mem_cons, List.not_mem_nil, or_false] at hp
      rcases hp with rfl | rfl | rfl | rfl | rfl
      · exact hb0
      · exact hb1
      · exact hl0
      · exact hl1
      · exact hl2
    · intro p hp
      simp only [e0_h1, List.mem_cons, List.not_mem_nil, or_false] at hp
      rcases hp with rfl | rfl | rfl | rfl | rfl | rfl
      · exact hl3
      · exact hl4
      · exact hl5
      · exact hl6
      · exact hl7
      · exact hl8
    · simp [e0_h1]
  · simp [e0_hs] at hj
end Go.Proofs.Ytngbibifiadgiaa.TickTimes
