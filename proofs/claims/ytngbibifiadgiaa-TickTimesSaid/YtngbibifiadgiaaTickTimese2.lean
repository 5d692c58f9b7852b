/- A part of the law TickTimes, which returns true for every input. A timer that is on has made its tally one more behind each period times its target cycles, and not ahead of that; what was read is gone. No condition. -/
import Derived.Test.YtngbibifiadgiaaTickTimes0
namespace Go.Proofs.Ytngbibifiadgiaa.TickTimes
open Go.Sx Go.ChangeShapes Go.WideShapes Go.ChangeAt Go.RowKit
set_option linter.unusedVariables false
set_option linter.unusedSimpArgs false
set_option maxRecDepth 100000
def e2_Hy : Hyp := ⟨[(.v 0, (0, 255)), (.v 1, (0, 40))], [], [], [], [], []⟩
def e2_Ls : List SV := [.s (.int .i64 (.lit (2))), .s (.int .u8 (.v 0)), .s (.int .i64 (.v 1))]
def e2_0 : E := .eq (.v 0) (.lit 0)
def e2_1 : E := .ite e2_0 (.lit 256) (.v 0)
def e2_2 : E := .upd (.tab []) (.lit 2) (.v 0)
def e2_3 : E := .upd (.tab []) (.lit 2) (.lit 0)
def e2_4 : E := .lt (.v 3) (.v 1)
def e2_5 : E := .sel (.av 5) (.lit 0)
def e2_6 : E := .eq e2_5 (.lit 0)
def e2_7 : E := .upd (.av 5) (.lit 0) (.lit 0)
def e2_8 : E := .mul e2_1 (.lit 16)
def e2_9 : E := .add e2_8 (.lit (-1))
def e2_10 : E := .lt (.v 2) e2_9
def e2_11 : E := .add (.v 2) (.lit 1)
def e2_12 : E := .sel (.av 0) (.lit 2)
def e2_13 : E := .add e2_12 (.lit 1)
def e2_14 : E := .mod e2_13 (.lit 256)
def e2_15 : E := .le e2_14 (.lit 15)
def e2_16 : E := .sel (.av 2) (.lit 2)
def e2_17 : E := .sel (.av 1) (.lit 2)
def e2_18 : E := .add e2_17 (.lit 1)
def e2_19 : E := .mod e2_18 (.lit 256)
def e2_20 : E := .eq e2_19 (.v 0)
def e2_21 : E := .add e2_16 (.lit 1)
def e2_22 : E := .mod e2_21 (.lit 16)
def e2_23 : E := .ite e2_20 e2_22 e2_16
def e2_24 : E := .ite e2_15 e2_16 e2_23
def e2_25 : E := .upd (.av 2) (.lit 2) e2_24
def e2_26 : E := .ite e2_20 (.lit 0) e2_19
def e2_27 : E := .ite e2_15 e2_17 e2_26
def e2_28 : E := .upd (.av 1) (.lit 2) e2_27
def e2_29 : E := .sel (.av 0) (.lit 0)
def e2_30 : E := .add e2_29 (.lit 1)
def e2_31 : E := .div e2_30 (.lit 128)
def e2_32 : E := .mod e2_31 (.lit 2)
def e2_33 : E := .eq e2_32 (.lit 0)
def e2_34 : E := .mod e2_30 (.lit 256)
def e2_35 : E := .ite e2_33 e2_34 (.lit 0)
def e2_36 : E := .upd (.av 0) (.lit 0) e2_35
def e2_37 : E := .sel (.av 0) (.lit 1)
def e2_38 : E := .add e2_37 (.lit 1)
def e2_39 : E := .div e2_38 (.lit 128)
def e2_40 : E := .mod e2_39 (.lit 2)
def e2_41 : E := .eq e2_40 (.lit 0)
def e2_42 : E := .mod e2_38 (.lit 256)
def e2_43 : E := .ite e2_41 e2_42 (.lit 0)
def e2_44 : E := .upd e2_36 (.lit 1) e2_43
def e2_45 : E := .ite e2_15 e2_14 (.lit 0)
def e2_46 : E := .upd e2_44 (.lit 2) e2_45
def e2_47 : E := .eq e2_16 (.lit 0)
def e2_48 : E := .not e2_47
def e2_49 : E := .upd (.av 2) (.lit 2) (.lit 0)
def e2_50 : E := .ite e2_20 (.lit 1) (.lit 0)
def e2_51 : E := .ite e2_15 (.lit 0) e2_50
def e2_52 : E := .eq e2_51 (.lit 0)
def e2_53 : E := .add (.v 4) (.lit 1)
noncomputable def e2_T0 : List Item := todoS Try.prog G Gh [] 3000 0 4 e2_Hy e2_Ls [] 15
noncomputable def e2_h0 : Head := ⟨15, e2_T0, ⟨[((.v 0), (0, 255)), ((.v 1), (0, 40)), ((.v 2), (0, 32768)), ((.v 3), (0, 41)), ((.v 4), (0, 41))], [(0, (0, 255)), (1, (0, 255)), (2, (0, 255)), (3, (0, 255)), (4, (0, 255)), (5, (0, 255))], [], [], [], []⟩, [⟨10, [], .s (.int .i64 (.v 3))⟩, ⟨9, [], .s (.ptr 0 (.lit 0))⟩, ⟨8, [], .s (.int .i64 e2_1)⟩, ⟨7, [], .s (.int .i64 (.lit 16))⟩, ⟨0, [], .s (.int .i64 (.lit 2))⟩, ⟨2, [], .s (.int .i64 (.v 1))⟩], [⟨68, [.one (.int .u8 (.lit 4)), .rows (.lit 3) [(some .u8, e2_2), (some .u8, (.av 3)), (some .u8, (.av 4)), (some .u8, (.av 5))] 0, .run .u8 (.lit 4) (.tab []) 0, .run .u8 (.lit 4) (.tab []) 0, .run .u8 (.lit 2) (.tab []) 0], true, none, false⟩]⟩
noncomputable def e2_T1 : List Item := todoH Try.prog G Gh [] 3000 0 4 e2_h0 18
noncomputable def e2_h1 : Head := ⟨18, e2_T1, ⟨[((.v 0), (0, 255)), ((.v 1), (0, 40)), ((.v 2), (0, 32768)), ((.v 3), (0, 41)), ((.v 4), (0, 41))], [(0, (0, 255)), (1, (0, 255)), (2, (0, 255)), (3, (0, 255)), (4, (0, 255)), (5, (0, 255))], [], [], [], []⟩, [⟨11, [], .s (.int .i64 (.v 2))⟩, ⟨10, [], .s (.int .i64 (.v 4))⟩, ⟨9, [], .s (.ptr 0 (.lit 0))⟩, ⟨8, [], .s (.int .i64 e2_1)⟩, ⟨7, [], .s (.int .i64 (.lit 16))⟩, ⟨0, [], .s (.int .i64 (.lit 2))⟩, ⟨2, [], .s (.int .i64 (.v 1))⟩], [⟨68, [.one (.int .u8 (.lit 4)), .rows (.lit 3) [(some .u8, e2_2), (some .u8, (.av 0)), (some .u8, (.av 1)), (some .u8, (.av 2))] 0, .run .u8 (.lit 4) (.tab []) 0, .run .u8 (.lit 4) (.tab []) 0, .run .u8 (.lit 2) (.tab []) 0], true, none, false⟩]⟩
noncomputable def e2_hs : List Head := [e2_h0, e2_h1]
def e2_D : Dim := ⟨5, 0, 6, 2, 0, 0, 0⟩
theorem e2_st : startL Try.prog G Gh e2_D e2_hs [] 3000 0 4 e2_Hy e2_Ls [] = some (.jump 0 e2_T0 ⟨[(3, (.lit 0))], [], [(5, e2_3), (4, e2_3), (3, (.tab []))]⟩) := by kernel_rfl
theorem e2_sg0 : segL Try.prog G Gh e2_D e2_hs [] 3000 0 4 e2_h0 = some (.ite e2_4 (.jump 1 e2_T1 ⟨[(4, (.v 3)), (2, (.lit 0))], [], [(2, (.av 5)), (1, (.av 4)), (0, (.av 3))]⟩) (.ret (.s (.bool e2_6)) [⟨68, [.one (.int .u8 (.lit 4)), .rows (.lit 3) [(some .u8, e2_2), (some .u8, (.av 3)), (some .u8, (.av 4)), (some .u8, e2_7)] 0, .run .u8 (.lit 4) (.tab []) 0, .run .u8 (.lit 4) (.tab []) 0, .run .u8 (.lit 2) (.tab []) 0], true, none, false⟩])) := by kernel_rfl
theorem e2_sg1 : segL Try.prog G Gh e2_D e2_hs [] 3000 0 4 e2_h1 = some (.ite e2_10 (.jump 1 e2_T1 ⟨[(4, (.v 4)), (2, e2_11)], [], [(2, e2_25), (1, e2_28), (0, e2_46)]⟩) (.ite e2_48 (.ret (.s (.bool (.blit false))) [⟨68, [.one (.int .u8 (.lit 4)), .rows (.lit 3) [(some .u8, e2_2), (some .u8, (.av 0)), (some .u8, (.av 1)), (some .u8, e2_49)] 0, .run .u8 (.lit 4) (.tab []) 0, .run .u8 (.lit 4) (.tab []) 0, .run .u8 (.lit 2) (.tab []) 0], true, none, false⟩]) (.ite e2_52 (.ret (.s (.bool (.blit false))) [⟨68, [.one (.int .u8 (.lit 4)), .rows (.lit 3) [(some .u8, e2_2), (some .u8, e2_46), (some .u8, e2_28), (some .u8, e2_49)] 0, .run .u8 (.lit 4) (.tab []) 0, .run .u8 (.lit 4) (.tab []) 0, .run .u8 (.lit 2) (.tab []) 0], true, none, false⟩]) (.jump 0 e2_T0 ⟨[(3, e2_53)], [], [(5, e2_49), (4, e2_28), (3, e2_46)]⟩)))) := by kernel_rfl
def e2_Base (a1 a2 : Int) : Prop := (0 ≤ a1 ∧ a1 ≤ 255) ∧ (0 ≤ a2 ∧ a2 ≤ 40) ∧ True
def e2_J0 (a1 a2 x2 x3 x4 : Int) (Z0 Z1 Z2 Z3 Z4 Z5 : Nat → Int) : Prop := (0 ≤ x2 ∧ x2 ≤ 32768) ∧ (0 ≤ x3 ∧ x3 ≤ 41) ∧ (0 ≤ x4 ∧ x4 ≤ 41) ∧ (∀ j, 0 ≤ Z0 j ∧ Z0 j ≤ 255) ∧ (∀ j, 0 ≤ Z1 j ∧ Z1 j ≤ 255) ∧ (∀ j, 0 ≤ Z2 j ∧ Z2 j ≤ 255) ∧ (∀ j, 0 ≤ Z3 j ∧ Z3 j ≤ 255) ∧ (∀ j, 0 ≤ Z4 j ∧ Z4 j ≤ 255) ∧ (∀ j, 0 ≤ Z5 j ∧ Z5 j ≤ 255) ∧ Z3 2 = 0 ∧ Z4 2 = 0 ∧ Z5 2 = 0 ∧ Z5 0 = 0 ∧ 0 ≤ x3 ∧ x3 ≤ a2 ∧ True
def e2_J1 (a1 a2 x2 x3 x4 : Int) (Z0 Z1 Z2 Z3 Z4 Z5 : Nat → Int) : Prop := (0 ≤ x2 ∧ x2 ≤ 32768) ∧ (0 ≤ x3 ∧ x3 ≤ 41) ∧ (0 ≤ x4 ∧ x4 ≤ 41) ∧ (∀ j, 0 ≤ Z0 j ∧ Z0 j ≤ 255) ∧ (∀ j, 0 ≤ Z1 j ∧ Z1 j ≤ 255) ∧ (∀ j, 0 ≤ Z2 j ∧ Z2 j ≤ 255) ∧ (∀ j, 0 ≤ Z3 j ∧ Z3 j ≤ 255) ∧ (∀ j, 0 ≤ Z4 j ∧ Z4 j ≤ 255) ∧ (∀ j, 0 ≤ Z5 j ∧ Z5 j ≤ 255) ∧ Z1 2 * 16 + Z0 2 = x2 ∧ Z0 2 ≤ 15 ∧ Z2 2 = 0 ∧ Z2 0 = 0 ∧ 0 ≤ x2 ∧ x2 ≤ (if a1 = 0 then 256 else a1) * 16 - 1 ∧ 0 ≤ x4 ∧ x4 < a2 ∧ True
def e2_Inv : Nat → Env → Prop
  | 0, ρ => ∃ (a1 a2 x2 x3 x4 : Int) (Z0 Z1 Z2 Z3 Z4 Z5 : Nat → Int), ρ = (⟨[a1, a2, x2, x3, x4], [], [Z0, Z1, Z2, Z3, Z4, Z5], [], Iv (fun _ _ => Ext.none)⟩ : Env) ∧ e2_Base a1 a2 ∧ e2_J0 a1 a2 x2 x3 x4 Z0 Z1 Z2 Z3 Z4 Z5
  | 1, ρ => ∃ (a1 a2 x2 x3 x4 : Int) (Z0 Z1 Z2 Z3 Z4 Z5 : Nat → Int), ρ = (⟨[a1, a2, x2, x3, x4], [], [Z0, Z1, Z2, Z3, Z4, Z5], [], Iv (fun _ _ => Ext.none)⟩ : Env) ∧ e2_Base a1 a2 ∧ e2_J1 a1 a2 x2 x3 x4 Z0 Z1 Z2 Z3 Z4 Z5
  | _, _ => False
def e2_mu : Nat → Env → Nat := fun j ρ => match j with | 0 => ((41 - ρ.i.getD 3 0) * 40000).toNat | _ => ((40 - ρ.i.getD 4 0) * 40000 + 33000 - ρ.i.getD 2 0).toNat
theorem e2_vc0 (a1 a2 x2 x3 x4 : Int) (Z0 Z1 Z2 Z3 Z4 Z5 : Nat → Int) (hB : e2_Base a1 a2) (hJ : e2_J0 a1 a2 x2 x3 x4 Z0 Z1 Z2 Z3 Z4 Z5) :
    LT.holds (⟨[a1, a2, x2, x3, x4], [], [Z0, Z1, Z2, Z3, Z4, Z5], [], Iv (fun _ _ => Ext.none)⟩ : Env) (fun v _ => retTrue (⟨[a1, a2, x2, x3, x4], [], [Z0, Z1, Z2, Z3, Z4, Z5], [], Iv (fun _ _ => Ext.none)⟩ : Env) v) (fun j' todo ρ' => (e2_hs[j']?.map (·.todo)) = some todo ∧ e2_Inv j' ρ' ∧ e2_mu j' ρ' < e2_mu 0 (⟨[a1, a2, x2, x3, x4], [], [Z0, Z1, Z2, Z3, Z4, Z5], [], Iv (fun _ _ => Ext.none)⟩ : Env)) (.ite e2_4 (.jump 1 e2_T1 ⟨[(4, (.v 3)), (2, (.lit 0))], [], [(2, (.av 5)), (1, (.av 4)), (0, (.av 3))]⟩) (.ret (.s (.bool e2_6)) [⟨68, [.one (.int .u8 (.lit 4)), .rows (.lit 3) [(some .u8, e2_2), (some .u8, (.av 3)), (some .u8, (.av 4)), (some .u8, e2_7)] 0, .run .u8 (.lit 4) (.tab []) 0, .run .u8 (.lit 4) (.tab []) 0, .run .u8 (.lit 2) (.tab []) 0], true, none, false⟩])) := by
  simp only [LT.holds, retTrue]
  refine ⟨fun hc0 => ?_, fun hc0 => ?_⟩
  ·
    refine ⟨rfl, ⟨_, _, _, _, _, _, _, _, _, _, _, rfl, hB, ?_⟩, ?_⟩
    ·
      simp only [e2_Base] at hB
      obtain ⟨hb0, hb1, _⟩ := hB
      simp only [e2_J0] at hJ
      obtain ⟨l0, l1, l2, m0, m1, m2, m3, m4, m5, i0, i1, i2, i3, i4, i5, i6, _⟩ := hJ
      have q00 := m0 0
      have q01 := m0 1
      have q02 := m0 2
      have q10 := m1 0
      have q11 := m1 1
      have q12 := m1 2
      have q20 := m2 0
      have q21 := m2 1
      have q22 := m2 2
      have q30 := m3 0
      have q31 := m3 1
      have q32 := m3 2
      have q40 := m4 0
      have q41 := m4 1
      have q42 := m4 2
      have q50 := m5 0
      have q51 := m5 1
      have q52 := m5 2
      simp only [e2_0, e2_1, e2_2, e2_3, e2_4, e2_5, e2_6, e2_7, e2_8, e2_9, e2_10, e2_11, e2_12, e2_13, e2_14, e2_15, e2_16, e2_17, e2_18, e2_19, e2_20, e2_21, e2_22, e2_23, e2_24, e2_25, e2_26, e2_27, e2_28, e2_29, e2_30, e2_31, e2_32, e2_33, e2_34, e2_35, e2_36, e2_37, e2_38, e2_39, e2_40, e2_41, e2_42, e2_43, e2_44, e2_45, e2_46, e2_47, e2_48, e2_49, e2_50, e2_51, e2_52, e2_53, i_v, b_bv, i_lit, b_blit, i_add, i_sub, i_mul, i_div, i_mod, i_tdiv, i_tmod, i_ite, b_ite, b_lt, b_le, b_eq, b_not, b_and, b_or, b_iff, i_sel, a_tab, i_pow2, List.getD_cons_zero, List.getD_cons_succ, decide_eq_true_eq, decide_eq_false_iff_not, Bool.and_eq_true, Bool.or_eq_true, Bool.not_eq_true', Bool.not_eq_false', Bool.and_eq_false_iff, Bool.or_eq_false_iff, Bool.not_not, ite_tt, ite_ff, iff_tt, iff_ff, a_av, a_ite, a_upd, show Int.toNat 0 = 0 from rfl, show Int.toNat 1 = 1 from rfl, show Int.toNat 2 = 2 from rfl] at hc0
      simp only [e2_J1, e2_0, e2_1, e2_2, e2_3, e2_4, e2_5, e2_6, e2_7, e2_8, e2_9, e2_10, e2_11, e2_12, e2_13, e2_14, e2_15, e2_16, e2_17, e2_18, e2_19, e2_20, e2_21, e2_22, e2_23, e2_24, e2_25, e2_26, e2_27, e2_28, e2_29, e2_30, e2_31, e2_32, e2_33, e2_34, e2_35, e2_36, e2_37, e2_38, e2_39, e2_40, e2_41, e2_42, e2_43, e2_44, e2_45, e2_46, e2_47, e2_48, e2_49, e2_50, e2_51, e2_52, e2_53, i_v, b_bv, i_lit, b_blit, i_add, i_sub, i_mul, i_div, i_mod, i_tdiv, i_tmod, i_ite, b_ite, b_lt, b_le, b_eq, b_not, b_and, b_or, b_iff, i_sel, a_tab, i_pow2, List.getD_cons_zero, List.getD_cons_succ, decide_eq_true_eq, decide_eq_false_iff_not, Bool.and_eq_true, Bool.or_eq_true, Bool.not_eq_true', Bool.not_eq_false', Bool.and_eq_false_iff, Bool.or_eq_false_iff, Bool.not_not, ite_tt, ite_ff, iff_tt, iff_ff, a_av, a_ite, a_upd, show Int.toNat 0 = 0 from rfl, show Int.toNat 1 = 1 from rfl, show Int.toNat 2 = 2 from rfl]
      refine ⟨?_, ?_, ?_, ?_, ?_, ?_, ?_, ?_, ?_, ?_, ?_, ?_, ?_, ?_, ?_, ?_, ?_, trivial⟩
      all_goals first | omega | (intro j; have r0 := m0 j; have r1 := m1 j; have r2 := m2 j; have r3 := m3 j; have r4 := m4 j; have r5 := m5 j; (repeat' split) <;> first | omega | simp) | ((repeat' split) <;> first | omega | simp_all | (simp at *; omega))
    simp only [e2_Base] at hB
    obtain ⟨hb0, hb1, _⟩ := hB
    simp only [e2_J0] at hJ
    obtain ⟨l0, l1, l2, m0, m1, m2, m3, m4, m5, i0, i1, i2, i3, i4, i5, i6, _⟩ := hJ
    simp only [e2_0, e2_1, e2_2, e2_3, e2_4, e2_5, e2_6, e2_7, e2_8, e2_9, e2_10, e2_11, e2_12, e2_13, e2_14, e2_15, e2_16, e2_17, e2_18, e2_19, e2_20, e2_21, e2_22, e2_23, e2_24, e2_25, e2_26, e2_27, e2_28, e2_29, e2_30, e2_31, e2_32, e2_33, e2_34, e2_35, e2_36, e2_37, e2_38, e2_39, e2_40, e2_41, e2_42, e2_43, e2_44, e2_45, e2_46, e2_47, e2_48, e2_49, e2_50, e2_51, e2_52, e2_53, i_v, b_bv, i_lit, b_blit, i_add, i_sub, i_mul, i_div, i_mod, i_tdiv, i_tmod, i_ite, b_ite, b_lt, b_le, b_eq, b_not, b_and, b_or, b_iff, i_sel, a_tab, i_pow2, List.getD_cons_zero, List.getD_cons_succ, decide_eq_true_eq, decide_eq_false_iff_not, Bool.and_eq_true, Bool.or_eq_true, Bool.not_eq_true', Bool.not_eq_false', Bool.and_eq_false_iff, Bool.or_eq_false_iff, Bool.not_not, ite_tt, ite_ff, iff_tt, iff_ff, a_av, a_ite, a_upd, show Int.toNat 0 = 0 from rfl, show Int.toNat 1 = 1 from rfl, show Int.toNat 2 = 2 from rfl] at hc0
    simp only [e2_mu, Env.app, setAll, List.map_cons, List.map_nil, List.set, List.getD_cons_zero, List.getD_cons_succ, e2_0, e2_1, e2_2, e2_3, e2_4, e2_5, e2_6, e2_7, e2_8, e2_9, e2_10, e2_11, e2_12, e2_13, e2_14, e2_15, e2_16, e2_17, e2_18, e2_19, e2_20, e2_21, e2_22, e2_23, e2_24, e2_25, e2_26, e2_27, e2_28, e2_29, e2_30, e2_31, e2_32, e2_33, e2_34, e2_35, e2_36, e2_37, e2_38, e2_39, e2_40, e2_41, e2_42, e2_43, e2_44, e2_45, e2_46, e2_47, e2_48, e2_49, e2_50, e2_51, e2_52, e2_53, i_v, b_bv, i_lit, b_blit, i_add, i_sub, i_mul, i_div, i_mod, i_tdiv, i_tmod, i_ite, b_ite, b_lt, b_le, b_eq, b_not, b_and, b_or, b_iff, i_sel, a_tab, i_pow2, List.getD_cons_zero, List.getD_cons_succ, decide_eq_true_eq, decide_eq_false_iff_not, Bool.and_eq_true, Bool.or_eq_true, Bool.not_eq_true', Bool.not_eq_false', Bool.and_eq_false_iff, Bool.or_eq_false_iff, Bool.not_not, ite_tt, ite_ff, iff_tt, iff_ff, a_av, a_ite, a_upd]
    omega
  ·
    simp only [e2_Base] at hB
    obtain ⟨hb0, hb1, _⟩ := hB
    simp only [e2_J0] at hJ
    obtain ⟨l0, l1, l2, m0, m1, m2, m3, m4, m5, i0, i1, i2, i3, i4, i5, i6, _⟩ := hJ
    simp only [e2_0, e2_1, e2_2, e2_3, e2_4, e2_5, e2_6, e2_7, e2_8, e2_9, e2_10, e2_11, e2_12, e2_13, e2_14, e2_15, e2_16, e2_17, e2_18, e2_19, e2_20, e2_21, e2_22, e2_23, e2_24, e2_25, e2_26, e2_27, e2_28, e2_29, e2_30, e2_31, e2_32, e2_33, e2_34, e2_35, e2_36, e2_37, e2_38, e2_39, e2_40, e2_41, e2_42, e2_43, e2_44, e2_45, e2_46, e2_47, e2_48, e2_49, e2_50, e2_51, e2_52, e2_53, i_v, b_bv, i_lit, b_blit, i_add, i_sub, i_mul, i_div, i_mod, i_tdiv, i_tmod, i_ite, b_ite, b_lt, b_le, b_eq, b_not, b_and, b_or, b_iff, i_sel, a_tab, i_pow2, List.getD_cons_zero, List.getD_cons_succ, decide_eq_true_eq, decide_eq_false_iff_not, Bool.and_eq_true, Bool.or_eq_true, Bool.not_eq_true', Bool.not_eq_false', Bool.and_eq_false_iff, Bool.or_eq_false_iff, Bool.not_not, ite_tt, ite_ff, iff_tt, iff_ff, a_av, a_ite, a_upd, show Int.toNat 0 = 0 from rfl, show Int.toNat 1 = 1 from rfl, show Int.toNat 2 = 2 from rfl]
    exact i3
theorem e2_vc1 (a1 a2 x2 x3 x4 : Int) (Z0 Z1 Z2 Z3 Z4 Z5 : Nat → Int) (hB : e2_Base a1 a2) (hJ : e2_J1 a1 a2 x2 x3 x4 Z0 Z1 Z2 Z3 Z4 Z5) :
    LT.holds (⟨[a1, a2, x2, x3, x4], [], [Z0, Z1, Z2, Z3, Z4, Z5], [], Iv (fun _ _ => Ext.none)⟩ : Env) (fun v _ => retTrue (⟨[a1, a2, x2, x3, x4], [], [Z0, Z1, Z2, Z3, Z4, Z5], [], Iv (fun _ _ => Ext.none)⟩ : Env) v) (fun j' todo ρ' => (e2_hs[j']?.map (·.todo)) = some todo ∧ e2_Inv j' ρ' ∧ e2_mu j' ρ' < e2_mu 1 (⟨[a1, a2, x2, x3, x4], [], [Z0, Z1, Z2, Z3, Z4, Z5], [], Iv (fun _ _ => Ext.none)⟩ : Env)) (.ite e2_10 (.jump 1 e2_T1 ⟨[(4, (.v 4)), (2, e2_11)], [], [(2, e2_25), (1, e2_28), (0, e2_46)]⟩) (.ite e2_48 (.ret (.s (.bool (.blit false))) [⟨68, [.one (.int .u8 (.lit 4)), .rows (.lit 3) [(some .u8, e2_2), (some .u8, (.av 0)), (some .u8, (.av 1)), (some .u8, e2_49)] 0, .run .u8 (.lit 4) (.tab []) 0, .run .u8 (.lit 4) (.tab []) 0, .run .u8 (.lit 2) (.tab []) 0], true, none, false⟩]) (.ite e2_52 (.ret (.s (.bool (.blit false))) [⟨68, [.one (.int .u8 (.lit 4)), .rows (.lit 3) [(some .u8, e2_2), (some .u8, e2_46), (some .u8, e2_28), (some .u8, e2_49)] 0, .run .u8 (.lit 4) (.tab []) 0, .run .u8 (.lit 4) (.tab []) 0, .run .u8 (.lit 2) (.tab []) 0], true, none, false⟩]) (.jump 0 e2_T0 ⟨[(3, e2_53)], [], [(5, e2_49), (4, e2_28), (3, e2_46)]⟩)))) := by
  simp only [LT.holds, retTrue]
  refine ⟨fun hc0 => ?_, fun hc0 => ?_⟩
  ·
    refine ⟨rfl, ⟨_, _, _, _, _, _, _, _, _, _, _, rfl, hB, ?_⟩, ?_⟩
    ·
      simp only [e2_Base] at hB
      obtain ⟨hb0, hb1, _⟩ := hB
      simp only [e2_J1] at hJ
      obtain ⟨l0, l1, l2, m0, m1, m2, m3, m4, m5, i0, i1, i2, i3, i4, i5, i6, i7, i8, _⟩ := hJ
      have q00 := m0 0
      have q01 := m0 1
      have q02 := m0 2
      have q10 := m1 0
      have q11 := m1 1
      have q12 := m1 2
      have q20 := m2 0
      have q21 := m2 1
      have q22 := m2 2
      have q30 := m3 0
      have q31 := m3 1
      have q32 := m3 2
      have q40 := m4 0
      have q41 := m4 1
      have q42 := m4 2
      have q50 := m5 0
      have q51 := m5 1
      have q52 := m5 2
      simp only [e2_0, e2_1, e2_2, e2_3, e2_4, e2_5, e2_6, e2_7, e2_8, e2_9, e2_10, e2_11, e2_12, e2_13, e2_14, e2_15, e2_16, e2_17, e2_18, e2_19, e2_20, e2_21, e2_22, e2_23, e2_24, e2_25, e2_26, e2_27, e2_28, e2_29, e2_30, e2_31, e2_32, e2_33, e2_34, e2_35, e2_36, e2_37, e2_38, e2_39, e2_40, e2_41, e2_42, e2_43, e2_44, e2_45, e2_46, e2_47, e2_48, e2_49, e2_50, e2_51, e2_52, e2_53, i_v, b_bv, i_lit, b_blit, i_add, i_sub, i_mul, i_div, i_mod, i_tdiv, i_tmod, i_ite, b_ite, b_lt, b_le, b_eq, b_not, b_and, b_or, b_iff, i_sel, a_tab, i_pow2, List.getD_cons_zero, List.getD_cons_succ, decide_eq_true_eq, decide_eq_false_iff_not, Bool.and_eq_true, Bool.or_eq_true, Bool.not_eq_true', Bool.not_eq_false', Bool.and_eq_false_iff, Bool.or_eq_false_iff, Bool.not_not, ite_tt, ite_ff, iff_tt, iff_ff, a_av, a_ite, a_upd, show Int.toNat 0 = 0 from rfl, show Int.toNat 1 = 1 from rfl, show Int.toNat 2 = 2 from rfl] at hc0
      simp only [e2_J1, e2_0, e2_1, e2_2, e2_3, e2_4, e2_5, e2_6, e2_7, e2_8, e2_9, e2_10, e2_11, e2_12, e2_13, e2_14, e2_15, e2_16, e2_17, e2_18, e2_19, e2_20, e2_21, e2_22, e2_23, e2_24, e2_25, e2_26, e2_27, e2_28, e2_29, e2_30, e2_31, e2_32, e2_33, e2_34, e2_35, e2_36, e2_37, e2_38, e2_39, e2_40, e2_41, e2_42, e2_43, e2_44, e2_45, e2_46, e2_47, e2_48, e2_49, e2_50, e2_51, e2_52, e2_53, i_v, b_bv, i_lit, b_blit, i_add, i_sub, i_mul, i_div, i_mod, i_tdiv, i_tmod, i_ite, b_ite, b_lt, b_le, b_eq, b_not, b_and, b_or, b_iff, i_sel, a_tab, i_pow2, List.getD_cons_zero, List.getD_cons_succ, decide_eq_true_eq, decide_eq_false_iff_not, Bool.and_eq_true, Bool.or_eq_true, Bool.not_eq_true', Bool.not_eq_false', Bool.and_eq_false_iff, Bool.or_eq_false_iff, Bool.not_not, ite_tt, ite_ff, iff_tt, iff_ff, a_av, a_ite, a_upd, show Int.toNat 0 = 0 from rfl, show Int.toNat 1 = 1 from rfl, show Int.toNat 2 = 2 from rfl]
      refine ⟨?_, ?_, ?_, ?_, ?_, ?_, ?_, ?_, ?_, ?_, ?_, ?_, ?_, ?_, ?_, ?_, ?_, trivial⟩
      all_goals first | omega | (intro j; have r0 := m0 j; have r1 := m1 j; have r2 := m2 j; have r3 := m3 j; have r4 := m4 j; have r5 := m5 j; (repeat' split) <;> first | omega | simp) | ((repeat' split) <;> first | omega | simp_all | (simp at *; omega))
    simp only [e2_Base] at hB
    obtain ⟨hb0, hb1, _⟩ := hB
    simp only [e2_J1] at hJ
    obtain ⟨l0, l1, l2, m0, m1, m2, m3, m4, m5, i0, i1, i2, i3, i4, i5, i6, i7, i8, _⟩ := hJ
    simp only [e2_0, e2_1, e2_2, e2_3, e2_4, e2_5, e2_6, e2_7, e2_8, e2_9, e2_10, e2_11, e2_12, e2_13, e2_14, e2_15, e2_16, e2_17, e2_18, e2_19, e2_20, e2_21, e2_22, e2_23, e2_24, e2_25, e2_26, e2_27, e2_28, e2_29, e2_30, e2_31, e2_32, e2_33, e2_34, e2_35, e2_36, e2_37, e2_38, e2_39, e2_40, e2_41, e2_42, e2_43, e2_44, e2_45, e2_46, e2_47, e2_48, e2_49, e2_50, e2_51, e2_52, e2_53, i_v, b_bv, i_lit, b_blit, i_add, i_sub, i_mul, i_div, i_mod, i_tdiv, i_tmod, i_ite, b_ite, b_lt, b_le, b_eq, b_not, b_and, b_or, b_iff, i_sel, a_tab, i_pow2, List.getD_cons_zero, List.getD_cons_succ, decide_eq_true_eq, decide_eq_false_iff_not, Bool.and_eq_true, Bool.or_eq_true, Bool.not_eq_true', Bool.not_eq_false', Bool.and_eq_false_iff, Bool.or_eq_false_iff, Bool.not_not, ite_tt, ite_ff, iff_tt, iff_ff, a_av, a_ite, a_upd, show Int.toNat 0 = 0 from rfl, show Int.toNat 1 = 1 from rfl, show Int.toNat 2 = 2 from rfl] at hc0
    simp only [e2_mu, Env.app, setAll, List.map_cons, List.map_nil, List.set, List.getD_cons_zero, List.getD_cons_succ, e2_0, e2_1, e2_2, e2_3, e2_4, e2_5, e2_6, e2_7, e2_8, e2_9, e2_10, e2_11, e2_12, e2_13, e2_14, e2_15, e2_16, e2_17, e2_18, e2_19, e2_20, e2_21, e2_22, e2_23, e2_24, e2_25, e2_26, e2_27, e2_28, e2_29, e2_30, e2_31, e2_32, e2_33, e2_34, e2_35, e2_36, e2_37, e2_38, e2_39, e2_40, e2_41, e2_42, e2_43, e2_44, e2_45, e2_46, e2_47, e2_48, e2_49, e2_50, e2_51, e2_52, e2_53, i_v, b_bv, i_lit, b_blit, i_add, i_sub, i_mul, i_div, i_mod, i_tdiv, i_tmod, i_ite, b_ite, b_lt, b_le, b_eq, b_not, b_and, b_or, b_iff, i_sel, a_tab, i_pow2, List.getD_cons_zero, List.getD_cons_succ, decide_eq_true_eq, decide_eq_false_iff_not, Bool.and_eq_true, Bool.or_eq_true, Bool.not_eq_true', Bool.not_eq_false', Bool.and_eq_false_iff, Bool.or_eq_false_iff, Bool.not_not, ite_tt, ite_ff, iff_tt, iff_ff, a_av, a_ite, a_upd]
    first | omega | ((repeat' split at i5) <;> omega)
  ·
    refine ⟨fun hc2 => ?_, fun hc2 => ?_⟩
    ·
      exfalso
      simp only [e2_Base] at hB
      obtain ⟨hb0, hb1, _⟩ := hB
      simp only [e2_J1] at hJ
      obtain ⟨l0, l1, l2, m0, m1, m2, m3, m4, m5, i0, i1, i2, i3, i4, i5, i6, i7, i8, _⟩ := hJ
      simp only [e2_0, e2_1, e2_2, e2_3, e2_4, e2_5, e2_6, e2_7, e2_8, e2_9, e2_10, e2_11, e2_12, e2_13, e2_14, e2_15, e2_16, e2_17, e2_18, e2_19, e2_20, e2_21, e2_22, e2_23, e2_24, e2_25, e2_26, e2_27, e2_28, e2_29, e2_30, e2_31, e2_32, e2_33, e2_34, e2_35, e2_36, e2_37, e2_38, e2_39, e2_40, e2_41, e2_42, e2_43, e2_44, e2_45, e2_46, e2_47, e2_48, e2_49, e2_50, e2_51, e2_52, e2_53, i_v, b_bv, i_lit, b_blit, i_add, i_sub, i_mul, i_div, i_mod, i_tdiv, i_tmod, i_ite, b_ite, b_lt, b_le, b_eq, b_not, b_and, b_or, b_iff, i_sel, a_tab, i_pow2, List.getD_cons_zero, List.getD_cons_succ, decide_eq_true_eq, decide_eq_false_iff_not, Bool.and_eq_true, Bool.or_eq_true, Bool.not_eq_true', Bool.not_eq_false', Bool.and_eq_false_iff, Bool.or_eq_false_iff, Bool.not_not, ite_tt, ite_ff, iff_tt, iff_ff, a_av, a_ite, a_upd, show Int.toNat 0 = 0 from rfl, show Int.toNat 1 = 1 from rfl, show Int.toNat 2 = 2 from rfl] at hc0 hc2
      omega
    ·
      refine ⟨fun hc4 => ?_, fun hc4 => ?_⟩
      ·
        exfalso
        simp only [e2_Base] at hB
        obtain ⟨hb0, hb1, _⟩ := hB
        simp only [e2_J1] at hJ
        obtain ⟨l0, l1, l2, m0, m1, m2, m3, m4, m5, i0, i1, i2, i3, i4, i5, i6, i7, i8, _⟩ := hJ
        have q00 := m0 0
        have q01 := m0 1
        have q02 := m0 2
        have q10 := m1 0
        have q11 := m1 1
        have q12 := m1 2
        have q20 := m2 0
        have q21 := m2 1
        have q22 := m2 2
        have q30 := m3 0
        have q31 := m3 1
        have q32 := m3 2
        have q40 := m4 0
        have q41 := m4 1
        have q42 := m4 2
        have q50 := m5 0
        have q51 := m5 1
        have q52 := m5 2
        simp only [e2_0, e2_1, e2_2, e2_3, e2_4, e2_5, e2_6, e2_7, e2_8, e2_9, e2_10, e2_11, e2_12, e2_13, e2_14, e2_15, e2_16, e2_17, e2_18, e2_19, e2_20, e2_21, e2_22, e2_23, e2_24, e2_25, e2_26, e2_27, e2_28, e2_29, e2_30, e2_31, e2_32, e2_33, e2_34, e2_35, e2_36, e2_37, e2_38, e2_39, e2_40, e2_41, e2_42, e2_43, e2_44, e2_45, e2_46, e2_47, e2_48, e2_49, e2_50, e2_51, e2_52, e2_53, i_v, b_bv, i_lit, b_blit, i_add, i_sub, i_mul, i_div, i_mod, i_tdiv, i_tmod, i_ite, b_ite, b_lt, b_le, b_eq, b_not, b_and, b_or, b_iff, i_sel, a_tab, i_pow2, List.getD_cons_zero, List.getD_cons_succ, decide_eq_true_eq, decide_eq_false_iff_not, Bool.and_eq_true, Bool.or_eq_true, Bool.not_eq_true', Bool.not_eq_false', Bool.and_eq_false_iff, Bool.or_eq_false_iff, Bool.not_not, ite_tt, ite_ff, iff_tt, iff_ff, a_av, a_ite, a_upd, show Int.toNat 0 = 0 from rfl, show Int.toNat 1 = 1 from rfl, show Int.toNat 2 = 2 from rfl] at hc0 hc2 hc4
        repeat' split at i5
        all_goals (first | omega | (repeat' split at hc0 <;> first | omega | (repeat' split at hc4 <;> omega)))
      ·
        refine ⟨rfl, ⟨_, _, _, _, _, _, _, _, _, _, _, rfl, hB, ?_⟩, ?_⟩
        ·
          simp only [e2_Base] at hB
          obtain ⟨hb0, hb1, _⟩ := hB
          simp only [e2_J1] at hJ
          obtain ⟨l0, l1, l2, m0, m1, m2, m3, m4, m5, i0, i1, i2, i3, i4, i5, i6, i7, i8, _⟩ := hJ
          have q00 := m0 0
          have q01 := m0 1
          have q02 := m0 2
          have q10 := m1 0
          have q11 := m1 1
          have q12 := m1 2
          have q20 := m2 0
          have q21 := m2 1
          have q22 := m2 2
          have q30 := m3 0
          have q31 := m3 1
          have q32 := m3 2
          have q40 := m4 0
          have q41 := m4 1
          have q42 := m4 2
          have q50 := m5 0
          have q51 := m5 1
          have q52 := m5 2
          simp only [e2_0, e2_1, e2_2, e2_3, e2_4, e2_5, e2_6, e2_7, e2_8, e2_9, e2_10, e2_11, e2_12, e2_13, e2_14, e2_15, e2_16, e2_17, e2_18, e2_19, e2_20, e2_21, e2_22, e2_23, e2_24, e2_25, e2_26, e2_27, e2_28, e2_29, e2_30, e2_31, e2_32, e2_33, e2_34, e2_35, e2_36, e2_37, e2_38, e2_39, e2_40, e2_41, e2_42, e2_43, e2_44, e2_45, e2_46, e2_47, e2_48, e2_49, e2_50, e2_51, e2_52, e2_53, i_v, b_bv, i_lit, b_blit, i_add, i_sub, i_mul, i_div, i_mod, i_tdiv, i_tmod, i_ite, b_ite, b_lt, b_le, b_eq, b_not, b_and, b_or, b_iff, i_sel, a_tab, i_pow2, List.getD_cons_zero, List.getD_cons_succ, decide_eq_true_eq, decide_eq_false_iff_not, Bool.and_eq_true, Bool.or_eq_true, Bool.not_eq_true', Bool.not_eq_false', Bool.and_eq_false_iff, Bool.or_eq_false_iff, Bool.not_not, ite_tt, ite_ff, iff_tt, iff_ff, a_av, a_ite, a_upd, show Int.toNat 0 = 0 from rfl, show Int.toNat 1 = 1 from rfl, show Int.toNat 2 = 2 from rfl] at hc0 hc2 hc4
          simp only [e2_J0, e2_0, e2_1, e2_2, e2_3, e2_4, e2_5, e2_6, e2_7, e2_8, e2_9, e2_10, e2_11, e2_12, e2_13, e2_14, e2_15, e2_16, e2_17, e2_18, e2_19, e2_20, e2_21, e2_22, e2_23, e2_24, e2_25, e2_26, e2_27, e2_28, e2_29, e2_30, e2_31, e2_32, e2_33, e2_34, e2_35, e2_36, e2_37, e2_38, e2_39, e2_40, e2_41, e2_42, e2_43, e2_44, e2_45, e2_46, e2_47, e2_48, e2_49, e2_50, e2_51, e2_52, e2_53, i_v, b_bv, i_lit, b_blit, i_add, i_sub, i_mul, i_div, i_mod, i_tdiv, i_tmod, i_ite, b_ite, b_lt, b_le, b_eq, b_not, b_and, b_or, b_iff, i_sel, a_tab, i_pow2, List.getD_cons_zero, List.getD_cons_succ, decide_eq_true_eq, decide_eq_false_iff_not, Bool.and_eq_true, Bool.or_eq_true, Bool.not_eq_true', Bool.not_eq_false', Bool.and_eq_false_iff, Bool.or_eq_false_iff, Bool.not_not, ite_tt, ite_ff, iff_tt, iff_ff, a_av, a_ite, a_upd, show Int.toNat 0 = 0 from rfl, show Int.toNat 1 = 1 from rfl, show Int.toNat 2 = 2 from rfl]
          refine ⟨?_, ?_, ?_, ?_, ?_, ?_, ?_, ?_, ?_, ?_, ?_, ?_, ?_, ?_, ?_, trivial⟩
          all_goals first | omega | (intro j; have r0 := m0 j; have r1 := m1 j; have r2 := m2 j; have r3 := m3 j; have r4 := m4 j; have r5 := m5 j; (repeat' split) <;> first | omega | simp) | ((repeat' split) <;> first | omega | simp_all | (simp at *; omega))
        simp only [e2_Base] at hB
        obtain ⟨hb0, hb1, _⟩ := hB
        simp only [e2_J1] at hJ
        obtain ⟨l0, l1, l2, m0, m1, m2, m3, m4, m5, i0, i1, i2, i3, i4, i5, i6, i7, i8, _⟩ := hJ
        simp only [e2_0, e2_1, e2_2, e2_3, e2_4, e2_5, e2_6, e2_7, e2_8, e2_9, e2_10, e2_11, e2_12, e2_13, e2_14, e2_15, e2_16, e2_17, e2_18, e2_19, e2_20, e2_21, e2_22, e2_23, e2_24, e2_25, e2_26, e2_27, e2_28, e2_29, e2_30, e2_31, e2_32, e2_33, e2_34, e2_35, e2_36, e2_37, e2_38, e2_39, e2_40, e2_41, e2_42, e2_43, e2_44, e2_45, e2_46, e2_47, e2_48, e2_49, e2_50, e2_51, e2_52, e2_53, i_v, b_bv, i_lit, b_blit, i_add, i_sub, i_mul, i_div, i_mod, i_tdiv, i_tmod, i_ite, b_ite, b_lt, b_le, b_eq, b_not, b_and, b_or, b_iff, i_sel, a_tab, i_pow2, List.getD_cons_zero, List.getD_cons_succ, decide_eq_true_eq, decide_eq_false_iff_not, Bool.and_eq_true, Bool.or_eq_true, Bool.not_eq_true', Bool.not_eq_false', Bool.and_eq_false_iff, Bool.or_eq_false_iff, Bool.not_not, ite_tt, ite_ff, iff_tt, iff_ff, a_av, a_ite, a_upd, show Int.toNat 0 = 0 from rfl, show Int.toNat 1 = 1 from rfl, show Int.toNat 2 = 2 from rfl] at hc0 hc2 hc4
        simp only [e2_mu, Env.app, setAll, List.map_cons, List.map_nil, List.set, List.getD_cons_zero, List.getD_cons_succ, e2_0, e2_1, e2_2, e2_3, e2_4, e2_5, e2_6, e2_7, e2_8, e2_9, e2_10, e2_11, e2_12, e2_13, e2_14, e2_15, e2_16, e2_17, e2_18, e2_19, e2_20, e2_21, e2_22, e2_23, e2_24, e2_25, e2_26, e2_27, e2_28, e2_29, e2_30, e2_31, e2_32, e2_33, e2_34, e2_35, e2_36, e2_37, e2_38, e2_39, e2_40, e2_41, e2_42, e2_43, e2_44, e2_45, e2_46, e2_47, e2_48, e2_49, e2_50, e2_51, e2_52, e2_53, i_v, b_bv, i_lit, b_blit, i_add, i_sub, i_mul, i_div, i_mod, i_tdiv, i_tmod, i_ite, b_ite, b_lt, b_le, b_eq, b_not, b_and, b_or, b_iff, i_sel, a_tab, i_pow2, List.getD_cons_zero, List.getD_cons_succ, decide_eq_true_eq, decide_eq_false_iff_not, Bool.and_eq_true, Bool.or_eq_true, Bool.not_eq_true', Bool.not_eq_false', Bool.and_eq_false_iff, Bool.or_eq_false_iff, Bool.not_not, ite_tt, ite_ff, iff_tt, iff_ff, a_av, a_ite, a_upd]
        first | omega | ((repeat' split at i5) <;> omega)
theorem e2_vcS (a1 a2 : Int) (hB : e2_Base a1 a2) :
    LT.holds (⟨[a1, a2, 0, 0, 0], [], [fun _ => 0, fun _ => 0, fun _ => 0, fun _ => 0, fun _ => 0, fun _ => 0], [], Iv (fun _ _ => Ext.none)⟩ : Env) (fun v _ => retTrue (⟨[a1, a2, 0, 0, 0], [], [fun _ => 0, fun _ => 0, fun _ => 0, fun _ => 0, fun _ => 0, fun _ => 0], [], Iv (fun _ _ => Ext.none)⟩ : Env) v) (fun j' todo ρ' => (e2_hs[j']?.map (·.todo)) = some todo ∧ e2_Inv j' ρ') (.jump 0 e2_T0 ⟨[(3, (.lit 0))], [], [(5, e2_3), (4, e2_3), (3, (.tab []))]⟩) := by
  simp only [LT.holds, retTrue]
  refine ⟨rfl, _, _, _, _, _, _, _, _, _, _, _, rfl, hB, ?_⟩
  ·
    simp only [e2_Base] at hB
    obtain ⟨hb0, hb1, _⟩ := hB
    simp only [e2_J0, e2_0, e2_1, e2_2, e2_3, e2_4, e2_5, e2_6, e2_7, e2_8, e2_9, e2_10, e2_11, e2_12, e2_13, e2_14, e2_15, e2_16, e2_17, e2_18, e2_19, e2_20, e2_21, e2_22, e2_23, e2_24, e2_25, e2_26, e2_27, e2_28, e2_29, e2_30, e2_31, e2_32, e2_33, e2_34, e2_35, e2_36, e2_37, e2_38, e2_39, e2_40, e2_41, e2_42, e2_43, e2_44, e2_45, e2_46, e2_47, e2_48, e2_49, e2_50, e2_51, e2_52, e2_53, i_v, b_bv, i_lit, b_blit, i_add, i_sub, i_mul, i_div, i_mod, i_tdiv, i_tmod, i_ite, b_ite, b_lt, b_le, b_eq, b_not, b_and, b_or, b_iff, i_sel, a_tab, i_pow2, List.getD_cons_zero, List.getD_cons_succ, decide_eq_true_eq, decide_eq_false_iff_not, Bool.and_eq_true, Bool.or_eq_true, Bool.not_eq_true', Bool.not_eq_false', Bool.and_eq_false_iff, Bool.or_eq_false_iff, Bool.not_not, ite_tt, ite_ff, iff_tt, iff_ff, a_av, a_ite, a_upd, show Int.toNat 0 = 0 from rfl, show Int.toNat 1 = 1 from rfl, show Int.toNat 2 = 2 from rfl]
    refine ⟨?_, ?_, ?_, ?_, ?_, ?_, ?_, ?_, ?_, ?_, ?_, ?_, ?_, ?_, ?_, trivial⟩
    all_goals first | omega | (intro j; (repeat' split) <;> first | omega | simp) | ((repeat' split) <;> first | omega | simp_all | (simp at *; omega))
theorem e2_calls (a1 : Int) (w1 : (Lit.int .u8 a1).wf = true) (a2 : Int) (w2 : 0 ≤ a2 ∧ a2 ≤ 40) (w : World) :
    Calls Try.prog 4 #[.int .i64 (2), .int .u8 a1, .int .i64 a2] w fun r w' => r = .returned (.bool true) ∧ Below w.heap.size w w' := by
  have hargs : (e2_Ls.map (SV.conc (⟨[a1, a2, 0, 0, 0], [], [fun _ => 0, fun _ => 0, fun _ => 0, fun _ => 0, fun _ => 0, fun _ => 0], [], Iv (fun _ _ => Ext.none)⟩ : Env) Loc.id)).toArray = #[.int .i64 (2), .int .u8 a1, .int .i64 a2] := by
    refine congrArg List.toArray ?_
    exact (cons_eq rfl (cons_eq rfl (cons_eq rfl rfl)))
  rw [← hargs]
  have hok : Hyp.ok e2_Hy (⟨[a1, a2, 0, 0, 0], [], [fun _ => 0, fun _ => 0, fun _ => 0, fun _ => 0, fun _ => 0, fun _ => 0], [], Iv (fun _ _ => Ext.none)⟩ : Env) := by
    refine ⟨?_, ?_, ?_, by simp [e2_Hy], ?_, by simp [e2_Hy]⟩
    · simp [e2_Hy]
    · intro p hp
      simp only [e2_Hy, List.mem_cons, List.not_mem_nil, or_false] at hp
      rcases hp with rfl | rfl
      · exact bounds_u8 w1
      · exact w2
    · simp [e2_Hy]
    · simp [e2_Hy]
  refine law_loops (D := e2_D) (hs := e2_hs) (ρ := (⟨[a1, a2, 0, 0, 0], [], [fun _ => 0, fun _ => 0, fun _ => 0, fun _ => 0, fun _ => 0, fun _ => 0], [], Iv (fun _ _ => Ext.none)⟩ : Env)) (G_ok _) (by kernel_rfl) rfl (e2_Inv ) e2_mu e2_st rfl ⟨rfl, rfl, rfl⟩ hok (e2_vcS (a1) (a2) ⟨bounds_u8 w1, w2, trivial⟩) ?_ w (fun i j => Ext.none_ok _)
  intro j h ρ hj hI hz hInv
  rcases j with _ | _ | j
  · simp only [e2_hs, List.getElem?_cons_zero, List.getElem?_cons_succ, Option.some.injEq] at hj; subst hj
    obtain ⟨a1, a2, x2, x3, x4, Z0, Z1, Z2, Z3, Z4, Z5, rfl, hB, hJ⟩ := hInv
    refine ⟨?_, _, e2_sg0, e2_vc0 a1 a2 x2 x3 x4 Z0 Z1 Z2 Z3 Z4 Z5 hB hJ⟩
    have hB2 := hB; have hJ2 := hJ
    simp only [e2_Base] at hB2; simp only [e2_J0] at hJ2
    obtain ⟨hb0, hb1, _⟩ := hB2
    obtain ⟨hl0, hl1, hl2, hl3, hl4, hl5, hl6, hl7, hl8, hx, _⟩ := hJ2
    refine ⟨?_, ?_, ?_, by simp [e2_h0], ?_, by simp [e2_h0]⟩
    · simp [e2_h0]
    · intro p hp
      simp only [e2_h0, List.mem_cons, List.not_mem_nil, or_false] at hp
      rcases hp with rfl | rfl | rfl | rfl | rfl
      · exact hb0
      · exact hb1
      · exact hl0
      · exact hl1
      · exact hl2
    · intro p hp
      simp only [e2_h0, List.mem_cons, List.not_mem_nil, or_false] at hp
      rcases hp with rfl | rfl | rfl | rfl | rfl | rfl
      · exact hl3
      · exact hl4
      · exact hl5
      · exact hl6
      · exact hl7
      · exact hl8
    · simp [e2_h0]
  · simp only [e2_hs, List.getElem?_cons_zero, List.getElem?_cons_succ, Option.some.injEq] at hj; subst hj
    obtain ⟨a1, a2, x2, x3, x4, Z0, Z1, Z2, Z3, Z4, Z5, rfl, hB, hJ⟩ := hInv
    refine ⟨?_, _, e2_sg1, e2_vc1 a1 a2 x2 x3 x4 Z0 Z1 Z2 Z3 Z4 Z5 hB hJ⟩
    have hB2 := hB; have hJ2 := hJ
    simp only [e2_Base] at hB2; simp only [e2_J1] at hJ2
    obtain ⟨hb0, hb1, _⟩ := hB2
    obtain ⟨hl0, hl1, hl2, hl3, hl4, hl5, hl6, hl7, hl8, hx, _⟩ := hJ2
    refine ⟨?_, ?_, ?_, by simp [e2_h1], ?_, by simp [e2_h1]⟩
    · simp [e2_h1]
    · intro p hp
      simp only [e2_h1, List.mem_cons, List.not_mem_nil, or_false] at hp
      rcases hp with rfl | rfl | rfl | rfl | rfl
      · exact hb0
      · exact hb1
      · exact hl0
      · exact hl1
      · exact hl2
    · intro p hp
      simp only [e2_h1, List.mem_cons, List.not_mem_nil, or_false] at hp
      rcases hp with rfl | rfl | rfl | rfl | rfl | rfl
      · exact hl3
      · exact hl4
      · exact hl5
      · exact hl6
      · exact hl7
      · exact hl8
    · simp [e2_h1]
  · simp [e2_hs] at hj
end Go.Proofs.Ytngbibifiadgiaa.TickTimes
