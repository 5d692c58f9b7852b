/- A part of the law TickTimes, which returns true for every input. A timer that is on has made its tally one more behind each period times its target cycles, and not ahead of that; what was read is gone. No condition. -/
import Derived.Test.YtngbibifiadgiaaTickTimes0
namespace Go.Proofs.Ytngbibifiadgiaa.TickTimes
open Go.Sx Go.ChangeShapes Go.WideShapes Go.ChangeAt Go.RowKit
set_option linter.unusedVariables false
set_option linter.unusedSimpArgs false
set_option maxRecDepth 100000
def ev_Hy : Hyp := ⟨[(.v 0, (3, 9223372036854775807)), (.v 1, (0, 255)), (.v 2, (0, 40))], [], [], [], [], []⟩
def ev_Ls : List SV := [.s (.int .i64 (.v 0)), .s (.int .u8 (.v 1)), .s (.int .i64 (.v 2))]
def ev_0 : E := .eq (.v 1) (.lit 0)
def ev_1 : E := .ite ev_0 (.lit 256) (.v 1)
def ev_2 : E := .upd (.tab []) (.lit 2) (.v 1)
def ev_3 : E := .upd (.tab []) (.lit 2) (.lit 0)
def ev_4 : E := .le (.v 4) (.lit 0)
def ev_5 : E := .sel (.av 5) (.lit 0)
def ev_6 : E := .eq ev_5 (.lit 0)
def ev_7 : E := .upd (.av 5) (.lit 0) (.lit 0)
def ev_8 : E := .mul ev_1 (.lit 16)
def ev_9 : E := .add ev_8 (.lit (-1))
def ev_10 : E := .lt (.v 3) ev_9
def ev_11 : E := .add (.v 3) (.lit 1)
def ev_12 : E := .sel (.av 0) (.lit 2)
def ev_13 : E := .add ev_12 (.lit 1)
def ev_14 : E := .mod ev_13 (.lit 256)
def ev_15 : E := .le ev_14 (.lit 15)
def ev_16 : E := .sel (.av 2) (.lit 2)
def ev_17 : E := .sel (.av 1) (.lit 2)
def ev_18 : E := .add ev_17 (.lit 1)
def ev_19 : E := .mod ev_18 (.lit 256)
def ev_20 : E := .eq ev_19 (.v 1)
def ev_21 : E := .add ev_16 (.lit 1)
def ev_22 : E := .mod ev_21 (.lit 16)
def ev_23 : E := .ite ev_20 ev_22 ev_16
def ev_24 : E := .ite ev_15 ev_16 ev_23
def ev_25 : E := .upd (.av 2) (.lit 2) ev_24
def ev_26 : E := .ite ev_20 (.lit 0) ev_19
def ev_27 : E := .ite ev_15 ev_17 ev_26
def ev_28 : E := .upd (.av 1) (.lit 2) ev_27
def ev_29 : E := .sel (.av 0) (.lit 0)
def ev_30 : E := .add ev_29 (.lit 1)
def ev_31 : E := .div ev_30 (.lit 128)
def ev_32 : E := .mod ev_31 (.lit 2)
def ev_33 : E := .eq ev_32 (.lit 0)
def ev_34 : E := .mod ev_30 (.lit 256)
def ev_35 : E := .ite ev_33 ev_34 (.lit 0)
def ev_36 : E := .upd (.av 0) (.lit 0) ev_35
def ev_37 : E := .sel (.av 0) (.lit 1)
def ev_38 : E := .add ev_37 (.lit 1)
def ev_39 : E := .div ev_38 (.lit 128)
def ev_40 : E := .mod ev_39 (.lit 2)
def ev_41 : E := .eq ev_40 (.lit 0)
def ev_42 : E := .mod ev_38 (.lit 256)
def ev_43 : E := .ite ev_41 ev_42 (.lit 0)
def ev_44 : E := .upd ev_36 (.lit 1) ev_43
def ev_45 : E := .ite ev_15 ev_14 (.lit 0)
def ev_46 : E := .upd ev_44 (.lit 2) ev_45
def ev_47 : E := .eq ev_16 (.lit 0)
def ev_48 : E := .not ev_47
def ev_49 : E := .upd (.av 2) (.lit 2) (.lit 0)
def ev_50 : E := .ite ev_20 (.lit 1) (.lit 0)
def ev_51 : E := .ite ev_15 (.lit 0) ev_50
def ev_52 : E := .eq ev_51 (.lit 0)
def ev_53 : E := .add (.v 5) (.lit 1)
noncomputable def ev_T0 : List Item := todoS Try.prog G Gh [] 3000 0 4 ev_Hy ev_Ls [] 15
noncomputable def ev_h0 : Head := ⟨15, ev_T0, ⟨[((.v 0), (3, 9223372036854775807)), ((.v 1), (0, 255)), ((.v 2), (0, 40)), ((.v 3), (0, 32768)), ((.v 4), (0, 41)), ((.v 5), (0, 41))], [(0, (0, 255)), (1, (0, 255)), (2, (0, 255)), (3, (0, 255)), (4, (0, 255)), (5, (0, 255))], [], [], [], []⟩, [⟨10, [], .s (.int .i64 (.v 4))⟩, ⟨9, [], .s (.ptr 0 (.lit 0))⟩, ⟨8, [], .s (.int .i64 ev_1)⟩, ⟨7, [], .s (.int .i64 (.lit 16))⟩, ⟨2, [], .s (.int .i64 (.lit 1))⟩, ⟨0, [], .s (.int .i64 (.lit 2))⟩], [⟨68, [.one (.int .u8 (.lit 4)), .rows (.lit 3) [(some .u8, ev_2), (some .u8, (.av 3)), (some .u8, (.av 4)), (some .u8, (.av 5))] 0, .run .u8 (.lit 4) (.tab []) 0, .run .u8 (.lit 4) (.tab []) 0, .run .u8 (.lit 2) (.tab []) 0], true, none, false⟩]⟩
noncomputable def ev_T1 : List Item := todoH Try.prog G Gh [] 3000 0 4 ev_h0 18
noncomputable def ev_h1 : Head := ⟨18, ev_T1, ⟨[((.v 0), (3, 9223372036854775807)), ((.v 1), (0, 255)), ((.v 2), (0, 40)), ((.v 3), (0, 32768)), ((.v 4), (0, 41)), ((.v 5), (0, 41))], [(0, (0, 255)), (1, (0, 255)), (2, (0, 255)), (3, (0, 255)), (4, (0, 255)), (5, (0, 255))], [], [], [], []⟩, [⟨11, [], .s (.int .i64 (.v 3))⟩, ⟨10, [], .s (.int .i64 (.v 5))⟩, ⟨9, [], .s (.ptr 0 (.lit 0))⟩, ⟨8, [], .s (.int .i64 ev_1)⟩, ⟨7, [], .s (.int .i64 (.lit 16))⟩, ⟨2, [], .s (.int .i64 (.lit 1))⟩, ⟨0, [], .s (.int .i64 (.lit 2))⟩], [⟨68, [.one (.int .u8 (.lit 4)), .rows (.lit 3) [(some .u8, ev_2), (some .u8, (.av 0)), (some .u8, (.av 1)), (some .u8, (.av 2))] 0, .run .u8 (.lit 4) (.tab []) 0, .run .u8 (.lit 4) (.tab []) 0, .run .u8 (.lit 2) (.tab []) 0], true, none, false⟩]⟩
noncomputable def ev_hs : List Head := [ev_h0, ev_h1]
def ev_D : Dim := ⟨6, 0, 6, 3, 0, 0, 0⟩
theorem ev_st : startL Try.prog G Gh ev_D ev_hs [] 3000 0 4 ev_Hy ev_Ls [] = some (.jump 0 ev_T0 ⟨[(4, (.lit 0))], [], [(5, ev_3), (4, ev_3), (3, (.tab []))]⟩) := by kernel_rfl
theorem ev_sg0 : segL Try.prog G Gh ev_D ev_hs [] 3000 0 4 ev_h0 = some (.ite ev_4 (.jump 1 ev_T1 ⟨[(5, (.v 4)), (3, (.lit 0))], [], [(2, (.av 5)), (1, (.av 4)), (0, (.av 3))]⟩) (.ret (.s (.bool ev_6)) [⟨68, [.one (.int .u8 (.lit 4)), .rows (.lit 3) [(some .u8, ev_2), (some .u8, (.av 3)), (some .u8, (.av 4)), (some .u8, ev_7)] 0, .run .u8 (.lit 4) (.tab []) 0, .run .u8 (.lit 4) (.tab []) 0, .run .u8 (.lit 2) (.tab []) 0], true, none, false⟩])) := by kernel_rfl
theorem ev_sg1 : segL Try.prog G Gh ev_D ev_hs [] 3000 0 4 ev_h1 = some (.ite ev_10 (.jump 1 ev_T1 ⟨[(5, (.v 5)), (3, ev_11)], [], [(2, ev_25), (1, ev_28), (0, ev_46)]⟩) (.ite ev_48 (.ret (.s (.bool (.blit false))) [⟨68, [.one (.int .u8 (.lit 4)), .rows (.lit 3) [(some .u8, ev_2), (some .u8, (.av 0)), (some .u8, (.av 1)), (some .u8, ev_49)] 0, .run .u8 (.lit 4) (.tab []) 0, .run .u8 (.lit 4) (.tab []) 0, .run .u8 (.lit 2) (.tab []) 0], true, none, false⟩]) (.ite ev_52 (.ret (.s (.bool (.blit false))) [⟨68, [.one (.int .u8 (.lit 4)), .rows (.lit 3) [(some .u8, ev_2), (some .u8, ev_46), (some .u8, ev_28), (some .u8, ev_49)] 0, .run .u8 (.lit 4) (.tab []) 0, .run .u8 (.lit 4) (.tab []) 0, .run .u8 (.lit 2) (.tab []) 0], true, none, false⟩]) (.jump 0 ev_T0 ⟨[(4, ev_53)], [], [(5, ev_49), (4, ev_28), (3, ev_46)]⟩)))) := by kernel_rfl
def ev_Base (a0 a1 a2 : Int) : Prop := (3 ≤ a0 ∧ a0 ≤ 9223372036854775807) ∧ (0 ≤ a1 ∧ a1 ≤ 255) ∧ (0 ≤ a2 ∧ a2 ≤ 40) ∧ True
def ev_J0 (a0 a1 a2 x3 x4 x5 : Int) (Z0 Z1 Z2 Z3 Z4 Z5 : Nat → Int) : Prop := (0 ≤ x3 ∧ x3 ≤ 32768) ∧ (0 ≤ x4 ∧ x4 ≤ 41) ∧ (0 ≤ x5 ∧ x5 ≤ 41) ∧ (∀ j, 0 ≤ Z0 j ∧ Z0 j ≤ 255) ∧ (∀ j, 0 ≤ Z1 j ∧ Z1 j ≤ 255) ∧ (∀ j, 0 ≤ Z2 j ∧ Z2 j ≤ 255) ∧ (∀ j, 0 ≤ Z3 j ∧ Z3 j ≤ 255) ∧ (∀ j, 0 ≤ Z4 j ∧ Z4 j ≤ 255) ∧ (∀ j, 0 ≤ Z5 j ∧ Z5 j ≤ 255) ∧ Z3 2 = 0 ∧ Z4 2 = 0 ∧ Z5 2 = 0 ∧ Z5 0 = 0 ∧ 0 ≤ x4 ∧ x4 ≤ 1 ∧ True
def ev_J1 (a0 a1 a2 x3 x4 x5 : Int) (Z0 Z1 Z2 Z3 Z4 Z5 : Nat → Int) : Prop := (0 ≤ x3 ∧ x3 ≤ 32768) ∧ (0 ≤ x4 ∧ x4 ≤ 41) ∧ (0 ≤ x5 ∧ x5 ≤ 41) ∧ (∀ j, 0 ≤ Z0 j ∧ Z0 j ≤ 255) ∧ (∀ j, 0 ≤ Z1 j ∧ Z1 j ≤ 255) ∧ (∀ j, 0 ≤ Z2 j ∧ Z2 j ≤ 255) ∧ (∀ j, 0 ≤ Z3 j ∧ Z3 j ≤ 255) ∧ (∀ j, 0 ≤ Z4 j ∧ Z4 j ≤ 255) ∧ (∀ j, 0 ≤ Z5 j ∧ Z5 j ≤ 255) ∧ Z1 2 * 16 + Z0 2 = x3 ∧ Z0 2 ≤ 15 ∧ Z2 2 = 0 ∧ Z2 0 = 0 ∧ 0 ≤ x3 ∧ x3 ≤ (if a1 = 0 then 256 else a1) * 16 - 1 ∧ 0 ≤ x5 ∧ x5 < 1 ∧ True
def ev_Inv : Nat → Env → Prop
  | 0, ρ => ∃ (a0 a1 a2 x3 x4 x5 : Int) (Z0 Z1 Z2 Z3 Z4 Z5 : Nat → Int), ρ = (⟨[a0, a1, a2, x3, x4, x5], [], [Z0, Z1, Z2, Z3, Z4, Z5], [], Iv (fun _ _ => Ext.none)⟩ : Env) ∧ ev_Base a0 a1 a2 ∧ ev_J0 a0 a1 a2 x3 x4 x5 Z0 Z1 Z2 Z3 Z4 Z5
  | 1, ρ => ∃ (a0 a1 a2 x3 x4 x5 : Int) (Z0 Z1 Z2 Z3 Z4 Z5 : Nat → Int), ρ = (⟨[a0, a1, a2, x3, x4, x5], [], [Z0, Z1, Z2, Z3, Z4, Z5], [], Iv (fun _ _ => Ext.none)⟩ : Env) ∧ ev_Base a0 a1 a2 ∧ ev_J1 a0 a1 a2 x3 x4 x5 Z0 Z1 Z2 Z3 Z4 Z5
  | _, _ => False
def ev_mu : Nat → Env → Nat := fun j ρ => match j with | 0 => ((41 - ρ.i.getD 4 0) * 40000).toNat | _ => ((40 - ρ.i.getD 5 0) * 40000 + 33000 - ρ.i.getD 3 0).toNat
theorem ev_vc0 (a0 a1 a2 x3 x4 x5 : Int) (Z0 Z1 Z2 Z3 Z4 Z5 : Nat → Int) (hB : ev_Base a0 a1 a2) (hJ : ev_J0 a0 a1 a2 x3 x4 x5 Z0 Z1 Z2 Z3 Z4 Z5) :
    LT.holds (⟨[a0, a1, a2, x3, x4, x5], [], [Z0, Z1, Z2, Z3, Z4, Z5], [], Iv (fun _ _ => Ext.none)⟩ : Env) (fun v _ => retTrue (⟨[a0, a1, a2, x3, x4, x5], [], [Z0, Z1, Z2, Z3, Z4, Z5], [], Iv (fun _ _ => Ext.none)⟩ : Env) v) (fun j' todo ρ' => (ev_hs[j']?.map (·.todo)) = some todo ∧ ev_Inv j' ρ' ∧ ev_mu j' ρ' < ev_mu 0 (⟨[a0, a1, a2, x3, x4, x5], [], [Z0, Z1, Z2, Z3, Z4, Z5], [], Iv (fun _ _ => Ext.none)⟩ : Env)) (.ite ev_4 (.jump 1 ev_T1 ⟨[(5, (.v 4)), (3, (.lit 0))], [], [(2, (.av 5)), (1, (.av 4)), (0, (.av 3))]⟩) (.ret (.s (.bool ev_6)) [⟨68, [.one (.int .u8 (.lit 4)), .rows (.lit 3) [(some .u8, ev_2), (some .u8, (.av 3)), (some .u8, (.av 4)), (some .u8, ev_7)] 0, .run .u8 (.lit 4) (.tab []) 0, .run .u8 (.lit 4) (.tab []) 0, .run .u8 (.lit 2) (.tab []) 0], true, none, false⟩])) := by
  simp only [LT.holds, retTrue]
  refine ⟨fun hc0 => ?_, fun hc0 => ?_⟩
  ·
    refine ⟨rfl, ⟨_, _, _, _, _, _, _, _, _, _, _, _, rfl, hB, ?_⟩, ?_⟩
    ·
      simp only [ev_Base] at hB
      obtain ⟨hb0, hb1, hb2, _⟩ := hB
      simp only [ev_J0] at hJ
      obtain ⟨l0, l1, l2, m0, m1, m2, m3, m4, m5, i0, i1, i2, i3, i4, i5, i6, _⟩ := hJ
      have q00 := m0 0
      have q01 := m0 1
      have q02 := m0 2
      have q10 := m1 0
      have q11 := m1 1
      have q12 := m1 2
      have q20 := m2 0
      have q21 := m2 1
      have q22 := m2 2
      have q30 := m3 0
      have q31 := m3 1
      have q32 := m3 2
      have q40 := m4 0
      have q41 := m4 1
      have q42 := m4 2
      have q50 := m5 0
      have q51 := m5 1
      have q52 := m5 2
      simp only [ev_0, ev_1, ev_2, ev_3, ev_4, ev_5, ev_6, ev_7, ev_8, ev_9, ev_10, ev_11, ev_12, ev_13, ev_14, ev_15, ev_16, ev_17, ev_18, ev_19, ev_20, ev_21, ev_22, ev_23, ev_24, ev_25, ev_26, ev_27, ev_28, ev_29, ev_30, ev_31, ev_32, ev_33, ev_34, ev_35, ev_36, ev_37, ev_38, ev_39, ev_40, ev_41, ev_42, ev_43, ev_44, ev_45, ev_46, ev_47, ev_48, ev_49, ev_50, ev_51, ev_52, ev_53, i_v, b_bv, i_lit, b_blit, i_add, i_sub, i_mul, i_div, i_mod, i_tdiv, i_tmod, i_ite, b_ite, b_lt, b_le, b_eq, b_not, b_and, b_or, b_iff, i_sel, a_tab, i_pow2, List.getD_cons_zero, List.getD_cons_succ, decide_eq_true_eq, decide_eq_false_iff_not, Bool.and_eq_true, Bool.or_eq_true, Bool.not_eq_true', Bool.not_eq_false', Bool.and_eq_false_iff, Bool.or_eq_false_iff, Bool.not_not, ite_tt, ite_ff, iff_tt, iff_ff, a_av, a_ite, a_upd, show Int.toNat 0 = 0 from rfl, show Int.toNat 1 = 1 from rfl, show Int.toNat 2 = 2 from rfl] at hc0
      simp only [ev_J1, ev_0, ev_1, ev_2, ev_3, ev_4, ev_5, ev_6, ev_7, ev_8, ev_9, ev_10, ev_11, ev_12, ev_13, ev_14, ev_15, ev_16, ev_17, ev_18, ev_19, ev_20, ev_21, ev_22, ev_23, ev_24, ev_25, ev_26, ev_27, ev_28, ev_29, ev_30, ev_31, ev_32, ev_33, ev_34, ev_35, ev_36, ev_37, ev_38, ev_39, ev_40, ev_41, ev_42, ev_43, ev_44, ev_45, ev_46, ev_47, ev_48, ev_49, ev_50, ev_51, ev_52, ev_53, i_v, b_bv, i_lit, b_blit, i_add, i_sub, i_mul, i_div, i_mod, i_tdiv, i_tmod, i_ite, b_ite, b_lt, b_le, b_eq, b_not, b_and, b_or, b_iff, i_sel, a_tab, i_pow2, List.getD_cons_zero, List.getD_cons_succ, decide_eq_true_eq, decide_eq_false_iff_not, Bool.and_eq_true, Bool.or_eq_true, Bool.not_eq_true', Bool.not_eq_false', Bool.and_eq_false_iff, Bool.or_eq_false_iff, Bool.not_not, ite_tt, ite_ff, iff_tt, iff_ff, a_av, a_ite, a_upd, show Int.toNat 0 = 0 from rfl, show Int.toNat 1 = 1 from rfl, show Int.toNat 2 = 2 from rfl]
      refine ⟨?_, ?_, ?_, ?_, ?_, ?_, ?_, ?_, ?_, ?_, ?_, ?_, ?_, ?_, ?_, ?_, ?_, trivial⟩
      all_goals first | omega | (intro j; have r0 := m0 j; have r1 := m1 j; have r2 := m2 j; have r3 := m3 j; have r4 := m4 j; have r5 := m5 j; (repeat' split) <;> first | omega | simp) | ((repeat' split) <;> first | omega | simp_all | (simp at *; omega))
    simp only [ev_Base] at hB
    obtain ⟨hb0, hb1, hb2, _⟩ := hB
    simp only [ev_J0] at hJ
    obtain ⟨l0, l1, l2, m0, m1, m2, m3, m4, m5, i0, i1, i2, i3, i4, i5, i6, _⟩ := hJ
    simp only [ev_0, ev_1, ev_2, ev_3, ev_4, ev_5, ev_6, ev_7, ev_8, ev_9, ev_10, ev_11, ev_12, ev_13, ev_14, ev_15, ev_16, ev_17, ev_18, ev_19, ev_20, ev_21, ev_22, ev_23, ev_24, ev_25, ev_26, ev_27, ev_28, ev_29, ev_30, ev_31, ev_32, ev_33, ev_34, ev_35, ev_36, ev_37, ev_38, ev_39, ev_40, ev_41, ev_42, ev_43, ev_44, ev_45, ev_46, ev_47, ev_48, ev_49, ev_50, ev_51, ev_52, ev_53, i_v, b_bv, i_lit, b_blit, i_add, i_sub, i_mul, i_div, i_mod, i_tdiv, i_tmod, i_ite, b_ite, b_lt, b_le, b_eq, b_not, b_and, b_or, b_iff, i_sel, a_tab, i_pow2, List.getD_cons_zero, List.getD_cons_succ, decide_eq_true_eq, decide_eq_false_iff_not, Bool.and_eq_true, Bool.or_eq_true, Bool.not_eq_true', Bool.not_eq_false', Bool.and_eq_false_iff, Bool.or_eq_false_iff, Bool.not_not, ite_tt, ite_ff, iff_tt, iff_ff, a_av, a_ite, a_upd, show Int.toNat 0 = 0 from rfl, show Int.toNat 1 = 1 from rfl, show Int.toNat 2 = 2 from rfl] at hc0
    simp only [ev_mu, Env.app, setAll, List.map_cons, List.map_nil, List.set, List.getD_cons_zero, List.getD_cons_succ, ev_0, ev_1, ev_2, ev_3, ev_4, ev_5, ev_6, ev_7, ev_8, ev_9, ev_10, ev_11, ev_12, ev_13, ev_14, ev_15, ev_16, ev_17, ev_18, ev_19, ev_20, ev_21, ev_22, ev_23, ev_24, ev_25, ev_26, ev_27, ev_28, ev_29, ev_30, ev_31, ev_32, ev_33, ev_34, ev_35, ev_36, ev_37, ev_38, ev_39, ev_40, ev_41, ev_42, ev_43, ev_44, ev_45, ev_46, ev_47, ev_48, ev_49, ev_50, ev_51, ev_52, ev_53, i_v, b_bv, i_lit, b_blit, i_add, i_sub, i_mul, i_div, i_mod, i_tdiv, i_tmod, i_ite, b_ite, b_lt, b_le, b_eq, b_not, b_and, b_or, b_iff, i_sel, a_tab, i_pow2, List.getD_cons_zero, List.getD_cons_succ, decide_eq_true_eq, decide_eq_false_iff_not, Bool.and_eq_true, Bool.or_eq_true, Bool.not_eq_true', Bool.not_eq_false', Bool.and_eq_false_iff, Bool.or_eq_false_iff, Bool.not_not, ite_tt, ite_ff, iff_tt, iff_ff, a_av, a_ite, a_upd]
    omega
  ·
    simp only [ev_Base] at hB
    obtain ⟨hb0, hb1, hb2, _⟩ := hB
    simp only [ev_J0] at hJ
    obtain ⟨l0, l1, l2, m0, m1, m2, m3, m4, m5, i0, i1, i2, i3, i4, i5, i6, _⟩ := hJ
    simp only [ev_0, ev_1, ev_2, ev_3, ev_4, ev_5, ev_6, ev_7, ev_8, ev_9, ev_10, ev_11, ev_12, ev_13, ev_14, ev_15, ev_16, ev_17, ev_18, ev_19, ev_20, ev_21, ev_22, ev_23, ev_24, ev_25, ev_26, ev_27, ev_28, ev_29, ev_30, ev_31, ev_32, ev_33, ev_34, ev_35, ev_36, ev_37, ev_38, ev_39, ev_40, ev_41, ev_42, ev_43, ev_44, ev_45, ev_46, ev_47, ev_48, ev_49, ev_50, ev_51, ev_52, ev_53, i_v, b_bv, i_lit, b_blit, i_add, i_sub, i_mul, i_div, i_mod, i_tdiv, i_tmod, i_ite, b_ite, b_lt, b_le, b_eq, b_not, b_and, b_or, b_iff, i_sel, a_tab, i_pow2, List.getD_cons_zero, List.getD_cons_succ, decide_eq_true_eq, decide_eq_false_iff_not, Bool.and_eq_true, Bool.or_eq_true, Bool.not_eq_true', Bool.not_eq_false', Bool.and_eq_false_iff, Bool.or_eq_false_iff, Bool.not_not, ite_tt, ite_ff, iff_tt, iff_ff, a_av, a_ite, a_upd, show Int.toNat 0 = 0 from rfl, show Int.toNat 1 = 1 from rfl, show Int.toNat 2 = 2 from rfl]
    exact i3
theorem ev_vc1 (a0 a1 a2 x3 x4 x5 : Int) (Z0 Z1 Z2 Z3 Z4 Z5 : Nat → Int) (hB : ev_Base a0 a1 a2) (hJ : ev_J1 a0 a1 a2 x3 x4 x5 Z0 Z1 Z2 Z3 Z4 Z5) :
    LT.holds (⟨[a0, a1, a2, x3, x4, x5], [], [Z0, Z1, Z2, Z3, Z4, Z5], [], Iv (fun _ _ => Ext.none)⟩ : Env) (fun v _ => retTrue (⟨[a0, a1, a2, x3, x4, x5], [], [Z0, Z1, Z2, Z3, Z4, Z5], [], Iv (fun _ _ => Ext.none)⟩ : Env) v) (fun j' todo ρ' => (ev_hs[j']?.map (·.todo)) = some todo ∧ ev_Inv j' ρ' ∧ ev_mu j' ρ' < ev_mu 1 (⟨[a0, a1, a2, x3, x4, x5], [], [Z0, Z1, Z2, Z3, Z4, Z5], [], Iv (fun _ _ => Ext.none)⟩ : Env)) (.ite ev_10 (.jump 1 ev_T1 ⟨[(5, (.v 5)), (3, ev_11)], [], [(2, ev_25), (1, ev_28), (0, ev_46)]⟩) (.ite ev_48 (.ret (.s (.bool (.blit false))) [⟨68, [.one (.int .u8 (.lit 4)), .rows (.lit 3) [(some .u8, ev_2), (some .u8, (.av 0)), (some .u8, (.av 1)), (some .u8, ev_49)] 0, .run .u8 (.lit 4) (.tab []) 0, .run .u8 (.lit 4) (.tab []) 0, .run .u8 (.lit 2) (.tab []) 0], true, none, false⟩]) (.ite ev_52 (.ret (.s (.bool (.blit false))) [⟨68, [.one (.int .u8 (.lit 4)), .rows (.lit 3) [(some .u8, ev_2), (some .u8, ev_46), (some .u8, ev_28), (some .u8, ev_49)] 0, .run .u8 (.lit 4) (.tab []) 0, .run .u8 (.lit 4) (.tab []) 0, .run .u8 (.lit 2) (.tab []) 0], true, none, false⟩]) (.jump 0 ev_T0 ⟨[(4, ev_53)], [], [(5, ev_49), (4, ev_28), (3, ev_46)]⟩)))) := by
  simp only [LT.holds, retTrue]
  refine ⟨fun hc0 => ?_, fun hc0 => ?_⟩
  ·
    refine ⟨rfl, ⟨_, _, _, _, _, _, _, _, _, _, _, _, rfl, hB, ?_⟩, ?_⟩
    ·
      simp only [ev_Base] at hB
      obtain ⟨hb0, hb1, hb2, _⟩ := hB
      simp only [ev_J1] at hJ
      obtain ⟨l0, l1, l2, m0, m1, m2, m3, m4, m5, i0, i1, i2, i3, i4, i5, i6, i7, i8, _⟩ := hJ
      have q00 := m0 0
      have q01 := m0 1
      have q02 := m0 2
      have q10 := m1 0
      have q11 := m1 1
      have q12 := m1 2
      have q20 := m2 0
      have q21 := m2 1
      have q22 := m2 2
      have q30 := m3 0
      have q31 := m3 1
      have q32 := m3 2
      have q40 := m4 0
      have q41 := m4 1
      have q42 := m4 2
      have q50 := m5 0
      have q51 := m5 1
      have q52 := m5 2
      simp only [ev_0, ev_1, ev_2, ev_3, ev_4, ev_5, ev_6, ev_7, ev_8, ev_9, ev_10, ev_11, ev_12, ev_13, ev_14, ev_15, ev_16, ev_17, ev_18, ev_19, ev_20, ev_21, ev_22, ev_23, ev_24, ev_25, ev_26, ev_27, ev_28, ev_29, ev_30, ev_31, ev_32, ev_33, ev_34, ev_35, ev_36, ev_37, ev_38, ev_39, ev_40, ev_41, ev_42, ev_43, ev_44, ev_45, ev_46, ev_47, ev_48, ev_49, ev_50, ev_51, ev_52, ev_53, i_v, b_bv, i_lit, b_blit, i_add, i_sub, i_mul, i_div, i_mod, i_tdiv, i_tmod, i_ite, b_ite, b_lt, b_le, b_eq, b_not, b_and, b_or, b_iff, i_sel, a_tab, i_pow2, List.getD_cons_zero, List.getD_cons_succ, decide_eq_true_eq, decide_eq_false_iff_not, Bool.and_eq_true, Bool.or_eq_true, Bool.not_eq_true', Bool.not_eq_false', Bool.and_eq_false_iff, Bool.or_eq_false_iff, Bool.not_not, ite_tt, ite_ff, iff_tt, iff_ff, a_av, a_ite, a_upd, show Int.toNat 0 = 0 from rfl, show Int.toNat 1 = 1 from rfl, show Int.toNat 2 = 2 from rfl] at hc0
      simp only [ev_J1, ev_0, ev_1, ev_2, ev_3, ev_4, ev_5, ev_6, ev_7, ev_8, ev_9, ev_10, ev_11, ev_12, ev_13, ev_14, ev_15, ev_16, ev_17, ev_18, ev_19, ev_20, ev_21, ev_22, ev_23, ev_24, ev_25, ev_26, ev_27, ev_28, ev_29, ev_30, ev_31, ev_32, ev_33, ev_34, ev_35, ev_36, ev_37, ev_38, ev_39, ev_40, ev_41, ev_42, ev_43, ev_44, ev_45, ev_46, ev_47, ev_48, ev_49, ev_50, ev_51, ev_52, ev_53, i_v, b_bv, i_lit, b_blit, i_add, i_sub, i_mul, i_div, i_mod, i_tdiv, i_tmod, i_ite, b_ite, b_lt, b_le, b_eq, b_not, b_and, b_or, b_iff, i_sel, a_tab, i_pow2, List.getD_cons_zero, List.getD_cons_succ, decide_eq_true_eq, decide_eq_false_iff_not, Bool.and_eq_true, Bool.or_eq_true, Bool.not_eq_true', Bool.not_eq_false', Bool.and_eq_false_iff, Bool.or_eq_false_iff, Bool.not_not, ite_tt, ite_ff, iff_tt, iff_ff, a_av, a_ite, a_upd, show Int.toNat 0 = 0 from rfl, show Int.toNat 1 = 1 from rfl, show Int.toNat 2 = 2 from rfl]
      refine ⟨?_, ?_, ?_, ?_, ?_, ?_, ?_, ?_, ?_, ?_, ?_, ?_, ?_, ?_, ?_, ?_, ?_, trivial⟩
      all_goals first | omega | (intro j; have r0 := m0 j; have r1 := m1 j; have r2 := m2 j; have r3 := m3 j; have r4 := m4 j; have r5 := m5 j; (repeat' split) <;> first | omega | simp) | ((repeat' split) <;> first | omega | simp_all | (simp at *; omega))
    simp only [ev_Base] at hB
    obtain ⟨hb0, hb1, hb2, _⟩ := hB
    simp only [ev_J1] at hJ
    obtain ⟨l0, l1, l2, m0, m1, m2, m3, m4, m5, i0, i1, i2, i3, i4, i5, i6, i7, i8, _⟩ := hJ
    simp only [ev_0, ev_1, ev_2, ev_3, ev_4, ev_5, ev_6, ev_7, ev_8, ev_9, ev_10, ev_11, ev_12, ev_13, ev_14, ev_15, ev_16, ev_17, ev_18, ev_19, ev_20, ev_21, ev_22, ev_23, ev_24, ev_25, ev_26, ev_27, ev_28, ev_29, ev_30, ev_31, ev_32, ev_33, ev_34, ev_35, ev_36, ev_37, ev_38, ev_39, ev_40, ev_41, ev_42, ev_43, ev_44, ev_45, ev_46, ev_47, ev_48, ev_49, ev_50, ev_51, ev_52, ev_53, i_v, b_bv, i_lit, b_blit, i_add, i_sub, i_mul, i_div, i_mod, i_tdiv, i_tmod, i_ite, b_ite, b_lt, b_le, b_eq, b_not, b_and, b_or, b_iff, i_sel, a_tab, i_pow2, List.getD_cons_zero, List.getD_cons_succ, decide_eq_true_eq, decide_eq_false_iff_not, Bool.and_eq_true, Bool.or_eq_true, Bool.not_eq_true', Bool.not_eq_false', Bool.and_eq_false_iff, Bool.or_eq_false_iff, Bool.not_not, ite_tt, ite_ff, iff_tt, iff_ff, a_av, a_ite, a_upd, show Int.toNat 0 = 0 from rfl, show Int.toNat 1 = 1 from rfl, show Int.toNat 2 = 2 from rfl] at hc0
    simp only [ev_mu, Env.app, setAll, List.map_cons, List.map_nil, List.set, List.getD_cons_zero, List.getD_cons_succ, ev_0, ev_1, ev_2, ev_3, ev_4, ev_5, ev_6, ev_7, ev_8, ev_9, ev_10, ev_11, ev_12, ev_13, ev_14, ev_15, ev_16, ev_17, ev_18, ev_19, ev_20, ev_21, ev_22, ev_23, ev_24, ev_25, ev_26, ev_27, ev_28, ev_29, ev_30, ev_31, ev_32, ev_33, ev_34, ev_35, ev_36, ev_37, ev_38, ev_39, ev_40, ev_41, ev_42, ev_43, ev_44, ev_45, ev_46, ev_47, ev_48, ev_49, ev_50, ev_51, ev_52, ev_53, i_v, b_bv, i_lit, b_blit, i_add, i_sub, i_mul, i_div, i_mod, i_tdiv, i_tmod, i_ite, b_ite, b_lt, b_le, b_eq, b_not, b_and, b_or, b_iff, i_sel, a_tab, i_pow2, List.getD_cons_zero, List.getD_cons_succ, decide_eq_true_eq, decide_eq_false_iff_not, Bool.and_eq_true, Bool.or_eq_true, Bool.not_eq_true', Bool.not_eq_false', Bool.and_eq_false_iff, Bool.or_eq_false_iff, Bool.not_not, ite_tt, ite_ff, iff_tt, iff_ff, a_av, a_ite, a_upd]
    first | omega | ((repeat' split at i5) <;> omega)
  ·
    refine ⟨fun hc2 => ?_, fun hc2 => ?_⟩
    ·
      exfalso
      simp only [ev_Base] at hB
      obtain ⟨hb0, hb1, hb2, _⟩ := hB
      simp only [ev_J1] at hJ
      obtain ⟨l0, l1, l2, m0, m1, m2, m3, m4, m5, i0, i1, i2, i3, i4, i5, i6, i7, i8, _⟩ := hJ
      simp only [ev_0, ev_1, ev_2, ev_3, ev_4, ev_5, ev_6, ev_7, ev_8, ev_9, ev_10, ev_11, ev_12, ev_13, ev_14, ev_15, ev_16, ev_17, ev_18, ev_19, ev_20, ev_21, ev_22, ev_23, ev_24, ev_25, ev_26, ev_27, ev_28, ev_29, ev_30, ev_31, ev_32, ev_33, ev_34, ev_35, ev_36, ev_37, ev_38, ev_39, ev_40, ev_41, ev_42, ev_43, ev_44, ev_45, ev_46, ev_47, ev_48, ev_49, ev_50, ev_51, ev_52, ev_53, i_v, b_bv, i_lit, b_blit, i_add, i_sub, i_mul, i_div, i_mod, i_tdiv, i_tmod, i_ite, b_ite, b_lt, b_le, b_eq, b_not, b_and, b_or, b_iff, i_sel, a_tab, i_pow2, List.getD_cons_zero, List.getD_cons_succ, decide_eq_true_eq, decide_eq_false_iff_not, Bool.and_eq_true, Bool.or_eq_true, Bool.not_eq_true', Bool.not_eq_false', Bool.and_eq_false_iff, Bool.or_eq_false_iff, Bool.not_not, ite_tt, ite_ff, iff_tt, iff_ff, a_av, a_ite, a_upd, show Int.toNat 0 = 0 from rfl, show Int.toNat 1 = 1 from rfl, show Int.toNat 2 = 2 from rfl] at hc0 hc2
      omega
    ·
      refine ⟨fun hc4 => ?_, fun hc4 => ?_⟩
      ·
        exfalso
        simp only [ev_Base] at hB
        obtain ⟨hb0, hb1, hb2, _⟩ := hB
        simp only [ev_J1] at hJ
        obtain ⟨l0, l1, l2, m0, m1, m2, m3, m4, m5, i0, i1, i2, i3, i4, i5, i6, i7, i8, _⟩ := hJ
        have q00 := m0 0
        have q01 := m0 1
        have q02 := m0 2
        have q10 := m1 0
        have q11 := m1 1
        have q12 := m1 2
        have q20 := m2 0
        have q21 := m2 1
        have q22 := m2 2
        have q30 := m3 0
        have q31 := m3 1
        have q32 := m3 2
        have q40 := m4 0
        have q41 := m4 1
        have q42 := m4 2
        have q50 := m5 0
        have q51 := m5 1
        have q52 := m5 2
        simp only [ev_0, ev_1, ev_2, ev_3, ev_4, ev_5, ev_6, ev_7, ev_8, ev_9, ev_10, ev_11, ev_12, ev_13, ev_14, ev_15, ev_16, ev_17, ev_18, ev_19, ev_20, ev_21, ev_22, ev_23, ev_24, ev_25, ev_26, ev_27, ev_28, ev_29, ev_30, ev_31, ev_32, ev_33, ev_34, ev_35, ev_36, ev_37, ev_38, ev_39, ev_40, ev_41, ev_42, ev_43, ev_44, ev_45, ev_46, ev_47, ev_48, ev_49, ev_50, ev_51, ev_52, ev_53, i_v, b_bv, i_lit, b_blit, i_add, i_sub, i_mul, i_div, i_mod, i_tdiv, i_tmod, i_ite, b_ite, b_lt, b_le, b_eq, b_not, b_and, b_or, b_iff, i_sel, a_tab, i_pow2, List.getD_cons_zero, List.getD_cons_succ, decide_eq_true_eq, decide_eq_false_iff_not, Bool.and_eq_true, Bool.or_eq_true, Bool.not_eq_true', Bool.not_eq_false', Bool.and_eq_false_iff, Bool.or_eq_false_iff, Bool.not_not, ite_tt, ite_ff, iff_tt, iff_ff, a_av, a_ite, a_upd, show Int.toNat 0 = 0 from rfl, show Int.toNat 1 = 1 from rfl, show Int.toNat 2 = 2 from rfl] at hc0 hc2 hc4
        repeat' split at i5
        all_goals (first | omega | (repeat' split at hc0 <;> first | omega | (repeat' split at hc4 <;> omega)))
      ·
        refine ⟨rfl, ⟨_, _, _, _, _, _, _, _, _, _, _, _, rfl, hB, ?_⟩, ?_⟩
        ·
          simp only [ev_Base] at hB
          obtain ⟨hb0, hb1, hb2, _⟩ := hB
          simp only [ev_J1] at hJ
          obtain ⟨l0, l1, l2, m0, m1, m2, m3, m4, m5, i0, i1, i2, i3, i4, i5, i6, i7, i8, _⟩ := hJ
          have q00 := m0 0
          have q01 := m0 1
          have q02 := m0 2
          have q10 := m1 0
          have q11 := m1 1
          have q12 := m1 2
          have q20 := m2 0
          have q21 := m2 1
          have q22 := m2 2
          have q30 := m3 0
          have q31 := m3 1
          have q32 := m3 2
          have q40 := m4 0
          have q41 := m4 1
          have q42 := m4 2
          have q50 := m5 0
          have q51 := m5 1
          have q52 := m5 2
          simp only [ev_0, ev_1, ev_2, ev_3, ev_4, ev_5, ev_6, ev_7, ev_8, ev_9, ev_10, ev_11, ev_12, ev_13, ev_14, ev_15, ev_16, ev_17, ev_18, ev_19, ev_20, ev_21, ev_22, ev_23, ev_24, ev_25, ev_26, ev_27, ev_28, ev_29, ev_30, ev_31, ev_32, ev_33, ev_34, ev_35, ev_36, ev_37, ev_38, ev_39, ev_40, ev_41, ev_42, ev_43, ev_44, ev_45, ev_46, ev_47, ev_48, ev_49, ev_50, ev_51, ev_52, ev_53, i_v, b_bv, i_lit, b_blit, i_add, i_sub, i_mul, i_div, i_mod, i_tdiv, i_tmod, i_ite, b_ite, b_lt, b_le, b_eq, b_not, b_and, b_or, b_iff, i_sel, a_tab, i_pow2, List.getD_cons_zero, List.getD_cons_succ, decide_eq_true_eq, decide_eq_false_iff_not, Bool.and_eq_true, Bool.or_eq_true, Bool.not_eq_true', Bool.not_eq_false', Bool.and_eq_false_iff, Bool.or_eq_false_iff, Bool.not_not, ite_tt, ite_ff, iff_tt, iff_ff, a_av, a_ite, a_upd, show Int.toNat 0 = 0 from rfl, show Int.toNat 1 = 1 from rfl, show Int.toNat 2 = 2 from rfl] at hc0 hc2 hc4
          simp only [ev_J0, ev_0, ev_1, ev_2, ev_3, ev_4, ev_5, ev_6, ev_7, ev_8, ev_9, ev_10, ev_11, ev_12, ev_13, ev_14, ev_15, ev_16, ev_17, ev_18, ev_19, ev_20, ev_21, ev_22, ev_23, ev_24, ev_25, ev_26, ev_27, ev_28, ev_29, ev_30, ev_31, ev_32, ev_33, ev_34, ev_35, ev_36, ev_37, ev_38, ev_39, ev_40, ev_41, ev_42, ev_43, ev_44, ev_45, ev_46, ev_47, ev_48, ev_49, ev_50, ev_51, ev_52, ev_53, i_v, b_bv, i_lit, b_blit, i_add, i_sub, i_mul, i_div, i_mod, i_tdiv, i_tmod, i_ite, b_ite, b_lt, b_le, b_eq, b_not, b_and, b_or, b_iff, i_sel, a_tab, i_pow2, List.getD_cons_zero, List.getD_cons_succ, decide_eq_true_eq, decide_eq_false_iff_not, Bool.and_eq_true, Bool.or_eq_true, Bool.not_eq_true', Bool.not_eq_false', Bool.and_eq_false_iff, Bool.or_eq_false_iff, Bool.not_not, ite_tt, ite_ff, iff_tt, iff_ff, a_av, a_ite, a_upd, show Int.toNat 0 = 0 from rfl, show Int.toNat 1 = 1 from rfl, show Int.toNat 2 = 2 from rfl]
          refine ⟨?_, ?_, ?_, ?_, ?_, ?_, ?_, ?_, ?_, ?_, ?_, ?_, ?_, ?_, ?_, trivial⟩
          all_goals first | omega | (intro j; have r0 := m0 j; have r1 := m1 j; have r2 := m2 j; have r3 := m3 j; have r4 := m4 j; have r5 := m5 j; (repeat' split) <;> first | omega | simp) | ((repeat' split) <;> first | omega | simp_all | (simp at *; omega))
        simp only [ev_Base] at hB
        obtain ⟨hb0, hb1, hb2, _⟩ := hB
        simp only [ev_J1] at hJ
        obtain ⟨l0, l1, l2, m0, m1, m2, m3, m4, m5, i0, i1, i2, i3, i4, i5, i6, i7, i8, _⟩ := hJ
        simp only [ev_0, ev_1, ev_2, ev_3, ev_4, ev_5, ev_6, ev_7, ev_8, ev_9, ev_10, ev_11, ev_12, ev_13, ev_14, ev_15, ev_16, ev_17, ev_18, ev_19, ev_20, ev_21, ev_22, ev_23, ev_24, ev_25, ev_26, ev_27, ev_28, ev_29, ev_30, ev_31, ev_32, ev_33, ev_34, ev_35, ev_36, ev_37, ev_38, ev_39, ev_40, ev_41, ev_42, ev_43, ev_44, ev_45, ev_46, ev_47, ev_48, ev_49, ev_50, ev_51, ev_52, ev_53, i_v, b_bv, i_lit, b_blit, i_add, i_sub, i_mul, i_div, i_mod, i_tdiv, i_tmod, i_ite, b_ite, b_lt, b_le, b_eq, b_not, b_and, b_or, b_iff, i_sel, a_tab, i_pow2, List.getD_cons_zero, List.getD_cons_succ, decide_eq_true_eq, decide_eq_false_iff_not, Bool.and_eq_true, Bool.or_eq_true, Bool.not_eq_true', Bool.not_eq_false', Bool.and_eq_false_iff, Bool.or_eq_false_iff, Bool.not_not, ite_tt, ite_ff, iff_tt, iff_ff, a_av, a_ite, a_upd, show Int.toNat 0 = 0 from rfl, show Int.toNat 1 = 1 from rfl, show Int.toNat 2 = 2 from rfl] at hc0 hc2 hc4
        simp only [ev_mu, Env.app, setAll, List.map_cons, List.map_nil, List.set, List.getD_cons_zero, List.getD_cons_succ, ev_0, ev_1, ev_2, ev_3, ev_4, ev_5, ev_6, ev_7, ev_8, ev_9, ev_10, ev_11, ev_12, ev_13, ev_14, ev_15, ev_16, ev_17, ev_18, ev_19, ev_20, ev_21, ev_22, ev_23, ev_24, ev_25, ev_26, ev_27, ev_28, ev_29, ev_30, ev_31, ev_32, ev_33, ev_34, ev_35, ev_36, ev_37, ev_38, ev_39, ev_40, ev_41, ev_42, ev_43, ev_44, ev_45, ev_46, ev_47, ev_48, ev_49, ev_50, ev_51, ev_52, ev_53, i_v, b_bv, i_lit, b_blit, i_add, i_sub, i_mul, i_div, i_mod, i_tdiv, i_tmod, i_ite, b_ite, b_lt, b_le, b_eq, b_not, b_and, b_or, b_iff, i_sel, a_tab, i_pow2, List.getD_cons_zero, List.getD_cons_succ, decide_eq_true_eq, decide_eq_false_iff_not, Bool.and_eq_true, Bool.or_eq_true, Bool.not_eq_true', Bool.not_eq_false', Bool.and_eq_false_iff, Bool.or_eq_false_iff, Bool.not_not, ite_tt, ite_ff, iff_tt, iff_ff, a_av, a_ite, a_upd]
        first | omega | ((repeat' split at i5) <;> omega)
theorem ev_vcS (a0 a1 a2 : Int) (hB : ev_Base a0 a1 a2) :
    LT.holds (⟨[a0, a1, a2, 0, 0, 0], [], [fun _ => 0, fun _ => 0, fun _ => 0, fun _ => 0, fun _ => 0, fun _ => 0], [], Iv (fun _ _ => Ext.none)⟩ : Env) (fun v _ => retTrue (⟨[a0, a1, a2, 0, 0, 0], [], [fun _ => 0, fun _ => 0, fun _ => 0, fun _ => 0, fun _ => 0, fun _ => 0], [], Iv (fun _ _ => Ext.none)⟩ : Env) v) (fun j' todo ρ' => (ev_hs[j']?.map (·.todo)) = some todo ∧ ev_Inv j' ρ') (.jump 0 ev_T0 ⟨[(4, (.lit 0))], [], [(5, ev_3), (4, ev_3), (3, (.tab []))]⟩) := by
  simp only [LT.holds, retTrue]
  refine ⟨rfl, _, _, _, _, _, _, _, _, _, _, _, _, rfl, hB, ?_⟩
  ·
    simp only [ev_Base] at hB
    obtain ⟨hb0, hb1, hb2, _⟩ := hB
    simp only [ev_J0, ev_0, ev_1, ev_2, ev_3, ev_4, ev_5, ev_6, ev_7, ev_8, ev_9, ev_10, ev_11, ev_12, ev_13, ev_14, ev_15, ev_16, ev_17, ev_18, ev_19, ev_20, ev_21, ev_22, ev_23, ev_24, ev_25, ev_26, ev_27, ev_28, ev_29, ev_30, ev_31, ev_32, ev_33, ev_34, ev_35, ev_36, ev_37, ev_38, ev_39, ev_40, ev_41, ev_42, ev_43, ev_44, ev_45, ev_46, ev_47, ev_48, ev_49, ev_50, ev_51, ev_52, ev_53, i_v, b_bv, i_lit, b_blit, i_add, i_sub, i_mul, i_div, i_mod, i_tdiv, i_tmod, i_ite, b_ite, b_lt, b_le, b_eq, b_not, b_and, b_or, b_iff, i_sel, a_tab, i_pow2, List.getD_cons_zero, List.getD_cons_succ, decide_eq_true_eq, decide_eq_false_iff_not, Bool.and_eq_true, Bool.or_eq_true, Bool.not_eq_true', Bool.not_eq_false', Bool.and_eq_false_iff, Bool.or_eq_false_iff, Bool.not_not, ite_tt, ite_ff, iff_tt, iff_ff, a_av, a_ite, a_upd, show Int.toNat 0 = 0 from rfl, show Int.toNat 1 = 1 from rfl, show Int.toNat 2 = 2 from rfl]
    refine ⟨?_, ?_, ?_, ?_, ?_, ?_, ?_, ?_, ?_, ?_, ?_, ?_, ?_, ?_, ?_, trivial⟩
    all_goals first | omega | (intro j; (repeat' split) <;> first | omega | simp) | ((repeat' split) <;> first | omega | simp_all | (simp at *; omega))
theorem ev_calls (a0 : Int) (w0 : 3 ≤ a0 ∧ a0 ≤ 9223372036854775807) (a1 : Int) (w1 : (Lit.int .u8 a1).wf = true) (a2 : Int) (w2 : 0 ≤ a2 ∧ a2 ≤ 40) (w : World) :
    Calls Try.prog 4 #[.int .i64 a0, .int .u8 a1, .int .i64 a2] w fun r w' => r = .returned (.bool true) ∧ Below w.heap.size w w' := by
  have hargs : (ev_Ls.map (SV.conc (⟨[a0, a1, a2, 0, 0, 0], [], [fun _ => 0, fun _ => 0, fun _ => 0, fun _ => 0, fun _ => 0, fun _ => 0], [], Iv (fun _ _ => Ext.none)⟩ : Env) Loc.id)).toArray = #[.int .i64 a0, .int .u8 a1, .int .i64 a2] := by
    refine congrArg List.toArray ?_
    exact (cons_eq rfl (cons_eq rfl (cons_eq rfl rfl)))
  rw [← hargs]
  have hok : Hyp.ok ev_Hy (⟨[a0, a1, a2, 0, 0, 0], [], [fun _ => 0, fun _ => 0, fun _ => 0, fun _ => 0, fun _ => 0, fun _ => 0], [], Iv (fun _ _ => Ext.none)⟩ : Env) := by
    refine ⟨?_, ?_, ?_, by simp [ev_Hy], ?_, by simp [ev_Hy]⟩
    · simp [ev_Hy]
    · intro p hp
      simp only [ev_Hy, List.mem_cons, List.not_mem_nil, or_false] at hp
      rcases hp with rfl | rfl | rfl
      · exact w0
      · exact bounds_u8 w1
      · exact w2
    · simp [ev_Hy]
    · simp [ev_Hy]
  refine law_loops (D := ev_D) (hs := ev_hs) (ρ := (⟨[a0, a1, a2, 0, 0, 0], [], [fun _ => 0, fun _ => 0, fun _ => 0, fun _ => 0, fun _ => 0, fun _ => 0], [], Iv (fun _ _ => Ext.none)⟩ : Env)) (G_ok _) (by kernel_rfl) rfl (ev_Inv ) ev_mu ev_st rfl ⟨rfl, rfl, rfl⟩ hok (ev_vcS (a0) (a1) (a2) ⟨w0, bounds_u8 w1, w2, trivial⟩) ?_ w (fun i j => Ext.none_ok _)
  intro j h ρ hj hI hz hInv
  rcases j with _ | _ | j
  · simp only [ev_hs, List.getElem?_cons_zero, List.getElem?_cons_succ, Option.some.injEq] at hj; subst hj
    obtain ⟨a0, a1, a2, x3, x4, x5, Z0, Z1, Z2, Z3, Z4, Z5, rfl, hB, hJ⟩ := hInv
    refine ⟨?_, _, ev_sg0, ev_vc0 a0 a1 a2 x3 x4 x5 Z0 Z1 Z2 Z3 Z4 Z5 hB hJ⟩
    have hB2 := hB; have hJ2 := hJ
    simp only [ev_Base] at hB2; simp only [ev_J0] at hJ2
    obtain ⟨hb0, hb1, hb2, _⟩ := hB2
    obtain ⟨hl0, hl1, hl2, hl3, hl4, hl5, hl6, hl7, hl8, hx, _⟩ := hJ2
    refine ⟨?_, ?_, ?_, by simp [ev_h0], ?_, by simp [ev_h0]⟩
    · simp [ev_h0]
    · intro p hp
      simp only [ev_h0, List.mem_cons, List.not_mem_nil, or_false] at hp
      rcases hp with rfl | rfl | rfl | rfl | rfl | rfl
      · exact hb0
      · exact hb1
      · exact hb2
      · exact hl0
      · exact hl1
      · exact hl2
    · intro p hp
      simp only [ev_h0, List.mem_cons, List.not_mem_nil, or_false] at hp
      rcases hp with rfl | rfl | rfl | rfl | rfl | rfl
      · exact hl3
      · exact hl4
      · exact hl5
      · exact hl6
      · exact hl7
      · exact hl8
    · simp [ev_h0]
  · simp only [ev_hs, List.getElem?_cons_zero, List.getElem?_cons_succ, Option.some.injEq] at hj; subst hj
    obtain ⟨a0, a1, a2, x3, x4, x5, Z0, Z1, Z2, Z3, Z4, Z5, rfl, hB, hJ⟩ := hInv
    refine ⟨?_, _, ev_sg1, ev_vc1 a0 a1 a2 x3 x4 x5 Z0 Z1 Z2 Z3 Z4 Z5 hB hJ⟩
    have hB2 := hB; have hJ2 := hJ
    simp only [ev_Base] at hB2; simp only [ev_J1] at hJ2
    obtain ⟨hb0, hb1, hb2, _⟩ := hB2
    obtain ⟨hl0, hl1, hl2, hl3, hl4, hl5, hl6, hl7, hl8, hx, _⟩ := hJ2
    refine ⟨?_, ?_, ?_, by simp [ev_h1], ?_, by simp [ev_h1]⟩
    · simp [ev_h1]
    · intro p hp
      simp only [ev_h1, List.mem_cons, List.not_mem_nil, or_false] at hp
      rcases hp with rfl | rfl | rfl | rfl | rfl | rfl
      · exact hb0
      · exact hb1
      · exact hb2
      · exact hl0
      · exact hl1
      · exact hl2
    · intro p hp
      simp only [ev_h1, List.mem_cons, List.not_mem_nil, or_false] at hp
      rcases hp with rfl | rfl | rfl | rfl | rfl | rfl
      · exact hl3
      · exact hl4
      · exact hl5
      · exact hl6
      · exact hl7
      · exact hl8
    · simp [ev_h1]
  · simp [ev_hs] at hj
end Go.Proofs.Ytngbibifiadgiaa.TickTimes
