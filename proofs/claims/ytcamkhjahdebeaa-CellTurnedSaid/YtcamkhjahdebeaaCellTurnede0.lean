/- A part of the law CellTurned, which returns true for every input. A map all of whose words are turned has its tiles' dots the other way about (tiles whose bits don't lie in the map). No condition. -/
import Derived.Test.YtcamkhjahdebeaaCellTurned0
namespace Go.Proofs.Ytcamkhjahdebeaa.CellTurned
open Go.Sx Go.ChangeShapes Go.WideShapes Go.ChangeAt Go.RowKit
set_option linter.unusedVariables false
set_option linter.unusedSimpArgs false
set_option maxRecDepth 100000
def e0_Hy : Hyp := ⟨[(.v 0, (0, 9223372036854775807)), (.v 1, (0, 65535)), (.v 2, (0, 7)), (.v 3, (0, 7)), (.v 4, (0, 255)), ((.mod (.v 4) (.lit 2)), (0, 0))], [(0, (0, 65535))], [], [(0, (0, 65535)), (1, (0, 255)), (2, (0, 32767))], [], [(0, ⟨.v 0, [(some .u16, .av 0)]⟩)]⟩
def e0_Ls : List SV := [.s (.xslc 0 (.lit 0) (.lit 0) (.v 0)), .s (.int .u16 (.v 1)), .s (.int .i64 (.v 2)), .s (.int .i64 (.v 3)), .s (.int .u8 (.v 4))]
def e0_0 : E := .mod (.v 4) (.lit 2)
def e0_1 : E := .div (.v 1) (.lit 512)
def e0_2 : E := .mod e0_1 (.lit 2)
def e0_3 : E := .mul e0_2 (.lit 512)
def e0_4 : E := .sub (.v 1) e0_3
def e0_5 : E := .app 1 (.cons (.lit 0) (.cons (.tab []) .nil))
def e0_6 : E := .app 2 (.cons (.v 0) (.cons (.av 0) .nil))
def e0_7 : E := .upd (.tab []) (.lit 5) (.lit 0)
def e0_8 : E := .upd e0_7 (.lit 7) (.lit 64)
def e0_9 : E := .upd e0_8 (.lit 11) (.lit 2)
def e0_10 : E := .div (.v 3) (.lit 8)
def e0_11 : E := .add e0_10 (.lit 1)
def e0_12 : E := .mul e0_11 (.lit 32)
def e0_13 : E := .div (.v 2) (.lit 8)
def e0_14 : E := .add e0_12 e0_13
def e0_15 : E := .add e0_14 (.lit 16385)
def e0_16 : E := .sel (.av 1) e0_15
def e0_17 : E := .div e0_16 (.lit 16384)
def e0_18 : E := .mod e0_17 (.lit 2)
def e0_19 : E := .eq e0_18 (.lit 0)
def e0_20 : E := .sub (.lit 7) (.v 2)
def e0_21 : E := .ite e0_19 (.v 2) e0_20
def e0_22 : E := .div e0_21 (.lit 8)
def e0_23 : E := .add e0_16 e0_22
def e0_24 : E := .le e0_16 (.lit 32767)
def e0_25 : E := .sub (.lit 7) (.v 3)
def e0_26 : E := .ite e0_24 (.v 3) e0_25
def e0_27 : E := .div e0_26 (.lit 8)
def e0_28 : E := .mul e0_27 (.lit 16)
def e0_29 : E := .add e0_23 e0_28
def e0_30 : E := .mod e0_29 (.lit 1024)
def e0_31 : E := .mul e0_30 (.lit 8)
def e0_32 : E := .add e0_31 e0_26
def e0_33 : E := .add e0_32 (.lit 8192)
def e0_34 : E := .sel (.av 1) e0_33
def e0_35 : E := .sub (.lit 7) e0_21
def e0_36 : E := .pow2 e0_35
def e0_37 : E := .div e0_34 e0_36
def e0_38 : E := .mod e0_37 (.lit 2)
def e0_39 : E := .sub (.lit 15) e0_21
def e0_40 : E := .pow2 e0_39
def e0_41 : E := .div e0_34 e0_40
def e0_42 : E := .mod e0_41 (.lit 2)
def e0_43 : E := .mul e0_42 (.lit 2)
def e0_44 : E := .add e0_38 e0_43
def e0_45 : E := .eq e0_44 (.lit 0)
def e0_46 : E := .not e0_45
def e0_47 : E := .div e0_16 (.lit 8192)
def e0_48 : E := .mod e0_47 (.lit 2)
def e0_49 : E := .ite e0_45 (.lit 0) e0_48
def e0_50 : E := .div e0_16 (.lit 1024)
def e0_51 : E := .mod e0_50 (.lit 8)
def e0_52 : E := .mul e0_51 (.lit 4)
def e0_53 : E := .add e0_44 e0_52
def e0_54 : E := .ite e0_45 (.lit 0) e0_53
def e0_55 : E := .sel e0_6 e0_53
def e0_56 : E := .ite e0_45 (.lit 0) e0_55
def e0_57 : E := .app 0 (.cons (.v 0) (.cons (.av 0) .nil))
def e0_58 : E := .le (.v 5) (.lit 4095)
def e0_59 : E := .add (.v 5) (.lit 1)
def e0_60 : E := .add (.v 5) (.lit 16384)
def e0_61 : E := .mod e0_4 (.lit 16384)
def e0_62 : E := .upd (.av 1) e0_60 e0_61
def e0_63 : E := .le (.v 6) (.lit 4095)
def e0_64 : E := .add (.v 6) (.lit 1)
def e0_65 : E := .add (.v 6) (.lit 16384)
def e0_66 : E := .add e0_61 (.lit 49152)
def e0_67 : E := .upd (.av 2) e0_65 e0_66
def e0_68 : E := .sub (.lit 15) (.v 3)
def e0_69 : E := .div e0_68 (.lit 8)
def e0_70 : E := .mul e0_69 (.lit 32)
def e0_71 : E := .sub (.lit 15) (.v 2)
def e0_72 : E := .div e0_71 (.lit 8)
def e0_73 : E := .add e0_70 e0_72
def e0_74 : E := .add e0_73 (.lit 16384)
def e0_75 : E := .sel (.av 2) e0_74
def e0_76 : E := .div e0_75 (.lit 16384)
def e0_77 : E := .mod e0_76 (.lit 2)
def e0_78 : E := .eq e0_77 (.lit 0)
def e0_79 : E := .mod e0_71 (.lit 8)
def e0_80 : E := .sub (.lit 7) e0_79
def e0_81 : E := .ite e0_78 e0_79 e0_80
def e0_82 : E := .div e0_81 (.lit 8)
def e0_83 : E := .add e0_75 e0_82
def e0_84 : E := .le e0_75 (.lit 32767)
def e0_85 : E := .mod e0_68 (.lit 8)
def e0_86 : E := .sub (.lit 7) e0_85
def e0_87 : E := .ite e0_84 e0_85 e0_86
def e0_88 : E := .div e0_87 (.lit 8)
def e0_89 : E := .mul e0_88 (.lit 16)
def e0_90 : E := .add e0_83 e0_89
def e0_91 : E := .mod e0_90 (.lit 1024)
def e0_92 : E := .mul e0_91 (.lit 8)
def e0_93 : E := .add e0_92 e0_87
def e0_94 : E := .add e0_93 (.lit 8192)
def e0_95 : E := .sel (.av 2) e0_94
def e0_96 : E := .sub (.lit 7) e0_81
def e0_97 : E := .pow2 e0_96
def e0_98 : E := .div e0_95 e0_97
def e0_99 : E := .mod e0_98 (.lit 2)
def e0_100 : E := .sub (.lit 15) e0_81
def e0_101 : E := .pow2 e0_100
def e0_102 : E := .div e0_95 e0_101
def e0_103 : E := .mod e0_102 (.lit 2)
def e0_104 : E := .mul e0_103 (.lit 2)
def e0_105 : E := .add e0_99 e0_104
def e0_106 : E := .eq e0_105 (.lit 0)
def e0_107 : E := .div e0_75 (.lit 1024)
def e0_108 : E := .mod e0_107 (.lit 8)
def e0_109 : E := .mul e0_108 (.lit 4)
def e0_110 : E := .add e0_105 e0_109
def e0_111 : E := .ite e0_106 (.lit 0) e0_110
def e0_112 : E := .eq e0_54 e0_111
def e0_113 : E := .div e0_75 (.lit 8192)
def e0_114 : E := .mod e0_113 (.lit 2)
def e0_115 : E := .ite e0_106 (.lit 0) e0_114
def e0_116 : E := .eq e0_49 e0_115
def e0_117 : E := .and e0_112 e0_116
def e0_118 : E := .sel e0_6 e0_110
def e0_119 : E := .ite e0_106 (.lit 0) e0_118
def e0_120 : E := .eq e0_56 e0_119
def e0_121 : E := .and e0_117 e0_120
def e0_122 : E := .not e0_106
def e0_123 : E := .iff e0_46 e0_122
def e0_124 : E := .and e0_121 e0_123
noncomputable def e0_T0 : List Item := todoS Try.prog G Gh [] 3000 0 7 e0_Hy e0_Ls [] 11
noncomputable def e0_h0 : Head := ⟨11, e0_T0, ⟨[((.v 0), (0, 9223372036854775807)), ((.v 1), (0, 65535)), ((.v 2), (0, 7)), ((.v 3), (0, 7)), ((.v 4), (0, 255)), (e0_0, (0, 0)), ((.v 5), (0, 4096)), ((.v 6), (0, 4096))], [(0, (0, 65535)), (1, (0, 65535)), (2, (0, 65535))], [], [(0, (0, 65535)), (1, (0, 255)), (2, (0, 32767))], [], [(0, ⟨(.v 0), [(some .u16, (.av 0))]⟩)]⟩, [⟨13, [], .s (.int .i64 (.v 5))⟩, ⟨1, [], .s (.int .u16 e0_4)⟩, ⟨12, [], .s (.ptr 1 (.lit 0))⟩, ⟨11, [], .s (.ptr 0 (.lit 0))⟩, ⟨2, [], .s (.int .i64 (.v 2))⟩, ⟨3, [], .s (.int .i64 (.v 3))⟩], [⟨45, [.run .u16 (.lit 32768) (.av 1) 0, .run .u8 (.lit 544) e0_5 0, .run .u16 (.lit 256) e0_6 0], true, none, false⟩, ⟨32, [.run .u8 (.lit 64) e0_9 0, .run .u16 (.lit 4) (.tab []) 0, .run .u16 (.lit 4) (.tab []) 0, .run .i16 (.lit 6) (.tab []) 0, .one (.int .i16 (.lit 0)), .one (.int .i16 (.lit 0)), .one (.int .u16 (.lit 0))], true, none, false⟩]⟩
noncomputable def e0_T1 : List Item := todoH Try.prog G Gh [] 3000 0 7 e0_h0 16
noncomputable def e0_h1 : Head := ⟨16, e0_T1, ⟨[((.v 0), (0, 9223372036854775807)), ((.v 1), (0, 65535)), ((.v 2), (0, 7)), ((.v 3), (0, 7)), ((.v 4), (0, 255)), (e0_0, (0, 0)), ((.v 5), (0, 4096)), ((.v 6), (0, 4096))], [(0, (0, 65535)), (1, (0, 65535)), (2, (0, 65535))], [], [(0, (0, 65535)), (1, (0, 255)), (2, (0, 32767))], [], [(0, ⟨(.v 0), [(some .u16, (.av 0))]⟩)]⟩, [⟨15, [], .s (.int .i64 (.v 6))⟩, ⟨14, [], .s (.ptr 2 (.lit 0))⟩, ⟨1, [], .s (.int .u16 e0_4)⟩, ⟨12, [], .s (.ptr 1 (.lit 0))⟩, ⟨11, [], .s (.ptr 0 (.lit 0))⟩, ⟨2, [], .s (.int .i64 (.v 2))⟩, ⟨3, [], .s (.int .i64 (.v 3))⟩], [⟨45, [.run .u16 (.lit 32768) (.av 2) 0, .run .u8 (.lit 544) e0_5 0, .run .u16 (.lit 256) e0_6 0], true, none, false⟩, ⟨32, [.run .u8 (.lit 64) e0_9 0, .run .u16 (.lit 4) (.tab []) 0, .run .u16 (.lit 4) (.tab []) 0, .run .i16 (.lit 6) (.tab []) 0, .one (.int .i16 (.lit 0)), .one (.int .i16 (.lit 0)), .one (.int .u16 (.lit 0))], true, none, false⟩, ⟨38, [.one (.bool e0_46), .one (.int .u8 e0_49), .one (.int .u8 e0_54), .one (.int .u16 e0_56)], true, none, false⟩]⟩
noncomputable def e0_hs : List Head := [e0_h0, e0_h1]
def e0_D : Dim := ⟨7, 0, 3, 5, 0, 1, 0⟩
theorem e0_st : startL Try.prog G Gh e0_D e0_hs [] 3000 0 7 e0_Hy e0_Ls [] = some (.jump 0 e0_T0 ⟨[(5, (.lit 0))], [], [(1, e0_57)]⟩) := by kernel_rfl
theorem e0_sg0 : segL Try.prog G Gh e0_D e0_hs [] 3000 0 7 e0_h0 = some (.ite e0_58 (.jump 0 e0_T0 ⟨[(5, e0_59)], [], [(1, e0_62)]⟩) (.jump 1 e0_T1 ⟨[(6, (.lit 0))], [], [(2, (.av 1))]⟩)) := by kernel_rfl
theorem e0_sg1 : segL Try.prog G Gh e0_D e0_hs [] 3000 0 7 e0_h1 = some (.ite e0_63 (.jump 1 e0_T1 ⟨[(6, e0_64)], [], [(2, e0_67)]⟩) (.ret (.s (.bool e0_124)) [⟨45, [.run .u16 (.lit 32768) (.av 2) 0, .run .u8 (.lit 544) e0_5 0, .run .u16 (.lit 256) e0_6 0], true, none, false⟩, ⟨32, [.run .u8 (.lit 64) e0_9 0, .run .u16 (.lit 4) (.tab []) 0, .run .u16 (.lit 4) (.tab []) 0, .run .i16 (.lit 6) (.tab []) 0, .one (.int .i16 (.lit 0)), .one (.int .i16 (.lit 0)), .one (.int .u16 (.lit 0))], true, none, false⟩, ⟨38, [.one (.bool e0_46), .one (.int .u8 e0_49), .one (.int .u8 e0_54), .one (.int .u16 e0_56)], true, none, false⟩, ⟨38, [.one (.bool e0_122), .one (.int .u8 e0_115), .one (.int .u8 e0_111), .one (.int .u16 e0_119)], true, none, false⟩])) := by kernel_rfl
theorem e0_hT0 : (e0_hs[0]?.map (·.todo)) = some e0_T0 := by kernel_rfl
theorem e0_hT1 : (e0_hs[1]?.map (·.todo)) = some e0_T1 := by kernel_rfl
def e0_Base (x0 : Ext) (nx0 a1 a2 a3 a4 : Int) (Ax0 : Nat → Int) : Prop := (0 ≤ nx0 ∧ nx0 ≤ 9223372036854775807) ∧ (0 ≤ a1 ∧ a1 ≤ 65535) ∧ (0 ≤ a2 ∧ a2 ≤ 7) ∧ (0 ≤ a3 ∧ a3 ≤ 7) ∧ (0 ≤ a4 ∧ a4 ≤ 255) ∧ (∀ j, 0 ≤ Ax0 j ∧ Ax0 j ≤ 65535) ∧ nx0 = (x0.n : Int) ∧ Ax0 = xArr x0 1 0 ∧ (a4) % 2 = 0 ∧ True
def e0_J0 (nx0 a1 a2 a3 a4 y5 y6 : Int) (Ax0 Z1 Z2 : Nat → Int) : Prop := (0 ≤ y5 ∧ y5 ≤ 4096) ∧ (0 ≤ y6 ∧ y6 ≤ 4096) ∧ (∀ j, 0 ≤ Z1 j ∧ Z1 j ≤ 65535) ∧ (∀ j, 0 ≤ Z2 j ∧ Z2 j ≤ 65535) ∧ (∀ j : Nat, 16384 ≤ j → (j : Int) < 16384 + y5 → Z1 j = ((a1 - a1 / 512 % 2 * 512) % 16384)) ∧ True
def e0_J1 (nx0 a1 a2 a3 a4 y5 y6 : Int) (Ax0 Z1 Z2 : Nat → Int) : Prop := (0 ≤ y5 ∧ y5 ≤ 4096) ∧ (0 ≤ y6 ∧ y6 ≤ 4096) ∧ (∀ j, 0 ≤ Z1 j ∧ Z1 j ≤ 65535) ∧ (∀ j, 0 ≤ Z2 j ∧ Z2 j ≤ 65535) ∧ (∀ j : Nat, 16384 ≤ j → j < 20480 → Z1 j = ((a1 - a1 / 512 % 2 * 512) % 16384)) ∧ (∀ j : Nat, 16384 ≤ j → (j : Int) < 16384 + y6 → Z2 j = ((a1 - a1 / 512 % 2 * 512) % 16384) + 49152) ∧ (∀ j : Nat, j < 16384 → Z2 j = Z1 j) ∧ True
def e0_Inv (x0 : Ext) : Nat → Env → Prop
  | 0, ρ => ∃ (nx0 a1 a2 a3 a4 y5 y6 : Int) (Ax0 Z1 Z2 : Nat → Int), ρ = (⟨[nx0, a1, a2, a3, a4, y5, y6], [], [Ax0, Z1, Z2], [], Iv (fun i j => match i, j with | 0, 0 => x0 | _, _ => Ext.none)⟩ : Env) ∧ e0_Base x0 nx0 a1 a2 a3 a4 Ax0 ∧ e0_J0 nx0 a1 a2 a3 a4 y5 y6 Ax0 Z1 Z2
  | 1, ρ => ∃ (nx0 a1 a2 a3 a4 y5 y6 : Int) (Ax0 Z1 Z2 : Nat → Int), ρ = (⟨[nx0, a1, a2, a3, a4, y5, y6], [], [Ax0, Z1, Z2], [], Iv (fun i j => match i, j with | 0, 0 => x0 | _, _ => Ext.none)⟩ : Env) ∧ e0_Base x0 nx0 a1 a2 a3 a4 Ax0 ∧ e0_J1 nx0 a1 a2 a3 a4 y5 y6 Ax0 Z1 Z2
  | _, _ => False
def e0_mu : Nat → Env → Nat := fun j ρ => match j with | 0 => (20000 - ρ.i.getD 5 0).toNat | _ => (5000 - ρ.i.getD 6 0).toNat
theorem e0_vc0 (x0 : Ext) (nx0 a1 a2 a3 a4 y5 y6 : Int) (Ax0 Z1 Z2 : Nat → Int) (hB : e0_Base x0 nx0 a1 a2 a3 a4 Ax0) (hJ : e0_J0 nx0 a1 a2 a3 a4 y5 y6 Ax0 Z1 Z2) :
    LT.holds (⟨[nx0, a1, a2, a3, a4, y5, y6], [], [Ax0, Z1, Z2], [], Iv (fun i j => match i, j with | 0, 0 => x0 | _, _ => Ext.none)⟩ : Env) (fun v _ => retTrue (⟨[nx0, a1, a2, a3, a4, y5, y6], [], [Ax0, Z1, Z2], [], Iv (fun i j => match i, j with | 0, 0 => x0 | _, _ => Ext.none)⟩ : Env) v) (fun j' todo ρ' => (e0_hs[j']?.map (·.todo)) = some todo ∧ e0_Inv x0 j' ρ' ∧ e0_mu j' ρ' < e0_mu 0 (⟨[nx0, a1, a2, a3, a4, y5, y6], [], [Ax0, Z1, Z2], [], Iv (fun i j => match i, j with | 0, 0 => x0 | _, _ => Ext.none)⟩ : Env)) (.ite e0_58 (.jump 0 e0_T0 ⟨[(5, e0_59)], [], [(1, e0_62)]⟩) (.jump 1 e0_T1 ⟨[(6, (.lit 0))], [], [(2, (.av 1))]⟩)) := by
  simp only [LT.holds, retTrue]
  refine ⟨fun hc0 => ?_, fun hc0 => ?_⟩
  ·
    refine ⟨e0_hT0, ⟨_, _, _, _, _, _, _, _, _, _, rfl, hB, ?_⟩, ?_⟩
    ·
      simp only [e0_Base] at hB
      obtain ⟨b0, b1, b2, b3, b4, bA, _⟩ := hB
      simp only [e0_J0] at hJ
      obtain ⟨l5, l6, mZ1, mZ2, i0, _⟩ := hJ
      simp only [e0_0, e0_1, e0_2, e0_3, e0_4, e0_7, e0_8, e0_9, e0_10, e0_11, e0_12, e0_13, e0_14, e0_15, e0_16, e0_17, e0_18, e0_19, e0_20, e0_21, e0_22, e0_23, e0_24, e0_25, e0_26, e0_27, e0_28, e0_29, e0_30, e0_31, e0_32, e0_33, e0_34, e0_35, e0_36, e0_37, e0_38, e0_39, e0_40, e0_41, e0_42, e0_43, e0_44, e0_45, e0_46, e0_47, e0_48, e0_49, e0_50, e0_51, e0_52, e0_53, e0_54, e0_55, e0_56, e0_58, e0_59, e0_60, e0_61, e0_62, e0_63, e0_64, e0_65, e0_66, e0_67, e0_68, e0_69, e0_70, e0_71, e0_72, e0_73, e0_74, e0_75, e0_76, e0_77, e0_78, e0_79, e0_80, e0_81, e0_82, e0_83, e0_84, e0_85, e0_86, e0_87, e0_88, e0_89, e0_90, e0_91, e0_92, e0_93, e0_94, e0_95, e0_96, e0_97, e0_98, e0_99, e0_100, e0_101, e0_102, e0_103, e0_104, e0_105, e0_106, e0_107, e0_108, e0_109, e0_110, e0_111, e0_112, e0_113, e0_114, e0_115, e0_116, e0_117, e0_118, e0_119, e0_120, e0_121, e0_122, e0_123, e0_124, i_v, b_bv, i_lit, b_blit, i_add, i_sub, i_mul, i_div, i_mod, i_tdiv, i_tmod, i_ite, b_ite, b_lt, b_le, b_eq, b_not, b_and, b_or, b_iff, i_sel, a_tab, i_pow2, List.getD_cons_zero, List.getD_cons_succ, decide_eq_true_eq, decide_eq_false_iff_not, Bool.and_eq_true, Bool.or_eq_true, Bool.not_eq_true', Bool.not_eq_false', Bool.and_eq_false_iff, Bool.or_eq_false_iff, Bool.not_not, ite_tt, ite_ff, iff_tt, iff_ff, a_av, a_ite, a_upd] at hc0
      simp only [e0_J0, e0_0, e0_1, e0_2, e0_3, e0_4, e0_7, e0_8, e0_9, e0_10, e0_11, e0_12, e0_13, e0_14, e0_15, e0_16, e0_17, e0_18, e0_19, e0_20, e0_21, e0_22, e0_23, e0_24, e0_25, e0_26, e0_27, e0_28, e0_29, e0_30, e0_31, e0_32, e0_33, e0_34, e0_35, e0_36, e0_37, e0_38, e0_39, e0_40, e0_41, e0_42, e0_43, e0_44, e0_45, e0_46, e0_47, e0_48, e0_49, e0_50, e0_51, e0_52, e0_53, e0_54, e0_55, e0_56, e0_58, e0_59, e0_60, e0_61, e0_62, e0_63, e0_64, e0_65, e0_66, e0_67, e0_68, e0_69, e0_70, e0_71, e0_72, e0_73, e0_74, e0_75, e0_76, e0_77, e0_78, e0_79, e0_80, e0_81, e0_82, e0_83, e0_84, e0_85, e0_86, e0_87, e0_88, e0_89, e0_90, e0_91, e0_92, e0_93, e0_94, e0_95, e0_96, e0_97, e0_98, e0_99, e0_100, e0_101, e0_102, e0_103, e0_104, e0_105, e0_106, e0_107, e0_108, e0_109, e0_110, e0_111, e0_112, e0_113, e0_114, e0_115, e0_116, e0_117, e0_118, e0_119, e0_120, e0_121, e0_122, e0_123, e0_124, i_v, b_bv, i_lit, b_blit, i_add, i_sub, i_mul, i_div, i_mod, i_tdiv, i_tmod, i_ite, b_ite, b_lt, b_le, b_eq, b_not, b_and, b_or, b_iff, i_sel, a_tab, i_pow2, List.getD_cons_zero, List.getD_cons_succ, decide_eq_true_eq, decide_eq_false_iff_not, Bool.and_eq_true, Bool.or_eq_true, Bool.not_eq_true', Bool.not_eq_false', Bool.and_eq_false_iff, Bool.or_eq_false_iff, Bool.not_not, ite_tt, ite_ff, iff_tt, iff_ff, a_av, a_ite, a_upd]
      exact ⟨by omega, l6, fun j => by have := mZ1 j; split <;> omega, mZ2, fun j h1 h2 => by split; rfl; exact i0 j h1 (by omega), trivial⟩
    simp only [e0_Base] at hB
    obtain ⟨b0, b1, b2, b3, b4, bA, _⟩ := hB
    simp only [e0_J0] at hJ
    obtain ⟨l5, l6, mZ1, mZ2, i0, _⟩ := hJ
    simp only [e0_0, e0_1, e0_2, e0_3, e0_4, e0_7, e0_8, e0_9, e0_10, e0_11, e0_12, e0_13, e0_14, e0_15, e0_16, e0_17, e0_18, e0_19, e0_20, e0_21, e0_22, e0_23, e0_24, e0_25, e0_26, e0_27, e0_28, e0_29, e0_30, e0_31, e0_32, e0_33, e0_34, e0_35, e0_36, e0_37, e0_38, e0_39, e0_40, e0_41, e0_42, e0_43, e0_44, e0_45, e0_46, e0_47, e0_48, e0_49, e0_50, e0_51, e0_52, e0_53, e0_54, e0_55, e0_56, e0_58, e0_59, e0_60, e0_61, e0_62, e0_63, e0_64, e0_65, e0_66, e0_67, e0_68, e0_69, e0_70, e0_71, e0_72, e0_73, e0_74, e0_75, e0_76, e0_77, e0_78, e0_79, e0_80, e0_81, e0_82, e0_83, e0_84, e0_85, e0_86, e0_87, e0_88, e0_89, e0_90, e0_91, e0_92, e0_93, e0_94, e0_95, e0_96, e0_97, e0_98, e0_99, e0_100, e0_101, e0_102, e0_103, e0_104, e0_105, e0_106, e0_107, e0_108, e0_109, e0_110, e0_111, e0_112, e0_113, e0_114, e0_115, e0_116, e0_117, e0_118, e0_119, e0_120, e0_121, e0_122, e0_123, e0_124, i_v, b_bv, i_lit, b_blit, i_add, i_sub, i_mul, i_div, i_mod, i_tdiv, i_tmod, i_ite, b_ite, b_lt, b_le, b_eq, b_not, b_and, b_or, b_iff, i_sel, a_tab, i_pow2, List.getD_cons_zero, List.getD_cons_succ, decide_eq_true_eq, decide_eq_false_iff_not, Bool.and_eq_true, Bool.or_eq_true, Bool.not_eq_true', Bool.not_eq_false', Bool.and_eq_false_iff, Bool.or_eq_false_iff, Bool.not_not, ite_tt, ite_ff, iff_tt, iff_ff, a_av, a_ite, a_upd] at hc0
    simp only [e0_mu, Env.app, setAll, List.map_cons, List.map_nil, List.set, List.getD_cons_zero, List.getD_cons_succ, e0_0, e0_1, e0_2, e0_3, e0_4, e0_7, e0_8, e0_9, e0_10, e0_11, e0_12, e0_13, e0_14, e0_15, e0_16, e0_17, e0_18, e0_19, e0_20, e0_21, e0_22, e0_23, e0_24, e0_25, e0_26, e0_27, e0_28, e0_29, e0_30, e0_31, e0_32, e0_33, e0_34, e0_35, e0_36, e0_37, e0_38, e0_39, e0_40, e0_41, e0_42, e0_43, e0_44, e0_45, e0_46, e0_47, e0_48, e0_49, e0_50, e0_51, e0_52, e0_53, e0_54, e0_55, e0_56, e0_58, e0_59, e0_60, e0_61, e0_62, e0_63, e0_64, e0_65, e0_66, e0_67, e0_68, e0_69, e0_70, e0_71, e0_72, e0_73, e0_74, e0_75, e0_76, e0_77, e0_78, e0_79, e0_80, e0_81, e0_82, e0_83, e0_84, e0_85, e0_86, e0_87, e0_88, e0_89, e0_90, e0_91, e0_92, e0_93, e0_94, e0_95, e0_96, e0_97, e0_98, e0_99, e0_100, e0_101, e0_102, e0_103, e0_104, e0_105, e0_106, e0_107, e0_108, e0_109, e0_110, e0_111, e0_112, e0_113, e0_114, e0_115, e0_116, e0_117, e0_118, e0_119, e0_120, e0_121, e0_122, e0_123, e0_124, i_v, b_bv, i_lit, b_blit, i_add, i_sub, i_mul, i_div, i_mod, i_tdiv, i_tmod, i_ite, b_ite, b_lt, b_le, b_eq, b_not, b_and, b_or, b_iff, i_sel, a_tab, i_pow2, List.getD_cons_zero, List.getD_cons_succ, decide_eq_true_eq, decide_eq_false_iff_not, Bool.and_eq_true, Bool.or_eq_true, Bool.not_eq_true', Bool.not_eq_false', Bool.and_eq_false_iff, Bool.or_eq_false_iff, Bool.not_not, ite_tt, ite_ff, iff_tt, iff_ff, a_av, a_ite, a_upd]
    omega
  ·
    refine ⟨e0_hT1, ⟨_, _, _, _, _, _, _, _, _, _, rfl, hB, ?_⟩, ?_⟩
    ·
      simp only [e0_Base] at hB
      obtain ⟨b0, b1, b2, b3, b4, bA, _⟩ := hB
      simp only [e0_J0] at hJ
      obtain ⟨l5, l6, mZ1, mZ2, i0, _⟩ := hJ
      simp only [e0_0, e0_1, e0_2, e0_3, e0_4, e0_7, e0_8, e0_9, e0_10, e0_11, e0_12, e0_13, e0_14, e0_15, e0_16, e0_17, e0_18, e0_19, e0_20, e0_21, e0_22, e0_23, e0_24, e0_25, e0_26, e0_27, e0_28, e0_29, e0_30, e0_31, e0_32, e0_33, e0_34, e0_35, e0_36, e0_37, e0_38, e0_39, e0_40, e0_41, e0_42, e0_43, e0_44, e0_45, e0_46, e0_47, e0_48, e0_49, e0_50, e0_51, e0_52, e0_53, e0_54, e0_55, e0_56, e0_58, e0_59, e0_60, e0_61, e0_62, e0_63, e0_64, e0_65, e0_66, e0_67, e0_68, e0_69, e0_70, e0_71, e0_72, e0_73, e0_74, e0_75, e0_76, e0_77, e0_78, e0_79, e0_80, e0_81, e0_82, e0_83, e0_84, e0_85, e0_86, e0_87, e0_88, e0_89, e0_90, e0_91, e0_92, e0_93, e0_94, e0_95, e0_96, e0_97, e0_98, e0_99, e0_100, e0_101, e0_102, e0_103, e0_104, e0_105, e0_106, e0_107, e0_108, e0_109, e0_110, e0_111, e0_112, e0_113, e0_114, e0_115, e0_116, e0_117, e0_118, e0_119, e0_120, e0_121, e0_122, e0_123, e0_124, i_v, b_bv, i_lit, b_blit, i_add, i_sub, i_mul, i_div, i_mod, i_tdiv, i_tmod, i_ite, b_ite, b_lt, b_le, b_eq, b_not, b_and, b_or, b_iff, i_sel, a_tab, i_pow2, List.getD_cons_zero, List.getD_cons_succ, decide_eq_true_eq, decide_eq_false_iff_not, Bool.and_eq_true, Bool.or_eq_true, Bool.not_eq_true', Bool.not_eq_false', Bool.and_eq_false_iff, Bool.or_eq_false_iff, Bool.not_not, ite_tt, ite_ff, iff_tt, iff_ff, a_av, a_ite, a_upd] at hc0
      simp only [e0_J1, e0_0, e0_1, e0_2, e0_3, e0_4, e0_7, e0_8, e0_9, e0_10, e0_11, e0_12, e0_13, e0_14, e0_15, e0_16, e0_17, e0_18, e0_19, e0_20, e0_21, e0_22, e0_23, e0_24, e0_25, e0_26, e0_27, e0_28, e0_29, e0_30, e0_31, e0_32, e0_33, e0_34, e0_35, e0_36, e0_37, e0_38, e0_39, e0_40, e0_41, e0_42, e0_43, e0_44, e0_45, e0_46, e0_47, e0_48, e0_49, e0_50, e0_51, e0_52, e0_53, e0_54, e0_55, e0_56, e0_58, e0_59, e0_60, e0_61, e0_62, e0_63, e0_64, e0_65, e0_66, e0_67, e0_68, e0_69, e0_70, e0_71, e0_72, e0_73, e0_74, e0_75, e0_76, e0_77, e0_78, e0_79, e0_80, e0_81, e0_82, e0_83, e0_84, e0_85, e0_86, e0_87, e0_88, e0_89, e0_90, e0_91, e0_92, e0_93, e0_94, e0_95, e0_96, e0_97, e0_98, e0_99, e0_100, e0_101, e0_102, e0_103, e0_104, e0_105, e0_106, e0_107, e0_108, e0_109, e0_110, e0_111, e0_112, e0_113, e0_114, e0_115, e0_116, e0_117, e0_118, e0_119, e0_120, e0_121, e0_122, e0_123, e0_124, i_v, b_bv, i_lit, b_blit, i_add, i_sub, i_mul, i_div, i_mod, i_tdiv, i_tmod, i_ite, b_ite, b_lt, b_le, b_eq, b_not, b_and, b_or, b_iff, i_sel, a_tab, i_pow2, List.getD_cons_zero, List.getD_cons_succ, decide_eq_true_eq, decide_eq_false_iff_not, Bool.and_eq_true, Bool.or_eq_true, Bool.not_eq_true', Bool.not_eq_false', Bool.and_eq_false_iff, Bool.or_eq_false_iff, Bool.not_not, ite_tt, ite_ff, iff_tt, iff_ff, a_av, a_ite, a_upd]
      exact ⟨l5, by omega, mZ1, mZ1, fun j h1 h2 => i0 j h1 (by omega), fun j h1 h2 => by omega, by intro j h1; first | exact True.intro | rfl, trivial⟩
    simp only [e0_Base] at hB
    obtain ⟨b0, b1, b2, b3, b4, bA, _⟩ := hB
    simp only [e0_J0] at hJ
    obtain ⟨l5, l6, mZ1, mZ2, i0, _⟩ := hJ
    simp only [e0_0, e0_1, e0_2, e0_3, e0_4, e0_7, e0_8, e0_9, e0_10, e0_11, e0_12, e0_13, e0_14, e0_15, e0_16, e0_17, e0_18, e0_19, e0_20, e0_21, e0_22, e0_23, e0_24, e0_25, e0_26, e0_27, e0_28, e0_29, e0_30, e0_31, e0_32, e0_33, e0_34, e0_35, e0_36, e0_37, e0_38, e0_39, e0_40, e0_41, e0_42, e0_43, e0_44, e0_45, e0_46, e0_47, e0_48, e0_49, e0_50, e0_51, e0_52, e0_53, e0_54, e0_55, e0_56, e0_58, e0_59, e0_60, e0_61, e0_62, e0_63, e0_64, e0_65, e0_66, e0_67, e0_68, e0_69, e0_70, e0_71, e0_72, e0_73, e0_74, e0_75, e0_76, e0_77, e0_78, e0_79, e0_80, e0_81, e0_82, e0_83, e0_84, e0_85, e0_86, e0_87, e0_88, e0_89, e0_90, e0_91, e0_92, e0_93, e0_94, e0_95, e0_96, e0_97, e0_98, e0_99, e0_100, e0_101, e0_102, e0_103, e0_104, e0_105, e0_106, e0_107, e0_108, e0_109, e0_110, e0_111, e0_112, e0_113, e0_114, e0_115, e0_116, e0_117, e0_118, e0_119, e0_120, e0_121, e0_122, e0_123, e0_124, i_v, b_bv, i_lit, b_blit, i_add, i_sub, i_mul, i_div, i_mod, i_tdiv, i_tmod, i_ite, b_ite, b_lt, b_le, b_eq, b_not, b_and, b_or, b_iff, i_sel, a_tab, i_pow2, List.getD_cons_zero, List.getD_cons_succ, decide_eq_true_eq, decide_eq_false_iff_not, Bool.and_eq_true, Bool.or_eq_true, Bool.not_eq_true', Bool.not_eq_false', Bool.and_eq_false_iff, Bool.or_eq_false_iff, Bool.not_not, ite_tt, ite_ff, iff_tt, iff_ff, a_av, a_ite, a_upd] at hc0
    simp only [e0_mu, Env.app, setAll, List.map_cons, List.map_nil, List.set, List.getD_cons_zero, List.getD_cons_succ, e0_0, e0_1, e0_2, e0_3, e0_4, e0_7, e0_8, e0_9, e0_10, e0_11, e0_12, e0_13, e0_14, e0_15, e0_16, e0_17, e0_18, e0_19, e0_20, e0_21, e0_22, e0_23, e0_24, e0_25, e0_26, e0_27, e0_28, e0_29, e0_30, e0_31, e0_32, e0_33, e0_34, e0_35, e0_36, e0_37, e0_38, e0_39, e0_40, e0_41, e0_42, e0_43, e0_44, e0_45, e0_46, e0_47, e0_48, e0_49, e0_50, e0_51, e0_52, e0_53, e0_54, e0_55, e0_56, e0_58, e0_59, e0_60, e0_61, e0_62, e0_63, e0_64, e0_65, e0_66, e0_67, e0_68, e0_69, e0_70, e0_71, e0_72, e0_73, e0_74, e0_75, e0_76, e0_77, e0_78, e0_79, e0_80, e0_81, e0_82, e0_83, e0_84, e0_85, e0_86, e0_87, e0_88, e0_89, e0_90, e0_91, e0_92, e0_93, e0_94, e0_95, e0_96, e0_97, e0_98, e0_99, e0_100, e0_101, e0_102, e0_103, e0_104, e0_105, e0_106, e0_107, e0_108, e0_109, e0_110, e0_111, e0_112, e0_113, e0_114, e0_115, e0_116, e0_117, e0_118, e0_119, e0_120, e0_121, e0_122, e0_123, e0_124, i_v, b_bv, i_lit, b_blit, i_add, i_sub, i_mul, i_div, i_mod, i_tdiv, i_tmod, i_ite, b_ite, b_lt, b_le, b_eq, b_not, b_and, b_or, b_iff, i_sel, a_tab, i_pow2, List.getD_cons_zero, List.getD_cons_succ, decide_eq_true_eq, decide_eq_false_iff_not, Bool.and_eq_true, Bool.or_eq_true, Bool.not_eq_true', Bool.not_eq_false', Bool.and_eq_false_iff, Bool.or_eq_false_iff, Bool.not_not, ite_tt, ite_ff, iff_tt, iff_ff, a_av, a_ite, a_upd]
    omega
theorem e0_vc1 (x0 : Ext) (nx0 a1 a2 a3 a4 y5 y6 : Int) (Ax0 Z1 Z2 : Nat → Int) (hB : e0_Base x0 nx0 a1 a2 a3 a4 Ax0) (hJ : e0_J1 nx0 a1 a2 a3 a4 y5 y6 Ax0 Z1 Z2) :
    LT.holds (⟨[nx0, a1, a2, a3, a4, y5, y6], [], [Ax0, Z1, Z2], [], Iv (fun i j => match i, j with | 0, 0 => x0 | _, _ => Ext.none)⟩ : Env) (fun v _ => retTrue (⟨[nx0, a1, a2, a3, a4, y5, y6], [], [Ax0, Z1, Z2], [], Iv (fun i j => match i, j with | 0, 0 => x0 | _, _ => Ext.none)⟩ : Env) v) (fun j' todo ρ' => (e0_hs[j']?.map (·.todo)) = some todo ∧ e0_Inv x0 j' ρ' ∧ e0_mu j' ρ' < e0_mu 1 (⟨[nx0, a1, a2, a3, a4, y5, y6], [], [Ax0, Z1, Z2], [], Iv (fun i j => match i, j with | 0, 0 => x0 | _, _ => Ext.none)⟩ : Env)) (.ite e0_63 (.jump 1 e0_T1 ⟨[(6, e0_64)], [], [(2, e0_67)]⟩) (.ret (.s (.bool e0_124)) [⟨45, [.run .u16 (.lit 32768) (.av 2) 0, .run .u8 (.lit 544) e0_5 0, .run .u16 (.lit 256) e0_6 0], true, none, false⟩, ⟨32, [.run .u8 (.lit 64) e0_9 0, .run .u16 (.lit 4) (.tab []) 0, .run .u16 (.lit 4) (.tab []) 0, .run .i16 (.lit 6) (.tab []) 0, .one (.int .i16 (.lit 0)), .one (.int .i16 (.lit 0)), .one (.int .u16 (.lit 0))], true, none, false⟩, ⟨38, [.one (.bool e0_46), .one (.int .u8 e0_49), .one (.int .u8 e0_54), .one (.int .u16 e0_56)], true, none, false⟩, ⟨38, [.one (.bool e0_122), .one (.int .u8 e0_115), .one (.int .u8 e0_111), .one (.int .u16 e0_119)], true, none, false⟩])) := by
  simp only [LT.holds, retTrue]
  refine ⟨fun hc0 => ?_, fun hc0 => ?_⟩
  ·
    refine ⟨e0_hT1, ⟨_, _, _, _, _, _, _, _, _, _, rfl, hB, ?_⟩, ?_⟩
    ·
      simp only [e0_Base] at hB
      obtain ⟨b0, b1, b2, b3, b4, bA, _⟩ := hB
      simp only [e0_J1] at hJ
      obtain ⟨l5, l6, mZ1, mZ2, i0, i1, i2, _⟩ := hJ
      simp only [e0_0, e0_1, e0_2, e0_3, e0_4, e0_7, e0_8, e0_9, e0_10, e0_11, e0_12, e0_13, e0_14, e0_15, e0_16, e0_17, e0_18, e0_19, e0_20, e0_21, e0_22, e0_23, e0_24, e0_25, e0_26, e0_27, e0_28, e0_29, e0_30, e0_31, e0_32, e0_33, e0_34, e0_35, e0_36, e0_37, e0_38, e0_39, e0_40, e0_41, e0_42, e0_43, e0_44, e0_45, e0_46, e0_47, e0_48, e0_49, e0_50, e0_51, e0_52, e0_53, e0_54, e0_55, e0_56, e0_58, e0_59, e0_60, e0_61, e0_62, e0_63, e0_64, e0_65, e0_66, e0_67, e0_68, e0_69, e0_70, e0_71, e0_72, e0_73, e0_74, e0_75, e0_76, e0_77, e0_78, e0_79, e0_80, e0_81, e0_82, e0_83, e0_84, e0_85, e0_86, e0_87, e0_88, e0_89, e0_90, e0_91, e0_92, e0_93, e0_94, e0_95, e0_96, e0_97, e0_98, e0_99, e0_100, e0_101, e0_102, e0_103, e0_104, e0_105, e0_106, e0_107, e0_108, e0_109, e0_110, e0_111, e0_112, e0_113, e0_114, e0_115, e0_116, e0_117, e0_118, e0_119, e0_120, e0_121, e0_122, e0_123, e0_124, i_v, b_bv, i_lit, b_blit, i_add, i_sub, i_mul, i_div, i_mod, i_tdiv, i_tmod, i_ite, b_ite, b_lt, b_le, b_eq, b_not, b_and, b_or, b_iff, i_sel, a_tab, i_pow2, List.getD_cons_zero, List.getD_cons_succ, decide_eq_true_eq, decide_eq_false_iff_not, Bool.and_eq_true, Bool.or_eq_true, Bool.not_eq_true', Bool.not_eq_false', Bool.and_eq_false_iff, Bool.or_eq_false_iff, Bool.not_not, ite_tt, ite_ff, iff_tt, iff_ff, a_av, a_ite, a_upd] at hc0
      simp only [e0_J1, e0_0, e0_1, e0_2, e0_3, e0_4, e0_7, e0_8, e0_9, e0_10, e0_11, e0_12, e0_13, e0_14, e0_15, e0_16, e0_17, e0_18, e0_19, e0_20, e0_21, e0_22, e0_23, e0_24, e0_25, e0_26, e0_27, e0_28, e0_29, e0_30, e0_31, e0_32, e0_33, e0_34, e0_35, e0_36, e0_37, e0_38, e0_39, e0_40, e0_41, e0_42, e0_43, e0_44, e0_45, e0_46, e0_47, e0_48, e0_49, e0_50, e0_51, e0_52, e0_53, e0_54, e0_55, e0_56, e0_58, e0_59, e0_60, e0_61, e0_62, e0_63, e0_64, e0_65, e0_66, e0_67, e0_68, e0_69, e0_70, e0_71, e0_72, e0_73, e0_74, e0_75, e0_76, e0_77, e0_78, e0_79, e0_80, e0_81, e0_82, e0_83, e0_84, e0_85, e0_86, e0_87, e0_88, e0_89, e0_90, e0_91, e0_92, e0_93, e0_94, e0_95, e0_96, e0_97, e0_98, e0_99, e0_100, e0_101, e0_102, e0_103, e0_104, e0_105, e0_106, e0_107, e0_108, e0_109, e0_110, e0_111, e0_112, e0_113, e0_114, e0_115, e0_116, e0_117, e0_118, e0_119, e0_120, e0_121, e0_122, e0_123, e0_124, i_v, b_bv, i_lit, b_blit, i_add, i_sub, i_mul, i_div, i_mod, i_tdiv, i_tmod, i_ite, b_ite, b_lt, b_le, b_eq, b_not, b_and, b_or, b_iff, i_sel, a_tab, i_pow2, List.getD_cons_zero, List.getD_cons_succ, decide_eq_true_eq, decide_eq_false_iff_not, Bool.and_eq_true, Bool.or_eq_true, Bool.not_eq_true', Bool.not_eq_false', Bool.and_eq_false_iff, Bool.or_eq_false_iff, Bool.not_not, ite_tt, ite_ff, iff_tt, iff_ff, a_av, a_ite, a_upd]
      exact ⟨l5, by omega, mZ1, fun j => by have := mZ2 j; split <;> omega, i0, fun j h1 h2 => by split; rfl; exact i1 j h1 (by omega), fun j h1 => by rw [if_neg (by omega)]; exact i2 j h1, trivial⟩
    simp only [e0_Base] at hB
    obtain ⟨b0, b1, b2, b3, b4, bA, _⟩ := hB
    simp only [e0_J1] at hJ
    obtain ⟨l5, l6, mZ1, mZ2, i0, i1, i2, _⟩ := hJ
    simp only [e0_0, e0_1, e0_2, e0_3, e0_4, e0_7, e0_8, e0_9, e0_10, e0_11, e0_12, e0_13, e0_14, e0_15, e0_16, e0_17, e0_18, e0_19, e0_20, e0_21, e0_22, e0_23, e0_24, e0_25, e0_26, e0_27, e0_28, e0_29, e0_30, e0_31, e0_32, e0_33, e0_34, e0_35, e0_36, e0_37, e0_38, e0_39, e0_40, e0_41, e0_42, e0_43, e0_44, e0_45, e0_46, e0_47, e0_48, e0_49, e0_50, e0_51, e0_52, e0_53, e0_54, e0_55, e0_56, e0_58, e0_59, e0_60, e0_61, e0_62, e0_63, e0_64, e0_65, e0_66, e0_67, e0_68, e0_69, e0_70, e0_71, e0_72, e0_73, e0_74, e0_75, e0_76, e0_77, e0_78, e0_79, e0_80, e0_81, e0_82, e0_83, e0_84, e0_85, e0_86, e0_87, e0_88, e0_89, e0_90, e0_91, e0_92, e0_93, e0_94, e0_95, e0_96, e0_97, e0_98, e0_99, e0_100, e0_101, e0_102, e0_103, e0_104, e0_105, e0_106, e0_107, e0_108, e0_109, e0_110, e0_111, e0_112, e0_113, e0_114, e0_115, e0_116, e0_117, e0_118, e0_119, e0_120, e0_121, e0_122, e0_123, e0_124, i_v, b_bv, i_lit, b_blit, i_add, i_sub, i_mul, i_div, i_mod, i_tdiv, i_tmod, i_ite, b_ite, b_lt, b_le, b_eq, b_not, b_and, b_or, b_iff, i_sel, a_tab, i_pow2, List.getD_cons_zero, List.getD_cons_succ, decide_eq_true_eq, decide_eq_false_iff_not, Bool.and_eq_true, Bool.or_eq_true, Bool.not_eq_true', Bool.not_eq_false', Bool.and_eq_false_iff, Bool.or_eq_false_iff, Bool.not_not, ite_tt, ite_ff, iff_tt, iff_ff, a_av, a_ite, a_upd] at hc0
    simp only [e0_mu, Env.app, setAll, List.map_cons, List.map_nil, List.set, List.getD_cons_zero, List.getD_cons_succ, e0_0, e0_1, e0_2, e0_3, e0_4, e0_7, e0_8, e0_9, e0_10, e0_11, e0_12, e0_13, e0_14, e0_15, e0_16, e0_17, e0_18, e0_19, e0_20, e0_21, e0_22, e0_23, e0_24, e0_25, e0_26, e0_27, e0_28, e0_29, e0_30, e0_31, e0_32, e0_33, e0_34, e0_35, e0_36, e0_37, e0_38, e0_39, e0_40, e0_41, e0_42, e0_43, e0_44, e0_45, e0_46, e0_47, e0_48, e0_49, e0_50, e0_51, e0_52, e0_53, e0_54, e0_55, e0_56, e0_58, e0_59, e0_60, e0_61, e0_62, e0_63, e0_64, e0_65, e0_66, e0_67, e0_68, e0_69, e0_70, e0_71, e0_72, e0_73, e0_74, e0_75, e0_76, e0_77, e0_78, e0_79, e0_80, e0_81, e0_82, e0_83, e0_84, e0_85, e0_86, e0_87, e0_88, e0_89, e0_90, e0_91, e0_92, e0_93, e0_94, e0_95, e0_96, e0_97, e0_98, e0_99, e0_100, e0_101, e0_102, e0_103, e0_104, e0_105, e0_106, e0_107, e0_108, e0_109, e0_110, e0_111, e0_112, e0_113, e0_114, e0_115, e0_116, e0_117, e0_118, e0_119, e0_120, e0_121, e0_122, e0_123, e0_124, i_v, b_bv, i_lit, b_blit, i_add, i_sub, i_mul, i_div, i_mod, i_tdiv, i_tmod, i_ite, b_ite, b_lt, b_le, b_eq, b_not, b_and, b_or, b_iff, i_sel, a_tab, i_pow2, List.getD_cons_zero, List.getD_cons_succ, decide_eq_true_eq, decide_eq_false_iff_not, Bool.and_eq_true, Bool.or_eq_true, Bool.not_eq_true', Bool.not_eq_false', Bool.and_eq_false_iff, Bool.or_eq_false_iff, Bool.not_not, ite_tt, ite_ff, iff_tt, iff_ff, a_av, a_ite, a_upd]
    omega
  ·
    simp only [e0_Base] at hB
    obtain ⟨b0, b1, b2, b3, b4, bA, _⟩ := hB
    simp only [e0_J1] at hJ
    obtain ⟨l5, l6, mZ1, mZ2, i0, i1, i2, _⟩ := hJ
    simp only [e0_63, i_v, i_lit, b_le, List.getD_cons_zero, List.getD_cons_succ, decide_eq_true_eq, decide_eq_false_iff_not] at hc0
    have e6 : y6 = 4096 := by omega
    have hw : 0 ≤ ((a1 - a1 / 512 % 2 * 512) % 16384) ∧ ((a1 - a1 / 512 % 2 * 512) % 16384) ≤ 16383 ∧ ((a1 - a1 / 512 % 2 * 512) % 16384) % 1024 ≤ 511 := by omega
    have h16 : E.i (⟨[nx0, a1, a2, a3, a4, y5, y6], [], [Ax0, Z1, Z2], [], Iv (fun i j => match i, j with | 0, 0 => x0 | _, _ => Ext.none)⟩ : Env) e0_16 = ((a1 - a1 / 512 % 2 * 512) % 16384) := by
      simp only [e0_16, e0_15, e0_14, e0_13, e0_12, e0_11, e0_10, i_sel, a_av, i_v, i_lit, i_add, i_sub, i_mul, i_div, i_mod, i_ite, i_pow2, b_eq, b_le, b_not, List.getD_cons_zero, List.getD_cons_succ, decide_eq_true_eq]
      exact i0 _ (by omega) (by omega)
    have h75 : E.i (⟨[nx0, a1, a2, a3, a4, y5, y6], [], [Ax0, Z1, Z2], [], Iv (fun i j => match i, j with | 0, 0 => x0 | _, _ => Ext.none)⟩ : Env) e0_75 = ((a1 - a1 / 512 % 2 * 512) % 16384) + 49152 := by
      simp only [e0_75, e0_74, e0_73, e0_72, e0_71, e0_70, e0_69, e0_68, i_sel, a_av, i_v, i_lit, i_add, i_sub, i_mul, i_div, i_mod, i_ite, i_pow2, b_eq, b_le, b_not, List.getD_cons_zero, List.getD_cons_succ, decide_eq_true_eq]
      exact i1 _ (by omega) (by omega)
    generalize hW : ((a1 - a1 / 512 % 2 * 512) % 16384) = W at hw h16 h75
    have c1 : W / 16384 % 2 = 0 := by omega
    have c2 : W ≤ 32767 := by omega
    have c3 : ¬ ((W + 49152) / 16384 % 2 = 0) := by omega
    have c4 : ¬ (W + 49152 ≤ 32767) := by omega
    have d2 : (15 - a2) % 8 = 7 - a2 := by omega
    have d3 : (15 - a3) % 8 = 7 - a3 := by omega
    have d4 : 7 - (7 - a2) = a2 := by omega
    have d5 : 7 - (7 - a3) = a3 := by omega
    have d6 : a2 / 8 = 0 := by omega
    have d7 : a3 / 8 = 0 := by omega
    have d8 : (W + 49152) % 1024 = W % 1024 := by omega
    have d9 : (W + 49152) / 1024 % 8 = W / 1024 % 8 := by omega
    have d10 : (W + 49152) / 8192 % 2 = W / 8192 % 2 := by omega
    have z0 : (0 : Int) * 16 = 0 := rfl
    have g1 : E.i (⟨[nx0, a1, a2, a3, a4, y5, y6], [], [Ax0, Z1, Z2], [], Iv (fun i j => match i, j with | 0, 0 => x0 | _, _ => Ext.none)⟩ : Env) e0_95 = E.i (⟨[nx0, a1, a2, a3, a4, y5, y6], [], [Ax0, Z1, Z2], [], Iv (fun i j => match i, j with | 0, 0 => x0 | _, _ => Ext.none)⟩ : Env) e0_34 := by
      rw [show (e0_95 : E) = .sel (.av 2) e0_94 from rfl, show (e0_34 : E) = .sel (.av 1) e0_33 from rfl, i_sel, i_sel, a_av, a_av]
      have q1 : E.i (⟨[nx0, a1, a2, a3, a4, y5, y6], [], [Ax0, Z1, Z2], [], Iv (fun i j => match i, j with | 0, 0 => x0 | _, _ => Ext.none)⟩ : Env) e0_94 = E.i (⟨[nx0, a1, a2, a3, a4, y5, y6], [], [Ax0, Z1, Z2], [], Iv (fun i j => match i, j with | 0, 0 => x0 | _, _ => Ext.none)⟩ : Env) e0_33 := by
        simp only [e0_17, e0_18, e0_19, e0_20, e0_21, e0_22, e0_23, e0_24, e0_25, e0_26, e0_27, e0_28, e0_29, e0_30, e0_31, e0_32, e0_33, e0_68, e0_71, e0_76, e0_77, e0_78, e0_79, e0_80, e0_81, e0_82, e0_83, e0_84, e0_85, e0_86, e0_87, e0_88, e0_89, e0_90, e0_91, e0_92, e0_93, e0_94, i_v, i_lit, i_add, i_sub, i_mul, i_div, i_mod, i_ite, i_pow2, b_eq, b_le, b_not, List.getD_cons_zero, List.getD_cons_succ, decide_eq_true_eq]
        simp only [h16, h75, decide_eq_true_eq, decide_true, decide_false, Bool.false_eq_true, c1, c2, c3, c4, d2, d3, d4, d5, d6, d7, z0, Int.add_zero, d8, d9, d10, if_true, if_false, ite_true, ite_false, not_true, not_false_eq_true]
      have q2 : E.i (⟨[nx0, a1, a2, a3, a4, y5, y6], [], [Ax0, Z1, Z2], [], Iv (fun i j => match i, j with | 0, 0 => x0 | _, _ => Ext.none)⟩ : Env) e0_33 < 16384 := by
        simp only [e0_33, e0_32, e0_26, e0_25, e0_24, e0_31, e0_30, e0_29, e0_28, e0_27, e0_23, e0_22, e0_21, e0_20, e0_19, e0_18, e0_17, i_v, i_lit, i_add, i_sub, i_mul, i_div, i_mod, i_ite, i_pow2, b_eq, b_le, b_not, List.getD_cons_zero, List.getD_cons_succ, decide_eq_true_eq]
        simp only [h16, h75, decide_eq_true_eq, decide_true, decide_false, Bool.false_eq_true, c1, c2, c3, c4, d2, d3, d4, d5, d6, d7, z0, Int.add_zero, d8, d9, d10, if_true, if_false, ite_true, ite_false, not_true, not_false_eq_true]
        omega
      rw [q1]
      exact i2 _ (by omega)
    simp only [e0_124, e0_123, e0_122, e0_106, e0_105, e0_104, e0_103, e0_102, e0_101, e0_100, e0_81, e0_80, e0_79, e0_71, e0_78, e0_77, e0_76, e0_99, e0_98, e0_97, e0_96, e0_46, e0_45, e0_44, e0_43, e0_42, e0_41, e0_40, e0_39, e0_21, e0_20, e0_19, e0_18, e0_17, e0_38, e0_37, e0_36, e0_35, e0_121, e0_120, e0_119, e0_118, e0_110, e0_109, e0_108, e0_107, e0_56, e0_55, e0_53, e0_52, e0_51, e0_50, e0_117, e0_116, e0_115, e0_114, e0_113, e0_49, e0_48, e0_47, e0_112, e0_111, e0_54, i_sel, b_and, b_iff, i_v, i_lit, i_add, i_sub, i_mul, i_div, i_mod, i_ite, i_pow2, b_eq, b_le, b_not, List.getD_cons_zero, List.getD_cons_succ, b_eq]
    simp only [g1, h16, h75, decide_eq_true_eq, decide_true, decide_false, Bool.false_eq_true, c1, c2, c3, c4, d2, d3, d4, d5, d6, d7, z0, Int.add_zero, d8, d9, d10, if_true, if_false, ite_true, ite_false, not_true, not_false_eq_true]
    simp
theorem e0_vcS (x0 : Ext) (nx0 a1 a2 a3 a4 : Int) (Ax0 : Nat → Int) (hB : e0_Base x0 nx0 a1 a2 a3 a4 Ax0) :
    LT.holds (⟨[nx0, a1, a2, a3, a4, 0, 0], [], [Ax0, fun _ => 0, fun _ => 0], [], Iv (fun i j => match i, j with | 0, 0 => x0 | _, _ => Ext.none)⟩ : Env) (fun v _ => retTrue (⟨[nx0, a1, a2, a3, a4, 0, 0], [], [Ax0, fun _ => 0, fun _ => 0], [], Iv (fun i j => match i, j with | 0, 0 => x0 | _, _ => Ext.none)⟩ : Env) v) (fun j' todo ρ' => (e0_hs[j']?.map (·.todo)) = some todo ∧ e0_Inv x0 j' ρ') (.jump 0 e0_T0 ⟨[(5, (.lit 0))], [], [(1, e0_57)]⟩) := by
  simp only [LT.holds, retTrue]
  refine ⟨e0_hT0, _, _, _, _, _, _, _, _, _, _, rfl, hB, ?_⟩
  ·
    simp only [e0_Base] at hB
    obtain ⟨b0, b1, b2, b3, b4, bA, _⟩ := hB
    simp only [e0_J0, e0_0, e0_1, e0_2, e0_3, e0_4, e0_7, e0_8, e0_9, e0_10, e0_11, e0_12, e0_13, e0_14, e0_15, e0_16, e0_17, e0_18, e0_19, e0_20, e0_21, e0_22, e0_23, e0_24, e0_25, e0_26, e0_27, e0_28, e0_29, e0_30, e0_31, e0_32, e0_33, e0_34, e0_35, e0_36, e0_37, e0_38, e0_39, e0_40, e0_41, e0_42, e0_43, e0_44, e0_45, e0_46, e0_47, e0_48, e0_49, e0_50, e0_51, e0_52, e0_53, e0_54, e0_55, e0_56, e0_58, e0_59, e0_60, e0_61, e0_62, e0_63, e0_64, e0_65, e0_66, e0_67, e0_68, e0_69, e0_70, e0_71, e0_72, e0_73, e0_74, e0_75, e0_76, e0_77, e0_78, e0_79, e0_80, e0_81, e0_82, e0_83, e0_84, e0_85, e0_86, e0_87, e0_88, e0_89, e0_90, e0_91, e0_92, e0_93, e0_94, e0_95, e0_96, e0_97, e0_98, e0_99, e0_100, e0_101, e0_102, e0_103, e0_104, e0_105, e0_106, e0_107, e0_108, e0_109, e0_110, e0_111, e0_112, e0_113, e0_114, e0_115, e0_116, e0_117, e0_118, e0_119, e0_120, e0_121, e0_122, e0_123, e0_124, i_v, b_bv, i_lit, b_blit, i_add, i_sub, i_mul, i_div, i_mod, i_tdiv, i_tmod, i_ite, b_ite, b_lt, b_le, b_eq, b_not, b_and, b_or, b_iff, i_sel, a_tab, i_pow2, List.getD_cons_zero, List.getD_cons_succ, decide_eq_true_eq, decide_eq_false_iff_not, Bool.and_eq_true, Bool.or_eq_true, Bool.not_eq_true', Bool.not_eq_false', Bool.and_eq_false_iff, Bool.or_eq_false_iff, Bool.not_not, ite_tt, ite_ff, iff_tt, iff_ff, a_av, a_ite, a_upd]
    exact ⟨by omega, by omega, fun j => vidF_rng _ _ _ (by decide) j, fun j => by simp, fun j h1 h2 => by omega, trivial⟩
theorem e0_calls (x0 : Ext) (a1 : Int) (w1 : (Lit.int .u16 a1).wf = true) (a2 : Int) (w2 : 0 ≤ a2 ∧ a2 ≤ 7) (a3 : Int) (w3 : 0 ≤ a3 ∧ a3 ≤ 7) (a4 : Int) (w4 : (Lit.int .u8 a4).wf = true) (hex0 : (a4) % 2 = 0) (w : World) (g0 : XFit x0 w [some .u16]) :
    Calls Try.prog 7 #[x0.v, .int .u16 a1, .int .i64 a2, .int .i64 a3, .int .u8 a4] w fun r w' => r = .returned (.bool true) ∧ Below w.heap.size w w' := by
  have hx0 : SV.conc (⟨[(x0.n : Int), a1, a2, a3, a4, 0, 0], [], [xArr x0 1 0, fun _ => 0, fun _ => 0], [], Iv (fun i j => match i, j with | 0, 0 => x0 | _, _ => Ext.none)⟩ : Env) Loc.id (.s (.xslc 0 (.lit 0) (.lit 0) (.v 0))) = x0.v := conc_ext g0 rfl rfl
  have hargs : (e0_Ls.map (SV.conc (⟨[(x0.n : Int), a1, a2, a3, a4, 0, 0], [], [xArr x0 1 0, fun _ => 0, fun _ => 0], [], Iv (fun i j => match i, j with | 0, 0 => x0 | _, _ => Ext.none)⟩ : Env) Loc.id)).toArray = #[x0.v, .int .u16 a1, .int .i64 a2, .int .i64 a3, .int .u8 a4] := by
    refine congrArg List.toArray ?_
    exact (cons_eq hx0 (cons_eq rfl (cons_eq rfl (cons_eq rfl (cons_eq rfl rfl)))))
  rw [← hargs]
  have hok : Hyp.ok e0_Hy (⟨[(x0.n : Int), a1, a2, a3, a4, 0, 0], [], [xArr x0 1 0, fun _ => 0, fun _ => 0], [], Iv (fun i j => match i, j with | 0, 0 => x0 | _, _ => Ext.none)⟩ : Env) := by
    refine ⟨?_, ?_, ?_, by simp [e0_Hy], ?_, by simp [e0_Hy]⟩
    · intro p hp
      simp only [e0_Hy, List.mem_cons, List.not_mem_nil, or_false] at hp
      rcases hp with rfl
      · exact xi_ok g0 rfl rfl rfl
    · intro p hp
      simp only [e0_Hy, List.mem_cons, List.not_mem_nil, or_false] at hp
      rcases hp with rfl | rfl | rfl | rfl | rfl | rfl
      · exact xlen_rng g0
      · exact bounds_u16 w1
      · exact w2
      · exact w3
      · exact bounds_u8 w4
      · exact (by have hx := hex0; first | exact ⟨Int.le_of_eq hx.symm, Int.le_of_eq hx⟩ | exact hx)
    · intro p hp
      simp only [e0_Hy, List.mem_cons, List.not_mem_nil, or_false] at hp
      rcases hp with rfl
      · exact xArr_rng g0
    · intro p hp is bs xs j
      simp only [e0_Hy, List.mem_cons, List.not_mem_nil, or_false] at hp
      rcases hp with rfl | rfl | rfl <;> exact vidF_rng _ _ _ (by decide) j
  refine law_loops (D := e0_D) (hs := e0_hs) (ρ := (⟨[(x0.n : Int), a1, a2, a3, a4, 0, 0], [], [xArr x0 1 0, fun _ => 0, fun _ => 0], [], Iv (fun i j => match i, j with | 0, 0 => x0 | _, _ => Ext.none)⟩ : Env)) (G_ok _) (by kernel_rfl) rfl (e0_Inv x0 ) e0_mu e0_st rfl ⟨rfl, rfl, rfl⟩ hok (e0_vcS x0 ((x0.n : Int)) (a1) (a2) (a3) (a4) (xArr x0 1 0) ⟨xlen_rng g0, bounds_u16 w1, w2, w3, bounds_u8 w4, xArr_rng g0, rfl, rfl, hex0, trivial⟩) ?_ w (fun i j => by rcases i with _ | i <;> rcases j with _ | j <;> first | exact Ext.none_ok _ | exact g0.ok)
  intro j h ρ hj hI hz hInv
  rcases j with _ | _ | j
  · simp only [e0_hs, List.getElem?_cons_zero, List.getElem?_cons_succ, Option.some.injEq] at hj; subst hj
    obtain ⟨nx0, a1, a2, a3, a4, y5, y6, Ax0, Z1, Z2, rfl, hB, hJ⟩ := hInv
    refine ⟨?_, _, e0_sg0, e0_vc0 x0 nx0 a1 a2 a3 a4 y5 y6 Ax0 Z1 Z2 hB hJ⟩
    have hB2 := hB; have hJ2 := hJ
    simp only [e0_Base] at hB2; simp only [e0_J0] at hJ2
    obtain ⟨hb0, hb1, hb2, hb3, hb4, hb5, hn0, ha0, hex0, _⟩ := hB2
    obtain ⟨hl0, hl1, hl2, hl3, hx, _⟩ := hJ2
    refine ⟨?_, ?_, ?_, by simp [e0_h0], ?_, by simp [e0_h0]⟩
    · intro p hp
      simp only [e0_h0, List.mem_cons, List.not_mem_nil, or_false] at hp
      rcases hp with rfl
      · exact xi_ok g0 rfl hn0 ha0
    · intro p hp
      simp only [e0_h0, List.mem_cons, List.not_mem_nil, or_false] at hp
      rcases hp with rfl | rfl | rfl | rfl | rfl | rfl | rfl | rfl
      · exact hb0
      · exact hb1
      · exact hb2
      · exact hb3
      · exact hb4
      · exact (by have hx := hex0; first | exact ⟨Int.le_of_eq hx.symm, Int.le_of_eq hx⟩ | exact hx)
      · exact hl0
      · exact hl1
    · intro p hp
      simp only [e0_h0, List.mem_cons, List.not_mem_nil, or_false] at hp
      rcases hp with rfl | rfl | rfl
      · exact hb5
      · exact hl2
      · exact hl3
    · intro p hp is bs xs j
      simp only [e0_h0, List.mem_cons, List.not_mem_nil, or_false] at hp
      rcases hp with rfl | rfl | rfl <;> exact vidF_rng _ _ _ (by decide) j
  · simp only [e0_hs, List.getElem?_cons_zero, List.getElem?_cons_succ, Option.some.injEq] at hj; subst hj
    obtain ⟨nx0, a1, a2, a3, a4, y5, y6, Ax0, Z1, Z2, rfl, hB, hJ⟩ := hInv
    refine ⟨?_, _, e0_sg1, e0_vc1 x0 nx0 a1 a2 a3 a4 y5 y6 Ax0 Z1 Z2 hB hJ⟩
    have hB2 := hB; have hJ2 := hJ
    simp only [e0_Base] at hB2; simp only [e0_J1] at hJ2
    obtain ⟨hb0, hb1, hb2, hb3, hb4, hb5, hn0, ha0, hex0, _⟩ := hB2
    obtain ⟨hl0, hl1, hl2, hl3, hx, _⟩ := hJ2
    refine ⟨?_, ?_, ?_, by simp [e0_h1], ?_, by simp [e0_h1]⟩
    · intro p hp
      simp only [e0_h1, List.mem_cons, List.not_mem_nil, or_false] at hp
      rcases hp with rfl
      · exact xi_ok g0 rfl hn0 ha0
    · intro p hp
      simp only [e0_h1, List.mem_cons, List.not_mem_nil, or_false] at hp
      rcases hp with rfl | rfl | rfl | rfl | rfl | rfl | rfl | rfl
      · exact hb0
      · exact hb1
      · exact hb2
      · exact hb3
      · exact hb4
      · exact (by have hx := hex0; first | exact ⟨Int.le_of_eq hx.symm, Int.le_of_eq hx⟩ | exact hx)
      · exact hl0
      · exact hl1
    · intro p hp
      simp only [e0_h1, List.mem_cons, List.not_mem_nil, or_false] at hp
      rcases hp with rfl | rfl | rfl
      · exact hb5
      · exact hl2
      · exact hl3
    · intro p hp is bs xs j
      simp only [e0_h1, List.mem_cons, List.not_mem_nil, or_false] at hp
      rcases hp with rfl | rfl | rfl <;> exact vidF_rng _ _ _ (by decide) j
  · simp [e0_hs] at hj
end Go.Proofs.Ytcamkhjahdebeaa.CellTurned
