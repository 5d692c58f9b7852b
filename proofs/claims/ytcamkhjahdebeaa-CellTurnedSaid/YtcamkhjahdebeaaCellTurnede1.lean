/- A part of the law CellTurned, which returns true for every input. A map all of whose words are turned has its tiles' dots the other way about (tiles whose bits don't lie in the map). No condition. -/
import Derived.Test.YtcamkhjahdebeaaCellTurned0
namespace Go.Proofs.Ytcamkhjahdebeaa.CellTurned
open Go.Sx Go.ChangeShapes Go.WideShapes Go.ChangeAt Go.RowKit
set_option linter.unusedVariables false
set_option linter.unusedSimpArgs false
set_option maxRecDepth 100000
def e1_Hy : Hyp := ⟨[(.v 0, (0, 9223372036854775807)), (.v 1, (0, 65535)), (.v 2, (0, 7)), (.v 3, (0, 7)), (.v 4, (0, 255)), ((.mod (.v 4) (.lit 2)), (1, 1))], [(0, (0, 65535))], [], [(0, (0, 65535)), (1, (0, 255)), (2, (0, 32767))], [], [(0, ⟨.v 0, [(some .u16, .av 0)]⟩)]⟩
def e1_Ls : List SV := [.s (.xslc 0 (.lit 0) (.lit 0) (.v 0)), .s (.int .u16 (.v 1)), .s (.int .i64 (.v 2)), .s (.int .i64 (.v 3)), .s (.int .u8 (.v 4))]
def e1_0 : E := .mod (.v 4) (.lit 2)
def e1_1 : E := .div (.v 1) (.lit 512)
def e1_2 : E := .mod e1_1 (.lit 2)
def e1_3 : E := .mul e1_2 (.lit 512)
def e1_4 : E := .sub (.v 1) e1_3
def e1_5 : E := .app 1 (.cons (.lit 0) (.cons (.tab []) .nil))
def e1_6 : E := .app 2 (.cons (.v 0) (.cons (.av 0) .nil))
def e1_7 : E := .upd (.tab []) (.lit 5) (.lit 1)
def e1_8 : E := .upd e1_7 (.lit 7) (.lit 64)
def e1_9 : E := .upd e1_8 (.lit 11) (.lit 2)
def e1_10 : E := .div (.v 3) (.lit 8)
def e1_11 : E := .add e1_10 (.lit 1)
def e1_12 : E := .mul e1_11 (.lit 32)
def e1_13 : E := .div (.v 2) (.lit 8)
def e1_14 : E := .add e1_12 e1_13
def e1_15 : E := .add e1_14 (.lit 16385)
def e1_16 : E := .sel (.av 1) e1_15
def e1_17 : E := .div e1_16 (.lit 16384)
def e1_18 : E := .mod e1_17 (.lit 2)
def e1_19 : E := .eq e1_18 (.lit 0)
def e1_20 : E := .sub (.lit 7) (.v 2)
def e1_21 : E := .ite e1_19 (.v 2) e1_20
def e1_22 : E := .div e1_21 (.lit 8)
def e1_23 : E := .add e1_16 e1_22
def e1_24 : E := .le e1_16 (.lit 32767)
def e1_25 : E := .sub (.lit 7) (.v 3)
def e1_26 : E := .ite e1_24 (.v 3) e1_25
def e1_27 : E := .div e1_26 (.lit 8)
def e1_28 : E := .mul e1_27 (.lit 16)
def e1_29 : E := .add e1_23 e1_28
def e1_30 : E := .mod e1_29 (.lit 1024)
def e1_31 : E := .mul e1_30 (.lit 16)
def e1_32 : E := .add e1_31 e1_26
def e1_33 : E := .add e1_32 (.lit 8192)
def e1_34 : E := .sel (.av 1) e1_33
def e1_35 : E := .sub (.lit 7) e1_21
def e1_36 : E := .pow2 e1_35
def e1_37 : E := .div e1_34 e1_36
def e1_38 : E := .mod e1_37 (.lit 2)
def e1_39 : E := .sub (.lit 15) e1_21
def e1_40 : E := .pow2 e1_39
def e1_41 : E := .div e1_34 e1_40
def e1_42 : E := .mod e1_41 (.lit 2)
def e1_43 : E := .mul e1_42 (.lit 2)
def e1_44 : E := .add e1_38 e1_43
def e1_45 : E := .add e1_32 (.lit 8200)
def e1_46 : E := .sel (.av 1) e1_45
def e1_47 : E := .div e1_46 e1_36
def e1_48 : E := .mod e1_47 (.lit 2)
def e1_49 : E := .mul e1_48 (.lit 4)
def e1_50 : E := .add e1_44 e1_49
def e1_51 : E := .div e1_46 e1_40
def e1_52 : E := .mod e1_51 (.lit 2)
def e1_53 : E := .mul e1_52 (.lit 8)
def e1_54 : E := .add e1_50 e1_53
def e1_55 : E := .eq e1_54 (.lit 0)
def e1_56 : E := .not e1_55
def e1_57 : E := .div e1_16 (.lit 8192)
def e1_58 : E := .mod e1_57 (.lit 2)
def e1_59 : E := .ite e1_55 (.lit 0) e1_58
def e1_60 : E := .div e1_16 (.lit 1024)
def e1_61 : E := .mod e1_60 (.lit 8)
def e1_62 : E := .mul e1_61 (.lit 16)
def e1_63 : E := .add e1_54 e1_62
def e1_64 : E := .ite e1_55 (.lit 0) e1_63
def e1_65 : E := .sel e1_6 e1_63
def e1_66 : E := .ite e1_55 (.lit 0) e1_65
def e1_67 : E := .app 0 (.cons (.v 0) (.cons (.av 0) .nil))
def e1_68 : E := .le (.v 5) (.lit 4095)
def e1_69 : E := .add (.v 5) (.lit 1)
def e1_70 : E := .add (.v 5) (.lit 16384)
def e1_71 : E := .mod e1_4 (.lit 16384)
def e1_72 : E := .upd (.av 1) e1_70 e1_71
def e1_73 : E := .le (.v 6) (.lit 4095)
def e1_74 : E := .add (.v 6) (.lit 1)
def e1_75 : E := .add (.v 6) (.lit 16384)
def e1_76 : E := .add e1_71 (.lit 49152)
def e1_77 : E := .upd (.av 2) e1_75 e1_76
def e1_78 : E := .sub (.lit 15) (.v 3)
def e1_79 : E := .div e1_78 (.lit 8)
def e1_80 : E := .mul e1_79 (.lit 32)
def e1_81 : E := .sub (.lit 15) (.v 2)
def e1_82 : E := .div e1_81 (.lit 8)
def e1_83 : E := .add e1_80 e1_82
def e1_84 : E := .add e1_83 (.lit 16384)
def e1_85 : E := .sel (.av 2) e1_84
def e1_86 : E := .div e1_85 (.lit 16384)
def e1_87 : E := .mod e1_86 (.lit 2)
def e1_88 : E := .eq e1_87 (.lit 0)
def e1_89 : E := .mod e1_81 (.lit 8)
def e1_90 : E := .sub (.lit 7) e1_89
def e1_91 : E := .ite e1_88 e1_89 e1_90
def e1_92 : E := .div e1_91 (.lit 8)
def e1_93 : E := .add e1_85 e1_92
def e1_94 : E := .le e1_85 (.lit 32767)
def e1_95 : E := .mod e1_78 (.lit 8)
def e1_96 : E := .sub (.lit 7) e1_95
def e1_97 : E := .ite e1_94 e1_95 e1_96
def e1_98 : E := .div e1_97 (.lit 8)
def e1_99 : E := .mul e1_98 (.lit 16)
def e1_100 : E := .add e1_93 e1_99
def e1_101 : E := .mod e1_100 (.lit 1024)
def e1_102 : E := .mul e1_101 (.lit 16)
def e1_103 : E := .add e1_102 e1_97
def e1_104 : E := .add e1_103 (.lit 8192)
def e1_105 : E := .sel (.av 2) e1_104
def e1_106 : E := .sub (.lit 7) e1_91
def e1_107 : E := .pow2 e1_106
def e1_108 : E := .div e1_105 e1_107
def e1_109 : E := .mod e1_108 (.lit 2)
def e1_110 : E := .sub (.lit 15) e1_91
def e1_111 : E := .pow2 e1_110
def e1_112 : E := .div e1_105 e1_111
def e1_113 : E := .mod e1_112 (.lit 2)
def e1_114 : E := .mul e1_113 (.lit 2)
def e1_115 : E := .add e1_109 e1_114
def e1_116 : E := .add e1_103 (.lit 8200)
def e1_117 : E := .sel (.av 2) e1_116
def e1_118 : E := .div e1_117 e1_107
def e1_119 : E := .mod e1_118 (.lit 2)
def e1_120 : E := .mul e1_119 (.lit 4)
def e1_121 : E := .add e1_115 e1_120
def e1_122 : E := .div e1_117 e1_111
def e1_123 : E := .mod e1_122 (.lit 2)
def e1_124 : E := .mul e1_123 (.lit 8)
def e1_125 : E := .add e1_121 e1_124
def e1_126 : E := .eq e1_125 (.lit 0)
def e1_127 : E := .div e1_85 (.lit 1024)
def e1_128 : E := .mod e1_127 (.lit 8)
def e1_129 : E := .mul e1_128 (.lit 16)
def e1_130 : E := .add e1_125 e1_129
def e1_131 : E := .ite e1_126 (.lit 0) e1_130
def e1_132 : E := .eq e1_64 e1_131
def e1_133 : E := .div e1_85 (.lit 8192)
def e1_134 : E := .mod e1_133 (.lit 2)
def e1_135 : E := .ite e1_126 (.lit 0) e1_134
def e1_136 : E := .eq e1_59 e1_135
def e1_137 : E := .and e1_132 e1_136
def e1_138 : E := .sel e1_6 e1_130
def e1_139 : E := .ite e1_126 (.lit 0) e1_138
def e1_140 : E := .eq e1_66 e1_139
def e1_141 : E := .and e1_137 e1_140
def e1_142 : E := .not e1_126
def e1_143 : E := .iff e1_56 e1_142
def e1_144 : E := .and e1_141 e1_143
noncomputable def e1_T0 : List Item := todoS Try.prog G Gh [] 3000 0 7 e1_Hy e1_Ls [] 11
noncomputable def e1_h0 : Head := ⟨11, e1_T0, ⟨[((.v 0), (0, 9223372036854775807)), ((.v 1), (0, 65535)), ((.v 2), (0, 7)), ((.v 3), (0, 7)), ((.v 4), (0, 255)), (e1_0, (1, 1)), ((.v 5), (0, 4096)), ((.v 6), (0, 4096))], [(0, (0, 65535)), (1, (0, 65535)), (2, (0, 65535))], [], [(0, (0, 65535)), (1, (0, 255)), (2, (0, 32767))], [], [(0, ⟨(.v 0), [(some .u16, (.av 0))]⟩)]⟩, [⟨13, [], .s (.int .i64 (.v 5))⟩, ⟨1, [], .s (.int .u16 e1_4)⟩, ⟨12, [], .s (.ptr 1 (.lit 0))⟩, ⟨11, [], .s (.ptr 0 (.lit 0))⟩, ⟨2, [], .s (.int .i64 (.v 2))⟩, ⟨3, [], .s (.int .i64 (.v 3))⟩], [⟨45, [.run .u16 (.lit 32768) (.av 1) 0, .run .u8 (.lit 544) e1_5 0, .run .u16 (.lit 256) e1_6 0], true, none, false⟩, ⟨32, [.run .u8 (.lit 64) e1_9 0, .run .u16 (.lit 4) (.tab []) 0, .run .u16 (.lit 4) (.tab []) 0, .run .i16 (.lit 6) (.tab []) 0, .one (.int .i16 (.lit 0)), .one (.int .i16 (.lit 0)), .one (.int .u16 (.lit 0))], true, none, false⟩]⟩
noncomputable def e1_T1 : List Item := todoH Try.prog G Gh [] 3000 0 7 e1_h0 16
noncomputable def e1_h1 : Head := ⟨16, e1_T1, ⟨[((.v 0), (0, 9223372036854775807)), ((.v 1), (0, 65535)), ((.v 2), (0, 7)), ((.v 3), (0, 7)), ((.v 4), (0, 255)), (e1_0, (1, 1)), ((.v 5), (0, 4096)), ((.v 6), (0, 4096))], [(0, (0, 65535)), (1, (0, 65535)), (2, (0, 65535))], [], [(0, (0, 65535)), (1, (0, 255)), (2, (0, 32767))], [], [(0, ⟨(.v 0), [(some .u16, (.av 0))]⟩)]⟩, [⟨15, [], .s (.int .i64 (.v 6))⟩, ⟨14, [], .s (.ptr 2 (.lit 0))⟩, ⟨1, [], .s (.int .u16 e1_4)⟩, ⟨12, [], .s (.ptr 1 (.lit 0))⟩, ⟨11, [], .s (.ptr 0 (.lit 0))⟩, ⟨2, [], .s (.int .i64 (.v 2))⟩, ⟨3, [], .s (.int .i64 (.v 3))⟩], [⟨45, [.run .u16 (.lit 32768) (.av 2) 0, .run .u8 (.lit 544) e1_5 0, .run .u16 (.lit 256) e1_6 0], true, none, false⟩, ⟨32, [.run .u8 (.lit 64) e1_9 0, .run .u16 (.lit 4) (.tab []) 0, .run .u16 (.lit 4) (.tab []) 0, .run .i16 (.lit 6) (.tab []) 0, .one (.int .i16 (.lit 0)), .one (.int .i16 (.lit 0)), .one (.int .u16 (.lit 0))], true, none, false⟩, ⟨38, [.one (.bool e1_56), .one (.int .u8 e1_59), .one (.int .u8 e1_64), .one (.int .u16 e1_66)], true, none, false⟩]⟩
noncomputable def e1_hs : List Head := [e1_h0, e1_h1]
def e1_D : Dim := ⟨7, 0, 3, 5, 0, 1, 0⟩
theorem e1_st : startL Try.prog G Gh e1_D e1_hs [] 3000 0 7 e1_Hy e1_Ls [] = some (.jump 0 e1_T0 ⟨[(5, (.lit 0))], [], [(1, e1_67)]⟩) := by kernel_rfl
theorem e1_sg0 : segL Try.prog G Gh e1_D e1_hs [] 3000 0 7 e1_h0 = some (.ite e1_68 (.jump 0 e1_T0 ⟨[(5, e1_69)], [], [(1, e1_72)]⟩) (.jump 1 e1_T1 ⟨[(6, (.lit 0))], [], [(2, (.av 1))]⟩)) := by kernel_rfl
theorem e1_sg1 : segL Try.prog G Gh e1_D e1_hs [] 3000 0 7 e1_h1 = some (.ite e1_73 (.jump 1 e1_T1 ⟨[(6, e1_74)], [], [(2, e1_77)]⟩) (.ret (.s (.bool e1_144)) [⟨45, [.run .u16 (.lit 32768) (.av 2) 0, .run .u8 (.lit 544) e1_5 0, .run .u16 (.lit 256) e1_6 0], true, none, false⟩, ⟨32, [.run .u8 (.lit 64) e1_9 0, .run .u16 (.lit 4) (.tab []) 0, .run .u16 (.lit 4) (.tab []) 0, .run .i16 (.lit 6) (.tab []) 0, .one (.int .i16 (.lit 0)), .one (.int .i16 (.lit 0)), .one (.int .u16 (.lit 0))], true, none, false⟩, ⟨38, [.one (.bool e1_56), .one (.int .u8 e1_59), .one (.int .u8 e1_64), .one (.int .u16 e1_66)], true, none, false⟩, ⟨38, [.one (.bool e1_142), .one (.int .u8 e1_135), .one (.int .u8 e1_131), .one (.int .u16 e1_139)], true, none, false⟩])) := by kernel_rfl
theorem e1_hT0 : (e1_hs[0]?.map (·.todo)) = some e1_T0 := by kernel_rfl
theorem e1_hT1 : (e1_hs[1]?.map (·.todo)) = some e1_T1 := by kernel_rfl
def e1_Base (x0 : Ext) (nx0 a1 a2 a3 a4 : Int) (Ax0 : Nat → Int) : Prop := (0 ≤ nx0 ∧ nx0 ≤ 9223372036854775807) ∧ (0 ≤ a1 ∧ a1 ≤ 65535) ∧ (0 ≤ a2 ∧ a2 ≤ 7) ∧ (0 ≤ a3 ∧ a3 ≤ 7) ∧ (0 ≤ a4 ∧ a4 ≤ 255) ∧ (∀ j, 0 ≤ Ax0 j ∧ Ax0 j ≤ 65535) ∧ nx0 = (x0.n : Int) ∧ Ax0 = xArr x0 1 0 ∧ (a4) % 2 = 1 ∧ True
def e1_J0 (nx0 a1 a2 a3 a4 y5 y6 : Int) (Ax0 Z1 Z2 : Nat → Int) : Prop := (0 ≤ y5 ∧ y5 ≤ 4096) ∧ (0 ≤ y6 ∧ y6 ≤ 4096) ∧ (∀ j, 0 ≤ Z1 j ∧ Z1 j ≤ 65535) ∧ (∀ j, 0 ≤ Z2 j ∧ Z2 j ≤ 65535) ∧ (∀ j : Nat, 16384 ≤ j → (j : Int) < 16384 + y5 → Z1 j = ((a1 - a1 / 512 % 2 * 512) % 16384)) ∧ True
def e1_J1 (nx0 a1 a2 a3 a4 y5 y6 : Int) (Ax0 Z1 Z2 : Nat → Int) : Prop := (0 ≤ y5 ∧ y5 ≤ 4096) ∧ (0 ≤ y6 ∧ y6 ≤ 4096) ∧ (∀ j, 0 ≤ Z1 j ∧ Z1 j ≤ 65535) ∧ (∀ j, 0 ≤ Z2 j ∧ Z2 j ≤ 65535) ∧ (∀ j : Nat, 16384 ≤ j → j < 20480 → Z1 j = ((a1 - a1 / 512 % 2 * 512) % 16384)) ∧ (∀ j : Nat, 16384 ≤ j → (j : Int) < 16384 + y6 → Z2 j = ((a1 - a1 / 512 % 2 * 512) % 16384) + 49152) ∧ (∀ j : Nat, j < 16384 → Z2 j = Z1 j) ∧ True
def e1_Inv (x0 : Ext) : Nat → Env → Prop
  | 0, ρ => ∃ (nx0 a1 a2 a3 a4 y5 y6 : Int) (Ax0 Z1 Z2 : Nat → Int), ρ = (⟨[nx0, a1, a2, a3, a4, y5, y6], [], [Ax0, Z1, Z2], [], Iv (fun i j => match i, j with | 0, 0 => x0 | _, _ => Ext.none)⟩ : Env) ∧ e1_Base x0 nx0 a1 a2 a3 a4 Ax0 ∧ e1_J0 nx0 a1 a2 a3 a4 y5 y6 Ax0 Z1 Z2
  | 1, ρ => ∃ (nx0 a1 a2 a3 a4 y5 y6 : Int) (Ax0 Z1 Z2 : Nat → Int), ρ = (⟨[nx0, a1, a2, a3, a4, y5, y6], [], [Ax0, Z1, Z2], [], Iv (fun i j => match i, j with | 0, 0 => x0 | _, _ => Ext.none)⟩ : Env) ∧ e1_Base x0 nx0 a1 a2 a3 a4 Ax0 ∧ e1_J1 nx0 a1 a2 a3 a4 y5 y6 Ax0 Z1 Z2
  | _, _ => False
def e1_mu : Nat → Env → Nat := fun j ρ => match j with | 0 => (20000 - ρ.i.getD 5 0).toNat | _ => (5000 - ρ.i.getD 6 0).toNat
theorem e1_vc0 (x0 : Ext) (nx0 a1 a2 a3 a4 y5 y6 : Int) (Ax0 Z1 Z2 : Nat → Int) (hB : e1_Base x0 nx0 a1 a2 a3 a4 Ax0) (hJ : e1_J0 nx0 a1 a2 a3 a4 y5 y6 Ax0 Z1 Z2) :
    LT.holds (⟨[nx0, a1, a2, a3, a4, y5, y6], [], [Ax0, Z1, Z2], [], Iv (fun i j => match i, j with | 0, 0 => x0 | _, _ => Ext.none)⟩ : Env) (fun v _ => retTrue (⟨[nx0, a1, a2, a3, a4, y5, y6], [], [Ax0, Z1, Z2], [], Iv (fun i j => match i, j with | 0, 0 => x0 | _, _ => Ext.none)⟩ : Env) v) (fun j' todo ρ' => (e1_hs[j']?.map (·.todo)) = some todo ∧ e1_Inv x0 j' ρ' ∧ e1_mu j' ρ' < e1_mu 0 (⟨[nx0, a1, a2, a3, a4, y5, y6], [], [Ax0, Z1, Z2], [], Iv (fun i j => match i, j with | 0, 0 => x0 | _, _ => Ext.none)⟩ : Env)) (.ite e1_68 (.jump 0 e1_T0 ⟨[(5, e1_69)], [], [(1, e1_72)]⟩) (.jump 1 e1_T1 ⟨[(6, (.lit 0))], [], [(2, (.av 1))]⟩)) := by
  simp only [LT.holds, retTrue]
  refine ⟨fun hc0 => ?_, fun hc0 => ?_⟩
  ·
    refine ⟨e1_hT0, ⟨_, _, _, _, _, _, _, _, _, _, rfl, hB, ?_⟩, ?_⟩
    ·
      simp only [e1_Base] at hB
      obtain ⟨b0, b1, b2, b3, b4, bA, _⟩ := hB
      simp only [e1_J0] at hJ
      obtain ⟨l5, l6, mZ1, mZ2, i0, _⟩ := hJ
      simp only [e1_0, e1_1, e1_2, e1_3, e1_4, e1_7, e1_8, e1_9, e1_10, e1_11, e1_12, e1_13, e1_14, e1_15, e1_16, e1_17, e1_18, e1_19, e1_20, e1_21, e1_22, e1_23, e1_24, e1_25, e1_26, e1_27, e1_28, e1_29, e1_30, e1_31, e1_32, e1_33, e1_34, e1_35, e1_36, e1_37, e1_38, e1_39, e1_40, e1_41, e1_42, e1_43, e1_44, e1_45, e1_46, e1_47, e1_48, e1_49, e1_50, e1_51, e1_52, e1_53, e1_54, e1_55, e1_56, e1_57, e1_58, e1_59, e1_60, e1_61, e1_62, e1_63, e1_64, e1_65, e1_66, e1_68, e1_69, e1_70, e1_71, e1_72, e1_73, e1_74, e1_75, e1_76, e1_77, e1_78, e1_79, e1_80, e1_81, e1_82, e1_83, e1_84, e1_85, e1_86, e1_87, e1_88, e1_89, e1_90, e1_91, e1_92, e1_93, e1_94, e1_95, e1_96, e1_97, e1_98, e1_99, e1_100, e1_101, e1_102, e1_103, e1_104, e1_105, e1_106, e1_107, e1_108, e1_109, e1_110, e1_111, e1_112, e1_113, e1_114, e1_115, e1_116, e1_117, e1_118, e1_119, e1_120, e1_121, e1_122, e1_123, e1_124, e1_125, e1_126, e1_127, e1_128, e1_129, e1_130, e1_131, e1_132, e1_133, e1_134, e1_135, e1_136, e1_137, e1_138, e1_139, e1_140, e1_141, e1_142, e1_143, e1_144, i_v, b_bv, i_lit, b_blit, i_add, i_sub, i_mul, i_div, i_mod, i_tdiv, i_tmod, i_ite, b_ite, b_lt, b_le, b_eq, b_not, b_and, b_or, b_iff, i_sel, a_tab, i_pow2, List.getD_cons_zero, List.getD_cons_succ, decide_eq_true_eq, decide_eq_false_iff_not, Bool.and_eq_true, Bool.or_eq_true, Bool.not_eq_true', Bool.not_eq_false', Bool.and_eq_false_iff, Bool.or_eq_false_iff, Bool.not_not, ite_tt, ite_ff, iff_tt, iff_ff, a_av, a_ite, a_upd] at hc0
      simp only [e1_J0, e1_0, e1_1, e1_2, e1_3, e1_4, e1_7, e1_8, e1_9, e1_10, e1_11, e1_12, e1_13, e1_14, e1_15, e1_16, e1_17, e1_18, e1_19, e1_20, e1_21, e1_22, e1_23, e1_24, e1_25, e1_26, e1_27, e1_28, e1_29, e1_30, e1_31, e1_32, e1_33, e1_34, e1_35, e1_36, e1_37, e1_38, e1_39, e1_40, e1_41, e1_42, e1_43, e1_44, e1_45, e1_46, e1_47, e1_48, e1_49, e1_50, e1_51, e1_52, e1_53, e1_54, e1_55, e1_56, e1_57, e1_58, e1_59, e1_60, e1_61, e1_62, e1_63, e1_64, e1_65, e1_66, e1_68, e1_69, e1_70, e1_71, e1_72, e1_73, e1_74, e1_75, e1_76, e1_77, e1_78, e1_79, e1_80, e1_81, e1_82, e1_83, e1_84, e1_85, e1_86, e1_87, e1_88, e1_89, e1_90, e1_91, e1_92, e1_93, e1_94, e1_95, e1_96, e1_97, e1_98, e1_99, e1_100, e1_101, e1_102, e1_103, e1_104, e1_105, e1_106, e1_107, e1_108, e1_109, e1_110, e1_111, e1_112, e1_113, e1_114, e1_115, e1_116, e1_117, e1_118, e1_119, e1_120, e1_121, e1_122, e1_123, e1_124, e1_125, e1_126, e1_127, e1_128, e1_129, e1_130, e1_131, e1_132, e1_133, e1_134, e1_135, e1_136, e1_137, e1_138, e1_139, e1_140, e1_141, e1_142, e1_143, e1_144, i_v, b_bv, i_lit, b_blit, i_add, i_sub, i_mul, i_div, i_mod, i_tdiv, i_tmod, i_ite, b_ite, b_lt, b_le, b_eq, b_not, b_and, b_or, b_iff, i_sel, a_tab, i_pow2, List.getD_cons_zero, List.getD_cons_succ, decide_eq_true_eq, decide_eq_false_iff_not, Bool.and_eq_true, Bool.or_eq_true, Bool.not_eq_true', Bool.not_eq_false', Bool.and_eq_false_iff, Bool.or_eq_false_iff, Bool.not_not, ite_tt, ite_ff, iff_tt, iff_ff, a_av, a_ite, a_upd]
      exact ⟨by omega, l6, fun j => by have := mZ1 j; split <;> omega, mZ2, fun j h1 h2 => by split; rfl; exact i0 j h1 (by omega), trivial⟩
    simp only [e1_Base] at hB
    obtain ⟨b0, b1, b2, b3, b4, bA, _⟩ := hB
    simp only [e1_J0] at hJ
    obtain ⟨l5, l6, mZ1, mZ2, i0, _⟩ := hJ
    simp only [e1_0, e1_1, e1_2, e1_3, e1_4, e1_7, e1_8, e1_9, e1_10, e1_11, e1_12, e1_13, e1_14, e1_15, e1_16, e1_17, e1_18, e1_19, e1_20, e1_21, e1_22, e1_23, e1_24, e1_25, e1_26, e1_27, e1_28, e1_29, e1_30, e1_31, e1_32, e1_33, e1_34, e1_35, e1_36, e1_37, e1_38, e1_39, e1_40, e1_41, e1_42, e1_43, e1_44, e1_45, e1_46, e1_47, e1_48, e1_49, e1_50, e1_51, e1_52, e1_53, e1_54, e1_55, e1_56, e1_57, e1_58, e1_59, e1_60, e1_61, e1_62, e1_63, e1_64, e1_65, e1_66, e1_68, e1_69, e1_70, e1_71, e1_72, e1_73, e1_74, e1_75, e1_76, e1_77, e1_78, e1_79, e1_80, e1_81, e1_82, e1_83, e1_84, e1_85, e1_86, e1_87, e1_88, e1_89, e1_90, e1_91, e1_92, e1_93, e1_94, e1_95, e1_96, e1_97, e1_98, e1_99, e1_100, e1_101, e1_102, e1_103, e1_104, e1_105, e1_106, e1_107, e1_108, e1_109, e1_110, e1_111, e1_112, e1_113, e1_114, e1_115, e1_116, e1_117, e1_118, e1_119, e1_120, e1_121, e1_122, e1_123, e1_124, e1_125, e1_126, e1_127, e1_128, e1_129, e1_130, e1_131, e1_132, e1_133, e1_134, e1_135, e1_136, e1_137, e1_138, e1_139, e1_140, e1_141, e1_142, e1_143, e1_144, i_v, b_bv, i_lit, b_blit, i_add, i_sub, i_mul, i_div, i_mod, i_tdiv, i_tmod, i_ite, b_ite, b_lt, b_le, b_eq, b_not, b_and, b_or, b_iff, i_sel, a_tab, i_pow2, List.getD_cons_zero, List.getD_cons_succ, decide_eq_true_eq, decide_eq_false_iff_not, Bool.and_eq_true, Bool.or_eq_true, Bool.not_eq_true', Bool.not_eq_false', Bool.and_eq_false_iff, Bool.or_eq_false_iff, Bool.not_not, ite_tt, ite_ff, iff_tt, iff_ff, a_av, a_ite, a_upd] at hc0
    simp only [e1_mu, Env.app, setAll, List.map_cons, List.map_nil, List.set, List.getD_cons_zero, List.getD_cons_succ, e1_0, e1_1, e1_2, e1_3, e1_4, e1_7, e1_8, e1_9, e1_10, e1_11, e1_12, e1_13, e1_14, e1_15, e1_16, e1_17, e1_18, e1_19, e1_20, e1_21, e1_22, e1_23, e1_24, e1_25, e1_26, e1_27, e1_28, e1_29, e1_30, e1_31, e1_32, e1_33, e1_34, e1_35, e1_36, e1_37, e1_38, e1_39, e1_40, e1_41, e1_42, e1_43, e1_44, e1_45, e1_46, e1_47, e1_48, e1_49, e1_50, e1_51, e1_52, e1_53, e1_54, e1_55, e1_56, e1_57, e1_58, e1_59, e1_60, e1_61, e1_62, e1_63, e1_64, e1_65, e1_66, e1_68, e1_69, e1_70, e1_71, e1_72, e1_73, e1_74, e1_75, e1_76, e1_77, e1_78, e1_79, e1_80, e1_81, e1_82, e1_83, e1_84, e1_85, e1_86, e1_87, e1_88, e1_89, e1_90, e1_91, e1_92, e1_93, e1_94, e1_95, e1_96, e1_97, e1_98, e1_99, e1_100, e1_101, e1_102, e1_103, e1_104, e1_105, e1_106, e1_107, e1_108, e1_109, e1_110, e1_111, e1_112, e1_113, e1_114, e1_115, e1_116, e1_117, e1_118, e1_119, e1_120, e1_121, e1_122, e1_123, e1_124, e1_125, e1_126, e1_127, e1_128, e1_129, e1_130, e1_131, e1_132, e1_133, e1_134, e1_135, e1_136, e1_137, e1_138, e1_139, e1_140, e1_141, e1_142, e1_143, e1_144, i_v, b_bv, i_lit, b_blit, i_add, i_sub, i_mul, i_div, i_mod, i_tdiv, i_tmod, i_ite, b_ite, b_lt, b_le, b_eq, b_not, b_and, b_or, b_iff, i_sel, a_tab, i_pow2, List.getD_cons_zero, List.getD_cons_succ, decide_eq_true_eq, decide_eq_false_iff_not, Bool.and_eq_true, Bool.or_eq_true, Bool.not_eq_true', Bool.not_eq_false', Bool.and_eq_false_iff, Bool.or_eq_false_iff, Bool.not_not, ite_tt, ite_ff, iff_tt, iff_ff, a_av, a_ite, a_upd]
    omega
  ·
    refine ⟨e1_hT1, ⟨_, _, _, _, _, _, _, _, _, _, rfl, hB, ?_⟩, ?_⟩
    ·
      simp only [e1_Base] at hB
      obtain ⟨b0, b1, b2, b3, b4, bA, _⟩ := hB
      simp only [e1_J0] at hJ
      obtain ⟨l5, l6, mZ1, mZ2, i0, _⟩ := hJ
      simp only [e1_0, e1_1, e1_2, e1_3, e1_4, e1_7, e1_8, e1_9, e1_10, e1_11, e1_12, e1_13, e1_14, e1_15, e1_16, e1_17, e1_18, e1_19, e1_20, e1_21, e1_22, e1_23, e1_24, e1_25, e1_26, e1_27, e1_28, e1_29, e1_30, e1_31, e1_32, e1_33, e1_34, e1_35, e1_36, e1_37, e1_38, e1_39, e1_40, e1_41, e1_42, e1_43, e1_44, e1_45, e1_46, e1_47, e1_48, e1_49, e1_50, e1_51, e1_52, e1_53, e1_54, e1_55, e1_56, e1_57, e1_58, e1_59, e1_60, e1_61, e1_62, e1_63, e1_64, e1_65, e1_66, e1_68, e1_69, e1_70, e1_71, e1_72, e1_73, e1_74, e1_75, e1_76, e1_77, e1_78, e1_79, e1_80, e1_81, e1_82, e1_83, e1_84, e1_85, e1_86, e1_87, e1_88, e1_89, e1_90, e1_91, e1_92, e1_93, e1_94, e1_95, e1_96, e1_97, e1_98, e1_99, e1_100, e1_101, e1_102, e1_103, e1_104, e1_105, e1_106, e1_107, e1_108, e1_109, e1_110, e1_111, e1_112, e1_113, e1_114, e1_115, e1_116, e1_117, e1_118, e1_119, e1_120, e1_121, e1_122, e1_123, e1_124, e1_125, e1_126, e1_127, e1_128, e1_129, e1_130, e1_131, e1_132, e1_133, e1_134, e1_135, e1_136, e1_137, e1_138, e1_139, e1_140, e1_141, e1_142, e1_143, e1_144, i_v, b_bv, i_lit, b_blit, i_add, i_sub, i_mul, i_div, i_mod, i_tdiv, i_tmod, i_ite, b_ite, b_lt, b_le, b_eq, b_not, b_and, b_or, b_iff, i_sel, a_tab, i_pow2, List.getD_cons_zero, List.getD_cons_succ, decide_eq_true_eq, decide_eq_false_iff_not, Bool.and_eq_true, Bool.or_eq_true, Bool.not_eq_true', Bool.not_eq_false', Bool.and_eq_false_iff, Bool.or_eq_false_iff, Bool.not_not, ite_tt, ite_ff, iff_tt, iff_ff, a_av, a_ite, a_upd] at hc0
      simp only [e1_J1, e1_0, e1_1, e1_2, e1_3, e1_4, e1_7, e1_8, e1_9, e1_10, e1_11, e1_12, e1_13, e1_14, e1_15, e1_16, e1_17, e1_18, e1_19, e1_20, e1_21, e1_22, e1_23, e1_24, e1_25, e1_26, e1_27, e1_28, e1_29, e1_30, e1_31, e1_32, e1_33, e1_34, e1_35, e1_36, e1_37, e1_38, e1_39, e1_40, e1_41, e1_42, e1_43, e1_44, e1_45, e1_46, e1_47, e1_48, e1_49, e1_50, e1_51, e1_52, e1_53, e1_54, e1_55, e1_56, e1_57, e1_58, e1_59, e1_60, e1_61, e1_62, e1_63, e1_64, e1_65, e1_66, e1_68, e1_69, e1_70, e1_71, e1_72, e1_73, e1_74, e1_75, e1_76, e1_77, e1_78, e1_79, e1_80, e1_81, e1_82, e1_83, e1_84, e1_85, e1_86, e1_87, e1_88, e1_89, e1_90, e1_91, e1_92, e1_93, e1_94, e1_95, e1_96, e1_97, e1_98, e1_99, e1_100, e1_101, e1_102, e1_103, e1_104, e1_105, e1_106, e1_107, e1_108, e1_109, e1_110, e1_111, e1_112, e1_113, e1_114, e1_115, e1_116, e1_117, e1_118, e1_119, e1_120, e1_121, e1_122, e1_123, e1_124, e1_125, e1_126, e1_127, e1_128, e1_129, e1_130, e1_131, e1_132, e1_133, e1_134, e1_135, e1_136, e1_137, e1_138, e1_139, e1_140, e1_141, e1_142, e1_143, e1_144, i_v, b_bv, i_lit, b_blit, i_add, i_sub, i_mul, i_div, i_mod, i_tdiv, i_tmod, i_ite, b_ite, b_lt, b_le, b_eq, b_not, b_and, b_or, b_iff, i_sel, a_tab, i_pow2, List.getD_cons_zero, List.getD_cons_succ, decide_eq_true_eq, decide_eq_false_iff_not, Bool.and_eq_true, Bool.or_eq_true, Bool.not_eq_true', Bool.not_eq_false', Bool.and_eq_false_iff, Bool.or_eq_false_iff, Bool.not_not, ite_tt, ite_ff, iff_tt, iff_ff, a_av, a_ite, a_upd]
      exact ⟨l5, by omega, mZ1, mZ1, fun j h1 h2 => i0 j h1 (by omega), fun j h1 h2 => by omega, by intro j h1; first | exact True.intro | rfl, trivial⟩
    simp only [e1_Base] at hB
    obtain ⟨b0, b1, b2, b3, b4, bA, _⟩ := hB
    simp only [e1_J0] at hJ
    obtain ⟨l5, l6, mZ1, mZ2, i0, _⟩ := hJ
    simp only [e1_0, e1_1, e1_2, e1_3, e1_4, e1_7, e1_8, e1_9, e1_10, e1_11, e1_12, e1_13, e1_14, e1_15, e1_16, e1_17, e1_18, e1_19, e1_20, e1_21, e1_22, e1_23, e1_24, e1_25, e1_26, e1_27, e1_28, e1_29, e1_30, e1_31, e1_32, e1_33, e1_34, e1_35, e1_36, e1_37, e1_38, e1_39, e1_40, e1_41, e1_42, e1_43, e1_44, e1_45, e1_46, e1_47, e1_48, e1_49, e1_50, e1_51, e1_52, e1_53, e1_54, e1_55, e1_56, e1_57, e1_58, e1_59, e1_60, e1_61, e1_62, e1_63, e1_64, e1_65, e1_66, e1_68, e1_69, e1_70, e1_71, e1_72, e1_73, e1_74, e1_75, e1_76, e1_77, e1_78, e1_79, e1_80, e1_81, e1_82, e1_83, e1_84, e1_85, e1_86, e1_87, e1_88, e1_89, e1_90, e1_91, e1_92, e1_93, e1_94, e1_95, e1_96, e1_97, e1_98, e1_99, e1_100, e1_101, e1_102, e1_103, e1_104, e1_105, e1_106, e1_107, e1_108, e1_109, e1_110, e1_111, e1_112, e1_113, e1_114, e1_115, e1_116, e1_117, e1_118, e1_119, e1_120, e1_121, e1_122, e1_123, e1_124, e1_125, e1_126, e1_127, e1_128, e1_129, e1_130, e1_131, e1_132, e1_133, e1_134, e1_135, e1_136, e1_137, e1_138, e1_139, e1_140, e1_141, e1_142, e1_143, e1_144, i_v, b_bv, i_lit, b_blit, i_add, i_sub, i_mul, i_div, i_mod, i_tdiv, i_tmod, i_ite, b_ite, b_lt, b_le, b_eq, b_not, b_and, b_or, b_iff, i_sel, a_tab, i_pow2, List.getD_cons_zero, List.getD_cons_succ, decide_eq_true_eq, decide_eq_false_iff_not, Bool.and_eq_true, Bool.or_eq_true, Bool.not_eq_true', Bool.not_eq_false', Bool.and_eq_false_iff, Bool.or_eq_false_iff, Bool.not_not, ite_tt, ite_ff, iff_tt, iff_ff, a_av, a_ite, a_upd] at hc0
    simp only [e1_mu, Env.app, setAll, List.map_cons, List.map_nil, List.set, List.getD_cons_zero, List.getD_cons_succ, e1_0, e1_1, e1_2, e1_3, e1_4, e1_7, e1_8, e1_9, e1_10, e1_11, e1_12, e1_13, e1_14, e1_15, e1_16, e1_17, e1_18, e1_19, e1_20, e1_21, e1_22, e1_23, e1_24, e1_25, e1_26, e1_27, e1_28, e1_29, e1_30, e1_31, e1_32, e1_33, e1_34, e1_35, e1_36, e1_37, e1_38, e1_39, e1_40, e1_41, e1_42, e1_43, e1_44, e1_45, e1_46, e1_47, e1_48, e1_49, e1_50, e1_51, e1_52, e1_53, e1_54, e1_55, e1_56, e1_57, e1_58, e1_59, e1_60, e1_61, e1_62, e1_63, e1_64, e1_65, e1_66, e1_68, e1_69, e1_70, e1_71, e1_72, e1_73, e1_74, e1_75, e1_76, e1_77, e1_78, e1_79, e1_80, e1_81, e1_82, e1_83, e1_84, e1_85, e1_86, e1_87, e1_88, e1_89, e1_90, e1_91, e1_92, e1_93, e1_94, e1_95, e1_96, e1_97, e1_98, e1_99, e1_100, e1_101, e1_102, e1_103, e1_104, e1_105, e1_106, e1_107, e1_108, e1_109, e1_110, e1_111, e1_112, e1_113, e1_114, e1_115, e1_116, e1_117, e1_118, e1_119, e1_120, e1_121, e1_122, e1_123, e1_124, e1_125, e1_126, e1_127, e1_128, e1_129, e1_130, e1_131, e1_132, e1_133, e1_134, e1_135, e1_136, e1_137, e1_138, e1_139, e1_140, e1_141, e1_142, e1_143, e1_144, i_v, b_bv, i_lit, b_blit, i_add, i_sub, i_mul, i_div, i_mod, i_tdiv, i_tmod, i_ite, b_ite, b_lt, b_le, b_eq, b_not, b_and, b_or, b_iff, i_sel, a_tab, i_pow2, List.getD_cons_zero, List.getD_cons_succ, decide_eq_true_eq, decide_eq_false_iff_not, Bool.and_eq_true, Bool.or_eq_true, Bool.not_eq_true', Bool.not_eq_false', Bool.and_eq_false_iff, Bool.or_eq_false_iff, Bool.not_not, ite_tt, ite_ff, iff_tt, iff_ff, a_av, a_ite, a_upd]
    omega
theorem e1_vc1 (x0 : Ext) (nx0 a1 a2 a3 a4 y5 y6 : Int) (Ax0 Z1 Z2 : Nat → Int) (hB : e1_Base x0 nx0 a1 a2 a3 a4 Ax0) (hJ : e1_J1 nx0 a1 a2 a3 a4 y5 y6 Ax0 Z1 Z2) :
    LT.holds (⟨[nx0, a1, a2, a3, a4, y5, y6], [], [Ax0, Z1, Z2], [], Iv (fun i j => match i, j with | 0, 0 => x0 | _, _ => Ext.none)⟩ : Env) (fun v _ => retTrue (⟨[nx0, a1, a2, a3, a4, y5, y6], [], [Ax0, Z1, Z2], [], Iv (fun i j => match i, j with | 0, 0 => x0 | _, _ => Ext.none)⟩ : Env) v) (fun j' todo ρ' => (e1_hs[j']?.map (·.todo)) = some todo ∧ e1_Inv x0 j' ρ' ∧ e1_mu j' ρ' < e1_mu 1 (⟨[nx0, a1, a2, a3, a4, y5, y6], [], [Ax0, Z1, Z2], [], Iv (fun i j => match i, j with | 0, 0 => x0 | _, _ => Ext.none)⟩ : Env)) (.ite e1_73 (.jump 1 e1_T1 ⟨[(6, e1_74)], [], [(2, e1_77)]⟩) (.ret (.s (.bool e1_144)) [⟨45, [.run .u16 (.lit 32768) (.av 2) 0, .run .u8 (.lit 544) e1_5 0, .run .u16 (.lit 256) e1_6 0], true, none, false⟩, ⟨32, [.run .u8 (.lit 64) e1_9 0, .run .u16 (.lit 4) (.tab []) 0, .run .u16 (.lit 4) (.tab []) 0, .run .i16 (.lit 6) (.tab []) 0, .one (.int .i16 (.lit 0)), .one (.int .i16 (.lit 0)), .one (.int .u16 (.lit 0))], true, none, false⟩, ⟨38, [.one (.bool e1_56), .one (.int .u8 e1_59), .one (.int .u8 e1_64), .one (.int .u16 e1_66)], true, none, false⟩, ⟨38, [.one (.bool e1_142), .one (.int .u8 e1_135), .one (.int .u8 e1_131), .one (.int .u16 e1_139)], true, none, false⟩])) := by
  simp only [LT.holds, retTrue]
  refine ⟨fun hc0 => ?_, fun hc0 => ?_⟩
  ·
    refine ⟨e1_hT1, ⟨_, _, _, _, _, _, _, _, _, _, rfl, hB, ?_⟩, ?_⟩
    ·
      simp only [e1_Base] at hB
      obtain ⟨b0, b1, b2, b3, b4, bA, _⟩ := hB
      simp only [e1_J1] at hJ
      obtain ⟨l5, l6, mZ1, mZ2, i0, i1, i2, _⟩ := hJ
      simp only [e1_0, e1_1, e1_2, e1_3, e1_4, e1_7, e1_8, e1_9, e1_10, e1_11, e1_12, e1_13, e1_14, e1_15, e1_16, e1_17, e1_18, e1_19, e1_20, e1_21, e1_22, e1_23, e1_24, e1_25, e1_26, e1_27, e1_28, e1_29, e1_30, e1_31, e1_32, e1_33, e1_34, e1_35, e1_36, e1_37, e1_38, e1_39, e1_40, e1_41, e1_42, e1_43, e1_44, e1_45, e1_46, e1_47, e1_48, e1_49, e1_50, e1_51, e1_52, e1_53, e1_54, e1_55, e1_56, e1_57, e1_58, e1_59, e1_60, e1_61, e1_62, e1_63, e1_64, e1_65, e1_66, e1_68, e1_69, e1_70, e1_71, e1_72, e1_73, e1_74, e1_75, e1_76, e1_77, e1_78, e1_79, e1_80, e1_81, e1_82, e1_83, e1_84, e1_85, e1_86, e1_87, e1_88, e1_89, e1_90, e1_91, e1_92, e1_93, e1_94, e1_95, e1_96, e1_97, e1_98, e1_99, e1_100, e1_101, e1_102, e1_103, e1_104, e1_105, e1_106, e1_107, e1_108, e1_109, e1_110, e1_111, e1_112, e1_113, e1_114, e1_115, e1_116, e1_117, e1_118, e1_119, e1_120, e1_121, e1_122, e1_123, e1_124, e1_125, e1_126, e1_127, e1_128, e1_129, e1_130, e1_131, e1_132, e1_133, e1_134, e1_135, e1_136, e1_137, e1_138, e1_139, e1_140, e1_141, e1_142, e1_143, e1_144, i_v, b_bv, i_lit, b_blit, i_add, i_sub, i_mul, i_div, i_mod, i_tdiv, i_tmod, i_ite, b_ite, b_lt, b_le, b_eq, b_not, b_and, b_or, b_iff, i_sel, a_tab, i_pow2, List.getD_cons_zero, List.getD_cons_succ, decide_eq_true_eq, decide_eq_false_iff_not, Bool.and_eq_true, Bool.or_eq_true, Bool.not_eq_true', Bool.not_eq_false', Bool.and_eq_false_iff, Bool.or_eq_false_iff, Bool.not_not, ite_tt, ite_ff, iff_tt, iff_ff, a_av, a_ite, a_upd] at hc0
      simp only [e1_J1, e1_0, e1_1, e1_2, e1_3, e1_4, e1_7, e1_8, e1_9, e1_10, e1_11, e1_12, e1_13, e1_14, e1_15, e1_16, e1_17, e1_18, e1_19, e1_20, e1_21, e1_22, e1_23, e1_24, e1_25, e1_26, e1_27, e1_28, e1_29, e1_30, e1_31, e1_32, e1_33, e1_34, e1_35, e1_36, e1_37, e1_38, e1_39, e1_40, e1_41, e1_42, e1_43, e1_44, e1_45, e1_46, e1_47, e1_48, e1_49, e1_50, e1_51, e1_52, e1_53, e1_54, e1_55, e1_56, e1_57, e1_58, e1_59, e1_60, e1_61, e1_62, e1_63, e1_64, e1_65, e1_66, e1_68, e1_69, e1_70, e1_71, e1_72, e1_73, e1_74, e1_75, e1_76, e1_77, e1_78, e1_79, e1_80, e1_81, e1_82, e1_83, e1_84, e1_85, e1_86, e1_87, e1_88, e1_89, e1_90, e1_91, e1_92, e1_93, e1_94, e1_95, e1_96, e1_97, e1_98, e1_99, e1_100, e1_101, e1_102, e1_103, e1_104, e1_105, e1_106, e1_107, e1_108, e1_109, e1_110, e1_111, e1_112, e1_113, e1_114, e1_115, e1_116, e1_117, e1_118, e1_119, e1_120, e1_121, e1_122, e1_123, e1_124, e1_125, e1_126, e1_127, e1_128, e1_129, e1_130, e1_131, e1_132, e1_133, e1_134, e1_135, e1_136, e1_137, e1_138, e1_139, e1_140, e1_141, e1_142, e1_143, e1_144, i_v, b_bv, i_lit, b_blit, i_add, i_sub, i_mul, i_div, i_mod, i_tdiv, i_tmod, i_ite, b_ite, b_lt, b_le, b_eq, b_not, b_and, b_or, b_iff, i_sel, a_tab, i_pow2, List.getD_cons_zero, List.getD_cons_succ, decide_eq_true_eq, decide_eq_false_iff_not, Bool.and_eq_true, Bool.or_eq_true, Bool.not_eq_true', Bool.not_eq_false', Bool.and_eq_false_iff, Bool.or_eq_false_iff, Bool.not_not, ite_tt, ite_ff, iff_tt, iff_ff, a_av, a_ite, a_upd]
      exact ⟨l5, by omega, mZ1, fun j => by have := mZ2 j; split <;> omega, i0, fun j h1 h2 => by split; rfl; exact i1 j h1 (by omega), fun j h1 => by rw [if_neg (by omega)]; exact i2 j h1, trivial⟩
    simp only [e1_Base] at hB
    obtain ⟨b0, b1, b2, b3, b4, bA, _⟩ := hB
    simp only [e1_J1] at hJ
    obtain ⟨l5, l6, mZ1, mZ2, i0, i1, i2, _⟩ := hJ
    simp only [e1_0, e1_1, e1_2, e1_3, e1_4, e1_7, e1_8, e1_9, e1_10, e1_11, e1_12, e1_13, e1_14, e1_15, e1_16, e1_17, e1_18, e1_19, e1_20, e1_21, e1_22, e1_23, e1_24, e1_25, e1_26, e1_27, e1_28, e1_29, e1_30, e1_31, e1_32, e1_33, e1_34, e1_35, e1_36, e1_37, e1_38, e1_39, e1_40, e1_41, e1_42, e1_43, e1_44, e1_45, e1_46, e1_47, e1_48, e1_49, e1_50, e1_51, e1_52, e1_53, e1_54, e1_55, e1_56, e1_57, e1_58, e1_59, e1_60, e1_61, e1_62, e1_63, e1_64, e1_65, e1_66, e1_68, e1_69, e1_70, e1_71, e1_72, e1_73, e1_74, e1_75, e1_76, e1_77, e1_78, e1_79, e1_80, e1_81, e1_82, e1_83, e1_84, e1_85, e1_86, e1_87, e1_88, e1_89, e1_90, e1_91, e1_92, e1_93, e1_94, e1_95, e1_96, e1_97, e1_98, e1_99, e1_100, e1_101, e1_102, e1_103, e1_104, e1_105, e1_106, e1_107, e1_108, e1_109, e1_110, e1_111, e1_112, e1_113, e1_114, e1_115, e1_116, e1_117, e1_118, e1_119, e1_120, e1_121, e1_122, e1_123, e1_124, e1_125, e1_126, e1_127, e1_128, e1_129, e1_130, e1_131, e1_132, e1_133, e1_134, e1_135, e1_136, e1_137, e1_138, e1_139, e1_140, e1_141, e1_142, e1_143, e1_144, i_v, b_bv, i_lit, b_blit, i_add, i_sub, i_mul, i_div, i_mod, i_tdiv, i_tmod, i_ite, b_ite, b_lt, b_le, b_eq, b_not, b_and, b_or, b_iff, i_sel, a_tab, i_pow2, List.getD_cons_zero, List.getD_cons_succ, decide_eq_true_eq, decide_eq_false_iff_not, Bool.and_eq_true, Bool.or_eq_true, Bool.not_eq_true', Bool.not_eq_false', Bool.and_eq_false_iff, Bool.or_eq_false_iff, Bool.not_not, ite_tt, ite_ff, iff_tt, iff_ff, a_av, a_ite, a_upd] at hc0
    simp only [e1_mu, Env.app, setAll, List.map_cons, List.map_nil, List.set, List.getD_cons_zero, List.getD_cons_succ, e1_0, e1_1, e1_2, e1_3, e1_4, e1_7, e1_8, e1_9, e1_10, e1_11, e1_12, e1_13, e1_14, e1_15, e1_16, e1_17, e1_18, e1_19, e1_20, e1_21, e1_22, e1_23, e1_24, e1_25, e1_26, e1_27, e1_28, e1_29, e1_30, e1_31, e1_32, e1_33, e1_34, e1_35, e1_36, e1_37, e1_38, e1_39, e1_40, e1_41, e1_42, e1_43, e1_44, e1_45, e1_46, e1_47, e1_48, e1_49, e1_50, e1_51, e1_52, e1_53, e1_54, e1_55, e1_56, e1_57, e1_58, e1_59, e1_60, e1_61, e1_62, e1_63, e1_64, e1_65, e1_66, e1_68, e1_69, e1_70, e1_71, e1_72, e1_73, e1_74, e1_75, e1_76, e1_77, e1_78, e1_79, e1_80, e1_81, e1_82, e1_83, e1_84, e1_85, e1_86, e1_87, e1_88, e1_89, e1_90, e1_91, e1_92, e1_93, e1_94, e1_95, e1_96, e1_97, e1_98, e1_99, e1_100, e1_101, e1_102, e1_103, e1_104, e1_105, e1_106, e1_107, e1_108, e1_109, e1_110, e1_111, e1_112, e1_113, e1_114, e1_115, e1_116, e1_117, e1_118, e1_119, e1_120, e1_121, e1_122, e1_123, e1_124, e1_125, e1_126, e1_127, e1_128, e1_129, e1_130, e1_131, e1_132, e1_133, e1_134, e1_135, e1_136, e1_137, e1_138, e1_139, e1_140, e1_141, e1_142, e1_143, e1_144, i_v, b_bv, i_lit, b_blit, i_add, i_sub, i_mul, i_div, i_mod, i_tdiv, i_tmod, i_ite, b_ite, b_lt, b_le, b_eq, b_not, b_and, b_or, b_iff, i_sel, a_tab, i_pow2, List.getD_cons_zero, List.getD_cons_succ, decide_eq_true_eq, decide_eq_false_iff_not, Bool.and_eq_true, Bool.or_eq_true, Bool.not_eq_true', Bool.not_eq_false', Bool.and_eq_false_iff, Bool.or_eq_false_iff, Bool.not_not, ite_tt, ite_ff, iff_tt, iff_ff, a_av, a_ite, a_upd]
    omega
  ·
    simp only [e1_Base] at hB
    obtain ⟨b0, b1, b2, b3, b4, bA, _⟩ := hB
    simp only [e1_J1] at hJ
    obtain ⟨l5, l6, mZ1, mZ2, i0, i1, i2, _⟩ := hJ
    simp only [e1_73, i_v, i_lit, b_le, List.getD_cons_zero, List.getD_cons_succ, decide_eq_true_eq, decide_eq_false_iff_not] at hc0
    have e6 : y6 = 4096 := by omega
    have hw : 0 ≤ ((a1 - a1 / 512 % 2 * 512) % 16384) ∧ ((a1 - a1 / 512 % 2 * 512) % 16384) ≤ 16383 ∧ ((a1 - a1 / 512 % 2 * 512) % 16384) % 1024 ≤ 511 := by omega
    have h16 : E.i (⟨[nx0, a1, a2, a3, a4, y5, y6], [], [Ax0, Z1, Z2], [], Iv (fun i j => match i, j with | 0, 0 => x0 | _, _ => Ext.none)⟩ : Env) e1_16 = ((a1 - a1 / 512 % 2 * 512) % 16384) := by
      simp only [e1_16, e1_15, e1_14, e1_13, e1_12, e1_11, e1_10, i_sel, a_av, i_v, i_lit, i_add, i_sub, i_mul, i_div, i_mod, i_ite, i_pow2, b_eq, b_le, b_not, List.getD_cons_zero, List.getD_cons_succ, decide_eq_true_eq]
      exact i0 _ (by omega) (by omega)
    have h75 : E.i (⟨[nx0, a1, a2, a3, a4, y5, y6], [], [Ax0, Z1, Z2], [], Iv (fun i j => match i, j with | 0, 0 => x0 | _, _ => Ext.none)⟩ : Env) e1_85 = ((a1 - a1 / 512 % 2 * 512) % 16384) + 49152 := by
      simp only [e1_85, e1_84, e1_83, e1_82, e1_81, e1_80, e1_79, e1_78, i_sel, a_av, i_v, i_lit, i_add, i_sub, i_mul, i_div, i_mod, i_ite, i_pow2, b_eq, b_le, b_not, List.getD_cons_zero, List.getD_cons_succ, decide_eq_true_eq]
      exact i1 _ (by omega) (by omega)
    generalize hW : ((a1 - a1 / 512 % 2 * 512) % 16384) = W at hw h16 h75
    have c1 : W / 16384 % 2 = 0 := by omega
    have c2 : W ≤ 32767 := by omega
    have c3 : ¬ ((W + 49152) / 16384 % 2 = 0) := by omega
    have c4 : ¬ (W + 49152 ≤ 32767) := by omega
    have d2 : (15 - a2) % 8 = 7 - a2 := by omega
    have d3 : (15 - a3) % 8 = 7 - a3 := by omega
    have d4 : 7 - (7 - a2) = a2 := by omega
    have d5 : 7 - (7 - a3) = a3 := by omega
    have d6 : a2 / 8 = 0 := by omega
    have d7 : a3 / 8 = 0 := by omega
    have d8 : (W + 49152) % 1024 = W % 1024 := by omega
    have d9 : (W + 49152) / 1024 % 8 = W / 1024 % 8 := by omega
    have d10 : (W + 49152) / 8192 % 2 = W / 8192 % 2 := by omega
    have z0 : (0 : Int) * 16 = 0 := rfl
    have g1 : E.i (⟨[nx0, a1, a2, a3, a4, y5, y6], [], [Ax0, Z1, Z2], [], Iv (fun i j => match i, j with | 0, 0 => x0 | _, _ => Ext.none)⟩ : Env) e1_105 = E.i (⟨[nx0, a1, a2, a3, a4, y5, y6], [], [Ax0, Z1, Z2], [], Iv (fun i j => match i, j with | 0, 0 => x0 | _, _ => Ext.none)⟩ : Env) e1_34 := by
      rw [show (e1_105 : E) = .sel (.av 2) e1_104 from rfl, show (e1_34 : E) = .sel (.av 1) e1_33 from rfl, i_sel, i_sel, a_av, a_av]
      have q1 : E.i (⟨[nx0, a1, a2, a3, a4, y5, y6], [], [Ax0, Z1, Z2], [], Iv (fun i j => match i, j with | 0, 0 => x0 | _, _ => Ext.none)⟩ : Env) e1_104 = E.i (⟨[nx0, a1, a2, a3, a4, y5, y6], [], [Ax0, Z1, Z2], [], Iv (fun i j => match i, j with | 0, 0 => x0 | _, _ => Ext.none)⟩ : Env) e1_33 := by
        simp only [e1_17, e1_18, e1_19, e1_20, e1_21, e1_22, e1_23, e1_24, e1_25, e1_26, e1_27, e1_28, e1_29, e1_30, e1_31, e1_32, e1_33, e1_78, e1_81, e1_86, e1_87, e1_88, e1_89, e1_90, e1_91, e1_92, e1_93, e1_94, e1_95, e1_96, e1_97, e1_98, e1_99, e1_100, e1_101, e1_102, e1_103, e1_104, i_v, i_lit, i_add, i_sub, i_mul, i_div, i_mod, i_ite, i_pow2, b_eq, b_le, b_not, List.getD_cons_zero, List.getD_cons_succ, decide_eq_true_eq]
        simp only [h16, h75, decide_eq_true_eq, decide_true, decide_false, Bool.false_eq_true, c1, c2, c3, c4, d2, d3, d4, d5, d6, d7, z0, Int.add_zero, d8, d9, d10, if_true, if_false, ite_true, ite_false, not_true, not_false_eq_true]
      have q2 : E.i (⟨[nx0, a1, a2, a3, a4, y5, y6], [], [Ax0, Z1, Z2], [], Iv (fun i j => match i, j with | 0, 0 => x0 | _, _ => Ext.none)⟩ : Env) e1_33 < 16384 := by
        simp only [e1_33, e1_32, e1_26, e1_25, e1_24, e1_31, e1_30, e1_29, e1_28, e1_27, e1_23, e1_22, e1_21, e1_20, e1_19, e1_18, e1_17, i_v, i_lit, i_add, i_sub, i_mul, i_div, i_mod, i_ite, i_pow2, b_eq, b_le, b_not, List.getD_cons_zero, List.getD_cons_succ, decide_eq_true_eq]
        simp only [h16, h75, decide_eq_true_eq, decide_true, decide_false, Bool.false_eq_true, c1, c2, c3, c4, d2, d3, d4, d5, d6, d7, z0, Int.add_zero, d8, d9, d10, if_true, if_false, ite_true, ite_false, not_true, not_false_eq_true]
        omega
      rw [q1]
      exact i2 _ (by omega)
    have g2 : E.i (⟨[nx0, a1, a2, a3, a4, y5, y6], [], [Ax0, Z1, Z2], [], Iv (fun i j => match i, j with | 0, 0 => x0 | _, _ => Ext.none)⟩ : Env) e1_117 = E.i (⟨[nx0, a1, a2, a3, a4, y5, y6], [], [Ax0, Z1, Z2], [], Iv (fun i j => match i, j with | 0, 0 => x0 | _, _ => Ext.none)⟩ : Env) e1_46 := by
      rw [show (e1_117 : E) = .sel (.av 2) e1_116 from rfl, show (e1_46 : E) = .sel (.av 1) e1_45 from rfl, i_sel, i_sel, a_av, a_av]
      have q1 : E.i (⟨[nx0, a1, a2, a3, a4, y5, y6], [], [Ax0, Z1, Z2], [], Iv (fun i j => match i, j with | 0, 0 => x0 | _, _ => Ext.none)⟩ : Env) e1_116 = E.i (⟨[nx0, a1, a2, a3, a4, y5, y6], [], [Ax0, Z1, Z2], [], Iv (fun i j => match i, j with | 0, 0 => x0 | _, _ => Ext.none)⟩ : Env) e1_45 := by
        simp only [e1_17, e1_18, e1_19, e1_20, e1_21, e1_22, e1_23, e1_24, e1_25, e1_26, e1_27, e1_28, e1_29, e1_30, e1_31, e1_32, e1_45, e1_78, e1_81, e1_86, e1_87, e1_88, e1_89, e1_90, e1_91, e1_92, e1_93, e1_94, e1_95, e1_96, e1_97, e1_98, e1_99, e1_100, e1_101, e1_102, e1_103, e1_116, i_v, i_lit, i_add, i_sub, i_mul, i_div, i_mod, i_ite, i_pow2, b_eq, b_le, b_not, List.getD_cons_zero, List.getD_cons_succ, decide_eq_true_eq]
        simp only [h16, h75, decide_eq_true_eq, decide_true, decide_false, Bool.false_eq_true, c1, c2, c3, c4, d2, d3, d4, d5, d6, d7, z0, Int.add_zero, d8, d9, d10, if_true, if_false, ite_true, ite_false, not_true, not_false_eq_true]
      have q2 : E.i (⟨[nx0, a1, a2, a3, a4, y5, y6], [], [Ax0, Z1, Z2], [], Iv (fun i j => match i, j with | 0, 0 => x0 | _, _ => Ext.none)⟩ : Env) e1_45 < 16384 := by
        simp only [e1_45, e1_32, e1_26, e1_25, e1_24, e1_31, e1_30, e1_29, e1_28, e1_27, e1_23, e1_22, e1_21, e1_20, e1_19, e1_18, e1_17, i_v, i_lit, i_add, i_sub, i_mul, i_div, i_mod, i_ite, i_pow2, b_eq, b_le, b_not, List.getD_cons_zero, List.getD_cons_succ, decide_eq_true_eq]
        simp only [h16, h75, decide_eq_true_eq, decide_true, decide_false, Bool.false_eq_true, c1, c2, c3, c4, d2, d3, d4, d5, d6, d7, z0, Int.add_zero, d8, d9, d10, if_true, if_false, ite_true, ite_false, not_true, not_false_eq_true]
        omega
      rw [q1]
      exact i2 _ (by omega)
    simp only [e1_144, e1_143, e1_142, e1_126, e1_125, e1_124, e1_123, e1_122, e1_111, e1_110, e1_91, e1_90, e1_89, e1_81, e1_88, e1_87, e1_86, e1_121, e1_120, e1_119, e1_118, e1_107, e1_106, e1_115, e1_114, e1_113, e1_112, e1_109, e1_108, e1_56, e1_55, e1_54, e1_53, e1_52, e1_51, e1_40, e1_39, e1_21, e1_20, e1_19, e1_18, e1_17, e1_50, e1_49, e1_48, e1_47, e1_36, e1_35, e1_44, e1_43, e1_42, e1_41, e1_38, e1_37, e1_141, e1_140, e1_139, e1_138, e1_130, e1_129, e1_128, e1_127, e1_66, e1_65, e1_63, e1_62, e1_61, e1_60, e1_137, e1_136, e1_135, e1_134, e1_133, e1_59, e1_58, e1_57, e1_132, e1_131, e1_64, i_sel, b_and, b_iff, i_v, i_lit, i_add, i_sub, i_mul, i_div, i_mod, i_ite, i_pow2, b_eq, b_le, b_not, List.getD_cons_zero, List.getD_cons_succ, b_eq]
    simp only [g1, g2, h16, h75, decide_eq_true_eq, decide_true, decide_false, Bool.false_eq_true, c1, c2, c3, c4, d2, d3, d4, d5, d6, d7, z0, Int.add_zero, d8, d9, d10, if_true, if_false, ite_true, ite_false, not_true, not_false_eq_true]
    simp
theorem e1_vcS (x0 : Ext) (nx0 a1 a2 a3 a4 : Int) (Ax0 : Nat → Int) (hB : e1_Base x0 nx0 a1 a2 a3 a4 Ax0) :
    LT.holds (⟨[nx0, a1, a2, a3, a4, 0, 0], [], [Ax0, fun _ => 0, fun _ => 0], [], Iv (fun i j => match i, j with | 0, 0 => x0 | _, _ => Ext.none)⟩ : Env) (fun v _ => retTrue (⟨[nx0, a1, a2, a3, a4, 0, 0], [], [Ax0, fun _ => 0, fun _ => 0], [], Iv (fun i j => match i, j with | 0, 0 => x0 | _, _ => Ext.none)⟩ : Env) v) (fun j' todo ρ' => (e1_hs[j']?.map (·.todo)) = some todo ∧ e1_Inv x0 j' ρ') (.jump 0 e1_T0 ⟨[(5, (.lit 0))], [], [(1, e1_67)]⟩) := by
  simp only [LT.holds, retTrue]
  refine ⟨e1_hT0, _, _, _, _, _, _, _, _, _, _, rfl, hB, ?_⟩
  ·
    simp only [e1_Base] at hB
    obtain ⟨b0, b1, b2, b3, b4, bA, _⟩ := hB
    simp only [e1_J0, e1_0, e1_1, e1_2, e1_3, e1_4, e1_7, e1_8, e1_9, e1_10, e1_11, e1_12, e1_13, e1_14, e1_15, e1_16, e1_17, e1_18, e1_19, e1_20, e1_21, e1_22, e1_23, e1_24, e1_25, e1_26, e1_27, e1_28, e1_29, e1_30, e1_31, e1_32, e1_33, e1_34, e1_35, e1_36, e1_37, e1_38, e1_39, e1_40, e1_41, e1_42, e1_43, e1_44, e1_45, e1_46, e1_47, e1_48, e1_49, e1_50, e1_51, e1_52, e1_53, e1_54, e1_55, e1_56, e1_57, e1_58, e1_59, e1_60, e1_61, e1_62, e1_63, e1_64, e1_65, e1_66, e1_68, e1_69, e1_70, e1_71, e1_72, e1_73, e1_74, e1_75, e1_76, e1_77, e1_78, e1_79, e1_80, e1_81, e1_82, e1_83, e1_84, e1_85, e1_86, e1_87, e1_88, e1_89, e1_90, e1_91, e1_92, e1_93, e1_94, e1_95, e1_96, e1_97, e1_98, e1_99, e1_100, e1_101, e1_102, e1_103, e1_104, e1_105, e1_106, e1_107, e1_108, e1_109, e1_110, e1_111, e1_112, e1_113, e1_114, e1_115, e1_116, e1_117, e1_118, e1_119, e1_120, e1_121, e1_122, e1_123, e1_124, e1_125, e1_126, e1_127, e1_128, e1_129, e1_130, e1_131, e1_132, e1_133, e1_134, e1_135, e1_136, e1_137, e1_138, e1_139, e1_140, e1_141, e1_142, e1_143, e1_144, i_v, b_bv, i_lit, b_blit, i_add, i_sub, i_mul, i_div, i_mod, i_tdiv, i_tmod, i_ite, b_ite, b_lt, b_le, b_eq, b_not, b_and, b_or, b_iff, i_sel, a_tab, i_pow2, List.getD_cons_zero, List.getD_cons_succ, decide_eq_true_eq, decide_eq_false_iff_not, Bool.and_eq_true, Bool.or_eq_true, Bool.not_eq_true', Bool.not_eq_false', Bool.and_eq_false_iff, Bool.or_eq_false_iff, Bool.not_not, ite_tt, ite_ff, iff_tt, iff_ff, a_av, a_ite, a_upd]
    exact ⟨by omega, by omega, fun j => vidF_rng _ _ _ (by decide) j, fun j => by simp, fun j h1 h2 => by omega, trivial⟩
theorem e1_calls (x0 : Ext) (a1 : Int) (w1 : (Lit.int .u16 a1).wf = true) (a2 : Int) (w2 : 0 ≤ a2 ∧ a2 ≤ 7) (a3 : Int) (w3 : 0 ≤ a3 ∧ a3 ≤ 7) (a4 : Int) (w4 : (Lit.int .u8 a4).wf = true) (hex0 : (a4) % 2 = 1) (w : World) (g0 : XFit x0 w [some .u16]) :
    Calls Try.prog 7 #[x0.v, .int .u16 a1, .int .i64 a2, .int .i64 a3, .int .u8 a4] w fun r w' => r = .returned (.bool true) ∧ Below w.heap.size w w' := by
  have hx0 : SV.conc (⟨[(x0.n : Int), a1, a2, a3, a4, 0, 0], [], [xArr x0 1 0, fun _ => 0, fun _ => 0], [], Iv (fun i j => match i, j with | 0, 0 => x0 | _, _ => Ext.none)⟩ : Env) Loc.id (.s (.xslc 0 (.lit 0) (.lit 0) (.v 0))) = x0.v := conc_ext g0 rfl rfl
  have hargs : (e1_Ls.map (SV.conc (⟨[(x0.n : Int), a1, a2, a3, a4, 0, 0], [], [xArr x0 1 0, fun _ => 0, fun _ => 0], [], Iv (fun i j => match i, j with | 0, 0 => x0 | _, _ => Ext.none)⟩ : Env) Loc.id)).toArray = #[x0.v, .int .u16 a1, .int .i64 a2, .int .i64 a3, .int .u8 a4] := by
    refine congrArg List.toArray ?_
    exact (cons_eq hx0 (cons_eq rfl (cons_eq rfl (cons_eq rfl (cons_eq rfl rfl)))))
  rw [← hargs]
  have hok : Hyp.ok e1_Hy (⟨[(x0.n : Int), a1, a2, a3, a4, 0, 0], [], [xArr x0 1 0, fun _ => 0, fun _ => 0], [], Iv (fun i j => match i, j with | 0, 0 => x0 | _, _ => Ext.none)⟩ : Env) := by
    refine ⟨?_, ?_, ?_, by simp [e1_Hy], ?_, by simp [e1_Hy]⟩
    · intro p hp
      simp only [e1_Hy, List.mem_cons, List.not_mem_nil, or_false] at hp
      rcases hp with rfl
      · exact xi_ok g0 rfl rfl rfl
    · intro p hp
      simp only [e1_Hy, List.mem_cons, List.not_mem_nil, or_false] at hp
      rcases hp with rfl | rfl | rfl | rfl | rfl | rfl
      · exact xlen_rng g0
      · exact bounds_u16 w1
      · exact w2
      · exact w3
      · exact bounds_u8 w4
      · exact (by have hx := hex0; first | exact ⟨Int.le_of_eq hx.symm, Int.le_of_eq hx⟩ | exact hx)
    · intro p hp
      simp only [e1_Hy, List.mem_cons, List.not_mem_nil, or_false] at hp
      rcases hp with rfl
      · exact xArr_rng g0
    · intro p hp is bs xs j
      simp only [e1_Hy, List.mem_cons, List.not_mem_nil, or_false] at hp
      rcases hp with rfl | rfl | rfl <;> exact vidF_rng _ _ _ (by decide) j
  refine law_loops (D := e1_D) (hs := e1_hs) (ρ := (⟨[(x0.n : Int), a1, a2, a3, a4, 0, 0], [], [xArr x0 1 0, fun _ => 0, fun _ => 0], [], Iv (fun i j => match i, j with | 0, 0 => x0 | _, _ => Ext.none)⟩ : Env)) (G_ok _) (by kernel_rfl) rfl (e1_Inv x0 ) e1_mu e1_st rfl ⟨rfl, rfl, rfl⟩ hok (e1_vcS x0 ((x0.n : Int)) (a1) (a2) (a3) (a4) (xArr x0 1 0) ⟨xlen_rng g0, bounds_u16 w1, w2, w3, bounds_u8 w4, xArr_rng g0, rfl, rfl, hex0, trivial⟩) ?_ w (fun i j => by rcases i with _ | i <;> rcases j with _ | j <;> first | exact Ext.none_ok _ | exact g0.ok)
  intro j h ρ hj hI hz hInv
  rcases j with _ | _ | j
  · simp only [e1_hs, List.getElem?_cons_zero, List.getElem?_cons_succ, Option.some.injEq] at hj; subst hj
    obtain ⟨nx0, a1, a2, a3, a4, y5, y6, Ax0, Z1, Z2, rfl, hB, hJ⟩ := hInv
    refine ⟨?_, _, e1_sg0, e1_vc0 x0 nx0 a1 a2 a3 a4 y5 y6 Ax0 Z1 Z2 hB hJ⟩
    have hB2 := hB; have hJ2 := hJ
    simp only [e1_Base] at hB2; simp only [e1_J0] at hJ2
    obtain ⟨hb0, hb1, hb2, hb3, hb4, hb5, hn0, ha0, hex0, _⟩ := hB2
    obtain ⟨hl0, hl1, hl2, hl3, hx, _⟩ := hJ2
    refine ⟨?_, ?_, ?_, by simp [e1_h0], ?_, by simp [e1_h0]⟩
    · intro p hp
      simp only [e1_h0, List.mem_cons, List.not_mem_nil, or_false] at hp
      rcases hp with rfl
      · exact xi_ok g0 rfl hn0 ha0
    · intro p hp
      simp only [e1_h0, List.mem_cons, List.not_mem_nil, or_false] at hp
      rcases hp with rfl | rfl | rfl | rfl | rfl | rfl | rfl | rfl
      · exact hb0
      · exact hb1
      · exact hb2
      · exact hb3
      · exact hb4
      · exact (by have hx := hex0; first | exact ⟨Int.le_of_eq hx.symm, Int.le_of_eq hx⟩ | exact hx)
      · exact hl0
      · exact hl1
    · intro p hp
      simp only [e1_h0, List.mem_cons, List.not_mem_nil, or_false] at hp
      rcases hp with rfl | rfl | rfl
      · exact hb5
      · exact hl2
      · exact hl3
    · intro p hp is bs xs j
      simp only [e1_h0, List.mem_cons, List.not_mem_nil, or_false] at hp
      rcases hp with rfl | rfl | rfl <;> exact vidF_rng _ _ _ (by decide) j
  · simp only [e1_hs, List.getElem?_cons_zero, List.getElem?_cons_succ, Option.some.injEq] at hj; subst hj
    obtain ⟨nx0, a1, a2, a3, a4, y5, y6, Ax0, Z1, Z2, rfl, hB, hJ⟩ := hInv
    refine ⟨?_, _, e1_sg1, e1_vc1 x0 nx0 a1 a2 a3 a4 y5 y6 Ax0 Z1 Z2 hB hJ⟩
    have hB2 := hB; have hJ2 := hJ
    simp only [e1_Base] at hB2; simp only [e1_J1] at hJ2
    obtain ⟨hb0, hb1, hb2, hb3, hb4, hb5, hn0, ha0, hex0, _⟩ := hB2
    obtain ⟨hl0, hl1, hl2, hl3, hx, _⟩ := hJ2
    refine ⟨?_, ?_, ?_, by simp [e1_h1], ?_, by simp [e1_h1]⟩
    · intro p hp
      simp only [e1_h1, List.mem_cons, List.not_mem_nil, or_false] at hp
      rcases hp with rfl
      · exact xi_ok g0 rfl hn0 ha0
    · intro p hp
      simp only [e1_h1, List.mem_cons, List.not_mem_nil, or_false] at hp
      rcases hp with rfl | rfl | rfl | rfl | rfl | rfl | rfl | rfl
      · exact hb0
      · exact hb1
      · exact hb2
      · exact hb3
      · exact hb4
      · exact (by have hx := hex0; first | exact ⟨Int.le_of_eq hx.symm, Int.le_of_eq hx⟩ | exact hx)
      · exact hl0
      · exact hl1
    · intro p hp
      simp only [e1_h1, List.mem_cons, List.not_mem_nil, or_false] at hp
      rcases hp with rfl | rfl | rfl
      · exact hb5
      · exact hl2
      · exact hl3
    · intro p hp is bs xs j
      simp only [e1_h1, List.mem_cons, List.not_mem_nil, or_false] at hp
      rcases hp with rfl | rfl | rfl <;> exact vidF_rng _ _ _ (by decide) j
  · simp [e1_hs] at hj
end Go.Proofs.Ytcamkhjahdebeaa.CellTurned
