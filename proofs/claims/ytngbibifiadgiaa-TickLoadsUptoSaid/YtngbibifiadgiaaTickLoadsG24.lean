/- A part of the law TickLoads, which returns true for every input. Bytes are taken, if they are a state, and refused if not, and then all is as it was; what was taken is saved again with the same bytes. Where what comes in is of bulk at most 1048576. No condition. -/
import Derived.Test.YtngbibifiadgiaaTickLoads0
namespace Go.Proofs.Ytngbibifiadgiaa.TickLoads
open Go.Sx Go.ChangeShapes Go.WideShapes Go.ChangeAt Go.RowKit
set_option linter.unusedVariables false
set_option linter.unusedSimpArgs false
set_option maxRecDepth 100000
def j_Hy : Hyp := ⟨[((.v 0), (24, 1048575)), ((.v 1), (0, 1048575)), (.v 0, (0, 9223372036854775807)), (.v 1, (0, 9223372036854775807))], [(0, (0, 255)), (1, (-9223372036854775808, 9223372036854775807)), (2, (-9223372036854775808, 9223372036854775807)), (3, (0, 255))], [(10, (0, 4294967295))], [], [], [(0, ⟨.v 0, [(some .u8, .av 0)]⟩), (1, ⟨.v 1, [(some .i64, .av 1), (some .i64, .av 2), (some .u8, .av 3)]⟩)]⟩
def j_Ls : List SV := [.s (.xslc 0 (.lit 0) (.lit 0) (.v 0)), .s (.xslc 1 (.lit 0) (.lit 0) (.v 1))]
def j_0 : E := .lt (.v 2) (.v 1)
def j_1 : E := .sel (.av 2) (.v 2)
def j_2 : E := .add j_1 (.lit 252)
def j_3 : E := .mod j_2 (.lit 256)
def j_4 : E := .le j_3 (.lit 3)
def j_5 : E := .mod j_1 (.lit 256)
def j_6 : E := .eq j_5 (.lit 1)
def j_7 : E := .or j_4 j_6
def j_8 : E := .eq j_5 (.lit 4)
def j_9 : E := .eq j_5 (.lit 5)
def j_10 : E := .eq j_5 (.lit 6)
def j_11 : E := .eq j_5 (.lit 7)
def j_12 : E := .ite j_10 j_10 j_11
def j_13 : E := .ite j_9 j_9 j_12
def j_14 : E := .ite j_8 j_8 j_13
def j_15 : E := .not j_14
def j_16 : E := .or j_7 j_15
def j_17 : E := .add j_1 (.lit 248)
def j_18 : E := .mod j_17 (.lit 256)
def j_19 : E := .le j_18 (.lit 1)
def j_20 : E := .or j_14 j_19
def j_21 : E := .or j_20 j_6
def j_22 : E := .eq j_5 (.lit 8)
def j_23 : E := .eq j_5 (.lit 9)
def j_24 : E := .ite j_22 j_22 j_23
def j_25 : E := .not j_24
def j_26 : E := .or j_21 j_25
def j_27 : E := .le (.lit 4) j_3
def j_28 : E := .and j_14 j_27
def j_29 : E := .not j_6
def j_30 : E := .and j_28 j_29
def j_31 : E := .or j_26 j_30
def j_32 : E := .or j_14 j_24
def j_33 : E := .add j_1 (.lit 246)
def j_34 : E := .mod j_33 (.lit 256)
def j_35 : E := .le j_34 (.lit 2)
def j_36 : E := .or j_32 j_35
def j_37 : E := .or j_36 j_6
def j_38 : E := .eq j_5 (.lit 10)
def j_39 : E := .eq j_5 (.lit 11)
def j_40 : E := .eq j_5 (.lit 12)
def j_41 : E := .ite j_39 j_39 j_40
def j_42 : E := .ite j_38 j_38 j_41
def j_43 : E := .not j_42
def j_44 : E := .or j_37 j_43
def j_45 : E := .or j_44 j_30
def j_46 : E := .le (.lit 2) j_18
def j_47 : E := .and j_24 j_46
def j_48 : E := .and j_47 j_15
def j_49 : E := .and j_48 j_29
def j_50 : E := .or j_45 j_49
def j_51 : E := .sel (.av 3) (.v 2)
def j_52 : E := .div j_51 (.lit 128)
def j_53 : E := .mul j_52 (.lit 128)
def j_54 : E := .mod j_51 (.lit 8)
def j_55 : E := .add j_53 j_54
def j_56 : E := .ite j_6 j_55 (.v 3)
def j_57 : E := .add (.v 2) (.lit 1)
def j_58 : E := .or j_14 j_6
def j_59 : E := .sel (.av 10) j_18
def j_60 : E := .ite j_24 j_51 j_59
def j_61 : E := .ite j_58 j_59 j_60
def j_62 : E := .upd (.av 10) j_18 j_61
def j_63 : E := .sel (.av 9) j_3
def j_64 : E := .ite j_14 j_51 j_63
def j_65 : E := .ite j_6 j_63 j_64
def j_66 : E := .upd (.av 9) j_3 j_65
def j_67 : E := .div j_51 (.lit 16)
def j_68 : E := .mod j_67 (.lit 4)
def j_69 : E := .eq j_68 (.lit 1)
def j_70 : E := .eq j_68 (.lit 3)
def j_71 : E := .or j_69 j_70
def j_72 : E := .sel (.av 8) (.lit 0)
def j_73 : E := .ite j_71 (.lit 0) j_72
def j_74 : E := .ite j_6 j_73 j_72
def j_75 : E := .upd (.av 8) (.lit 0) j_74
def j_76 : E := .sel (.av 8) (.lit 1)
def j_77 : E := .ite j_71 (.lit 0) j_76
def j_78 : E := .ite j_6 j_77 j_76
def j_79 : E := .upd j_75 (.lit 1) j_78
def j_80 : E := .sel (.av 8) (.lit 2)
def j_81 : E := .eq j_68 (.lit 2)
def j_82 : E := .ite j_81 (.lit 0) j_80
def j_83 : E := .ite j_69 j_80 j_82
def j_84 : E := .ite j_70 (.lit 0) j_83
def j_85 : E := .ite j_6 j_84 j_80
def j_86 : E := .upd j_79 (.lit 2) j_85
def j_87 : E := .sel (.av 8) (.lit 3)
def j_88 : E := .ite j_81 (.lit 0) j_87
def j_89 : E := .ite j_69 j_87 j_88
def j_90 : E := .ite j_70 (.lit 0) j_89
def j_91 : E := .ite j_6 j_90 j_87
def j_92 : E := .upd j_86 (.lit 3) j_91
def j_93 : E := .sel (.av 5) (.lit 0)
def j_94 : E := .add j_93 (.lit 1)
def j_95 : E := .div j_94 (.lit 128)
def j_96 : E := .mod j_95 (.lit 2)
def j_97 : E := .eq j_96 (.lit 0)
def j_98 : E := .mod j_56 (.lit 2)
def j_99 : E := .eq j_98 (.lit 0)
def j_100 : E := .or j_97 j_99
def j_101 : E := .mod j_51 (.lit 2)
def j_102 : E := .eq j_101 (.lit 0)
def j_103 : E := .mod (.v 3) (.lit 2)
def j_104 : E := .eq j_103 (.lit 0)
def j_105 : E := .not j_104
def j_106 : E := .or j_102 j_105
def j_107 : E := .sel (.av 7) (.lit 0)
def j_108 : E := .ite j_106 j_107 (.lit 0)
def j_109 : E := .ite j_6 j_108 j_107
def j_110 : E := .sel (.av 6) (.lit 0)
def j_111 : E := .ite j_106 j_110 (.lit 0)
def j_112 : E := .ite j_6 j_111 j_110
def j_113 : E := .add j_112 (.lit 1)
def j_114 : E := .mod j_113 (.lit 256)
def j_115 : E := .eq j_34 (.lit 0)
def j_116 : E := .or j_32 j_6
def j_117 : E := .sel (.av 4) j_34
def j_118 : E := .ite j_42 j_51 j_117
def j_119 : E := .ite j_116 j_117 j_118
def j_120 : E := .sel (.av 4) (.lit 0)
def j_121 : E := .ite j_115 j_119 j_120
def j_122 : E := .eq j_114 j_121
def j_123 : E := .add j_109 (.lit 1)
def j_124 : E := .mod j_123 (.lit 16)
def j_125 : E := .ite j_122 j_124 j_109
def j_126 : E := .ite j_100 j_109 j_125
def j_127 : E := .upd (.av 7) (.lit 0) j_126
def j_128 : E := .sel (.av 5) (.lit 1)
def j_129 : E := .add j_128 (.lit 1)
def j_130 : E := .div j_129 (.lit 128)
def j_131 : E := .mod j_130 (.lit 2)
def j_132 : E := .eq j_131 (.lit 0)
def j_133 : E := .div j_56 (.lit 2)
def j_134 : E := .mod j_133 (.lit 2)
def j_135 : E := .eq j_134 (.lit 0)
def j_136 : E := .or j_132 j_135
def j_137 : E := .div j_51 (.lit 2)
def j_138 : E := .mod j_137 (.lit 2)
def j_139 : E := .eq j_138 (.lit 0)
def j_140 : E := .div (.v 3) (.lit 2)
def j_141 : E := .mod j_140 (.lit 2)
def j_142 : E := .eq j_141 (.lit 0)
def j_143 : E := .not j_142
def j_144 : E := .or j_139 j_143
def j_145 : E := .sel (.av 7) (.lit 1)
def j_146 : E := .ite j_144 j_145 (.lit 0)
def j_147 : E := .ite j_6 j_146 j_145
def j_148 : E := .sel (.av 6) (.lit 1)
def j_149 : E := .ite j_144 j_148 (.lit 0)
def j_150 : E := .ite j_6 j_149 j_148
def j_151 : E := .add j_150 (.lit 1)
def j_152 : E := .mod j_151 (.lit 256)
def j_153 : E := .eq j_34 (.lit 1)
def j_154 : E := .sel (.av 4) (.lit 1)
def j_155 : E := .ite j_153 j_119 j_154
def j_156 : E := .eq j_152 j_155
def j_157 : E := .add j_147 (.lit 1)
def j_158 : E := .mod j_157 (.lit 16)
def j_159 : E := .ite j_156 j_158 j_147
def j_160 : E := .ite j_136 j_147 j_159
def j_161 : E := .upd j_127 (.lit 1) j_160
def j_162 : E := .sel (.av 5) (.lit 2)
def j_163 : E := .add j_162 (.lit 1)
def j_164 : E := .mod j_163 (.lit 256)
def j_165 : E := .le j_164 (.lit 15)
def j_166 : E := .div j_56 (.lit 4)
def j_167 : E := .mod j_166 (.lit 2)
def j_168 : E := .eq j_167 (.lit 0)
def j_169 : E := .or j_165 j_168
def j_170 : E := .div j_51 (.lit 4)
def j_171 : E := .mod j_170 (.lit 2)
def j_172 : E := .eq j_171 (.lit 0)
def j_173 : E := .div (.v 3) (.lit 4)
def j_174 : E := .mod j_173 (.lit 2)
def j_175 : E := .eq j_174 (.lit 0)
def j_176 : E := .not j_175
def j_177 : E := .or j_172 j_176
def j_178 : E := .sel (.av 7) (.lit 2)
def j_179 : E := .ite j_177 j_178 (.lit 0)
def j_180 : E := .ite j_6 j_179 j_178
def j_181 : E := .sel (.av 6) (.lit 2)
def j_182 : E := .ite j_177 j_181 (.lit 0)
def j_183 : E := .ite j_6 j_182 j_181
def j_184 : E := .add j_183 (.lit 1)
def j_185 : E := .mod j_184 (.lit 256)
def j_186 : E := .eq j_34 (.lit 2)
def j_187 : E := .sel (.av 4) (.lit 2)
def j_188 : E := .ite j_186 j_119 j_187
def j_189 : E := .eq j_185 j_188
def j_190 : E := .add j_180 (.lit 1)
def j_191 : E := .mod j_190 (.lit 16)
def j_192 : E := .ite j_189 j_191 j_180
def j_193 : E := .ite j_169 j_180 j_192
def j_194 : E := .upd j_161 (.lit 2) j_193
def j_195 : E := .ite j_122 (.lit 0) j_114
def j_196 : E := .ite j_100 j_112 j_195
def j_197 : E := .upd (.av 6) (.lit 0) j_196
def j_198 : E := .ite j_156 (.lit 0) j_152
def j_199 : E := .ite j_136 j_150 j_198
def j_200 : E := .upd j_197 (.lit 1) j_199
def j_201 : E := .ite j_189 (.lit 0) j_185
def j_202 : E := .ite j_169 j_183 j_201
def j_203 : E := .upd j_200 (.lit 2) j_202
def j_204 : E := .mod j_94 (.lit 256)
def j_205 : E := .ite j_97 j_204 (.lit 0)
def j_206 : E := .upd (.av 5) (.lit 0) j_205
def j_207 : E := .mod j_129 (.lit 256)
def j_208 : E := .ite j_132 j_207 (.lit 0)
def j_209 : E := .upd j_206 (.lit 1) j_208
def j_210 : E := .ite j_165 j_164 (.lit 0)
def j_211 : E := .upd j_209 (.lit 2) j_210
def j_212 : E := .upd (.av 4) j_34 j_119
noncomputable def j_T0 : List Item := todoS Try.prog G Gh [] 3000 0 7 j_Hy j_Ls [] 4
noncomputable def j_h0 : Head := ⟨4, j_T0, ⟨[((.v 0), (24, 1048575)), ((.v 1), (0, 1048575)), ((.v 0), (0, 9223372036854775807)), ((.v 1), (0, 9223372036854775807)), ((.v 2), (0, 1048576)), ((.v 3), (0, 255))], [(0, (0, 255)), (1, ((-9223372036854775808), 9223372036854775807)), (2, ((-9223372036854775808), 9223372036854775807)), (3, (0, 255)), (4, (0, 255)), (5, (0, 255)), (6, (0, 255)), (7, (0, 255)), (8, (0, 255)), (9, (0, 255)), (10, (0, 255))], [(10, (0, 4294967295))], [], [], [(0, ⟨(.v 0), [(some .u8, (.av 0))]⟩), (1, ⟨(.v 1), [(some .i64, (.av 1)), (some .i64, (.av 2)), (some .u8, (.av 3))]⟩)]⟩, [⟨6, [], .s (.int .i64 (.v 2))⟩, ⟨5, [], .s (.ptr 0 (.lit 0))⟩, ⟨0, [], .s (.xslc 0 (.lit 0) (.lit 0) (.v 0))⟩, ⟨1, [], .s (.xslc 1 (.lit 0) (.lit 0) (.v 1))⟩], [⟨68, [.one (.int .u8 (.v 3)), .rows (.lit 3) [(some .u8, (.av 4)), (some .u8, (.av 5)), (some .u8, (.av 6)), (some .u8, (.av 7))] 0, .run .u8 (.lit 4) (.av 8) 0, .run .u8 (.lit 4) (.av 9) 0, .run .u8 (.lit 2) (.av 10) 0], true, none, false⟩]⟩
noncomputable def j_hs : List Head := [j_h0]
def j_D : Dim := ⟨4, 0, 11, 2, 0, 4, 0⟩
theorem j_st : startL Try.prog G Gh j_D j_hs [] 3000 0 7 j_Hy j_Ls [] = some (.jump 0 j_T0 ⟨[(3, (.lit 128)), (2, (.lit 0))], [], [(10, (.tab [])), (9, (.tab [])), (8, (.tab [])), (7, (.tab [])), (6, (.tab [])), (5, (.tab [])), (4, (.tab []))]⟩) := by kernel_rfl
theorem j_sg0 : (segL Try.prog G Gh j_D j_hs [] 3000 0 7 j_h0).map LT.bare = some (.ite j_0 (.need j_0 (.need j_0 (.need j_0 (.need j_0 (.need j_0 (.need j_0 (.need j_0 (.need j_0 (.need j_16 (.need j_31 (.need j_50 (.jump 0 j_T0 ⟨[(3, j_56), (2, j_57)], [], [(10, j_62), (9, j_66), (8, j_92), (7, j_194), (6, j_203), (5, j_211), (4, j_212)]⟩)))))))))))) (.ret (.s (.bool (.blit true))) [])) := by kernel_rfl
theorem j_hT0 : (j_hs[0]?.map (·.todo)) = some j_T0 := by kernel_rfl
def j_Base (x0 : Ext) (x1 : Ext) (nx0 nx1 : Int) (Ax0 Ax1_0 Ax1_1 Ax1_2 : Nat → Int) : Prop := (0 ≤ nx0 ∧ nx0 ≤ 9223372036854775807) ∧ (0 ≤ nx1 ∧ nx1 ≤ 9223372036854775807) ∧ (∀ j, 0 ≤ Ax0 j ∧ Ax0 j ≤ 255) ∧ (∀ j, -9223372036854775808 ≤ Ax1_0 j ∧ Ax1_0 j ≤ 9223372036854775807) ∧ (∀ j, -9223372036854775808 ≤ Ax1_1 j ∧ Ax1_1 j ≤ 9223372036854775807) ∧ (∀ j, 0 ≤ Ax1_2 j ∧ Ax1_2 j ≤ 255) ∧ nx0 = (x0.n : Int) ∧ nx1 = (x1.n : Int) ∧ Ax0 = xArr x0 1 0 ∧ Ax1_0 = xArr x1 3 0 ∧ Ax1_1 = xArr x1 3 1 ∧ Ax1_2 = xArr x1 3 2 ∧ (24 ≤ (nx0) ∧ (nx0) ≤ 1048575) ∧ (0 ≤ (nx1) ∧ (nx1) ≤ 1048575) ∧ True
def j_J0 (nx0 nx1 y2 y3 : Int) (Ax0 Ax1_0 Ax1_1 Ax1_2 Z4 Z5 Z6 Z7 Z8 Z9 Z10 : Nat → Int) : Prop := (0 ≤ y2 ∧ y2 ≤ 1048576) ∧ (0 ≤ y3 ∧ y3 ≤ 255) ∧ (∀ j, 0 ≤ Z4 j ∧ Z4 j ≤ 255) ∧ (∀ j, 0 ≤ Z5 j ∧ Z5 j ≤ 255) ∧ (∀ j, 0 ≤ Z6 j ∧ Z6 j ≤ 255) ∧ (∀ j, 0 ≤ Z7 j ∧ Z7 j ≤ 255) ∧ (∀ j, 0 ≤ Z8 j ∧ Z8 j ≤ 255) ∧ (∀ j, 0 ≤ Z9 j ∧ Z9 j ≤ 255) ∧ (∀ j, 0 ≤ Z10 j ∧ Z10 j ≤ 255) ∧ True
def j_Inv (x0 : Ext) (x1 : Ext) : Nat → Env → Prop
  | 0, ρ => ∃ (nx0 nx1 y2 y3 : Int) (Ax0 Ax1_0 Ax1_1 Ax1_2 Z4 Z5 Z6 Z7 Z8 Z9 Z10 : Nat → Int), ρ = (⟨[nx0, nx1, y2, y3], [], [Ax0, Ax1_0, Ax1_1, Ax1_2, Z4, Z5, Z6, Z7, Z8, Z9, Z10], [], Iv (fun i j => match i, j with | 0, 0 => x0 | 1, 0 => x1 | _, _ => Ext.none)⟩ : Env) ∧ j_Base x0 x1 nx0 nx1 Ax0 Ax1_0 Ax1_1 Ax1_2 ∧ j_J0 nx0 nx1 y2 y3 Ax0 Ax1_0 Ax1_1 Ax1_2 Z4 Z5 Z6 Z7 Z8 Z9 Z10
  | _, _ => False
def j_mu : Nat → Env → Nat := fun j ρ => (ρ.i.getD 1 0 - ρ.i.getD 2 0).toNat
theorem j_vc0 (x0 : Ext) (x1 : Ext) (nx0 nx1 y2 y3 : Int) (Ax0 Ax1_0 Ax1_1 Ax1_2 Z4 Z5 Z6 Z7 Z8 Z9 Z10 : Nat → Int) (hB : j_Base x0 x1 nx0 nx1 Ax0 Ax1_0 Ax1_1 Ax1_2) (hJ : j_J0 nx0 nx1 y2 y3 Ax0 Ax1_0 Ax1_1 Ax1_2 Z4 Z5 Z6 Z7 Z8 Z9 Z10) (hH : Hyp.ok j_h0.H (⟨[nx0, nx1, y2, y3], [], [Ax0, Ax1_0, Ax1_1, Ax1_2, Z4, Z5, Z6, Z7, Z8, Z9, Z10], [], Iv (fun i j => match i, j with | 0, 0 => x0 | 1, 0 => x1 | _, _ => Ext.none)⟩ : Env)) :
    LT.holds (⟨[nx0, nx1, y2, y3], [], [Ax0, Ax1_0, Ax1_1, Ax1_2, Z4, Z5, Z6, Z7, Z8, Z9, Z10], [], Iv (fun i j => match i, j with | 0, 0 => x0 | 1, 0 => x1 | _, _ => Ext.none)⟩ : Env) (fun v _ => retTrue (⟨[nx0, nx1, y2, y3], [], [Ax0, Ax1_0, Ax1_1, Ax1_2, Z4, Z5, Z6, Z7, Z8, Z9, Z10], [], Iv (fun i j => match i, j with | 0, 0 => x0 | 1, 0 => x1 | _, _ => Ext.none)⟩ : Env) v) (fun j' todo ρ' => (j_hs[j']?.map (·.todo)) = some todo ∧ j_Inv x0 x1 j' ρ' ∧ j_mu j' ρ' < j_mu 0 (⟨[nx0, nx1, y2, y3], [], [Ax0, Ax1_0, Ax1_1, Ax1_2, Z4, Z5, Z6, Z7, Z8, Z9, Z10], [], Iv (fun i j => match i, j with | 0, 0 => x0 | 1, 0 => x1 | _, _ => Ext.none)⟩ : Env)) (.ite j_0 (.need j_0 (.need j_0 (.need j_0 (.need j_0 (.need j_0 (.need j_0 (.need j_0 (.need j_0 (.need j_16 (.need j_31 (.need j_50 (.jump 0 j_T0 ⟨[(3, j_56), (2, j_57)], [], [(10, j_62), (9, j_66), (8, j_92), (7, j_194), (6, j_203), (5, j_211), (4, j_212)]⟩)))))))))))) (.ret (.s (.bool (.blit true))) [])) := by
  simp only [LT.holds, retTrue]
  refine ⟨fun hc0 => ?_, fun hc0 => ?_⟩
  ·
    refine ⟨?_, fun hc1 => ?_⟩
    ·
      simp only [j_0, j_1, j_2, j_3, j_4, j_5, j_6, j_7, j_8, j_9, j_10, j_11, j_12, j_13, j_14, j_15, j_16, j_17, j_18, j_19, j_20, j_21, j_22, j_23, j_24, j_25, j_26, j_27, j_28, j_29, j_30, j_31, j_32, j_33, j_34, j_35, j_36, j_37, j_38, j_39, j_40, j_41, j_42, j_43, j_44, j_45, j_46, j_47, j_48, j_49, j_50, j_51, j_52, j_53, j_54, j_55, j_56, j_57, j_58, j_59, j_60, j_61, j_62, j_63, j_64, j_65, j_66, j_67, j_68, j_69, j_70, j_71, j_72, j_73, j_74, j_75, j_76, j_77, j_78, j_79, j_80, j_81, j_82, j_83, j_84, j_85, j_86, j_87, j_88, j_89, j_90, j_91, j_92, j_93, j_94, j_95, j_96, j_97, j_98, j_99, j_100, j_101, j_102, j_103, j_104, j_105, j_106, j_107, j_108, j_109, j_110, j_111, j_112, j_113, j_114, j_115, j_116, j_117, j_118, j_119, j_120, j_121, j_122, j_123, j_124, j_125, j_126, j_127, j_128, j_129, j_130, j_131, j_132, j_133, j_134, j_135, j_136, j_137, j_138, j_139, j_140, j_141, j_142, j_143, j_144, j_145, j_146, j_147, j_148, j_149, j_150, j_151, j_152, j_153, j_154, j_155, j_156, j_157, j_158, j_159, j_160, j_161, j_162, j_163, j_164, j_165, j_166, j_167, j_168, j_169, j_170, j_171, j_172, j_173, j_174, j_175, j_176, j_177, j_178, j_179, j_180, j_181, j_182, j_183, j_184, j_185, j_186, j_187, j_188, j_189, j_190, j_191, j_192, j_193, j_194, j_195, j_196, j_197, j_198, j_199, j_200, j_201, j_202, j_203, j_204, j_205, j_206, j_207, j_208, j_209, j_210, j_211, j_212, i_v, b_bv, i_lit, b_blit, i_add, i_sub, i_mul, i_div, i_mod, i_tdiv, i_tmod, i_ite, b_ite, b_lt, b_le, b_eq, b_not, b_and, b_or, b_iff, i_sel, a_tab, i_pow2, List.getD_cons_zero, List.getD_cons_succ, decide_eq_true_eq, decide_eq_false_iff_not, Bool.and_eq_true, Bool.or_eq_true, Bool.not_eq_true', Bool.not_eq_false', Bool.and_eq_false_iff, Bool.or_eq_false_iff, Bool.not_not, ite_tt, ite_ff, iff_tt, iff_ff, a_av, a_ite, a_upd] at hc0 ⊢
      omega
    ·
      refine ⟨?_, fun hc2 => ?_⟩
      ·
        simp only [j_0, j_1, j_2, j_3, j_4, j_5, j_6, j_7, j_8, j_9, j_10, j_11, j_12, j_13, j_14, j_15, j_16, j_17, j_18, j_19, j_20, j_21, j_22, j_23, j_24, j_25, j_26, j_27, j_28, j_29, j_30, j_31, j_32, j_33, j_34, j_35, j_36, j_37, j_38, j_39, j_40, j_41, j_42, j_43, j_44, j_45, j_46, j_47, j_48, j_49, j_50, j_51, j_52, j_53, j_54, j_55, j_56, j_57, j_58, j_59, j_60, j_61, j_62, j_63, j_64, j_65, j_66, j_67, j_68, j_69, j_70, j_71, j_72, j_73, j_74, j_75, j_76, j_77, j_78, j_79, j_80, j_81, j_82, j_83, j_84, j_85, j_86, j_87, j_88, j_89, j_90, j_91, j_92, j_93, j_94, j_95, j_96, j_97, j_98, j_99, j_100, j_101, j_102, j_103, j_104, j_105, j_106, j_107, j_108, j_109, j_110, j_111, j_112, j_113, j_114, j_115, j_116, j_117, j_118, j_119, j_120, j_121, j_122, j_123, j_124, j_125, j_126, j_127, j_128, j_129, j_130, j_131, j_132, j_133, j_134, j_135, j_136, j_137, j_138, j_139, j_140, j_141, j_142, j_143, j_144, j_145, j_146, j_147, j_148, j_149, j_150, j_151, j_152, j_153, j_154, j_155, j_156, j_157, j_158, j_159, j_160, j_161, j_162, j_163, j_164, j_165, j_166, j_167, j_168, j_169, j_170, j_171, j_172, j_173, j_174, j_175, j_176, j_177, j_178, j_179, j_180, j_181, j_182, j_183, j_184, j_185, j_186, j_187, j_188, j_189, j_190, j_191, j_192, j_193, j_194, j_195, j_196, j_197, j_198, j_199, j_200, j_201, j_202, j_203, j_204, j_205, j_206, j_207, j_208, j_209, j_210, j_211, j_212, i_v, b_bv, i_lit, b_blit, i_add, i_sub, i_mul, i_div, i_mod, i_tdiv, i_tmod, i_ite, b_ite, b_lt, b_le, b_eq, b_not, b_and, b_or, b_iff, i_sel, a_tab, i_pow2, List.getD_cons_zero, List.getD_cons_succ, decide_eq_true_eq, decide_eq_false_iff_not, Bool.and_eq_true, Bool.or_eq_true, Bool.not_eq_true', Bool.not_eq_false', Bool.and_eq_false_iff, Bool.or_eq_false_iff, Bool.not_not, ite_tt, ite_ff, iff_tt, iff_ff, a_av, a_ite, a_upd] at hc0 ⊢
        omega
      ·
        refine ⟨?_, fun hc3 => ?_⟩
        ·
          simp only [j_0, j_1, j_2, j_3, j_4, j_5, j_6, j_7, j_8, j_9, j_10, j_11, j_12, j_13, j_14, j_15, j_16, j_17, j_18, j_19, j_20, j_21, j_22, j_23, j_24, j_25, j_26, j_27, j_28, j_29, j_30, j_31, j_32, j_33, j_34, j_35, j_36, j_37, j_38, j_39, j_40, j_41, j_42, j_43, j_44, j_45, j_46, j_47, j_48, j_49, j_50, j_51, j_52, j_53, j_54, j_55, j_56, j_57, j_58, j_59, j_60, j_61, j_62, j_63, j_64, j_65, j_66, j_67, j_68, j_69, j_70, j_71, j_72, j_73, j_74, j_75, j_76, j_77, j_78, j_79, j_80, j_81, j_82, j_83, j_84, j_85, j_86, j_87, j_88, j_89, j_90, j_91, j_92, j_93, j_94, j_95, j_96, j_97, j_98, j_99, j_100, j_101, j_102, j_103, j_104, j_105, j_106, j_107, j_108, j_109, j_110, j_111, j_112, j_113, j_114, j_115, j_116, j_117, j_118, j_119, j_120, j_121, j_122, j_123, j_124, j_125, j_126, j_127, j_128, j_129, j_130, j_131, j_132, j_133, j_134, j_135, j_136, j_137, j_138, j_139, j_140, j_141, j_142, j_143, j_144, j_145, j_146, j_147, j_148, j_149, j_150, j_151, j_152, j_153, j_154, j_155, j_156, j_157, j_158, j_159, j_160, j_161, j_162, j_163, j_164, j_165, j_166, j_167, j_168, j_169, j_170, j_171, j_172, j_173, j_174, j_175, j_176, j_177, j_178, j_179, j_180, j_181, j_182, j_183, j_184, j_185, j_186, j_187, j_188, j_189, j_190, j_191, j_192, j_193, j_194, j_195, j_196, j_197, j_198, j_199, j_200, j_201, j_202, j_203, j_204, j_205, j_206, j_207, j_208, j_209, j_210, j_211, j_212, i_v, b_bv, i_lit, b_blit, i_add, i_sub, i_mul, i_div, i_mod, i_tdiv, i_tmod, i_ite, b_ite, b_lt, b_le, b_eq, b_not, b_and, b_or, b_iff, i_sel, a_tab, i_pow2, List.getD_cons_zero, List.getD_cons_succ, decide_eq_true_eq, decide_eq_false_iff_not, Bool.and_eq_true, Bool.or_eq_true, Bool.not_eq_true', Bool.not_eq_false', Bool.and_eq_false_iff, Bool.or_eq_false_iff, Bool.not_not, ite_tt, ite_ff, iff_tt, iff_ff, a_av, a_ite, a_upd] at hc0 ⊢
          omega
        ·
          refine ⟨?_, fun hc4 => ?_⟩
          ·
            simp only [j_0, j_1, j_2, j_3, j_4, j_5, j_6, j_7, j_8, j_9, j_10, j_11, j_12, j_13, j_14, j_15, j_16, j_17, j_18, j_19, j_20, j_21, j_22, j_23, j_24, j_25, j_26, j_27, j_28, j_29, j_30, j_31, j_32, j_33, j_34, j_35, j_36, j_37, j_38, j_39, j_40, j_41, j_42, j_43, j_44, j_45, j_46, j_47, j_48, j_49, j_50, j_51, j_52, j_53, j_54, j_55, j_56, j_57, j_58, j_59, j_60, j_61, j_62, j_63, j_64, j_65, j_66, j_67, j_68, j_69, j_70, j_71, j_72, j_73, j_74, j_75, j_76, j_77, j_78, j_79, j_80, j_81, j_82, j_83, j_84, j_85, j_86, j_87, j_88, j_89, j_90, j_91, j_92, j_93, j_94, j_95, j_96, j_97, j_98, j_99, j_100, j_101, j_102, j_103, j_104, j_105, j_106, j_107, j_108, j_109, j_110, j_111, j_112, j_113, j_114, j_115, j_116, j_117, j_118, j_119, j_120, j_121, j_122, j_123, j_124, j_125, j_126, j_127, j_128, j_129, j_130, j_131, j_132, j_133, j_134, j_135, j_136, j_137, j_138, j_139, j_140, j_141, j_142, j_143, j_144, j_145, j_146, j_147, j_148, j_149, j_150, j_151, j_152, j_153, j_154, j_155, j_156, j_157, j_158, j_159, j_160, j_161, j_162, j_163, j_164, j_165, j_166, j_167, j_168, j_169, j_170, j_171, j_172, j_173, j_174, j_175, j_176, j_177, j_178, j_179, j_180, j_181, j_182, j_183, j_184, j_185, j_186, j_187, j_188, j_189, j_190, j_191, j_192, j_193, j_194, j_195, j_196, j_197, j_198, j_199, j_200, j_201, j_202, j_203, j_204, j_205, j_206, j_207, j_208, j_209, j_210, j_211, j_212, i_v, b_bv, i_lit, b_blit, i_add, i_sub, i_mul, i_div, i_mod, i_tdiv, i_tmod, i_ite, b_ite, b_lt, b_le, b_eq, b_not, b_and, b_or, b_iff, i_sel, a_tab, i_pow2, List.getD_cons_zero, List.getD_cons_succ, decide_eq_true_eq, decide_eq_false_iff_not, Bool.and_eq_true, Bool.or_eq_true, Bool.not_eq_true', Bool.not_eq_false', Bool.and_eq_false_iff, Bool.or_eq_false_iff, Bool.not_not, ite_tt, ite_ff, iff_tt, iff_ff, a_av, a_ite, a_upd] at hc0 ⊢
            omega
          ·
            refine ⟨?_, fun hc5 => ?_⟩
            ·
              simp only [j_0, j_1, j_2, j_3, j_4, j_5, j_6, j_7, j_8, j_9, j_10, j_11, j_12, j_13, j_14, j_15, j_16, j_17, j_18, j_19, j_20, j_21, j_22, j_23, j_24, j_25, j_26, j_27, j_28, j_29, j_30, j_31, j_32, j_33, j_34, j_35, j_36, j_37, j_38, j_39, j_40, j_41, j_42, j_43, j_44, j_45, j_46, j_47, j_48, j_49, j_50, j_51, j_52, j_53, j_54, j_55, j_56, j_57, j_58, j_59, j_60, j_61, j_62, j_63, j_64, j_65, j_66, j_67, j_68, j_69, j_70, j_71, j_72, j_73, j_74, j_75, j_76, j_77, j_78, j_79, j_80, j_81, j_82, j_83, j_84, j_85, j_86, j_87, j_88, j_89, j_90, j_91, j_92, j_93, j_94, j_95, j_96, j_97, j_98, j_99, j_100, j_101, j_102, j_103, j_104, j_105, j_106, j_107, j_108, j_109, j_110, j_111, j_112, j_113, j_114, j_115, j_116, j_117, j_118, j_119, j_120, j_121, j_122, j_123, j_124, j_125, j_126, j_127, j_128, j_129, j_130, j_131, j_132, j_133, j_134, j_135, j_136, j_137, j_138, j_139, j_140, j_141, j_142, j_143, j_144, j_145, j_146, j_147, j_148, j_149, j_150, j_151, j_152, j_153, j_154, j_155, j_156, j_157, j_158, j_159, j_160, j_161, j_162, j_163, j_164, j_165, j_166, j_167, j_168, j_169, j_170, j_171, j_172, j_173, j_174, j_175, j_176, j_177, j_178, j_179, j_180, j_181, j_182, j_183, j_184, j_185, j_186, j_187, j_188, j_189, j_190, j_191, j_192, j_193, j_194, j_195, j_196, j_197, j_198, j_199, j_200, j_201, j_202, j_203, j_204, j_205, j_206, j_207, j_208, j_209, j_210, j_211, j_212, i_v, b_bv, i_lit, b_blit, i_add, i_sub, i_mul, i_div, i_mod, i_tdiv, i_tmod, i_ite, b_ite, b_lt, b_le, b_eq, b_not, b_and, b_or, b_iff, i_sel, a_tab, i_pow2, List.getD_cons_zero, List.getD_cons_succ, decide_eq_true_eq, decide_eq_false_iff_not, Bool.and_eq_true, Bool.or_eq_true, Bool.not_eq_true', Bool.not_eq_false', Bool.and_eq_false_iff, Bool.or_eq_false_iff, Bool.not_not, ite_tt, ite_ff, iff_tt, iff_ff, a_av, a_ite, a_upd] at hc0 ⊢
              omega
            ·
              refine ⟨?_, fun hc6 => ?_⟩
              ·
                simp only [j_0, j_1, j_2, j_3, j_4, j_5, j_6, j_7, j_8, j_9, j_10, j_11, j_12, j_13, j_14, j_15, j_16, j_17, j_18, j_19, j_20, j_21, j_22, j_23, j_24, j_25, j_26, j_27, j_28, j_29, j_30, j_31, j_32, j_33, j_34, j_35, j_36, j_37, j_38, j_39, j_40, j_41, j_42, j_43, j_44, j_45, j_46, j_47, j_48, j_49, j_50, j_51, j_52, j_53, j_54, j_55, j_56, j_57, j_58, j_59, j_60, j_61, j_62, j_63, j_64, j_65, j_66, j_67, j_68, j_69, j_70, j_71, j_72, j_73, j_74, j_75, j_76, j_77, j_78, j_79, j_80, j_81, j_82, j_83, j_84, j_85, j_86, j_87, j_88, j_89, j_90, j_91, j_92, j_93, j_94, j_95, j_96, j_97, j_98, j_99, j_100, j_101, j_102, j_103, j_104, j_105, j_106, j_107, j_108, j_109, j_110, j_111, j_112, j_113, j_114, j_115, j_116, j_117, j_118, j_119, j_120, j_121, j_122, j_123, j_124, j_125, j_126, j_127, j_128, j_129, j_130, j_131, j_132, j_133, j_134, j_135, j_136, j_137, j_138, j_139, j_140, j_141, j_142, j_143, j_144, j_145, j_146, j_147, j_148, j_149, j_150, j_151, j_152, j_153, j_154, j_155, j_156, j_157, j_158, j_159, j_160, j_161, j_162, j_163, j_164, j_165, j_166, j_167, j_168, j_169, j_170, j_171, j_172, j_173, j_174, j_175, j_176, j_177, j_178, j_179, j_180, j_181, j_182, j_183, j_184, j_185, j_186, j_187, j_188, j_189, j_190, j_191, j_192, j_193, j_194, j_195, j_196, j_197, j_198, j_199, j_200, j_201, j_202, j_203, j_204, j_205, j_206, j_207, j_208, j_209, j_210, j_211, j_212, i_v, b_bv, i_lit, b_blit, i_add, i_sub, i_mul, i_div, i_mod, i_tdiv, i_tmod, i_ite, b_ite, b_lt, b_le, b_eq, b_not, b_and, b_or, b_iff, i_sel, a_tab, i_pow2, List.getD_cons_zero, List.getD_cons_succ, decide_eq_true_eq, decide_eq_false_iff_not, Bool.and_eq_true, Bool.or_eq_true, Bool.not_eq_true', Bool.not_eq_false', Bool.and_eq_false_iff, Bool.or_eq_false_iff, Bool.not_not, ite_tt, ite_ff, iff_tt, iff_ff, a_av, a_ite, a_upd] at hc0 ⊢
                omega
              ·
                refine ⟨?_, fun hc7 => ?_⟩
                ·
                  simp only [j_0, j_1, j_2, j_3, j_4, j_5, j_6, j_7, j_8, j_9, j_10, j_11, j_12, j_13, j_14, j_15, j_16, j_17, j_18, j_19, j_20, j_21, j_22, j_23, j_24, j_25, j_26, j_27, j_28, j_29, j_30, j_31, j_32, j_33, j_34, j_35, j_36, j_37, j_38, j_39, j_40, j_41, j_42, j_43, j_44, j_45, j_46, j_47, j_48, j_49, j_50, j_51, j_52, j_53, j_54, j_55, j_56, j_57, j_58, j_59, j_60, j_61, j_62, j_63, j_64, j_65, j_66, j_67, j_68, j_69, j_70, j_71, j_72, j_73, j_74, j_75, j_76, j_77, j_78, j_79, j_80, j_81, j_82, j_83, j_84, j_85, j_86, j_87, j_88, j_89, j_90, j_91, j_92, j_93, j_94, j_95, j_96, j_97, j_98, j_99, j_100, j_101, j_102, j_103, j_104, j_105, j_106, j_107, j_108, j_109, j_110, j_111, j_112, j_113, j_114, j_115, j_116, j_117, j_118, j_119, j_120, j_121, j_122, j_123, j_124, j_125, j_126, j_127, j_128, j_129, j_130, j_131, j_132, j_133, j_134, j_135, j_136, j_137, j_138, j_139, j_140, j_141, j_142, j_143, j_144, j_145, j_146, j_147, j_148, j_149, j_150, j_151, j_152, j_153, j_154, j_155, j_156, j_157, j_158, j_159, j_160, j_161, j_162, j_163, j_164, j_165, j_166, j_167, j_168, j_169, j_170, j_171, j_172, j_173, j_174, j_175, j_176, j_177, j_178, j_179, j_180, j_181, j_182, j_183, j_184, j_185, j_186, j_187, j_188, j_189, j_190, j_191, j_192, j_193, j_194, j_195, j_196, j_197, j_198, j_199, j_200, j_201, j_202, j_203, j_204, j_205, j_206, j_207, j_208, j_209, j_210, j_211, j_212, i_v, b_bv, i_lit, b_blit, i_add, i_sub, i_mul, i_div, i_mod, i_tdiv, i_tmod, i_ite, b_ite, b_lt, b_le, b_eq, b_not, b_and, b_or, b_iff, i_sel, a_tab, i_pow2, List.getD_cons_zero, List.getD_cons_succ, decide_eq_true_eq, decide_eq_false_iff_not, Bool.and_eq_true, Bool.or_eq_true, Bool.not_eq_true', Bool.not_eq_false', Bool.and_eq_false_iff, Bool.or_eq_false_iff, Bool.not_not, ite_tt, ite_ff, iff_tt, iff_ff, a_av, a_ite, a_upd] at hc0 ⊢
                  omega
                ·
                  refine ⟨?_, fun hc8 => ?_⟩
                  ·
                    simp only [j_0, j_1, j_2, j_3, j_4, j_5, j_6, j_7, j_8, j_9, j_10, j_11, j_12, j_13, j_14, j_15, j_16, j_17, j_18, j_19, j_20, j_21, j_22, j_23, j_24, j_25, j_26, j_27, j_28, j_29, j_30, j_31, j_32, j_33, j_34, j_35, j_36, j_37, j_38, j_39, j_40, j_41, j_42, j_43, j_44, j_45, j_46, j_47, j_48, j_49, j_50, j_51, j_52, j_53, j_54, j_55, j_56, j_57, j_58, j_59, j_60, j_61, j_62, j_63, j_64, j_65, j_66, j_67, j_68, j_69, j_70, j_71, j_72, j_73, j_74, j_75, j_76, j_77, j_78, j_79, j_80, j_81, j_82, j_83, j_84, j_85, j_86, j_87, j_88, j_89, j_90, j_91, j_92, j_93, j_94, j_95, j_96, j_97, j_98, j_99, j_100, j_101, j_102, j_103, j_104, j_105, j_106, j_107, j_108, j_109, j_110, j_111, j_112, j_113, j_114, j_115, j_116, j_117, j_118, j_119, j_120, j_121, j_122, j_123, j_124, j_125, j_126, j_127, j_128, j_129, j_130, j_131, j_132, j_133, j_134, j_135, j_136, j_137, j_138, j_139, j_140, j_141, j_142, j_143, j_144, j_145, j_146, j_147, j_148, j_149, j_150, j_151, j_152, j_153, j_154, j_155, j_156, j_157, j_158, j_159, j_160, j_161, j_162, j_163, j_164, j_165, j_166, j_167, j_168, j_169, j_170, j_171, j_172, j_173, j_174, j_175, j_176, j_177, j_178, j_179, j_180, j_181, j_182, j_183, j_184, j_185, j_186, j_187, j_188, j_189, j_190, j_191, j_192, j_193, j_194, j_195, j_196, j_197, j_198, j_199, j_200, j_201, j_202, j_203, j_204, j_205, j_206, j_207, j_208, j_209, j_210, j_211, j_212, i_v, b_bv, i_lit, b_blit, i_add, i_sub, i_mul, i_div, i_mod, i_tdiv, i_tmod, i_ite, b_ite, b_lt, b_le, b_eq, b_not, b_and, b_or, b_iff, i_sel, a_tab, i_pow2, List.getD_cons_zero, List.getD_cons_succ, decide_eq_true_eq, decide_eq_false_iff_not, Bool.and_eq_true, Bool.or_eq_true, Bool.not_eq_true', Bool.not_eq_false', Bool.and_eq_false_iff, Bool.or_eq_false_iff, Bool.not_not, ite_tt, ite_ff, iff_tt, iff_ff, a_av, a_ite, a_upd] at hc0 ⊢
                    omega
                  ·
                    refine ⟨?_, fun hc9 => ?_⟩
                    ·
                      simp only [j_0, j_1, j_2, j_3, j_4, j_5, j_6, j_7, j_8, j_9, j_10, j_11, j_12, j_13, j_14, j_15, j_16, j_17, j_18, j_19, j_20, j_21, j_22, j_23, j_24, j_25, j_26, j_27, j_28, j_29, j_30, j_31, j_32, j_33, j_34, j_35, j_36, j_37, j_38, j_39, j_40, j_41, j_42, j_43, j_44, j_45, j_46, j_47, j_48, j_49, j_50, j_51, j_52, j_53, j_54, j_55, j_56, j_57, j_58, j_59, j_60, j_61, j_62, j_63, j_64, j_65, j_66, j_67, j_68, j_69, j_70, j_71, j_72, j_73, j_74, j_75, j_76, j_77, j_78, j_79, j_80, j_81, j_82, j_83, j_84, j_85, j_86, j_87, j_88, j_89, j_90, j_91, j_92, j_93, j_94, j_95, j_96, j_97, j_98, j_99, j_100, j_101, j_102, j_103, j_104, j_105, j_106, j_107, j_108, j_109, j_110, j_111, j_112, j_113, j_114, j_115, j_116, j_117, j_118, j_119, j_120, j_121, j_122, j_123, j_124, j_125, j_126, j_127, j_128, j_129, j_130, j_131, j_132, j_133, j_134, j_135, j_136, j_137, j_138, j_139, j_140, j_141, j_142, j_143, j_144, j_145, j_146, j_147, j_148, j_149, j_150, j_151, j_152, j_153, j_154, j_155, j_156, j_157, j_158, j_159, j_160, j_161, j_162, j_163, j_164, j_165, j_166, j_167, j_168, j_169, j_170, j_171, j_172, j_173, j_174, j_175, j_176, j_177, j_178, j_179, j_180, j_181, j_182, j_183, j_184, j_185, j_186, j_187, j_188, j_189, j_190, j_191, j_192, j_193, j_194, j_195, j_196, j_197, j_198, j_199, j_200, j_201, j_202, j_203, j_204, j_205, j_206, j_207, j_208, j_209, j_210, j_211, j_212, i_v, b_bv, i_lit, b_blit, i_add, i_sub, i_mul, i_div, i_mod, i_tdiv, i_tmod, i_ite, b_ite, b_lt, b_le, b_eq, b_not, b_and, b_or, b_iff, i_sel, a_tab, i_pow2, List.getD_cons_zero, List.getD_cons_succ, decide_eq_true_eq, decide_eq_false_iff_not, Bool.and_eq_true, Bool.or_eq_true, Bool.not_eq_true', Bool.not_eq_false', Bool.and_eq_false_iff, Bool.or_eq_false_iff, Bool.not_not, ite_tt, ite_ff, iff_tt, iff_ff, a_av, a_ite, a_upd] at hc0 ⊢
                      omega
                    ·
                      refine ⟨?_, fun hc10 => ?_⟩
                      ·
                        simp only [j_0, j_1, j_2, j_3, j_4, j_5, j_6, j_7, j_8, j_9, j_10, j_11, j_12, j_13, j_14, j_15, j_16, j_17, j_18, j_19, j_20, j_21, j_22, j_23, j_24, j_25, j_26, j_27, j_28, j_29, j_30, j_31, j_32, j_33, j_34, j_35, j_36, j_37, j_38, j_39, j_40, j_41, j_42, j_43, j_44, j_45, j_46, j_47, j_48, j_49, j_50, j_51, j_52, j_53, j_54, j_55, j_56, j_57, j_58, j_59, j_60, j_61, j_62, j_63, j_64, j_65, j_66, j_67, j_68, j_69, j_70, j_71, j_72, j_73, j_74, j_75, j_76, j_77, j_78, j_79, j_80, j_81, j_82, j_83, j_84, j_85, j_86, j_87, j_88, j_89, j_90, j_91, j_92, j_93, j_94, j_95, j_96, j_97, j_98, j_99, j_100, j_101, j_102, j_103, j_104, j_105, j_106, j_107, j_108, j_109, j_110, j_111, j_112, j_113, j_114, j_115, j_116, j_117, j_118, j_119, j_120, j_121, j_122, j_123, j_124, j_125, j_126, j_127, j_128, j_129, j_130, j_131, j_132, j_133, j_134, j_135, j_136, j_137, j_138, j_139, j_140, j_141, j_142, j_143, j_144, j_145, j_146, j_147, j_148, j_149, j_150, j_151, j_152, j_153, j_154, j_155, j_156, j_157, j_158, j_159, j_160, j_161, j_162, j_163, j_164, j_165, j_166, j_167, j_168, j_169, j_170, j_171, j_172, j_173, j_174, j_175, j_176, j_177, j_178, j_179, j_180, j_181, j_182, j_183, j_184, j_185, j_186, j_187, j_188, j_189, j_190, j_191, j_192, j_193, j_194, j_195, j_196, j_197, j_198, j_199, j_200, j_201, j_202, j_203, j_204, j_205, j_206, j_207, j_208, j_209, j_210, j_211, j_212, i_v, b_bv, i_lit, b_blit, i_add, i_sub, i_mul, i_div, i_mod, i_tdiv, i_tmod, i_ite, b_ite, b_lt, b_le, b_eq, b_not, b_and, b_or, b_iff, i_sel, a_tab, i_pow2, List.getD_cons_zero, List.getD_cons_succ, decide_eq_true_eq, decide_eq_false_iff_not, Bool.and_eq_true, Bool.or_eq_true, Bool.not_eq_true', Bool.not_eq_false', Bool.and_eq_false_iff, Bool.or_eq_false_iff, Bool.not_not, ite_tt, ite_ff, iff_tt, iff_ff, a_av, a_ite, a_upd] at hc0 ⊢
                        omega
                      ·
                        refine ⟨?_, fun hc11 => ?_⟩
                        ·
                          simp only [j_0, j_1, j_2, j_3, j_4, j_5, j_6, j_7, j_8, j_9, j_10, j_11, j_12, j_13, j_14, j_15, j_16, j_17, j_18, j_19, j_20, j_21, j_22, j_23, j_24, j_25, j_26, j_27, j_28, j_29, j_30, j_31, j_32, j_33, j_34, j_35, j_36, j_37, j_38, j_39, j_40, j_41, j_42, j_43, j_44, j_45, j_46, j_47, j_48, j_49, j_50, j_51, j_52, j_53, j_54, j_55, j_56, j_57, j_58, j_59, j_60, j_61, j_62, j_63, j_64, j_65, j_66, j_67, j_68, j_69, j_70, j_71, j_72, j_73, j_74, j_75, j_76, j_77, j_78, j_79, j_80, j_81, j_82, j_83, j_84, j_85, j_86, j_87, j_88, j_89, j_90, j_91, j_92, j_93, j_94, j_95, j_96, j_97, j_98, j_99, j_100, j_101, j_102, j_103, j_104, j_105, j_106, j_107, j_108, j_109, j_110, j_111, j_112, j_113, j_114, j_115, j_116, j_117, j_118, j_119, j_120, j_121, j_122, j_123, j_124, j_125, j_126, j_127, j_128, j_129, j_130, j_131, j_132, j_133, j_134, j_135, j_136, j_137, j_138, j_139, j_140, j_141, j_142, j_143, j_144, j_145, j_146, j_147, j_148, j_149, j_150, j_151, j_152, j_153, j_154, j_155, j_156, j_157, j_158, j_159, j_160, j_161, j_162, j_163, j_164, j_165, j_166, j_167, j_168, j_169, j_170, j_171, j_172, j_173, j_174, j_175, j_176, j_177, j_178, j_179, j_180, j_181, j_182, j_183, j_184, j_185, j_186, j_187, j_188, j_189, j_190, j_191, j_192, j_193, j_194, j_195, j_196, j_197, j_198, j_199, j_200, j_201, j_202, j_203, j_204, j_205, j_206, j_207, j_208, j_209, j_210, j_211, j_212, i_v, b_bv, i_lit, b_blit, i_add, i_sub, i_mul, i_div, i_mod, i_tdiv, i_tmod, i_ite, b_ite, b_lt, b_le, b_eq, b_not, b_and, b_or, b_iff, i_sel, a_tab, i_pow2, List.getD_cons_zero, List.getD_cons_succ, decide_eq_true_eq, decide_eq_false_iff_not, Bool.and_eq_true, Bool.or_eq_true, Bool.not_eq_true', Bool.not_eq_false', Bool.and_eq_false_iff, Bool.or_eq_false_iff, Bool.not_not, ite_tt, ite_ff, iff_tt, iff_ff, a_av, a_ite, a_upd] at hc0 ⊢
                          omega
                        ·
                          refine ⟨j_hT0, ⟨_, _, _, _, _, _, _, _, _, _, _, _, _, _, _, rfl, hB, ?_⟩, ?_⟩
                          ·
                            simp only [j_Base] at hB
                            obtain ⟨b0, b1, b2, b3, b4, b5, _, _, _, _, _, _, ex0, ex1, _⟩ := hB
                            unfold j_J0
                            refine ⟨?_, rng_at hH (by kernel_rfl), arr_at hH (by kernel_rfl), arr_at hH (by kernel_rfl), arr_at hH (by kernel_rfl), arr_at hH (by kernel_rfl), arr_at hH (by kernel_rfl), arr_at hH (by kernel_rfl), arr_at hH (by kernel_rfl), trivial⟩
                            simp only [j_J0] at hJ
                            obtain ⟨l0, _⟩ := hJ
                            simp only [j_0, j_1, j_2, j_3, j_4, j_5, j_6, j_7, j_8, j_9, j_10, j_11, j_12, j_13, j_14, j_15, j_16, j_17, j_18, j_19, j_20, j_21, j_22, j_23, j_24, j_25, j_26, j_27, j_28, j_29, j_30, j_31, j_32, j_33, j_34, j_35, j_36, j_37, j_38, j_39, j_40, j_41, j_42, j_43, j_44, j_45, j_46, j_47, j_48, j_49, j_50, j_51, j_52, j_53, j_54, j_55, j_56, j_57, j_58, j_59, j_60, j_61, j_62, j_63, j_64, j_65, j_66, j_67, j_68, j_69, j_70, j_71, j_72, j_73, j_74, j_75, j_76, j_77, j_78, j_79, j_80, j_81, j_82, j_83, j_84, j_85, j_86, j_87, j_88, j_89, j_90, j_91, j_92, j_93, j_94, j_95, j_96, j_97, j_98, j_99, j_100, j_101, j_102, j_103, j_104, j_105, j_106, j_107, j_108, j_109, j_110, j_111, j_112, j_113, j_114, j_115, j_116, j_117, j_118, j_119, j_120, j_121, j_122, j_123, j_124, j_125, j_126, j_127, j_128, j_129, j_130, j_131, j_132, j_133, j_134, j_135, j_136, j_137, j_138, j_139, j_140, j_141, j_142, j_143, j_144, j_145, j_146, j_147, j_148, j_149, j_150, j_151, j_152, j_153, j_154, j_155, j_156, j_157, j_158, j_159, j_160, j_161, j_162, j_163, j_164, j_165, j_166, j_167, j_168, j_169, j_170, j_171, j_172, j_173, j_174, j_175, j_176, j_177, j_178, j_179, j_180, j_181, j_182, j_183, j_184, j_185, j_186, j_187, j_188, j_189, j_190, j_191, j_192, j_193, j_194, j_195, j_196, j_197, j_198, j_199, j_200, j_201, j_202, j_203, j_204, j_205, j_206, j_207, j_208, j_209, j_210, j_211, j_212, i_v, b_bv, i_lit, b_blit, i_add, i_sub, i_mul, i_div, i_mod, i_tdiv, i_tmod, i_ite, b_ite, b_lt, b_le, b_eq, b_not, b_and, b_or, b_iff, i_sel, a_tab, i_pow2, List.getD_cons_zero, List.getD_cons_succ, decide_eq_true_eq, decide_eq_false_iff_not, Bool.and_eq_true, Bool.or_eq_true, Bool.not_eq_true', Bool.not_eq_false', Bool.and_eq_false_iff, Bool.or_eq_false_iff, Bool.not_not, ite_tt, ite_ff, iff_tt, iff_ff, a_av, a_ite, a_upd] at hc0 ⊢
                            omega
                          simp only [j_Base] at hB
                          obtain ⟨b0, b1, b2, b3, b4, b5, _, _, _, _, _, _, ex0, ex1, _⟩ := hB
                          simp only [j_J0] at hJ
                          obtain ⟨l0, l1, l2, l3, l4, l5, l6, l7, l8, _⟩ := hJ
                          simp only [j_0, j_1, j_2, j_3, j_4, j_5, j_6, j_7, j_8, j_9, j_10, j_11, j_12, j_13, j_14, j_15, j_16, j_17, j_18, j_19, j_20, j_21, j_22, j_23, j_24, j_25, j_26, j_27, j_28, j_29, j_30, j_31, j_32, j_33, j_34, j_35, j_36, j_37, j_38, j_39, j_40, j_41, j_42, j_43, j_44, j_45, j_46, j_47, j_48, j_49, j_50, j_51, j_52, j_53, j_54, j_55, j_56, j_57, j_58, j_59, j_60, j_61, j_62, j_63, j_64, j_65, j_66, j_67, j_68, j_69, j_70, j_71, j_72, j_73, j_74, j_75, j_76, j_77, j_78, j_79, j_80, j_81, j_82, j_83, j_84, j_85, j_86, j_87, j_88, j_89, j_90, j_91, j_92, j_93, j_94, j_95, j_96, j_97, j_98, j_99, j_100, j_101, j_102, j_103, j_104, j_105, j_106, j_107, j_108, j_109, j_110, j_111, j_112, j_113, j_114, j_115, j_116, j_117, j_118, j_119, j_120, j_121, j_122, j_123, j_124, j_125, j_126, j_127, j_128, j_129, j_130, j_131, j_132, j_133, j_134, j_135, j_136, j_137, j_138, j_139, j_140, j_141, j_142, j_143, j_144, j_145, j_146, j_147, j_148, j_149, j_150, j_151, j_152, j_153, j_154, j_155, j_156, j_157, j_158, j_159, j_160, j_161, j_162, j_163, j_164, j_165, j_166, j_167, j_168, j_169, j_170, j_171, j_172, j_173, j_174, j_175, j_176, j_177, j_178, j_179, j_180, j_181, j_182, j_183, j_184, j_185, j_186, j_187, j_188, j_189, j_190, j_191, j_192, j_193, j_194, j_195, j_196, j_197, j_198, j_199, j_200, j_201, j_202, j_203, j_204, j_205, j_206, j_207, j_208, j_209, j_210, j_211, j_212, i_v, b_bv, i_lit, b_blit, i_add, i_sub, i_mul, i_div, i_mod, i_tdiv, i_tmod, i_ite, b_ite, b_lt, b_le, b_eq, b_not, b_and, b_or, b_iff, i_sel, a_tab, i_pow2, List.getD_cons_zero, List.getD_cons_succ, decide_eq_true_eq, decide_eq_false_iff_not, Bool.and_eq_true, Bool.or_eq_true, Bool.not_eq_true', Bool.not_eq_false', Bool.and_eq_false_iff, Bool.or_eq_false_iff, Bool.not_not, ite_tt, ite_ff, iff_tt, iff_ff, a_av, a_ite, a_upd] at hc0
                          simp only [j_mu, Env.app, setAll, List.map_cons, List.map_nil, List.set, List.getD_cons_zero, List.getD_cons_succ, j_0, j_1, j_2, j_3, j_4, j_5, j_6, j_7, j_8, j_9, j_10, j_11, j_12, j_13, j_14, j_15, j_16, j_17, j_18, j_19, j_20, j_21, j_22, j_23, j_24, j_25, j_26, j_27, j_28, j_29, j_30, j_31, j_32, j_33, j_34, j_35, j_36, j_37, j_38, j_39, j_40, j_41, j_42, j_43, j_44, j_45, j_46, j_47, j_48, j_49, j_50, j_51, j_52, j_53, j_54, j_55, j_56, j_57, j_58, j_59, j_60, j_61, j_62, j_63, j_64, j_65, j_66, j_67, j_68, j_69, j_70, j_71, j_72, j_73, j_74, j_75, j_76, j_77, j_78, j_79, j_80, j_81, j_82, j_83, j_84, j_85, j_86, j_87, j_88, j_89, j_90, j_91, j_92, j_93, j_94, j_95, j_96, j_97, j_98, j_99, j_100, j_101, j_102, j_103, j_104, j_105, j_106, j_107, j_108, j_109, j_110, j_111, j_112, j_113, j_114, j_115, j_116, j_117, j_118, j_119, j_120, j_121, j_122, j_123, j_124, j_125, j_126, j_127, j_128, j_129, j_130, j_131, j_132, j_133, j_134, j_135, j_136, j_137, j_138, j_139, j_140, j_141, j_142, j_143, j_144, j_145, j_146, j_147, j_148, j_149, j_150, j_151, j_152, j_153, j_154, j_155, j_156, j_157, j_158, j_159, j_160, j_161, j_162, j_163, j_164, j_165, j_166, j_167, j_168, j_169, j_170, j_171, j_172, j_173, j_174, j_175, j_176, j_177, j_178, j_179, j_180, j_181, j_182, j_183, j_184, j_185, j_186, j_187, j_188, j_189, j_190, j_191, j_192, j_193, j_194, j_195, j_196, j_197, j_198, j_199, j_200, j_201, j_202, j_203, j_204, j_205, j_206, j_207, j_208, j_209, j_210, j_211, j_212, i_v, b_bv, i_lit, b_blit, i_add, i_sub, i_mul, i_div, i_mod, i_tdiv, i_tmod, i_ite, b_ite, b_lt, b_le, b_eq, b_not, b_and, b_or, b_iff, i_sel, a_tab, i_pow2, List.getD_cons_zero, List.getD_cons_succ, decide_eq_true_eq, decide_eq_false_iff_not, Bool.and_eq_true, Bool.or_eq_true, Bool.not_eq_true', Bool.not_eq_false', Bool.and_eq_false_iff, Bool.or_eq_false_iff, Bool.not_not, ite_tt, ite_ff, iff_tt, iff_ff, a_av, a_ite, a_upd]
                          omega
  ·
    first
      | rfl
      | (exfalso
         simp only [j_Base] at hB
         obtain ⟨b0, b1, b2, b3, b4, b5, _⟩ := hB
         have b6 := b2 0
         simp only [j_0, j_1, j_2, j_3, j_4, j_5, j_6, j_7, j_8, j_9, j_10, j_11, j_12, j_13, j_14, j_15, j_16, j_17, j_18, j_19, j_20, j_21, j_22, j_23, j_24, j_25, j_26, j_27, j_28, j_29, j_30, j_31, j_32, j_33, j_34, j_35, j_36, j_37, j_38, j_39, j_40, j_41, j_42, j_43, j_44, j_45, j_46, j_47, j_48, j_49, j_50, j_51, j_52, j_53, j_54, j_55, j_56, j_57, j_58, j_59, j_60, j_61, j_62, j_63, j_64, j_65, j_66, j_67, j_68, j_69, j_70, j_71, j_72, j_73, j_74, j_75, j_76, j_77, j_78, j_79, j_80, j_81, j_82, j_83, j_84, j_85, j_86, j_87, j_88, j_89, j_90, j_91, j_92, j_93, j_94, j_95, j_96, j_97, j_98, j_99, j_100, j_101, j_102, j_103, j_104, j_105, j_106, j_107, j_108, j_109, j_110, j_111, j_112, j_113, j_114, j_115, j_116, j_117, j_118, j_119, j_120, j_121, j_122, j_123, j_124, j_125, j_126, j_127, j_128, j_129, j_130, j_131, j_132, j_133, j_134, j_135, j_136, j_137, j_138, j_139, j_140, j_141, j_142, j_143, j_144, j_145, j_146, j_147, j_148, j_149, j_150, j_151, j_152, j_153, j_154, j_155, j_156, j_157, j_158, j_159, j_160, j_161, j_162, j_163, j_164, j_165, j_166, j_167, j_168, j_169, j_170, j_171, j_172, j_173, j_174, j_175, j_176, j_177, j_178, j_179, j_180, j_181, j_182, j_183, j_184, j_185, j_186, j_187, j_188, j_189, j_190, j_191, j_192, j_193, j_194, j_195, j_196, j_197, j_198, j_199, j_200, j_201, j_202, j_203, j_204, j_205, j_206, j_207, j_208, j_209, j_210, j_211, j_212, i_v, b_bv, i_lit, b_blit, i_add, i_sub, i_mul, i_div, i_mod, i_tdiv, i_tmod, i_ite, b_ite, b_lt, b_le, b_eq, b_not, b_and, b_or, b_iff, i_sel, a_tab, i_pow2, List.getD_cons_zero, List.getD_cons_succ, decide_eq_true_eq, decide_eq_false_iff_not, Bool.and_eq_true, Bool.or_eq_true, Bool.not_eq_true', Bool.not_eq_false', Bool.and_eq_false_iff, Bool.or_eq_false_iff, Bool.not_not, ite_tt, ite_ff, iff_tt, iff_ff, a_av, a_ite, a_upd, Int.toNat_zero] at hc0
         omega)
theorem j_vcS (x0 : Ext) (x1 : Ext) (nx0 nx1 : Int) (Ax0 Ax1_0 Ax1_1 Ax1_2 : Nat → Int) (hB : j_Base x0 x1 nx0 nx1 Ax0 Ax1_0 Ax1_1 Ax1_2) :
    LT.holds (⟨[nx0, nx1, 0, 0], [], [Ax0, Ax1_0, Ax1_1, Ax1_2, fun _ => 0, fun _ => 0, fun _ => 0, fun _ => 0, fun _ => 0, fun _ => 0, fun _ => 0], [], Iv (fun i j => match i, j with | 0, 0 => x0 | 1, 0 => x1 | _, _ => Ext.none)⟩ : Env) (fun v _ => retTrue (⟨[nx0, nx1, 0, 0], [], [Ax0, Ax1_0, Ax1_1, Ax1_2, fun _ => 0, fun _ => 0, fun _ => 0, fun _ => 0, fun _ => 0, fun _ => 0, fun _ => 0], [], Iv (fun i j => match i, j with | 0, 0 => x0 | 1, 0 => x1 | _, _ => Ext.none)⟩ : Env) v) (fun j' todo ρ' => (j_hs[j']?.map (·.todo)) = some todo ∧ j_Inv x0 x1 j' ρ') (.jump 0 j_T0 ⟨[(3, (.lit 128)), (2, (.lit 0))], [], [(10, (.tab [])), (9, (.tab [])), (8, (.tab [])), (7, (.tab [])), (6, (.tab [])), (5, (.tab [])), (4, (.tab []))]⟩) := by
  simp only [LT.holds, retTrue]
  refine ⟨j_hT0, _, _, _, _, _, _, _, _, _, _, _, _, _, _, _, rfl, hB, ?_⟩
  ·
    simp only [j_0, j_1, j_2, j_3, j_4, j_5, j_6, j_7, j_8, j_9, j_10, j_11, j_12, j_13, j_14, j_15, j_16, j_17, j_18, j_19, j_20, j_21, j_22, j_23, j_24, j_25, j_26, j_27, j_28, j_29, j_30, j_31, j_32, j_33, j_34, j_35, j_36, j_37, j_38, j_39, j_40, j_41, j_42, j_43, j_44, j_45, j_46, j_47, j_48, j_49, j_50, j_51, j_52, j_53, j_54, j_55, j_56, j_57, j_58, j_59, j_60, j_61, j_62, j_63, j_64, j_65, j_66, j_67, j_68, j_69, j_70, j_71, j_72, j_73, j_74, j_75, j_76, j_77, j_78, j_79, j_80, j_81, j_82, j_83, j_84, j_85, j_86, j_87, j_88, j_89, j_90, j_91, j_92, j_93, j_94, j_95, j_96, j_97, j_98, j_99, j_100, j_101, j_102, j_103, j_104, j_105, j_106, j_107, j_108, j_109, j_110, j_111, j_112, j_113, j_114, j_115, j_116, j_117, j_118, j_119, j_120, j_121, j_122, j_123, j_124, j_125, j_126, j_127, j_128, j_129, j_130, j_131, j_132, j_133, j_134, j_135, j_136, j_137, j_138, j_139, j_140, j_141, j_142, j_143, j_144, j_145, j_146, j_147, j_148, j_149, j_150, j_151, j_152, j_153, j_154, j_155, j_156, j_157, j_158, j_159, j_160, j_161, j_162, j_163, j_164, j_165, j_166, j_167, j_168, j_169, j_170, j_171, j_172, j_173, j_174, j_175, j_176, j_177, j_178, j_179, j_180, j_181, j_182, j_183, j_184, j_185, j_186, j_187, j_188, j_189, j_190, j_191, j_192, j_193, j_194, j_195, j_196, j_197, j_198, j_199, j_200, j_201, j_202, j_203, j_204, j_205, j_206, j_207, j_208, j_209, j_210, j_211, j_212, j_J0, i_v, b_bv, i_lit, b_blit, i_add, i_sub, i_mul, i_div, i_mod, i_tdiv, i_tmod, i_ite, b_ite, b_lt, b_le, b_eq, b_not, b_and, b_or, b_iff, i_sel, a_tab, i_pow2, List.getD_cons_zero, List.getD_cons_succ, decide_eq_true_eq, decide_eq_false_iff_not, Bool.and_eq_true, Bool.or_eq_true, Bool.not_eq_true', Bool.not_eq_false', Bool.and_eq_false_iff, Bool.or_eq_false_iff, Bool.not_not, ite_tt, ite_ff, iff_tt, iff_ff, a_av, a_ite, a_upd]
    refine ⟨?_, ?_, ?_, ?_, ?_, ?_, ?_, ?_, ?_, trivial⟩
    all_goals first | omega | (intro j; simp) 
theorem j_calls (x0 : Ext) (x1 : Ext) (hex0 : 24 ≤ ((x0.n : Int)) ∧ ((x0.n : Int)) ≤ 1048575) (hex1 : 0 ≤ ((x1.n : Int)) ∧ ((x1.n : Int)) ≤ 1048575) (w : World) (g0 : XFit x0 w [some .u8]) (g1 : XFit x1 w [some .i64, some .i64, some .u8]) :
    Calls Try.prog 7 #[x0.v, x1.v] w fun r w' => r = .returned (.bool true) ∧ Below w.heap.size w w' := by
  have hx0 : SV.conc (⟨[(x0.n : Int), (x1.n : Int), 0, 0], [], [xArr x0 1 0, xArr x1 3 0, xArr x1 3 1, xArr x1 3 2, fun _ => 0, fun _ => 0, fun _ => 0, fun _ => 0, fun _ => 0, fun _ => 0, fun _ => 0], [], Iv (fun i j => match i, j with | 0, 0 => x0 | 1, 0 => x1 | _, _ => Ext.none)⟩ : Env) Loc.id (.s (.xslc 0 (.lit 0) (.lit 0) (.v 0))) = x0.v := conc_ext g0 rfl rfl
  have hx1 : SV.conc (⟨[(x0.n : Int), (x1.n : Int), 0, 0], [], [xArr x0 1 0, xArr x1 3 0, xArr x1 3 1, xArr x1 3 2, fun _ => 0, fun _ => 0, fun _ => 0, fun _ => 0, fun _ => 0, fun _ => 0, fun _ => 0], [], Iv (fun i j => match i, j with | 0, 0 => x0 | 1, 0 => x1 | _, _ => Ext.none)⟩ : Env) Loc.id (.s (.xslc 1 (.lit 0) (.lit 0) (.v 1))) = x1.v := conc_ext g1 rfl rfl
  have hargs : (j_Ls.map (SV.conc (⟨[(x0.n : Int), (x1.n : Int), 0, 0], [], [xArr x0 1 0, xArr x1 3 0, xArr x1 3 1, xArr x1 3 2, fun _ => 0, fun _ => 0, fun _ => 0, fun _ => 0, fun _ => 0, fun _ => 0, fun _ => 0], [], Iv (fun i j => match i, j with | 0, 0 => x0 | 1, 0 => x1 | _, _ => Ext.none)⟩ : Env) Loc.id)).toArray = #[x0.v, x1.v] := by
    refine congrArg List.toArray ?_
    exact (cons_eq hx0 (cons_eq hx1 rfl))
  rw [← hargs]
  have hok : Hyp.ok j_Hy (⟨[(x0.n : Int), (x1.n : Int), 0, 0], [], [xArr x0 1 0, xArr x1 3 0, xArr x1 3 1, xArr x1 3 2, fun _ => 0, fun _ => 0, fun _ => 0, fun _ => 0, fun _ => 0, fun _ => 0, fun _ => 0], [], Iv (fun i j => match i, j with | 0, 0 => x0 | 1, 0 => x1 | _, _ => Ext.none)⟩ : Env) := by
    refine ⟨?_, ?_, ?_, (fun p hp is bs xs => by simp only [j_Hy, List.mem_cons, List.not_mem_nil, or_false] at hp; subst hp; exact sumF_rng _ _), ?_, by simp [j_Hy]⟩
    · intro p hp
      simp only [j_Hy, List.mem_cons, List.not_mem_nil, or_false] at hp
      rcases hp with rfl | rfl
      · exact xi_ok g0 rfl rfl rfl
      · exact (xi_okN (n := .v 1) [.i64, .i64, .u8] [1, 2, 3] g1 (by decide) rfl rfl rfl (fun f a h => by rcases f with _ | _ | _ | f <;> simp only [List.getElem?_cons_zero, List.getElem?_cons_succ, List.getElem?_nil, Option.some.injEq, reduceCtorEq] at h <;> subst h <;> first | exact rfl | exact rfl | exact rfl))
    · intro p hp
      simp only [j_Hy, List.mem_cons, List.not_mem_nil, or_false] at hp
      rcases hp with rfl | rfl | rfl | rfl
      · exact (by have hx := hex0; first | exact ⟨Int.le_of_eq hx.symm, Int.le_of_eq hx⟩ | exact hx)
      · exact (by have hx := hex1; first | exact ⟨Int.le_of_eq hx.symm, Int.le_of_eq hx⟩ | exact hx)
      · exact xlen_rng g0
      · exact xlen_rng g1
    · intro p hp
      simp only [j_Hy, List.mem_cons, List.not_mem_nil, or_false] at hp
      rcases hp with rfl | rfl | rfl | rfl
      · exact xArr_rng g0
      · exact xArr_rngN [.i64, .i64, .u8] g1 0 rfl
      · exact xArr_rngN [.i64, .i64, .u8] g1 1 rfl
      · exact xArr_rngN [.i64, .i64, .u8] g1 2 rfl
    · simp [j_Hy]
  refine law_loops (D := j_D) (hs := j_hs) (ρ := (⟨[(x0.n : Int), (x1.n : Int), 0, 0], [], [xArr x0 1 0, xArr x1 3 0, xArr x1 3 1, xArr x1 3 2, fun _ => 0, fun _ => 0, fun _ => 0, fun _ => 0, fun _ => 0, fun _ => 0, fun _ => 0], [], Iv (fun i j => match i, j with | 0, 0 => x0 | 1, 0 => x1 | _, _ => Ext.none)⟩ : Env)) (G_ok _) (by kernel_rfl) rfl (j_Inv x0 x1 ) j_mu j_st rfl ⟨rfl, rfl, rfl⟩ hok (j_vcS x0 x1 ((x0.n : Int)) ((x1.n : Int)) (xArr x0 1 0) (xArr x1 3 0) (xArr x1 3 1) (xArr x1 3 2) ⟨xlen_rng g0, xlen_rng g1, xArr_rng g0, xArr_rngN [.i64, .i64, .u8] g1 0 rfl, xArr_rngN [.i64, .i64, .u8] g1 1 rfl, xArr_rngN [.i64, .i64, .u8] g1 2 rfl, rfl, rfl, rfl, rfl, rfl, rfl, hex0, hex1, trivial⟩) ?_ w (fun i j => by rcases i with _ | _ | i <;> rcases j with _ | j <;> first | exact Ext.none_ok _ | exact g0.ok | exact g1.ok)
  intro j h ρ hj hI hz hInv
  rcases j with _ | j
  · simp only [j_hs, List.getElem?_cons_zero, List.getElem?_cons_succ, Option.some.injEq] at hj; subst hj
    obtain ⟨nx0, nx1, y2, y3, Ax0, Ax1_0, Ax1_1, Ax1_2, Z4, Z5, Z6, Z7, Z8, Z9, Z10, rfl, hB, hJ⟩ := hInv
    have hok2 : Hyp.ok j_h0.H (⟨[nx0, nx1, y2, y3], [], [Ax0, Ax1_0, Ax1_1, Ax1_2, Z4, Z5, Z6, Z7, Z8, Z9, Z10], [], Iv (fun i j => match i, j with | 0, 0 => x0 | 1, 0 => x1 | _, _ => Ext.none)⟩ : Env) := by
      have hB2 := hB; have hJ2 := hJ
      simp only [j_Base] at hB2; simp only [j_J0] at hJ2
      obtain ⟨hb0, hb1, hb2, hb3, hb4, hb5, hn0, hn1, ha0_0, ha1_0, ha1_1, ha1_2, hex0, hex1, _⟩ := hB2
      obtain ⟨hl0, hl1, hl2, hl3, hl4, hl5, hl6, hl7, hl8, _⟩ := hJ2
      refine ⟨?_, ?_, ?_, (fun p hp is bs xs => by simp only [j_h0, List.mem_cons, List.not_mem_nil, or_false] at hp; subst hp; exact sumF_rng _ _), ?_, by simp [j_h0]⟩
      · intro p hp
        simp only [j_h0, List.mem_cons, List.not_mem_nil, or_false] at hp
        rcases hp with rfl | rfl
        · exact xi_ok g0 rfl hn0 ha0_0
        · exact (xi_okN (n := .v 1) [.i64, .i64, .u8] [1, 2, 3] g1 (by decide) rfl rfl hn1 (fun f a h => by rcases f with _ | _ | _ | f <;> simp only [List.getElem?_cons_zero, List.getElem?_cons_succ, List.getElem?_nil, Option.some.injEq, reduceCtorEq] at h <;> subst h <;> first | exact ha1_0 | exact ha1_1 | exact ha1_2))
      · intro p hp
        simp only [j_h0, List.mem_cons, List.not_mem_nil, or_false] at hp
        rcases hp with rfl | rfl | rfl | rfl | rfl | rfl
        · exact (by have hx := hex0; first | exact ⟨Int.le_of_eq hx.symm, Int.le_of_eq hx⟩ | exact hx)
        · exact (by have hx := hex1; first | exact ⟨Int.le_of_eq hx.symm, Int.le_of_eq hx⟩ | exact hx)
        · exact hb0
        · exact hb1
        · exact hl0
        · exact hl1
      · intro p hp
        simp only [j_h0, List.mem_cons, List.not_mem_nil, or_false] at hp
        rcases hp with rfl | rfl | rfl | rfl | rfl | rfl | rfl | rfl | rfl | rfl | rfl
        · exact hb2
        · exact hb3
        · exact hb4
        · exact hb5
        · exact hl2
        · exact hl3
        · exact hl4
        · exact hl5
        · exact hl6
        · exact hl7
        · exact hl8
      · simp [j_h0]
    exact ⟨hok2, LT.of_bare j_sg0 (j_vc0 x0 x1 nx0 nx1 y2 y3 Ax0 Ax1_0 Ax1_1 Ax1_2 Z4 Z5 Z6 Z7 Z8 Z9 Z10 hB hJ hok2)⟩
  · simp [j_hs] at hj
end Go.Proofs.Ytngbibifiadgiaa.TickLoads
