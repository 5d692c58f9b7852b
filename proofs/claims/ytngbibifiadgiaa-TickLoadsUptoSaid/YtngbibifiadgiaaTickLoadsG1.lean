/- A part of the law TickLoads, which returns true for every input. Bytes are taken, if they are a state, and refused if not, and then all is as it was; what was taken is saved again with the same bytes. Where what comes in is of bulk at most 1048576. No condition. -/
import Derived.Test.YtngbibifiadgiaaTickLoads0
namespace Go.Proofs.Ytngbibifiadgiaa.TickLoads
open Go.Sx Go.ChangeShapes Go.WideShapes Go.ChangeAt Go.RowKit
set_option linter.unusedVariables false
set_option linter.unusedSimpArgs false
set_option maxRecDepth 100000
def h_Hy : Hyp := ⟨[((.v 0), (1, 1)), ((.v 1), (0, 1048575)), (.v 0, (0, 9223372036854775807)), (.v 1, (0, 9223372036854775807))], [(0, (0, 255)), (1, (-9223372036854775808, 9223372036854775807)), (2, (-9223372036854775808, 9223372036854775807)), (3, (0, 255))], [(10, (0, 4294967295))], [], [], [(0, ⟨.lit 1, [(some .u8, .av 0)]⟩), (1, ⟨.v 1, [(some .i64, .av 1), (some .i64, .av 2), (some .u8, .av 3)]⟩)]⟩
def h_Ls : List SV := [.s (.xslc 0 (.lit 0) (.lit 0) (.lit 1)), .s (.xslc 1 (.lit 0) (.lit 0) (.v 1))]
def h_0 : E := .lt (.v 2) (.v 1)
def h_1 : E := .sel (.av 2) (.v 2)
def h_2 : E := .add h_1 (.lit 252)
def h_3 : E := .mod h_2 (.lit 256)
def h_4 : E := .le h_3 (.lit 3)
def h_5 : E := .mod h_1 (.lit 256)
def h_6 : E := .eq h_5 (.lit 1)
def h_7 : E := .or h_4 h_6
def h_8 : E := .eq h_5 (.lit 4)
def h_9 : E := .eq h_5 (.lit 5)
def h_10 : E := .eq h_5 (.lit 6)
def h_11 : E := .eq h_5 (.lit 7)
def h_12 : E := .ite h_10 h_10 h_11
def h_13 : E := .ite h_9 h_9 h_12
def h_14 : E := .ite h_8 h_8 h_13
def h_15 : E := .not h_14
def h_16 : E := .or h_7 h_15
def h_17 : E := .add h_1 (.lit 248)
def h_18 : E := .mod h_17 (.lit 256)
def h_19 : E := .le h_18 (.lit 1)
def h_20 : E := .or h_14 h_19
def h_21 : E := .or h_20 h_6
def h_22 : E := .eq h_5 (.lit 8)
def h_23 : E := .eq h_5 (.lit 9)
def h_24 : E := .ite h_22 h_22 h_23
def h_25 : E := .not h_24
def h_26 : E := .or h_21 h_25
def h_27 : E := .le (.lit 4) h_3
def h_28 : E := .and h_14 h_27
def h_29 : E := .not h_6
def h_30 : E := .and h_28 h_29
def h_31 : E := .or h_26 h_30
def h_32 : E := .or h_14 h_24
def h_33 : E := .add h_1 (.lit 246)
def h_34 : E := .mod h_33 (.lit 256)
def h_35 : E := .le h_34 (.lit 2)
def h_36 : E := .or h_32 h_35
def h_37 : E := .or h_36 h_6
def h_38 : E := .eq h_5 (.lit 10)
def h_39 : E := .eq h_5 (.lit 11)
def h_40 : E := .eq h_5 (.lit 12)
def h_41 : E := .ite h_39 h_39 h_40
def h_42 : E := .ite h_38 h_38 h_41
def h_43 : E := .not h_42
def h_44 : E := .or h_37 h_43
def h_45 : E := .or h_44 h_30
def h_46 : E := .le (.lit 2) h_18
def h_47 : E := .and h_24 h_46
def h_48 : E := .and h_47 h_15
def h_49 : E := .and h_48 h_29
def h_50 : E := .or h_45 h_49
def h_51 : E := .sel (.av 3) (.v 2)
def h_52 : E := .div h_51 (.lit 128)
def h_53 : E := .mul h_52 (.lit 128)
def h_54 : E := .mod h_51 (.lit 8)
def h_55 : E := .add h_53 h_54
def h_56 : E := .ite h_6 h_55 (.v 3)
def h_57 : E := .add (.v 2) (.lit 1)
def h_58 : E := .or h_14 h_6
def h_59 : E := .sel (.av 10) h_18
def h_60 : E := .ite h_24 h_51 h_59
def h_61 : E := .ite h_58 h_59 h_60
def h_62 : E := .upd (.av 10) h_18 h_61
def h_63 : E := .sel (.av 9) h_3
def h_64 : E := .ite h_14 h_51 h_63
def h_65 : E := .ite h_6 h_63 h_64
def h_66 : E := .upd (.av 9) h_3 h_65
def h_67 : E := .div h_51 (.lit 16)
def h_68 : E := .mod h_67 (.lit 4)
def h_69 : E := .eq h_68 (.lit 1)
def h_70 : E := .eq h_68 (.lit 3)
def h_71 : E := .or h_69 h_70
def h_72 : E := .sel (.av 8) (.lit 0)
def h_73 : E := .ite h_71 (.lit 0) h_72
def h_74 : E := .ite h_6 h_73 h_72
def h_75 : E := .upd (.av 8) (.lit 0) h_74
def h_76 : E := .sel (.av 8) (.lit 1)
def h_77 : E := .ite h_71 (.lit 0) h_76
def h_78 : E := .ite h_6 h_77 h_76
def h_79 : E := .upd h_75 (.lit 1) h_78
def h_80 : E := .sel (.av 8) (.lit 2)
def h_81 : E := .eq h_68 (.lit 2)
def h_82 : E := .ite h_81 (.lit 0) h_80
def h_83 : E := .ite h_69 h_80 h_82
def h_84 : E := .ite h_70 (.lit 0) h_83
def h_85 : E := .ite h_6 h_84 h_80
def h_86 : E := .upd h_79 (.lit 2) h_85
def h_87 : E := .sel (.av 8) (.lit 3)
def h_88 : E := .ite h_81 (.lit 0) h_87
def h_89 : E := .ite h_69 h_87 h_88
def h_90 : E := .ite h_70 (.lit 0) h_89
def h_91 : E := .ite h_6 h_90 h_87
def h_92 : E := .upd h_86 (.lit 3) h_91
def h_93 : E := .sel (.av 5) (.lit 0)
def h_94 : E := .add h_93 (.lit 1)
def h_95 : E := .div h_94 (.lit 128)
def h_96 : E := .mod h_95 (.lit 2)
def h_97 : E := .eq h_96 (.lit 0)
def h_98 : E := .mod h_56 (.lit 2)
def h_99 : E := .eq h_98 (.lit 0)
def h_100 : E := .or h_97 h_99
def h_101 : E := .mod h_51 (.lit 2)
def h_102 : E := .eq h_101 (.lit 0)
def h_103 : E := .mod (.v 3) (.lit 2)
def h_104 : E := .eq h_103 (.lit 0)
def h_105 : E := .not h_104
def h_106 : E := .or h_102 h_105
def h_107 : E := .sel (.av 7) (.lit 0)
def h_108 : E := .ite h_106 h_107 (.lit 0)
def h_109 : E := .ite h_6 h_108 h_107
def h_110 : E := .sel (.av 6) (.lit 0)
def h_111 : E := .ite h_106 h_110 (.lit 0)
def h_112 : E := .ite h_6 h_111 h_110
def h_113 : E := .add h_112 (.lit 1)
def h_114 : E := .mod h_113 (.lit 256)
def h_115 : E := .eq h_34 (.lit 0)
def h_116 : E := .or h_32 h_6
def h_117 : E := .sel (.av 4) h_34
def h_118 : E := .ite h_42 h_51 h_117
def h_119 : E := .ite h_116 h_117 h_118
def h_120 : E := .sel (.av 4) (.lit 0)
def h_121 : E := .ite h_115 h_119 h_120
def h_122 : E := .eq h_114 h_121
def h_123 : E := .add h_109 (.lit 1)
def h_124 : E := .mod h_123 (.lit 16)
def h_125 : E := .ite h_122 h_124 h_109
def h_126 : E := .ite h_100 h_109 h_125
def h_127 : E := .upd (.av 7) (.lit 0) h_126
def h_128 : E := .sel (.av 5) (.lit 1)
def h_129 : E := .add h_128 (.lit 1)
def h_130 : E := .div h_129 (.lit 128)
def h_131 : E := .mod h_130 (.lit 2)
def h_132 : E := .eq h_131 (.lit 0)
def h_133 : E := .div h_56 (.lit 2)
def h_134 : E := .mod h_133 (.lit 2)
def h_135 : E := .eq h_134 (.lit 0)
def h_136 : E := .or h_132 h_135
def h_137 : E := .div h_51 (.lit 2)
def h_138 : E := .mod h_137 (.lit 2)
def h_139 : E := .eq h_138 (.lit 0)
def h_140 : E := .div (.v 3) (.lit 2)
def h_141 : E := .mod h_140 (.lit 2)
def h_142 : E := .eq h_141 (.lit 0)
def h_143 : E := .not h_142
def h_144 : E := .or h_139 h_143
def h_145 : E := .sel (.av 7) (.lit 1)
def h_146 : E := .ite h_144 h_145 (.lit 0)
def h_147 : E := .ite h_6 h_146 h_145
def h_148 : E := .sel (.av 6) (.lit 1)
def h_149 : E := .ite h_144 h_148 (.lit 0)
def h_150 : E := .ite h_6 h_149 h_148
def h_151 : E := .add h_150 (.lit 1)
def h_152 : E := .mod h_151 (.lit 256)
def h_153 : E := .eq h_34 (.lit 1)
def h_154 : E := .sel (.av 4) (.lit 1)
def h_155 : E := .ite h_153 h_119 h_154
def h_156 : E := .eq h_152 h_155
def h_157 : E := .add h_147 (.lit 1)
def h_158 : E := .mod h_157 (.lit 16)
def h_159 : E := .ite h_156 h_158 h_147
def h_160 : E := .ite h_136 h_147 h_159
def h_161 : E := .upd h_127 (.lit 1) h_160
def h_162 : E := .sel (.av 5) (.lit 2)
def h_163 : E := .add h_162 (.lit 1)
def h_164 : E := .mod h_163 (.lit 256)
def h_165 : E := .le h_164 (.lit 15)
def h_166 : E := .div h_56 (.lit 4)
def h_167 : E := .mod h_166 (.lit 2)
def h_168 : E := .eq h_167 (.lit 0)
def h_169 : E := .or h_165 h_168
def h_170 : E := .div h_51 (.lit 4)
def h_171 : E := .mod h_170 (.lit 2)
def h_172 : E := .eq h_171 (.lit 0)
def h_173 : E := .div (.v 3) (.lit 4)
def h_174 : E := .mod h_173 (.lit 2)
def h_175 : E := .eq h_174 (.lit 0)
def h_176 : E := .not h_175
def h_177 : E := .or h_172 h_176
def h_178 : E := .sel (.av 7) (.lit 2)
def h_179 : E := .ite h_177 h_178 (.lit 0)
def h_180 : E := .ite h_6 h_179 h_178
def h_181 : E := .sel (.av 6) (.lit 2)
def h_182 : E := .ite h_177 h_181 (.lit 0)
def h_183 : E := .ite h_6 h_182 h_181
def h_184 : E := .add h_183 (.lit 1)
def h_185 : E := .mod h_184 (.lit 256)
def h_186 : E := .eq h_34 (.lit 2)
def h_187 : E := .sel (.av 4) (.lit 2)
def h_188 : E := .ite h_186 h_119 h_187
def h_189 : E := .eq h_185 h_188
def h_190 : E := .add h_180 (.lit 1)
def h_191 : E := .mod h_190 (.lit 16)
def h_192 : E := .ite h_189 h_191 h_180
def h_193 : E := .ite h_169 h_180 h_192
def h_194 : E := .upd h_161 (.lit 2) h_193
def h_195 : E := .ite h_122 (.lit 0) h_114
def h_196 : E := .ite h_100 h_112 h_195
def h_197 : E := .upd (.av 6) (.lit 0) h_196
def h_198 : E := .ite h_156 (.lit 0) h_152
def h_199 : E := .ite h_136 h_150 h_198
def h_200 : E := .upd h_197 (.lit 1) h_199
def h_201 : E := .ite h_189 (.lit 0) h_185
def h_202 : E := .ite h_169 h_183 h_201
def h_203 : E := .upd h_200 (.lit 2) h_202
def h_204 : E := .mod h_94 (.lit 256)
def h_205 : E := .ite h_97 h_204 (.lit 0)
def h_206 : E := .upd (.av 5) (.lit 0) h_205
def h_207 : E := .mod h_129 (.lit 256)
def h_208 : E := .ite h_132 h_207 (.lit 0)
def h_209 : E := .upd h_206 (.lit 1) h_208
def h_210 : E := .ite h_165 h_164 (.lit 0)
def h_211 : E := .upd h_209 (.lit 2) h_210
def h_212 : E := .upd (.av 4) h_34 h_119
def h_213 : E := .sel (.av 0) (.lit 0)
def h_214 : E := .add h_213 (.lit 1467690357)
def h_215 : E := .div h_214 (.lit 16777216)
def h_216 : E := .mul h_215 (.lit 16777216)
def h_217 : E := .add h_213 (.lit 8072565)
def h_218 : E := .div h_217 (.lit 65536)
def h_219 : E := .mul h_218 (.lit 65536)
def h_220 : E := .add h_216 h_219
def h_221 : E := .add h_213 (.lit 11637)
def h_222 : E := .div h_221 (.lit 256)
def h_223 : E := .mul h_222 (.lit 256)
def h_224 : E := .add h_220 h_223
def h_225 : E := .add h_213 (.lit 117)
def h_226 : E := .mod h_225 (.lit 256)
def h_227 : E := .add h_224 h_226
def h_228 : E := .eq h_227 h_214
def h_229 : E := .not h_228
noncomputable def h_T0 : List Item := todoS Try.prog G Gh [] 3000 0 7 h_Hy h_Ls [] 4
noncomputable def h_h0 : Head := ⟨4, h_T0, ⟨[((.v 0), (1, 1)), ((.v 1), (0, 1048575)), ((.v 0), (0, 9223372036854775807)), ((.v 1), (0, 9223372036854775807)), ((.v 2), (0, 1048576)), ((.v 3), (0, 255))], [(0, (0, 255)), (1, ((-9223372036854775808), 9223372036854775807)), (2, ((-9223372036854775808), 9223372036854775807)), (3, (0, 255)), (4, (0, 255)), (5, (0, 255)), (6, (0, 255)), (7, (0, 255)), (8, (0, 255)), (9, (0, 255)), (10, (0, 255))], [(10, (0, 4294967295))], [], [], [(0, ⟨(.lit 1), [(some .u8, (.av 0))]⟩), (1, ⟨(.v 1), [(some .i64, (.av 1)), (some .i64, (.av 2)), (some .u8, (.av 3))]⟩)]⟩, [⟨6, [], .s (.int .i64 (.v 2))⟩, ⟨5, [], .s (.ptr 0 (.lit 0))⟩, ⟨0, [], .s (.xslc 0 (.lit 0) (.lit 0) (.lit 1))⟩, ⟨1, [], .s (.xslc 1 (.lit 0) (.lit 0) (.v 1))⟩], [⟨68, [.one (.int .u8 (.v 3)), .rows (.lit 3) [(some .u8, (.av 4)), (some .u8, (.av 5)), (some .u8, (.av 6)), (some .u8, (.av 7))] 0, .run .u8 (.lit 4) (.av 8) 0, .run .u8 (.lit 4) (.av 9) 0, .run .u8 (.lit 2) (.av 10) 0], true, none, false⟩]⟩
noncomputable def h_hs : List Head := [h_h0]
def h_D : Dim := ⟨4, 0, 11, 2, 0, 4, 0⟩
theorem h_st : startL Try.prog G Gh h_D h_hs [] 3000 0 7 h_Hy h_Ls [] = some (.jump 0 h_T0 ⟨[(3, (.lit 128)), (2, (.lit 0))], [], [(10, (.tab [])), (9, (.tab [])), (8, (.tab [])), (7, (.tab [])), (6, (.tab [])), (5, (.tab [])), (4, (.tab []))]⟩) := by kernel_rfl
theorem h_sg0 : (segL Try.prog G Gh h_D h_hs [] 3000 0 7 h_h0).map LT.bare = some (.ite h_0 (.need h_0 (.need h_0 (.need h_0 (.need h_0 (.need h_0 (.need h_0 (.need h_0 (.need h_0 (.need h_16 (.need h_31 (.need h_50 (.jump 0 h_T0 ⟨[(3, h_56), (2, h_57)], [], [(10, h_62), (9, h_66), (8, h_92), (7, h_194), (6, h_203), (5, h_211), (4, h_212)]⟩)))))))))))) (.ite h_229 (.ret (.s (.bool (.blit false))) []) (.ret (.s (.bool (.blit true))) []))) := by kernel_rfl
theorem h_hT0 : (h_hs[0]?.map (·.todo)) = some h_T0 := by kernel_rfl
def h_Base (x0 : Ext) (x1 : Ext) (nx0 nx1 : Int) (Ax0 Ax1_0 Ax1_1 Ax1_2 : Nat → Int) : Prop := (0 ≤ nx0 ∧ nx0 ≤ 9223372036854775807) ∧ (0 ≤ nx1 ∧ nx1 ≤ 9223372036854775807) ∧ (∀ j, 0 ≤ Ax0 j ∧ Ax0 j ≤ 255) ∧ (∀ j, -9223372036854775808 ≤ Ax1_0 j ∧ Ax1_0 j ≤ 9223372036854775807) ∧ (∀ j, -9223372036854775808 ≤ Ax1_1 j ∧ Ax1_1 j ≤ 9223372036854775807) ∧ (∀ j, 0 ≤ Ax1_2 j ∧ Ax1_2 j ≤ 255) ∧ nx0 = (x0.n : Int) ∧ nx1 = (x1.n : Int) ∧ Ax0 = xArr x0 1 0 ∧ Ax1_0 = xArr x1 3 0 ∧ Ax1_1 = xArr x1 3 1 ∧ Ax1_2 = xArr x1 3 2 ∧ ((nx0) = 1) ∧ (0 ≤ (nx1) ∧ (nx1) ≤ 1048575) ∧ True
def h_J0 (nx0 nx1 y2 y3 : Int) (Ax0 Ax1_0 Ax1_1 Ax1_2 Z4 Z5 Z6 Z7 Z8 Z9 Z10 : Nat → Int) : Prop := (0 ≤ y2 ∧ y2 ≤ 1048576) ∧ (0 ≤ y3 ∧ y3 ≤ 255) ∧ (∀ j, 0 ≤ Z4 j ∧ Z4 j ≤ 255) ∧ (∀ j, 0 ≤ Z5 j ∧ Z5 j ≤ 255) ∧ (∀ j, 0 ≤ Z6 j ∧ Z6 j ≤ 255) ∧ (∀ j, 0 ≤ Z7 j ∧ Z7 j ≤ 255) ∧ (∀ j, 0 ≤ Z8 j ∧ Z8 j ≤ 255) ∧ (∀ j, 0 ≤ Z9 j ∧ Z9 j ≤ 255) ∧ (∀ j, 0 ≤ Z10 j ∧ Z10 j ≤ 255) ∧ True
def h_Inv (x0 : Ext) (x1 : Ext) : Nat → Env → Prop
  | 0, ρ => ∃ (nx0 nx1 y2 y3 : Int) (Ax0 Ax1_0 Ax1_1 Ax1_2 Z4 Z5 Z6 Z7 Z8 Z9 Z10 : Nat → Int), ρ = (⟨[nx0, nx1, y2, y3], [], [Ax0, Ax1_0, Ax1_1, Ax1_2, Z4, Z5, Z6, Z7, Z8, Z9, Z10], [], Iv (fun i j => match i, j with | 0, 0 => x0 | 1, 0 => x1 | _, _ => Ext.none)⟩ : Env) ∧ h_Base x0 x1 nx0 nx1 Ax0 Ax1_0 Ax1_1 Ax1_2 ∧ h_J0 nx0 nx1 y2 y3 Ax0 Ax1_0 Ax1_1 Ax1_2 Z4 Z5 Z6 Z7 Z8 Z9 Z10
  | _, _ => False
def h_mu : Nat → Env → Nat := fun j ρ => (ρ.i.getD 1 0 - ρ.i.getD 2 0).toNat
theorem h_vc0 (x0 : Ext) (x1 : Ext) (nx0 nx1 y2 y3 : Int) (Ax0 Ax1_0 Ax1_1 Ax1_2 Z4 Z5 Z6 Z7 Z8 Z9 Z10 : Nat → Int) (hB : h_Base x0 x1 nx0 nx1 Ax0 Ax1_0 Ax1_1 Ax1_2) (hJ : h_J0 nx0 nx1 y2 y3 Ax0 Ax1_0 Ax1_1 Ax1_2 Z4 Z5 Z6 Z7 Z8 Z9 Z10) (hH : Hyp.ok h_h0.H (⟨[nx0, nx1, y2, y3], [], [Ax0, Ax1_0, Ax1_1, Ax1_2, Z4, Z5, Z6, Z7, Z8, Z9, Z10], [], Iv (fun i j => match i, j with | 0, 0 => x0 | 1, 0 => x1 | _, _ => Ext.none)⟩ : Env)) :
    LT.holds (⟨[nx0, nx1, y2, y3], [], [Ax0, Ax1_0, Ax1_1, Ax1_2, Z4, Z5, Z6, Z7, Z8, Z9, Z10], [], Iv (fun i j => match i, j with | 0, 0 => x0 | 1, 0 => x1 | _, _ => Ext.none)⟩ : Env) (fun v _ => retTrue (⟨[nx0, nx1, y2, y3], [], [Ax0, Ax1_0, Ax1_1, Ax1_2, Z4, Z5, Z6, Z7, Z8, Z9, Z10], [], Iv (fun i j => match i, j with | 0, 0 => x0 | 1, 0 => x1 | _, _ => Ext.none)⟩ : Env) v) (fun j' todo ρ' => (h_hs[j']?.map (·.todo)) = some todo ∧ h_Inv x0 x1 j' ρ' ∧ h_mu j' ρ' < h_mu 0 (⟨[nx0, nx1, y2, y3], [], [Ax0, Ax1_0, Ax1_1, Ax1_2, Z4, Z5, Z6, Z7, Z8, Z9, Z10], [], Iv (fun i j => match i, j with | 0, 0 => x0 | 1, 0 => x1 | _, _ => Ext.none)⟩ : Env)) (.ite h_0 (.need h_0 (.need h_0 (.need h_0 (.need h_0 (.need h_0 (.need h_0 (.need h_0 (.need h_0 (.need h_16 (.need h_31 (.need h_50 (.jump 0 h_T0 ⟨[(3, h_56), (2, h_57)], [], [(10, h_62), (9, h_66), (8, h_92), (7, h_194), (6, h_203), (5, h_211), (4, h_212)]⟩)))))))))))) (.ite h_229 (.ret (.s (.bool (.blit false))) []) (.ret (.s (.bool (.blit true))) []))) := by
  simp only [LT.holds, retTrue]
  refine ⟨fun hc0 => ?_, fun hc0 => ?_⟩
  ·
    refine ⟨?_, fun hc1 => ?_⟩
    ·
      simp only [h_0, h_1, h_2, h_3, h_4, h_5, h_6, h_7, h_8, h_9, h_10, h_11, h_12, h_13, h_14, h_15, h_16, h_17, h_18, h_19, h_20, h_21, h_22, h_23, h_24, h_25, h_26, h_27, h_28, h_29, h_30, h_31, h_32, h_33, h_34, h_35, h_36, h_37, h_38, h_39, h_40, h_41, h_42, h_43, h_44, h_45, h_46, h_47, h_48, h_49, h_50, h_51, h_52, h_53, h_54, h_55, h_56, h_57, h_58, h_59, h_60, h_61, h_62, h_63, h_64, h_65, h_66, h_67, h_68, h_69, h_70, h_71, h_72, h_73, h_74, h_75, h_76, h_77, h_78, h_79, h_80, h_81, h_82, h_83, h_84, h_85, h_86, h_87, h_88, h_89, h_90, h_91, h_92, h_93, h_94, h_95, h_96, h_97, h_98, h_99, h_100, h_101, h_102, h_103, h_104, h_105, h_106, h_107, h_108, h_109, h_110, h_111, h_112, h_113, h_114, h_115, h_116, h_117, h_118, h_119, h_120, h_121, h_122, h_123, h_124, h_125, h_126, h_127, h_128, h_129, h_130, h_131, h_132, h_133, h_134, h_135, h_136, h_137, h_138, h_139, h_140, h_141, h_142, h_143, h_144, h_145, h_146, h_147, h_148, h_149, h_150, h_151, h_152, h_153, h_154, h_155, h_156, h_157, h_158, h_159, h_160, h_161, h_162, h_163, h_164, h_165, h_166, h_167, h_168, h_169, h_170, h_171, h_172, h_173, h_174, h_175, h_176, h_177, h_178, h_179, h_180, h_181, h_182, h_183, h_184, h_185, h_186, h_187, h_188, h_189, h_190, h_191, h_192, h_193, h_194, h_195, h_196, h_197, h_198, h_199, h_200, h_201, h_202, h_203, h_204, h_205, h_206, h_207, h_208, h_209, h_210, h_211, h_212, h_213, h_214, h_215, h_216, h_217, h_218, h_219, h_220, h_221, h_222, h_223, h_224, h_225, h_226, h_227, h_228, h_229, i_v, b_bv, i_lit, b_blit, i_add, i_sub, i_mul, i_div, i_mod, i_tdiv, i_tmod, i_ite, b_ite, b_lt, b_le, b_eq, b_not, b_and, b_or, b_iff, i_sel, a_tab, i_pow2, List.getD_cons_zero, List.getD_cons_succ, decide_eq_true_eq, decide_eq_false_iff_not, Bool.and_eq_true, Bool.or_eq_true, Bool.not_eq_true', Bool.not_eq_false', Bool.and_eq_false_iff, Bool.or_eq_false_iff, Bool.not_not, ite_tt, ite_ff, iff_tt, iff_ff, a_av, a_ite, a_upd] at hc0 ⊢
      omega
    ·
      refine ⟨?_, fun hc2 => ?_⟩
      ·
        simp only [h_0, h_1, h_2, h_3, h_4, h_5, h_6, h_7, h_8, h_9, h_10, h_11, h_12, h_13, h_14, h_15, h_16, h_17, h_18, h_19, h_20, h_21, h_22, h_23, h_24, h_25, h_26, h_27, h_28, h_29, h_30, h_31, h_32, h_33, h_34, h_35, h_36, h_37, h_38, h_39, h_40, h_41, h_42, h_43, h_44, h_45, h_46, h_47, h_48, h_49, h_50, h_51, h_52, h_53, h_54, h_55, h_56, h_57, h_58, h_59, h_60, h_61, h_62, h_63, h_64, h_65, h_66, h_67, h_68, h_69, h_70, h_71, h_72, h_73, h_74, h_75, h_76, h_77, h_78, h_79, h_80, h_81, h_82, h_83, h_84, h_85, h_86, h_87, h_88, h_89, h_90, h_91, h_92, h_93, h_94, h_95, h_96, h_97, h_98, h_99, h_100, h_101, h_102, h_103, h_104, h_105, h_106, h_107, h_108, h_109, h_110, h_111, h_112, h_113, h_114, h_115, h_116, h_117, h_118, h_119, h_120, h_121, h_122, h_123, h_124, h_125, h_126, h_127, h_128, h_129, h_130, h_131, h_132, h_133, h_134, h_135, h_136, h_137, h_138, h_139, h_140, h_141, h_142, h_143, h_144, h_145, h_146, h_147, h_148, h_149, h_150, h_151, h_152, h_153, h_154, h_155, h_156, h_157, h_158, h_159, h_160, h_161, h_162, h_163, h_164, h_165, h_166, h_167, h_168, h_169, h_170, h_171, h_172, h_173, h_174, h_175, h_176, h_177, h_178, h_179, h_180, h_181, h_182, h_183, h_184, h_185, h_186, h_187, h_188, h_189, h_190, h_191, h_192, h_193, h_194, h_195, h_196, h_197, h_198, h_199, h_200, h_201, h_202, h_203, h_204, h_205, h_206, h_207, h_208, h_209, h_210, h_211, h_212, h_213, h_214, h_215, h_216, h_217, h_218, h_219, h_220, h_221, h_222, h_223, h_224, h_225, h_226, h_227, h_228, h_229, i_v, b_bv, i_lit, b_blit, i_add, i_sub, i_mul, i_div, i_mod, i_tdiv, i_tmod, i_ite, b_ite, b_lt, b_le, b_eq, b_not, b_and, b_or, b_iff, i_sel, a_tab, i_pow2, List.getD_cons_zero, List.getD_cons_succ, decide_eq_true_eq, decide_eq_false_iff_not, Bool.and_eq_true, Bool.or_eq_true, Bool.not_eq_true', Bool.not_eq_false', Bool.and_eq_false_iff, Bool.or_eq_false_iff, Bool.not_not, ite_tt, ite_ff, iff_tt, iff_ff, a_av, a_ite, a_upd] at hc0 ⊢
        omega
      ·
        refine ⟨?_, fun hc3 => ?_⟩
        ·
          simp only [h_0, h_1, h_2, h_3, h_4, h_5, h_6, h_7, h_8, h_9, h_10, h_11, h_12, h_13, h_14, h_15, h_16, h_17, h_18, h_19, h_20, h_21, h_22, h_23, h_24, h_25, h_26, h_27, h_28, h_29, h_30, h_31, h_32, h_33, h_34, h_35, h_36, h_37, h_38, h_39, h_40, h_41, h_42, h_43, h_44, h_45, h_46, h_47, h_48, h_49, h_50, h_51, h_52, h_53, h_54, h_55, h_56, h_57, h_58, h_59, h_60, h_61, h_62, h_63, h_64, h_65, h_66, h_67, h_68, h_69, h_70, h_71, h_72, h_73, h_74, h_75, h_76, h_77, h_78, h_79, h_80, h_81, h_82, h_83, h_84, h_85, h_86, h_87, h_88, h_89, h_90, h_91, h_92, h_93, h_94, h_95, h_96, h_97, h_98, h_99, h_100, h_101, h_102, h_103, h_104, h_105, h_106, h_107, h_108, h_109, h_110, h_111, h_112, h_113, h_114, h_115, h_116, h_117, h_118, h_119, h_120, h_121, h_122, h_123, h_124, h_125, h_126, h_127, h_128, h_129, h_130, h_131, h_132, h_133, h_134, h_135, h_136, h_137, h_138, h_139, h_140, h_141, h_142, h_143, h_144, h_145, h_146, h_147, h_148, h_149, h_150, h_151, h_152, h_153, h_154, h_155, h_156, h_157, h_158, h_159, h_160, h_161, h_162, h_163, h_164, h_165, h_166, h_167, h_168, h_169, h_170, h_171, h_172, h_173, h_174, h_175, h_176, h_177, h_178, h_179, h_180, h_181, h_182, h_183, h_184, h_185, h_186, h_187, h_188, h_189, h_190, h_191, h_192, h_193, h_194, h_195, h_196, h_197, h_198, h_199, h_200, h_201, h_202, h_203, h_204, h_205, h_206, h_207, h_208, h_209, h_210, h_211, h_212, h_213, h_214, h_215, h_216, h_217, h_218, h_219, h_220, h_221, h_222, h_223, h_224, h_225, h_226, h_227, h_228, h_229, i_v, b_bv, i_lit, b_blit, i_add, i_sub, i_mul, i_div, i_mod, i_tdiv, i_tmod, i_ite, b_ite, b_lt, b_le, b_eq, b_not, b_and, b_or, b_iff, i_sel, a_tab, i_pow2, List.getD_cons_zero, List.getD_cons_succ, decide_eq_true_eq, decide_eq_false_iff_not, Bool.and_eq_true, Bool.or_eq_true, Bool.not_eq_true', Bool.not_eq_false', Bool.and_eq_false_iff, Bool.or_eq_false_iff, Bool.not_not, ite_tt, ite_ff, iff_tt, iff_ff, a_av, a_ite, a_upd] at hc0 ⊢
          omega
        ·
          refine ⟨?_, fun hc4 => ?_⟩
          ·
            simp only [h_0, h_1, h_2, h_3, h_4, h_5, h_6, h_7, h_8, h_9, h_10, h_11, h_12, h_13, h_14, h_15, h_16, h_17, h_18, h_19, h_20, h_21, h_22, h_23, h_24, h_25, h_26, h_27, h_28, h_29, h_30, h_31, h_32, h_33, h_34, h_35, h_36, h_37, h_38, h_39, h_40, h_41, h_42, h_43, h_44, h_45, h_46, h_47, h_48, h_49, h_50, h_51, h_52, h_53, h_54, h_55, h_56, h_57, h_58, h_59, h_60, h_61, h_62, h_63, h_64, h_65, h_66, h_67, h_68, h_69, h_70, h_71, h_72, h_73, h_74, h_75, h_76, h_77, h_78, h_79, h_80, h_81, h_82, h_83, h_84, h_85, h_86, h_87, h_88, h_89, h_90, h_91, h_92, h_93, h_94, h_95, h_96, h_97, h_98, h_99, h_100, h_101, h_102, h_103, h_104, h_105, h_106, h_107, h_108, h_109, h_110, h_111, h_112, h_113, h_114, h_115, h_116, h_117, h_118, h_119, h_120, h_121, h_122, h_123, h_124, h_125, h_126, h_127, h_128, h_129, h_130, h_131, h_132, h_133, h_134, h_135, h_136, h_137, h_138, h_139, h_140, h_141, h_142, h_143, h_144, h_145, h_146, h_147, h_148, h_149, h_150, h_151, h_152, h_153, h_154, h_155, h_156, h_157, h_158, h_159, h_160, h_161, h_162, h_163, h_164, h_165, h_166, h_167, h_168, h_169, h_170, h_171, h_172, h_173, h_174, h_175, h_176, h_177, h_178, h_179, h_180, h_181, h_182, h_183, h_184, h_185, h_186, h_187, h_188, h_189, h_190, h_191, h_192, h_193, h_194, h_195, h_196, h_197, h_198, h_199, h_200, h_201, h_202, h_203, h_204, h_205, h_206, h_207, h_208, h_209, h_210, h_211, h_212, h_213, h_214, h_215, h_216, h_217, h_218, h_219, h_220, h_221, h_222, h_223, h_224, h_225, h_226, h_227, h_228, h_229, i_v, b_bv, i_lit, b_blit, i_add, i_sub, i_mul, i_div, i_mod, i_tdiv, i_tmod, i_ite, b_ite, b_lt, b_le, b_eq, b_not, b_and, b_or, b_iff, i_sel, a_tab, i_pow2, List.getD_cons_zero, List.getD_cons_succ, decide_eq_true_eq, decide_eq_false_iff_not, Bool.and_eq_true, Bool.or_eq_true, Bool.not_eq_true', Bool.not_eq_false', Bool.and_eq_false_iff, Bool.or_eq_false_iff, Bool.not_not, ite_tt, ite_ff, iff_tt, iff_ff, a_av, a_ite, a_upd] at hc0 ⊢
            omega
          ·
            refine ⟨?_, fun hc5 => ?_⟩
            ·
              simp only [h_0, h_1, h_2, h_3, h_4, h_5, h_6, h_7, h_8, h_9, h_10, h_11, h_12, h_13, h_14, h_15, h_16, h_17, h_18, h_19, h_20, h_21, h_22, h_23, h_24, h_25, h_26, h_27, h_28, h_29, h_30, h_31, h_32, h_33, h_34, h_35, h_36, h_37, h_38, h_39, h_40, h_41, h_42, h_43, h_44, h_45, h_46, h_47, h_48, h_49, h_50, h_51, h_52, h_53, h_54, h_55, h_56, h_57, h_58, h_59, h_60, h_61, h_62, h_63, h_64, h_65, h_66, h_67, h_68, h_69, h_70, h_71, h_72, h_73, h_74, h_75, h_76, h_77, h_78, h_79, h_80, h_81, h_82, h_83, h_84, h_85, h_86, h_87, h_88, h_89, h_90, h_91, h_92, h_93, h_94, h_95, h_96, h_97, h_98, h_99, h_100, h_101, h_102, h_103, h_104, h_105, h_106, h_107, h_108, h_109, h_110, h_111, h_112, h_113, h_114, h_115, h_116, h_117, h_118, h_119, h_120, h_121, h_122, h_123, h_124, h_125, h_126, h_127, h_128, h_129, h_130, h_131, h_132, h_133, h_134, h_135, h_136, h_137, h_138, h_139, h_140, h_141, h_142, h_143, h_144, h_145, h_146, h_147, h_148, h_149, h_150, h_151, h_152, h_153, h_154, h_155, h_156, h_157, h_158, h_159, h_160, h_161, h_162, h_163, h_164, h_165, h_166, h_167, h_168, h_169, h_170, h_171, h_172, h_173, h_174, h_175, h_176, h_177, h_178, h_179, h_180, h_181, h_182, h_183, h_184, h_185, h_186, h_187, h_188, h_189, h_190, h_191, h_192, h_193, h_194, h_195, h_196, h_197, h_198, h_199, h_200, h_201, h_202, h_203, h_204, h_205, h_206, h_207, h_208, h_209, h_210, h_211, h_212, h_213, h_214, h_215, h_216, h_217, h_218, h_219, h_220, h_221, h_222, h_223, h_224, h_225, h_226, h_227, h_228, h_229, i_v, b_bv, i_lit, b_blit, i_add, i_sub, i_mul, i_div, i_mod, i_tdiv, i_tmod, i_ite, b_ite, b_lt, b_le, b_eq, b_not, b_and, b_or, b_iff, i_sel, a_tab, i_pow2, List.getD_cons_zero, List.getD_cons_succ, decide_eq_true_eq, decide_eq_false_iff_not, Bool.and_eq_true, Bool.or_eq_true, Bool.not_eq_true', Bool.not_eq_false', Bool.and_eq_false_iff, Bool.or_eq_false_iff, Bool.not_not, ite_tt, ite_ff, iff_tt, iff_ff, a_av, a_ite, a_upd] at hc0 ⊢
              omega
            ·
              refine ⟨?_, fun hc6 => ?_⟩
              ·
                simp only [h_0, h_1, h_2, h_3, h_4, h_5, h_6, h_7, h_8, h_9, h_10, h_11, h_12, h_13, h_14, h_15, h_16, h_17, h_18, h_19, h_20, h_21, h_22, h_23, h_24, h_25, h_26, h_27, h_28, h_29, h_30, h_31, h_32, h_33, h_34, h_35, h_36, h_37, h_38, h_39, h_40, h_41, h_42, h_43, h_44, h_45, h_46, h_47, h_48, h_49, h_50, h_51, h_52, h_53, h_54, h_55, h_56, h_57, h_58, h_59, h_60, h_61, h_62, h_63, h_64, h_65, h_66, h_67, h_68, h_69, h_70, h_71, h_72, h_73, h_74, h_75, h_76, h_77, h_78, h_79, h_80, h_81, h_82, h_83, h_84, h_85, h_86, h_87, h_88, h_89, h_90, h_91, h_92, h_93, h_94, h_95, h_96, h_97, h_98, h_99, h_100, h_101, h_102, h_103, h_104, h_105, h_106, h_107, h_108, h_109, h_110, h_111, h_112, h_113, h_114, h_115, h_116, h_117, h_118, h_119, h_120, h_121, h_122, h_123, h_124, h_125, h_126, h_127, h_128, h_129, h_130, h_131, h_132, h_133, h_134, h_135, h_136, h_137, h_138, h_139, h_140, h_141, h_142, h_143, h_144, h_145, h_146, h_147, h_148, h_149, h_150, h_151, h_152, h_153, h_154, h_155, h_156, h_157, h_158, h_159, h_160, h_161, h_162, h_163, h_164, h_165, h_166, h_167, h_168, h_169, h_170, h_171, h_172, h_173, h_174, h_175, h_176, h_177, h_178, h_179, h_180, h_181, h_182, h_183, h_184, h_185, h_186, h_187, h_188, h_189, h_190, h_191, h_192, h_193, h_194, h_195, h_196, h_197, h_198, h_199, h_200, h_201, h_202, h_203, h_204, h_205, h_206, h_207, h_208, h_209, h_210, h_211, h_212, h_213, h_214, h_215, h_216, h_217, h_218, h_219, h_220, h_221, h_222, h_223, h_224, h_225, h_226, h_227, h_228, h_229, i_v, b_bv, i_lit, b_blit, i_add, i_sub, i_mul, i_div, i_mod, i_tdiv, i_tmod, i_ite, b_ite, b_lt, b_le, b_eq, b_not, b_and, b_or, b_iff, i_sel, a_tab, i_pow2, List.getD_cons_zero, List.getD_cons_succ, decide_eq_true_eq, decide_eq_false_iff_not, Bool.and_eq_true, Bool.or_eq_true, Bool.not_eq_true', Bool.not_eq_false', Bool.and_eq_false_iff, Bool.or_eq_false_iff, Bool.not_not, ite_tt, ite_ff, iff_tt, iff_ff, a_av, a_ite, a_upd] at hc0 ⊢
                omega
              ·
                refine ⟨?_, fun hc7 => ?_⟩
                ·
                  simp only [h_0, h_1, h_2, h_3, h_4, h_5, h_6, h_7, h_8, h_9, h_10, h_11, h_12, h_13, h_14, h_15, h_16, h_17, h_18, h_19, h_20, h_21, h_22, h_23, h_24, h_25, h_26, h_27, h_28, h_29, h_30, h_31, h_32, h_33, h_34, h_35, h_36, h_37, h_38, h_39, h_40, h_41, h_42, h_43, h_44, h_45, h_46, h_47, h_48, h_49, h_50, h_51, h_52, h_53, h_54, h_55, h_56, h_57, h_58, h_59, h_60, h_61, h_62, h_63, h_64, h_65, h_66, h_67, h_68, h_69, h_70, h_71, h_72, h_73, h_74, h_75, h_76, h_77, h_78, h_79, h_80, h_81, h_82, h_83, h_84, h_85, h_86, h_87, h_88, h_89, h_90, h_91, h_92, h_93, h_94, h_95, h_96, h_97, h_98, h_99, h_100, h_101, h_102, h_103, h_104, h_105, h_106, h_107, h_108, h_109, h_110, h_111, h_112, h_113, h_114, h_115, h_116, h_117, h_118, h_119, h_120, h_121, h_122, h_123, h_124, h_125, h_126, h_127, h_128, h_129, h_130, h_131, h_132, h_133, h_134, h_135, h_136, h_137, h_138, h_139, h_140, h_141, h_142, h_143, h_144, h_145, h_146, h_147, h_148, h_149, h_150, h_151, h_152, h_153, h_154, h_155, h_156, h_157, h_158, h_159, h_160, h_161, h_162, h_163, h_164, h_165, h_166, h_167, h_168, h_169, h_170, h_171, h_172, h_173, h_174, h_175, h_176, h_177, h_178, h_179, h_180, h_181, h_182, h_183, h_184, h_185, h_186, h_187, h_188, h_189, h_190, h_191, h_192, h_193, h_194, h_195, h_196, h_197, h_198, h_199, h_200, h_201, h_202, h_203, h_204, h_205, h_206, h_207, h_208, h_209, h_210, h_211, h_212, h_213, h_214, h_215, h_216, h_217, h_218, h_219, h_220, h_221, h_222, h_223, h_224, h_225, h_226, h_227, h_228, h_229, i_v, b_bv, i_lit, b_blit, i_add, i_sub, i_mul, i_div, i_mod, i_tdiv, i_tmod, i_ite, b_ite, b_lt, b_le, b_eq, b_not, b_and, b_or, b_iff, i_sel, a_tab, i_pow2, List.getD_cons_zero, List.getD_cons_succ, decide_eq_true_eq, decide_eq_false_iff_not, Bool.and_eq_true, Bool.or_eq_true, Bool.not_eq_true', Bool.not_eq_false', Bool.and_eq_false_iff, Bool.or_eq_false_iff, Bool.not_not, ite_tt, ite_ff, iff_tt, iff_ff, a_av, a_ite, a_upd] at hc0 ⊢
                  omega
                ·
                  refine ⟨?_, fun hc8 => ?_⟩
                  ·
                    simp only [h_0, h_1, h_2, h_3, h_4, h_5, h_6, h_7, h_8, h_9, h_10, h_11, h_12, h_13, h_14, h_15, h_16, h_17, h_18, h_19, h_20, h_21, h_22, h_23, h_24, h_25, h_26, h_27, h_28, h_29, h_30, h_31, h_32, h_33, h_34, h_35, h_36, h_37, h_38, h_39, h_40, h_41, h_42, h_43, h_44, h_45, h_46, h_47, h_48, h_49, h_50, h_51, h_52, h_53, h_54, h_55, h_56, h_57, h_58, h_59, h_60, h_61, h_62, h_63, h_64, h_65, h_66, h_67, h_68, h_69, h_70, h_71, h_72, h_73, h_74, h_75, h_76, h_77, h_78, h_79, h_80, h_81, h_82, h_83, h_84, h_85, h_86, h_87, h_88, h_89, h_90, h_91, h_92, h_93, h_94, h_95, h_96, h_97, h_98, h_99, h_100, h_101, h_102, h_103, h_104, h_105, h_106, h_107, h_108, h_109, h_110, h_111, h_112, h_113, h_114, h_115, h_116, h_117, h_118, h_119, h_120, h_121, h_122, h_123, h_124, h_125, h_126, h_127, h_128, h_129, h_130, h_131, h_132, h_133, h_134, h_135, h_136, h_137, h_138, h_139, h_140, h_141, h_142, h_143, h_144, h_145, h_146, h_147, h_148, h_149, h_150, h_151, h_152, h_153, h_154, h_155, h_156, h_157, h_158, h_159, h_160, h_161, h_162, h_163, h_164, h_165, h_166, h_167, h_168, h_169, h_170, h_171, h_172, h_173, h_174, h_175, h_176, h_177, h_178, h_179, h_180, h_181, h_182, h_183, h_184, h_185, h_186, h_187, h_188, h_189, h_190, h_191, h_192, h_193, h_194, h_195, h_196, h_197, h_198, h_199, h_200, h_201, h_202, h_203, h_204, h_205, h_206, h_207, h_208, h_209, h_210, h_211, h_212, h_213, h_214, h_215, h_216, h_217, h_218, h_219, h_220, h_221, h_222, h_223, h_224, h_225, h_226, h_227, h_228, h_229, i_v, b_bv, i_lit, b_blit, i_add, i_sub, i_mul, i_div, i_mod, i_tdiv, i_tmod, i_ite, b_ite, b_lt, b_le, b_eq, b_not, b_and, b_or, b_iff, i_sel, a_tab, i_pow2, List.getD_cons_zero, List.getD_cons_succ, decide_eq_true_eq, decide_eq_false_iff_not, Bool.and_eq_true, Bool.or_eq_true, Bool.not_eq_true', Bool.not_eq_false', Bool.and_eq_false_iff, Bool.or_eq_false_iff, Bool.not_not, ite_tt, ite_ff, iff_tt, iff_ff, a_av, a_ite, a_upd] at hc0 ⊢
                    omega
                  ·
                    refine ⟨?_, fun hc9 => ?_⟩
                    ·
                      simp only [h_0, h_1, h_2, h_3, h_4, h_5, h_6, h_7, h_8, h_9, h_10, h_11, h_12, h_13, h_14, h_15, h_16, h_17, h_18, h_19, h_20, h_21, h_22, h_23, h_24, h_25, h_26, h_27, h_28, h_29, h_30, h_31, h_32, h_33, h_34, h_35, h_36, h_37, h_38, h_39, h_40, h_41, h_42, h_43, h_44, h_45, h_46, h_47, h_48, h_49, h_50, h_51, h_52, h_53, h_54, h_55, h_56, h_57, h_58, h_59, h_60, h_61, h_62, h_63, h_64, h_65, h_66, h_67, h_68, h_69, h_70, h_71, h_72, h_73, h_74, h_75, h_76, h_77, h_78, h_79, h_80, h_81, h_82, h_83, h_84, h_85, h_86, h_87, h_88, h_89, h_90, h_91, h_92, h_93, h_94, h_95, h_96, h_97, h_98, h_99, h_100, h_101, h_102, h_103, h_104, h_105, h_106, h_107, h_108, h_109, h_110, h_111, h_112, h_113, h_114, h_115, h_116, h_117, h_118, h_119, h_120, h_121, h_122, h_123, h_124, h_125, h_126, h_127, h_128, h_129, h_130, h_131, h_132, h_133, h_134, h_135, h_136, h_137, h_138, h_139, h_140, h_141, h_142, h_143, h_144, h_145, h_146, h_147, h_148, h_149, h_150, h_151, h_152, h_153, h_154, h_155, h_156, h_157, h_158, h_159, h_160, h_161, h_162, h_163, h_164, h_165, h_166, h_167, h_168, h_169, h_170, h_171, h_172, h_173, h_174, h_175, h_176, h_177, h_178, h_179, h_180, h_181, h_182, h_183, h_184, h_185, h_186, h_187, h_188, h_189, h_190, h_191, h_192, h_193, h_194, h_195, h_196, h_197, h_198, h_199, h_200, h_201, h_202, h_203, h_204, h_205, h_206, h_207, h_208, h_209, h_210, h_211, h_212, h_213, h_214, h_215, h_216, h_217, h_218, h_219, h_220, h_221, h_222, h_223, h_224, h_225, h_226, h_227, h_228, h_229, i_v, b_bv, i_lit, b_blit, i_add, i_sub, i_mul, i_div, i_mod, i_tdiv, i_tmod, i_ite, b_ite, b_lt, b_le, b_eq, b_not, b_and, b_or, b_iff, i_sel, a_tab, i_pow2, List.getD_cons_zero, List.getD_cons_succ, decide_eq_true_eq, decide_eq_false_iff_not, Bool.and_eq_true, Bool.or_eq_true, Bool.not_eq_true', Bool.not_eq_false', Bool.and_eq_false_iff, Bool.or_eq_false_iff, Bool.not_not, ite_tt, ite_ff, iff_tt, iff_ff, a_av, a_ite, a_upd] at hc0 ⊢
                      omega
                    ·
                      refine ⟨?_, fun hc10 => ?_⟩
                      ·
                        simp only [h_0, h_1, h_2, h_3, h_4, h_5, h_6, h_7, h_8, h_9, h_10, h_11, h_12, h_13, h_14, h_15, h_16, h_17, h_18, h_19, h_20, h_21, h_22, h_23, h_24, h_25, h_26, h_27, h_28, h_29, h_30, h_31, h_32, h_33, h_34, h_35, h_36, h_37, h_38, h_39, h_40, h_41, h_42, h_43, h_44, h_45, h_46, h_47, h_48, h_49, h_50, h_51, h_52, h_53, h_54, h_55, h_56, h_57, h_58, h_59, h_60, h_61, h_62, h_63, h_64, h_65, h_66, h_67, h_68, h_69, h_70, h_71, h_72, h_73, h_74, h_75, h_76, h_77, h_78, h_79, h_80, h_81, h_82, h_83, h_84, h_85, h_86, h_87, h_88, h_89, h_90, h_91, h_92, h_93, h_94, h_95, h_96, h_97, h_98, h_99, h_100, h_101, h_102, h_103, h_104, h_105, h_106, h_107, h_108, h_109, h_110, h_111, h_112, h_113, h_114, h_115, h_116, h_117, h_118, h_119, h_120, h_121, h_122, h_123, h_124, h_125, h_126, h_127, h_128, h_129, h_130, h_131, h_132, h_133, h_134, h_135, h_136, h_137, h_138, h_139, h_140, h_141, h_142, h_143, h_144, h_145, h_146, h_147, h_148, h_149, h_150, h_151, h_152, h_153, h_154, h_155, h_156, h_157, h_158, h_159, h_160, h_161, h_162, h_163, h_164, h_165, h_166, h_167, h_168, h_169, h_170, h_171, h_172, h_173, h_174, h_175, h_176, h_177, h_178, h_179, h_180, h_181, h_182, h_183, h_184, h_185, h_186, h_187, h_188, h_189, h_190, h_191, h_192, h_193, h_194, h_195, h_196, h_197, h_198, h_199, h_200, h_201, h_202, h_203, h_204, h_205, h_206, h_207, h_208, h_209, h_210, h_211, h_212, h_213, h_214, h_215, h_216, h_217, h_218, h_219, h_220, h_221, h_222, h_223, h_224, h_225, h_226, h_227, h_228, h_229, i_v, b_bv, i_lit, b_blit, i_add, i_sub, i_mul, i_div, i_mod, i_tdiv, i_tmod, i_ite, b_ite, b_lt, b_le, b_eq, b_not, b_and, b_or, b_iff, i_sel, a_tab, i_pow2, List.getD_cons_zero, List.getD_cons_succ, decide_eq_true_eq, decide_eq_false_iff_not, Bool.and_eq_true, Bool.or_eq_true, Bool.not_eq_true', Bool.not_eq_false', Bool.and_eq_false_iff, Bool.or_eq_false_iff, Bool.not_not, ite_tt, ite_ff, iff_tt, iff_ff, a_av, a_ite, a_upd] at hc0 ⊢
                        omega
                      ·
                        refine ⟨?_, fun hc11 => ?_⟩
                        ·
                          simp only [h_0, h_1, h_2, h_3, h_4, h_5, h_6, h_7, h_8, h_9, h_10, h_11, h_12, h_13, h_14, h_15, h_16, h_17, h_18, h_19, h_20, h_21, h_22, h_23, h_24, h_25, h_26, h_27, h_28, h_29, h_30, h_31, h_32, h_33, h_34, h_35, h_36, h_37, h_38, h_39, h_40, h_41, h_42, h_43, h_44, h_45, h_46, h_47, h_48, h_49, h_50, h_51, h_52, h_53, h_54, h_55, h_56, h_57, h_58, h_59, h_60, h_61, h_62, h_63, h_64, h_65, h_66, h_67, h_68, h_69, h_70, h_71, h_72, h_73, h_74, h_75, h_76, h_77, h_78, h_79, h_80, h_81, h_82, h_83, h_84, h_85, h_86, h_87, h_88, h_89, h_90, h_91, h_92, h_93, h_94, h_95, h_96, h_97, h_98, h_99, h_100, h_101, h_102, h_103, h_104, h_105, h_106, h_107, h_108, h_109, h_110, h_111, h_112, h_113, h_114, h_115, h_116, h_117, h_118, h_119, h_120, h_121, h_122, h_123, h_124, h_125, h_126, h_127, h_128, h_129, h_130, h_131, h_132, h_133, h_134, h_135, h_136, h_137, h_138, h_139, h_140, h_141, h_142, h_143, h_144, h_145, h_146, h_147, h_148, h_149, h_150, h_151, h_152, h_153, h_154, h_155, h_156, h_157, h_158, h_159, h_160, h_161, h_162, h_163, h_164, h_165, h_166, h_167, h_168, h_169, h_170, h_171, h_172, h_173, h_174, h_175, h_176, h_177, h_178, h_179, h_180, h_181, h_182, h_183, h_184, h_185, h_186, h_187, h_188, h_189, h_190, h_191, h_192, h_193, h_194, h_195, h_196, h_197, h_198, h_199, h_200, h_201, h_202, h_203, h_204, h_205, h_206, h_207, h_208, h_209, h_210, h_211, h_212, h_213, h_214, h_215, h_216, h_217, h_218, h_219, h_220, h_221, h_222, h_223, h_224, h_225, h_226, h_227, h_228, h_229, i_v, b_bv, i_lit, b_blit, i_add, i_sub, i_mul, i_div, i_mod, i_tdiv, i_tmod, i_ite, b_ite, b_lt, b_le, b_eq, b_not, b_and, b_or, b_iff, i_sel, a_tab, i_pow2, List.getD_cons_zero, List.getD_cons_succ, decide_eq_true_eq, decide_eq_false_iff_not, Bool.and_eq_true, Bool.or_eq_true, Bool.not_eq_true', Bool.not_eq_false', Bool.and_eq_false_iff, Bool.or_eq_false_iff, Bool.not_not, ite_tt, ite_ff, iff_tt, iff_ff, a_av, a_ite, a_upd] at hc0 ⊢
                          omega
                        ·
                          refine ⟨h_hT0, ⟨_, _, _, _, _, _, _, _, _, _, _, _, _, _, _, rfl, hB, ?_⟩, ?_⟩
                          ·
                            simp only [h_Base] at hB
                            obtain ⟨b0, b1, b2, b3, b4, b5, _, _, _, _, _, _, ex0, ex1, _⟩ := hB
                            unfold h_J0
                            refine ⟨?_, rng_at hH (by kernel_rfl), arr_at hH (by kernel_rfl), arr_at hH (by kernel_rfl), arr_at hH (by kernel_rfl), arr_at hH (by kernel_rfl), arr_at hH (by kernel_rfl), arr_at hH (by kernel_rfl), arr_at hH (by kernel_rfl), trivial⟩
                            simp only [h_J0] at hJ
                            obtain ⟨l0, _⟩ := hJ
                            simp only [h_0, h_1, h_2, h_3, h_4, h_5, h_6, h_7, h_8, h_9, h_10, h_11, h_12, h_13, h_14, h_15, h_16, h_17, h_18, h_19, h_20, h_21, h_22, h_23, h_24, h_25, h_26, h_27, h_28, h_29, h_30, h_31, h_32, h_33, h_34, h_35, h_36, h_37, h_38, h_39, h_40, h_41, h_42, h_43, h_44, h_45, h_46, h_47, h_48, h_49, h_50, h_51, h_52, h_53, h_54, h_55, h_56, h_57, h_58, h_59, h_60, h_61, h_62, h_63, h_64, h_65, h_66, h_67, h_68, h_69, h_70, h_71, h_72, h_73, h_74, h_75, h_76, h_77, h_78, h_79, h_80, h_81, h_82, h_83, h_84, h_85, h_86, h_87, h_88, h_89, h_90, h_91, h_92, h_93, h_94, h_95, h_96, h_97, h_98, h_99, h_100, h_101, h_102, h_103, h_104, h_105, h_106, h_107, h_108, h_109, h_110, h_111, h_112, h_113, h_114, h_115, h_116, h_117, h_118, h_119, h_120, h_121, h_122, h_123, h_124, h_125, h_126, h_127, h_128, h_129, h_130, h_131, h_132, h_133, h_134, h_135, h_136, h_137, h_138, h_139, h_140, h_141, h_142, h_143, h_144, h_145, h_146, h_147, h_148, h_149, h_150, h_151, h_152, h_153, h_154, h_155, h_156, h_157, h_158, h_159, h_160, h_161, h_162, h_163, h_164, h_165, h_166, h_167, h_168, h_169, h_170, h_171, h_172, h_173, h_174, h_175, h_176, h_177, h_178, h_179, h_180, h_181, h_182, h_183, h_184, h_185, h_186, h_187, h_188, h_189, h_190, h_191, h_192, h_193, h_194, h_195, h_196, h_197, h_198, h_199, h_200, h_201, h_202, h_203, h_204, h_205, h_206, h_207, h_208, h_209, h_210, h_211, h_212, h_213, h_214, h_215, h_216, h_217, h_218, h_219, h_220, h_221, h_222, h_223, h_224, h_225, h_226, h_227, h_228, h_229, i_v, b_bv, i_lit, b_blit, i_add, i_sub, i_mul, i_div, i_mod, i_tdiv, i_tmod, i_ite, b_ite, b_lt, b_le, b_eq, b_not, b_and, b_or, b_iff, i_sel, a_tab, i_pow2, List.getD_cons_zero, List.getD_cons_succ, decide_eq_true_eq, decide_eq_false_iff_not, Bool.and_eq_true, Bool.or_eq_true, Bool.not_eq_true', Bool.not_eq_false', Bool.and_eq_false_iff, Bool.or_eq_false_iff, Bool.not_not, ite_tt, ite_ff, iff_tt, iff_ff, a_av, a_ite, a_upd] at hc0 ⊢
                            omega
                          simp only [h_Base] at hB
                          obtain ⟨b0, b1, b2, b3, b4, b5, _, _, _, _, _, _, ex0, ex1, _⟩ := hB
                          simp only [h_J0] at hJ
                          obtain ⟨l0, l1, l2, l3, l4, l5, l6, l7, l8, _⟩ := hJ
                          simp only [h_0, h_1, h_2, h_3, h_4, h_5, h_6, h_7, h_8, h_9, h_10, h_11, h_12, h_13, h_14, h_15, h_16, h_17, h_18, h_19, h_20, h_21, h_22, h_23, h_24, h_25, h_26, h_27, h_28, h_29, h_30, h_31, h_32, h_33, h_34, h_35, h_36, h_37, h_38, h_39, h_40, h_41, h_42, h_43, h_44, h_45, h_46, h_47, h_48, h_49, h_50, h_51, h_52, h_53, h_54, h_55, h_56, h_57, h_58, h_59, h_60, h_61, h_62, h_63, h_64, h_65, h_66, h_67, h_68, h_69, h_70, h_71, h_72, h_73, h_74, h_75, h_76, h_77, h_78, h_79, h_80, h_81, h_82, h_83, h_84, h_85, h_86, h_87, h_88, h_89, h_90, h_91, h_92, h_93, h_94, h_95, h_96, h_97, h_98, h_99, h_100, h_101, h_102, h_103, h_104, h_105, h_106, h_107, h_108, h_109, h_110, h_111, h_112, h_113, h_114, h_115, h_116, h_117, h_118, h_119, h_120, h_121, h_122, h_123, h_124, h_125, h_126, h_127, h_128, h_129, h_130, h_131, h_132, h_133, h_134, h_135, h_136, h_137, h_138, h_139, h_140, h_141, h_142, h_143, h_144, h_145, h_146, h_147, h_148, h_149, h_150, h_151, h_152, h_153, h_154, h_155, h_156, h_157, h_158, h_159, h_160, h_161, h_162, h_163, h_164, h_165, h_166, h_167, h_168, h_169, h_170, h_171, h_172, h_173, h_174, h_175, h_176, h_177, h_178, h_179, h_180, h_181, h_182, h_183, h_184, h_185, h_186, h_187, h_188, h_189, h_190, h_191, h_192, h_193, h_194, h_195, h_196, h_197, h_198, h_199, h_200, h_201, h_202, h_203, h_204, h_205, h_206, h_207, h_208, h_209, h_210, h_211, h_212, h_213, h_214, h_215, h_216, h_217, h_218, h_219, h_220, h_221, h_222, h_223, h_224, h_225, h_226, h_227, h_228, h_229, i_v, b_bv, i_lit, b_blit, i_add, i_sub, i_mul, i_div, i_mod, i_tdiv, i_tmod, i_ite, b_ite, b_lt, b_le, b_eq, b_not, b_and, b_or, b_iff, i_sel, a_tab, i_pow2, List.getD_cons_zero, List.getD_cons_succ, decide_eq_true_eq, decide_eq_false_iff_not, Bool.and_eq_true, Bool.or_eq_true, Bool.not_eq_true', Bool.not_eq_false', Bool.and_eq_false_iff, Bool.or_eq_false_iff, Bool.not_not, ite_tt, ite_ff, iff_tt, iff_ff, a_av, a_ite, a_upd] at hc0
                          simp only [h_mu, Env.app, setAll, List.map_cons, List.map_nil, List.set, List.getD_cons_zero, List.getD_cons_succ, h_0, h_1, h_2, h_3, h_4, h_5, h_6, h_7, h_8, h_9, h_10, h_11, h_12, h_13, h_14, h_15, h_16, h_17, h_18, h_19, h_20, h_21, h_22, h_23, h_24, h_25, h_26, h_27, h_28, h_29, h_30, h_31, h_32, h_33, h_34, h_35, h_36, h_37, h_38, h_39, h_40, h_41, h_42, h_43, h_44, h_45, h_46, h_47, h_48, h_49, h_50, h_51, h_52, h_53, h_54, h_55, h_56, h_57, h_58, h_59, h_60, h_61, h_62, h_63, h_64, h_65, h_66, h_67, h_68, h_69, h_70, h_71, h_72, h_73, h_74, h_75, h_76, h_77, h_78, h_79, h_80, h_81, h_82, h_83, h_84, h_85, h_86, h_87, h_88, h_89, h_90, h_91, h_92, h_93, h_94, h_95, h_96, h_97, h_98, h_99, h_100, h_101, h_102, h_103, h_104, h_105, h_106, h_107, h_108, h_109, h_110, h_111, h_112, h_113, h_114, h_115, h_116, h_117, h_118, h_119, h_120, h_121, h_122, h_123, h_124, h_125, h_126, h_127, h_128, h_129, h_130, h_131, h_132, h_133, h_134, h_135, h_136, h_137, h_138, h_139, h_140, h_141, h_142, h_143, h_144, h_145, h_146, h_147, h_148, h_149, h_150, h_151, h_152, h_153, h_154, h_155, h_156, h_157, h_158, h_159, h_160, h_161, h_162, h_163, h_164, h_165, h_166, h_167, h_168, h_169, h_170, h_171, h_172, h_173, h_174, h_175, h_176, h_177, h_178, h_179, h_180, h_181, h_182, h_183, h_184, h_185, h_186, h_187, h_188, h_189, h_190, h_191, h_192, h_193, h_194, h_195, h_196, h_197, h_198, h_199, h_200, h_201, h_202, h_203, h_204, h_205, h_206, h_207, h_208, h_209, h_210, h_211, h_212, h_213, h_214, h_215, h_216, h_217, h_218, h_219, h_220, h_221, h_222, h_223, h_224, h_225, h_226, h_227, h_228, h_229, i_v, b_bv, i_lit, b_blit, i_add, i_sub, i_mul, i_div, i_mod, i_tdiv, i_tmod, i_ite, b_ite, b_lt, b_le, b_eq, b_not, b_and, b_or, b_iff, i_sel, a_tab, i_pow2, List.getD_cons_zero, List.getD_cons_succ, decide_eq_true_eq, decide_eq_false_iff_not, Bool.and_eq_true, Bool.or_eq_true, Bool.not_eq_true', Bool.not_eq_false', Bool.and_eq_false_iff, Bool.or_eq_false_iff, Bool.not_not, ite_tt, ite_ff, iff_tt, iff_ff, a_av, a_ite, a_upd]
                          omega
  ·
    refine ⟨fun hc13 => ?_, fun hc13 => ?_⟩
    ·
      first
        | rfl
        | (exfalso
           simp only [h_Base] at hB
           obtain ⟨b0, b1, b2, b3, b4, b5, _⟩ := hB
           have b6 := b2 0
           simp only [h_0, h_1, h_2, h_3, h_4, h_5, h_6, h_7, h_8, h_9, h_10, h_11, h_12, h_13, h_14, h_15, h_16, h_17, h_18, h_19, h_20, h_21, h_22, h_23, h_24, h_25, h_26, h_27, h_28, h_29, h_30, h_31, h_32, h_33, h_34, h_35, h_36, h_37, h_38, h_39, h_40, h_41, h_42, h_43, h_44, h_45, h_46, h_47, h_48, h_49, h_50, h_51, h_52, h_53, h_54, h_55, h_56, h_57, h_58, h_59, h_60, h_61, h_62, h_63, h_64, h_65, h_66, h_67, h_68, h_69, h_70, h_71, h_72, h_73, h_74, h_75, h_76, h_77, h_78, h_79, h_80, h_81, h_82, h_83, h_84, h_85, h_86, h_87, h_88, h_89, h_90, h_91, h_92, h_93, h_94, h_95, h_96, h_97, h_98, h_99, h_100, h_101, h_102, h_103, h_104, h_105, h_106, h_107, h_108, h_109, h_110, h_111, h_112, h_113, h_114, h_115, h_116, h_117, h_118, h_119, h_120, h_121, h_122, h_123, h_124, h_125, h_126, h_127, h_128, h_129, h_130, h_131, h_132, h_133, h_134, h_135, h_136, h_137, h_138, h_139, h_140, h_141, h_142, h_143, h_144, h_145, h_146, h_147, h_148, h_149, h_150, h_151, h_152, h_153, h_154, h_155, h_156, h_157, h_158, h_159, h_160, h_161, h_162, h_163, h_164, h_165, h_166, h_167, h_168, h_169, h_170, h_171, h_172, h_173, h_174, h_175, h_176, h_177, h_178, h_179, h_180, h_181, h_182, h_183, h_184, h_185, h_186, h_187, h_188, h_189, h_190, h_191, h_192, h_193, h_194, h_195, h_196, h_197, h_198, h_199, h_200, h_201, h_202, h_203, h_204, h_205, h_206, h_207, h_208, h_209, h_210, h_211, h_212, h_213, h_214, h_215, h_216, h_217, h_218, h_219, h_220, h_221, h_222, h_223, h_224, h_225, h_226, h_227, h_228, h_229, i_v, b_bv, i_lit, b_blit, i_add, i_sub, i_mul, i_div, i_mod, i_tdiv, i_tmod, i_ite, b_ite, b_lt, b_le, b_eq, b_not, b_and, b_or, b_iff, i_sel, a_tab, i_pow2, List.getD_cons_zero, List.getD_cons_succ, decide_eq_true_eq, decide_eq_false_iff_not, Bool.and_eq_true, Bool.or_eq_true, Bool.not_eq_true', Bool.not_eq_false', Bool.and_eq_false_iff, Bool.or_eq_false_iff, Bool.not_not, ite_tt, ite_ff, iff_tt, iff_ff, a_av, a_ite, a_upd, Int.toNat_zero] at hc0 hc13
           omega)
    ·
      first
        | rfl
        | (exfalso
           simp only [h_Base] at hB
           obtain ⟨b0, b1, b2, b3, b4, b5, _⟩ := hB
           have b6 := b2 0
           simp only [h_0, h_1, h_2, h_3, h_4, h_5, h_6, h_7, h_8, h_9, h_10, h_11, h_12, h_13, h_14, h_15, h_16, h_17, h_18, h_19, h_20, h_21, h_22, h_23, h_24, h_25, h_26, h_27, h_28, h_29, h_30, h_31, h_32, h_33, h_34, h_35, h_36, h_37, h_38, h_39, h_40, h_41, h_42, h_43, h_44, h_45, h_46, h_47, h_48, h_49, h_50, h_51, h_52, h_53, h_54, h_55, h_56, h_57, h_58, h_59, h_60, h_61, h_62, h_63, h_64, h_65, h_66, h_67, h_68, h_69, h_70, h_71, h_72, h_73, h_74, h_75, h_76, h_77, h_78, h_79, h_80, h_81, h_82, h_83, h_84, h_85, h_86, h_87, h_88, h_89, h_90, h_91, h_92, h_93, h_94, h_95, h_96, h_97, h_98, h_99, h_100, h_101, h_102, h_103, h_104, h_105, h_106, h_107, h_108, h_109, h_110, h_111, h_112, h_113, h_114, h_115, h_116, h_117, h_118, h_119, h_120, h_121, h_122, h_123, h_124, h_125, h_126, h_127, h_128, h_129, h_130, h_131, h_132, h_133, h_134, h_135, h_136, h_137, h_138, h_139, h_140, h_141, h_142, h_143, h_144, h_145, h_146, h_147, h_148, h_149, h_150, h_151, h_152, h_153, h_154, h_155, h_156, h_157, h_158, h_159, h_160, h_161, h_162, h_163, h_164, h_165, h_166, h_167, h_168, h_169, h_170, h_171, h_172, h_173, h_174, h_175, h_176, h_177, h_178, h_179, h_180, h_181, h_182, h_183, h_184, h_185, h_186, h_187, h_188, h_189, h_190, h_191, h_192, h_193, h_194, h_195, h_196, h_197, h_198, h_199, h_200, h_201, h_202, h_203, h_204, h_205, h_206, h_207, h_208, h_209, h_210, h_211, h_212, h_213, h_214, h_215, h_216, h_217, h_218, h_219, h_220, h_221, h_222, h_223, h_224, h_225, h_226, h_227, h_228, h_229, i_v, b_bv, i_lit, b_blit, i_add, i_sub, i_mul, i_div, i_mod, i_tdiv, i_tmod, i_ite, b_ite, b_lt, b_le, b_eq, b_not, b_and, b_or, b_iff, i_sel, a_tab, i_pow2, List.getD_cons_zero, List.getD_cons_succ, decide_eq_true_eq, decide_eq_false_iff_not, Bool.and_eq_true, Bool.or_eq_true, Bool.not_eq_true', Bool.not_eq_false', Bool.and_eq_false_iff, Bool.or_eq_false_iff, Bool.not_not, ite_tt, ite_ff, iff_tt, iff_ff, a_av, a_ite, a_upd, Int.toNat_zero] at hc0 hc13
           omega)
theorem h_vcS (x0 : Ext) (x1 : Ext) (nx0 nx1 : Int) (Ax0 Ax1_0 Ax1_1 Ax1_2 : Nat → Int) (hB : h_Base x0 x1 nx0 nx1 Ax0 Ax1_0 Ax1_1 Ax1_2) :
    LT.holds (⟨[nx0, nx1, 0, 0], [], [Ax0, Ax1_0, Ax1_1, Ax1_2, fun _ => 0, fun _ => 0, fun _ => 0, fun _ => 0, fun _ => 0, fun _ => 0, fun _ => 0], [], Iv (fun i j => match i, j with | 0, 0 => x0 | 1, 0 => x1 | _, _ => Ext.none)⟩ : Env) (fun v _ => retTrue (⟨[nx0, nx1, 0, 0], [], [Ax0, Ax1_0, Ax1_1, Ax1_2, fun _ => 0, fun _ => 0, fun _ => 0, fun _ => 0, fun _ => 0, fun _ => 0, fun _ => 0], [], Iv (fun i j => match i, j with | 0, 0 => x0 | 1, 0 => x1 | _, _ => Ext.none)⟩ : Env) v) (fun j' todo ρ' => (h_hs[j']?.map (·.todo)) = some todo ∧ h_Inv x0 x1 j' ρ') (.jump 0 h_T0 ⟨[(3, (.lit 128)), (2, (.lit 0))], [], [(10, (.tab [])), (9, (.tab [])), (8, (.tab [])), (7, (.tab [])), (6, (.tab [])), (5, (.tab [])), (4, (.tab []))]⟩) := by
  simp only [LT.holds, retTrue]
  refine ⟨h_hT0, _, _, _, _, _, _, _, _, _, _, _, _, _, _, _, rfl, hB, ?_⟩
  ·
    simp only [h_0, h_1, h_2, h_3, h_4, h_5, h_6, h_7, h_8, h_9, h_10, h_11, h_12, h_13, h_14, h_15, h_16, h_17, h_18, h_19, h_20, h_21, h_22, h_23, h_24, h_25, h_26, h_27, h_28, h_29, h_30, h_31, h_32, h_33, h_34, h_35, h_36, h_37, h_38, h_39, h_40, h_41, h_42, h_43, h_44, h_45, h_46, h_47, h_48, h_49, h_50, h_51, h_52, h_53, h_54, h_55, h_56, h_57, h_58, h_59, h_60, h_61, h_62, h_63, h_64, h_65, h_66, h_67, h_68, h_69, h_70, h_71, h_72, h_73, h_74, h_75, h_76, h_77, h_78, h_79, h_80, h_81, h_82, h_83, h_84, h_85, h_86, h_87, h_88, h_89, h_90, h_91, h_92, h_93, h_94, h_95, h_96, h_97, h_98, h_99, h_100, h_101, h_102, h_103, h_104, h_105, h_106, h_107, h_108, h_109, h_110, h_111, h_112, h_113, h_114, h_115, h_116, h_117, h_118, h_119, h_120, h_121, h_122, h_123, h_124, h_125, h_126, h_127, h_128, h_129, h_130, h_131, h_132, h_133, h_134, h_135, h_136, h_137, h_138, h_139, h_140, h_141, h_142, h_143, h_144, h_145, h_146, h_147, h_148, h_149, h_150, h_151, h_152, h_153, h_154, h_155, h_156, h_157, h_158, h_159, h_160, h_161, h_162, h_163, h_164, h_165, h_166, h_167, h_168, h_169, h_170, h_171, h_172, h_173, h_174, h_175, h_176, h_177, h_178, h_179, h_180, h_181, h_182, h_183, h_184, h_185, h_186, h_187, h_188, h_189, h_190, h_191, h_192, h_193, h_194, h_195, h_196, h_197, h_198, h_199, h_200, h_201, h_202, h_203, h_204, h_205, h_206, h_207, h_208, h_209, h_210, h_211, h_212, h_213, h_214, h_215, h_216, h_217, h_218, h_219, h_220, h_221, h_222, h_223, h_224, h_225, h_226, h_227, h_228, h_229, h_J0, i_v, b_bv, i_lit, b_blit, i_add, i_sub, i_mul, i_div, i_mod, i_tdiv, i_tmod, i_ite, b_ite, b_lt, b_le, b_eq, b_not, b_and, b_or, b_iff, i_sel, a_tab, i_pow2, List.getD_cons_zero, List.getD_cons_succ, decide_eq_true_eq, decide_eq_false_iff_not, Bool.and_eq_true, Bool.or_eq_true, Bool.not_eq_true', Bool.not_eq_false', Bool.and_eq_false_iff, Bool.or_eq_false_iff, Bool.not_not, ite_tt, ite_ff, iff_tt, iff_ff, a_av, a_ite, a_upd]
    refine ⟨?_, ?_, ?_, ?_, ?_, ?_, ?_, ?_, ?_, trivial⟩
    all_goals first | omega | (intro j; simp) 
theorem h_calls (x0 : Ext) (x1 : Ext) (hex0 : ((x0.n : Int)) = 1) (hex1 : 0 ≤ ((x1.n : Int)) ∧ ((x1.n : Int)) ≤ 1048575) (w : World) (g0 : XFit x0 w [some .u8]) (g1 : XFit x1 w [some .i64, some .i64, some .u8]) :
    Calls Try.prog 7 #[x0.v, x1.v] w fun r w' => r = .returned (.bool true) ∧ Below w.heap.size w w' := by
  have hx0 : SV.conc (⟨[(x0.n : Int), (x1.n : Int), 0, 0], [], [xArr x0 1 0, xArr x1 3 0, xArr x1 3 1, xArr x1 3 2, fun _ => 0, fun _ => 0, fun _ => 0, fun _ => 0, fun _ => 0, fun _ => 0, fun _ => 0], [], Iv (fun i j => match i, j with | 0, 0 => x0 | 1, 0 => x1 | _, _ => Ext.none)⟩ : Env) Loc.id (.s (.xslc 0 (.lit 0) (.lit 0) (.lit 1))) = x0.v := conc_ext g0 rfl hex0.symm
  have hx1 : SV.conc (⟨[(x0.n : Int), (x1.n : Int), 0, 0], [], [xArr x0 1 0, xArr x1 3 0, xArr x1 3 1, xArr x1 3 2, fun _ => 0, fun _ => 0, fun _ => 0, fun _ => 0, fun _ => 0, fun _ => 0, fun _ => 0], [], Iv (fun i j => match i, j with | 0, 0 => x0 | 1, 0 => x1 | _, _ => Ext.none)⟩ : Env) Loc.id (.s (.xslc 1 (.lit 0) (.lit 0) (.v 1))) = x1.v := conc_ext g1 rfl rfl
  have hargs : (h_Ls.map (SV.conc (⟨[(x0.n : Int), (x1.n : Int), 0, 0], [], [xArr x0 1 0, xArr x1 3 0, xArr x1 3 1, xArr x1 3 2, fun _ => 0, fun _ => 0, fun _ => 0, fun _ => 0, fun _ => 0, fun _ => 0, fun _ => 0], [], Iv (fun i j => match i, j with | 0, 0 => x0 | 1, 0 => x1 | _, _ => Ext.none)⟩ : Env) Loc.id)).toArray = #[x0.v, x1.v] := by
    refine congrArg List.toArray ?_
    exact (cons_eq hx0 (cons_eq hx1 rfl))
  rw [← hargs]
  have hok : Hyp.ok h_Hy (⟨[(x0.n : Int), (x1.n : Int), 0, 0], [], [xArr x0 1 0, xArr x1 3 0, xArr x1 3 1, xArr x1 3 2, fun _ => 0, fun _ => 0, fun _ => 0, fun _ => 0, fun _ => 0, fun _ => 0, fun _ => 0], [], Iv (fun i j => match i, j with | 0, 0 => x0 | 1, 0 => x1 | _, _ => Ext.none)⟩ : Env) := by
    refine ⟨?_, ?_, ?_, (fun p hp is bs xs => by simp only [h_Hy, List.mem_cons, List.not_mem_nil, or_false] at hp; subst hp; exact sumF_rng _ _), ?_, by simp [h_Hy]⟩
    · intro p hp
      simp only [h_Hy, List.mem_cons, List.not_mem_nil, or_false] at hp
      rcases hp with rfl | rfl
      · exact xi_ok g0 rfl hex0.symm rfl
      · exact (xi_okN (n := .v 1) [.i64, .i64, .u8] [1, 2, 3] g1 (by decide) rfl rfl rfl (fun f a h => by rcases f with _ | _ | _ | f <;> simp only [List.getElem?_cons_zero, List.getElem?_cons_succ, List.getElem?_nil, Option.some.injEq, reduceCtorEq] at h <;> subst h <;> first | exact rfl | exact rfl | exact rfl))
    · intro p hp
      simp only [h_Hy, List.mem_cons, List.not_mem_nil, or_false] at hp
      rcases hp with rfl | rfl | rfl | rfl
      · exact (by have hx := hex0; first | exact ⟨Int.le_of_eq hx.symm, Int.le_of_eq hx⟩ | exact hx)
      · exact (by have hx := hex1; first | exact ⟨Int.le_of_eq hx.symm, Int.le_of_eq hx⟩ | exact hx)
      · exact xlen_rng g0
      · exact xlen_rng g1
    · intro p hp
      simp only [h_Hy, List.mem_cons, List.not_mem_nil, or_false] at hp
      rcases hp with rfl | rfl | rfl | rfl
      · exact xArr_rng g0
      · exact xArr_rngN [.i64, .i64, .u8] g1 0 rfl
      · exact xArr_rngN [.i64, .i64, .u8] g1 1 rfl
      · exact xArr_rngN [.i64, .i64, .u8] g1 2 rfl
    · simp [h_Hy]
  refine law_loops (D := h_D) (hs := h_hs) (ρ := (⟨[(x0.n : Int), (x1.n : Int), 0, 0], [], [xArr x0 1 0, xArr x1 3 0, xArr x1 3 1, xArr x1 3 2, fun _ => 0, fun _ => 0, fun _ => 0, fun _ => 0, fun _ => 0, fun _ => 0, fun _ => 0], [], Iv (fun i j => match i, j with | 0, 0 => x0 | 1, 0 => x1 | _, _ => Ext.none)⟩ : Env)) (G_ok _) (by kernel_rfl) rfl (h_Inv x0 x1 ) h_mu h_st rfl ⟨rfl, rfl, rfl⟩ hok (h_vcS x0 x1 ((x0.n : Int)) ((x1.n : Int)) (xArr x0 1 0) (xArr x1 3 0) (xArr x1 3 1) (xArr x1 3 2) ⟨xlen_rng g0, xlen_rng g1, xArr_rng g0, xArr_rngN [.i64, .i64, .u8] g1 0 rfl, xArr_rngN [.i64, .i64, .u8] g1 1 rfl, xArr_rngN [.i64, .i64, .u8] g1 2 rfl, rfl, rfl, rfl, rfl, rfl, rfl, hex0, hex1, trivial⟩) ?_ w (fun i j => by rcases i with _ | _ | i <;> rcases j with _ | j <;> first | exact Ext.none_ok _ | exact g0.ok | exact g1.ok)
  intro j h ρ hj hI hz hInv
  rcases j with _ | j
  · simp only [h_hs, List.getElem?_cons_zero, List.getElem?_cons_succ, Option.some.injEq] at hj; subst hj
    obtain ⟨nx0, nx1, y2, y3, Ax0, Ax1_0, Ax1_1, Ax1_2, Z4, Z5, Z6, Z7, Z8, Z9, Z10, rfl, hB, hJ⟩ := hInv
    have hok2 : Hyp.ok h_h0.H (⟨[nx0, nx1, y2, y3], [], [Ax0, Ax1_0, Ax1_1, Ax1_2, Z4, Z5, Z6, Z7, Z8, Z9, Z10], [], Iv (fun i j => match i, j with | 0, 0 => x0 | 1, 0 => x1 | _, _ => Ext.none)⟩ : Env) := by
      have hB2 := hB; have hJ2 := hJ
      simp only [h_Base] at hB2; simp only [h_J0] at hJ2
      obtain ⟨hb0, hb1, hb2, hb3, hb4, hb5, hn0, hn1, ha0_0, ha1_0, ha1_1, ha1_2, hex0, hex1, _⟩ := hB2
      obtain ⟨hl0, hl1, hl2, hl3, hl4, hl5, hl6, hl7, hl8, _⟩ := hJ2
      refine ⟨?_, ?_, ?_, (fun p hp is bs xs => by simp only [h_h0, List.mem_cons, List.not_mem_nil, or_false] at hp; subst hp; exact sumF_rng _ _), ?_, by simp [h_h0]⟩
      · intro p hp
        simp only [h_h0, List.mem_cons, List.not_mem_nil, or_false] at hp
        rcases hp with rfl | rfl
        · exact xi_ok g0 rfl (Eq.trans hex0.symm hn0) ha0_0
        · exact (xi_okN (n := .v 1) [.i64, .i64, .u8] [1, 2, 3] g1 (by decide) rfl rfl hn1 (fun f a h => by rcases f with _ | _ | _ | f <;> simp only [List.getElem?_cons_zero, List.getElem?_cons_succ, List.getElem?_nil, Option.some.injEq, reduceCtorEq] at h <;> subst h <;> first | exact ha1_0 | exact ha1_1 | exact ha1_2))
      · intro p hp
        simp only [h_h0, List.mem_cons, List.not_mem_nil, or_false] at hp
        rcases hp with rfl | rfl | rfl | rfl | rfl | rfl
        · exact (by have hx := hex0; first | exact ⟨Int.le_of_eq hx.symm, Int.le_of_eq hx⟩ | exact hx)
        · exact (by have hx := hex1; first | exact ⟨Int.le_of_eq hx.symm, Int.le_of_eq hx⟩ | exact hx)
        · exact hb0
        · exact hb1
        · exact hl0
        · exact hl1
      · intro p hp
        simp only [h_h0, List.mem_cons, List.not_mem_nil, or_false] at hp
        rcases hp with rfl | rfl | rfl | rfl | rfl | rfl | rfl | rfl | rfl | rfl | rfl
        · exact hb2
        · exact hb3
        · exact hb4
        · exact hb5
        · exact hl2
        · exact hl3
        · exact hl4
        · exact hl5
        · exact hl6
        · exact hl7
        · exact hl8
      · simp [h_h0]
    exact ⟨hok2, LT.of_bare h_sg0 (h_vc0 x0 x1 nx0 nx1 y2 y3 Ax0 Ax1_0 Ax1_1 Ax1_2 Z4 Z5 Z6 Z7 Z8 Z9 Z10 hB hJ hok2)⟩
  · simp [h_hs] at hj
end Go.Proofs.Ytngbibifiadgiaa.TickLoads
