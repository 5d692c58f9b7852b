/- A part of the law TickLoads, which returns true for every input. Bytes are taken, if they are a state, and refused if not, and then all is as it was; what was taken is saved again with the same bytes. Where what comes in is of bulk at most 1048576. No condition. -/
import Derived.Test.YtngbibifiadgiaaTickLoads0
namespace Go.Proofs.Ytngbibifiadgiaa.TickLoads
open Go.Sx Go.ChangeShapes Go.WideShapes Go.ChangeAt Go.RowKit
set_option linter.unusedVariables false
set_option linter.unusedSimpArgs false
set_option maxRecDepth 100000
def i_Hy : Hyp := ⟨[((.v 0), (23, 23)), ((.v 1), (0, 1048575)), (.v 0, (0, 9223372036854775807)), (.v 1, (0, 9223372036854775807))], [(0, (0, 255)), (1, (-9223372036854775808, 9223372036854775807)), (2, (-9223372036854775808, 9223372036854775807)), (3, (0, 255))], [(10, (0, 4294967295))], [], [], [(0, ⟨.lit 23, [(some .u8, .av 0)]⟩), (1, ⟨.v 1, [(some .i64, .av 1), (some .i64, .av 2), (some .u8, .av 3)]⟩)]⟩
def i_Ls : List SV := [.s (.xslc 0 (.lit 0) (.lit 0) (.lit 23)), .s (.xslc 1 (.lit 0) (.lit 0) (.v 1))]
def i_0 : E := .lt (.v 2) (.v 1)
def i_1 : E := .sel (.av 2) (.v 2)
def i_2 : E := .add i_1 (.lit 252)
def i_3 : E := .mod i_2 (.lit 256)
def i_4 : E := .le i_3 (.lit 3)
def i_5 : E := .mod i_1 (.lit 256)
def i_6 : E := .eq i_5 (.lit 1)
def i_7 : E := .or i_4 i_6
def i_8 : E := .eq i_5 (.lit 4)
def i_9 : E := .eq i_5 (.lit 5)
def i_10 : E := .eq i_5 (.lit 6)
def i_11 : E := .eq i_5 (.lit 7)
def i_12 : E := .ite i_10 i_10 i_11
def i_13 : E := .ite i_9 i_9 i_12
def i_14 : E := .ite i_8 i_8 i_13
def i_15 : E := .not i_14
def i_16 : E := .or i_7 i_15
def i_17 : E := .add i_1 (.lit 248)
def i_18 : E := .mod i_17 (.lit 256)
def i_19 : E := .le i_18 (.lit 1)
def i_20 : E := .or i_14 i_19
def i_21 : E := .or i_20 i_6
def i_22 : E := .eq i_5 (.lit 8)
def i_23 : E := .eq i_5 (.lit 9)
def i_24 : E := .ite i_22 i_22 i_23
def i_25 : E := .not i_24
def i_26 : E := .or i_21 i_25
def i_27 : E := .le (.lit 4) i_3
def i_28 : E := .and i_14 i_27
def i_29 : E := .not i_6
def i_30 : E := .and i_28 i_29
def i_31 : E := .or i_26 i_30
def i_32 : E := .or i_14 i_24
def i_33 : E := .add i_1 (.lit 246)
def i_34 : E := .mod i_33 (.lit 256)
def i_35 : E := .le i_34 (.lit 2)
def i_36 : E := .or i_32 i_35
def i_37 : E := .or i_36 i_6
def i_38 : E := .eq i_5 (.lit 10)
def i_39 : E := .eq i_5 (.lit 11)
def i_40 : E := .eq i_5 (.lit 12)
def i_41 : E := .ite i_39 i_39 i_40
def i_42 : E := .ite i_38 i_38 i_41
def i_43 : E := .not i_42
def i_44 : E := .or i_37 i_43
def i_45 : E := .or i_44 i_30
def i_46 : E := .le (.lit 2) i_18
def i_47 : E := .and i_24 i_46
def i_48 : E := .and i_47 i_15
def i_49 : E := .and i_48 i_29
def i_50 : E := .or i_45 i_49
def i_51 : E := .sel (.av 3) (.v 2)
def i_52 : E := .div i_51 (.lit 128)
def i_53 : E := .mul i_52 (.lit 128)
def i_54 : E := .mod i_51 (.lit 8)
def i_55 : E := .add i_53 i_54
def i_56 : E := .ite i_6 i_55 (.v 3)
def i_57 : E := .add (.v 2) (.lit 1)
def i_58 : E := .or i_14 i_6
def i_59 : E := .sel (.av 10) i_18
def i_60 : E := .ite i_24 i_51 i_59
def i_61 : E := .ite i_58 i_59 i_60
def i_62 : E := .upd (.av 10) i_18 i_61
def i_63 : E := .sel (.av 9) i_3
def i_64 : E := .ite i_14 i_51 i_63
def i_65 : E := .ite i_6 i_63 i_64
def i_66 : E := .upd (.av 9) i_3 i_65
def i_67 : E := .div i_51 (.lit 16)
def i_68 : E := .mod i_67 (.lit 4)
def i_69 : E := .eq i_68 (.lit 1)
def i_70 : E := .eq i_68 (.lit 3)
def i_71 : E := .or i_69 i_70
def i_72 : E := .sel (.av 8) (.lit 0)
def i_73 : E := .ite i_71 (.lit 0) i_72
def i_74 : E := .ite i_6 i_73 i_72
def i_75 : E := .upd (.av 8) (.lit 0) i_74
def i_76 : E := .sel (.av 8) (.lit 1)
def i_77 : E := .ite i_71 (.lit 0) i_76
def i_78 : E := .ite i_6 i_77 i_76
def i_79 : E := .upd i_75 (.lit 1) i_78
def i_80 : E := .sel (.av 8) (.lit 2)
def i_81 : E := .eq i_68 (.lit 2)
def i_82 : E := .ite i_81 (.lit 0) i_80
def i_83 : E := .ite i_69 i_80 i_82
def i_84 : E := .ite i_70 (.lit 0) i_83
def i_85 : E := .ite i_6 i_84 i_80
def i_86 : E := .upd i_79 (.lit 2) i_85
def i_87 : E := .sel (.av 8) (.lit 3)
def i_88 : E := .ite i_81 (.lit 0) i_87
def i_89 : E := .ite i_69 i_87 i_88
def i_90 : E := .ite i_70 (.lit 0) i_89
def i_91 : E := .ite i_6 i_90 i_87
def i_92 : E := .upd i_86 (.lit 3) i_91
def i_93 : E := .sel (.av 5) (.lit 0)
def i_94 : E := .add i_93 (.lit 1)
def i_95 : E := .div i_94 (.lit 128)
def i_96 : E := .mod i_95 (.lit 2)
def i_97 : E := .eq i_96 (.lit 0)
def i_98 : E := .mod i_56 (.lit 2)
def i_99 : E := .eq i_98 (.lit 0)
def i_100 : E := .or i_97 i_99
def i_101 : E := .mod i_51 (.lit 2)
def i_102 : E := .eq i_101 (.lit 0)
def i_103 : E := .mod (.v 3) (.lit 2)
def i_104 : E := .eq i_103 (.lit 0)
def i_105 : E := .not i_104
def i_106 : E := .or i_102 i_105
def i_107 : E := .sel (.av 7) (.lit 0)
def i_108 : E := .ite i_106 i_107 (.lit 0)
def i_109 : E := .ite i_6 i_108 i_107
def i_110 : E := .sel (.av 6) (.lit 0)
def i_111 : E := .ite i_106 i_110 (.lit 0)
def i_112 : E := .ite i_6 i_111 i_110
def i_113 : E := .add i_112 (.lit 1)
def i_114 : E := .mod i_113 (.lit 256)
def i_115 : E := .eq i_34 (.lit 0)
def i_116 : E := .or i_32 i_6
def i_117 : E := .sel (.av 4) i_34
def i_118 : E := .ite i_42 i_51 i_117
def i_119 : E := .ite i_116 i_117 i_118
def i_120 : E := .sel (.av 4) (.lit 0)
def i_121 : E := .ite i_115 i_119 i_120
def i_122 : E := .eq i_114 i_121
def i_123 : E := .add i_109 (.lit 1)
def i_124 : E := .mod i_123 (.lit 16)
def i_125 : E := .ite i_122 i_124 i_109
def i_126 : E := .ite i_100 i_109 i_125
def i_127 : E := .upd (.av 7) (.lit 0) i_126
def i_128 : E := .sel (.av 5) (.lit 1)
def i_129 : E := .add i_128 (.lit 1)
def i_130 : E := .div i_129 (.lit 128)
def i_131 : E := .mod i_130 (.lit 2)
def i_132 : E := .eq i_131 (.lit 0)
def i_133 : E := .div i_56 (.lit 2)
def i_134 : E := .mod i_133 (.lit 2)
def i_135 : E := .eq i_134 (.lit 0)
def i_136 : E := .or i_132 i_135
def i_137 : E := .div i_51 (.lit 2)
def i_138 : E := .mod i_137 (.lit 2)
def i_139 : E := .eq i_138 (.lit 0)
def i_140 : E := .div (.v 3) (.lit 2)
def i_141 : E := .mod i_140 (.lit 2)
def i_142 : E := .eq i_141 (.lit 0)
def i_143 : E := .not i_142
def i_144 : E := .or i_139 i_143
def i_145 : E := .sel (.av 7) (.lit 1)
def i_146 : E := .ite i_144 i_145 (.lit 0)
def i_147 : E := .ite i_6 i_146 i_145
def i_148 : E := .sel (.av 6) (.lit 1)
def i_149 : E := .ite i_144 i_148 (.lit 0)
def i_150 : E := .ite i_6 i_149 i_148
def i_151 : E := .add i_150 (.lit 1)
def i_152 : E := .mod i_151 (.lit 256)
def i_153 : E := .eq i_34 (.lit 1)
def i_154 : E := .sel (.av 4) (.lit 1)
def i_155 : E := .ite i_153 i_119 i_154
def i_156 : E := .eq i_152 i_155
def i_157 : E := .add i_147 (.lit 1)
def i_158 : E := .mod i_157 (.lit 16)
def i_159 : E := .ite i_156 i_158 i_147
def i_160 : E := .ite i_136 i_147 i_159
def i_161 : E := .upd i_127 (.lit 1) i_160
def i_162 : E := .sel (.av 5) (.lit 2)
def i_163 : E := .add i_162 (.lit 1)
def i_164 : E := .mod i_163 (.lit 256)
def i_165 : E := .le i_164 (.lit 15)
def i_166 : E := .div i_56 (.lit 4)
def i_167 : E := .mod i_166 (.lit 2)
def i_168 : E := .eq i_167 (.lit 0)
def i_169 : E := .or i_165 i_168
def i_170 : E := .div i_51 (.lit 4)
def i_171 : E := .mod i_170 (.lit 2)
def i_172 : E := .eq i_171 (.lit 0)
def i_173 : E := .div (.v 3) (.lit 4)
def i_174 : E := .mod i_173 (.lit 2)
def i_175 : E := .eq i_174 (.lit 0)
def i_176 : E := .not i_175
def i_177 : E := .or i_172 i_176
def i_178 : E := .sel (.av 7) (.lit 2)
def i_179 : E := .ite i_177 i_178 (.lit 0)
def i_180 : E := .ite i_6 i_179 i_178
def i_181 : E := .sel (.av 6) (.lit 2)
def i_182 : E := .ite i_177 i_181 (.lit 0)
def i_183 : E := .ite i_6 i_182 i_181
def i_184 : E := .add i_183 (.lit 1)
def i_185 : E := .mod i_184 (.lit 256)
def i_186 : E := .eq i_34 (.lit 2)
def i_187 : E := .sel (.av 4) (.lit 2)
def i_188 : E := .ite i_186 i_119 i_187
def i_189 : E := .eq i_185 i_188
def i_190 : E := .add i_180 (.lit 1)
def i_191 : E := .mod i_190 (.lit 16)
def i_192 : E := .ite i_189 i_191 i_180
def i_193 : E := .ite i_169 i_180 i_192
def i_194 : E := .upd i_161 (.lit 2) i_193
def i_195 : E := .ite i_122 (.lit 0) i_114
def i_196 : E := .ite i_100 i_112 i_195
def i_197 : E := .upd (.av 6) (.lit 0) i_196
def i_198 : E := .ite i_156 (.lit 0) i_152
def i_199 : E := .ite i_136 i_150 i_198
def i_200 : E := .upd i_197 (.lit 1) i_199
def i_201 : E := .ite i_189 (.lit 0) i_185
def i_202 : E := .ite i_169 i_183 i_201
def i_203 : E := .upd i_200 (.lit 2) i_202
def i_204 : E := .mod i_94 (.lit 256)
def i_205 : E := .ite i_97 i_204 (.lit 0)
def i_206 : E := .upd (.av 5) (.lit 0) i_205
def i_207 : E := .mod i_129 (.lit 256)
def i_208 : E := .ite i_132 i_207 (.lit 0)
def i_209 : E := .upd i_206 (.lit 1) i_208
def i_210 : E := .ite i_165 i_164 (.lit 0)
def i_211 : E := .upd i_209 (.lit 2) i_210
def i_212 : E := .upd (.av 4) i_34 i_119
def i_213 : E := .sel (.av 0) (.lit 4)
def i_214 : E := .le (.lit 16) i_213
def i_215 : E := .sel (.av 0) (.lit 8)
def i_216 : E := .le (.lit 16) i_215
def i_217 : E := .or i_214 i_216
def i_218 : E := .sel (.av 0) (.lit 10)
def i_219 : E := .le (.lit 16) i_218
def i_220 : E := .or i_217 i_219
def i_221 : E := .sel (.av 0) (.lit 12)
def i_222 : E := .le (.lit 16) i_221
def i_223 : E := .or i_220 i_222
def i_224 : E := .sel (.av 0) (.lit 2)
def i_225 : E := .le (.lit 128) i_224
def i_226 : E := .or i_223 i_225
def i_227 : E := .sel (.av 0) (.lit 6)
def i_228 : E := .le (.lit 128) i_227
def i_229 : E := .or i_226 i_228
def i_230 : E := .sel (.av 0) (.lit 0)
def i_231 : E := .div i_230 (.lit 8)
def i_232 : E := .mod i_231 (.lit 16)
def i_233 : E := .eq i_232 (.lit 0)
def i_234 : E := .not i_233
def i_235 : E := .or i_229 i_234
noncomputable def i_T0 : List Item := todoS Try.prog G Gh [] 3000 0 7 i_Hy i_Ls [] 4
noncomputable def i_h0 : Head := ⟨4, i_T0, ⟨[((.v 0), (23, 23)), ((.v 1), (0, 1048575)), ((.v 0), (0, 9223372036854775807)), ((.v 1), (0, 9223372036854775807)), ((.v 2), (0, 1048576)), ((.v 3), (0, 255))], [(0, (0, 255)), (1, ((-9223372036854775808), 9223372036854775807)), (2, ((-9223372036854775808), 9223372036854775807)), (3, (0, 255)), (4, (0, 255)), (5, (0, 255)), (6, (0, 255)), (7, (0, 255)), (8, (0, 255)), (9, (0, 255)), (10, (0, 255))], [(10, (0, 4294967295))], [], [], [(0, ⟨(.lit 23), [(some .u8, (.av 0))]⟩), (1, ⟨(.v 1), [(some .i64, (.av 1)), (some .i64, (.av 2)), (some .u8, (.av 3))]⟩)]⟩, [⟨6, [], .s (.int .i64 (.v 2))⟩, ⟨5, [], .s (.ptr 0 (.lit 0))⟩, ⟨0, [], .s (.xslc 0 (.lit 0) (.lit 0) (.lit 23))⟩, ⟨1, [], .s (.xslc 1 (.lit 0) (.lit 0) (.v 1))⟩], [⟨68, [.one (.int .u8 (.v 3)), .rows (.lit 3) [(some .u8, (.av 4)), (some .u8, (.av 5)), (some .u8, (.av 6)), (some .u8, (.av 7))] 0, .run .u8 (.lit 4) (.av 8) 0, .run .u8 (.lit 4) (.av 9) 0, .run .u8 (.lit 2) (.av 10) 0], true, none, false⟩]⟩
noncomputable def i_hs : List Head := [i_h0]
def i_D : Dim := ⟨4, 0, 11, 2, 0, 4, 0⟩
theorem i_st : startL Try.prog G Gh i_D i_hs [] 3000 0 7 i_Hy i_Ls [] = some (.jump 0 i_T0 ⟨[(3, (.lit 128)), (2, (.lit 0))], [], [(10, (.tab [])), (9, (.tab [])), (8, (.tab [])), (7, (.tab [])), (6, (.tab [])), (5, (.tab [])), (4, (.tab []))]⟩) := by kernel_rfl
theorem i_sg0 : (segL Try.prog G Gh i_D i_hs [] 3000 0 7 i_h0).map LT.bare = some (.ite i_0 (.need i_0 (.need i_0 (.need i_0 (.need i_0 (.need i_0 (.need i_0 (.need i_0 (.need i_0 (.need i_16 (.need i_31 (.need i_50 (.jump 0 i_T0 ⟨[(3, i_56), (2, i_57)], [], [(10, i_62), (9, i_66), (8, i_92), (7, i_194), (6, i_203), (5, i_211), (4, i_212)]⟩)))))))))))) (.ite i_235 (.ret (.s (.bool (.blit true))) []) (.ret (.s (.bool (.blit true))) []))) := by kernel_rfl
theorem i_hT0 : (i_hs[0]?.map (·.todo)) = some i_T0 := by kernel_rfl
def i_Base (x0 : Ext) (x1 : Ext) (nx0 nx1 : Int) (Ax0 Ax1_0 Ax1_1 Ax1_2 : Nat → Int) : Prop := (0 ≤ nx0 ∧ nx0 ≤ 9223372036854775807) ∧ (0 ≤ nx1 ∧ nx1 ≤ 9223372036854775807) ∧ (∀ j, 0 ≤ Ax0 j ∧ Ax0 j ≤ 255) ∧ (∀ j, -9223372036854775808 ≤ Ax1_0 j ∧ Ax1_0 j ≤ 9223372036854775807) ∧ (∀ j, -9223372036854775808 ≤ Ax1_1 j ∧ Ax1_1 j ≤ 9223372036854775807) ∧ (∀ j, 0 ≤ Ax1_2 j ∧ Ax1_2 j ≤ 255) ∧ nx0 = (x0.n : Int) ∧ nx1 = (x1.n : Int) ∧ Ax0 = xArr x0 1 0 ∧ Ax1_0 = xArr x1 3 0 ∧ Ax1_1 = xArr x1 3 1 ∧ Ax1_2 = xArr x1 3 2 ∧ ((nx0) = 23) ∧ (0 ≤ (nx1) ∧ (nx1) ≤ 1048575) ∧ True
def i_J0 (nx0 nx1 y2 y3 : Int) (Ax0 Ax1_0 Ax1_1 Ax1_2 Z4 Z5 Z6 Z7 Z8 Z9 Z10 : Nat → Int) : Prop := (0 ≤ y2 ∧ y2 ≤ 1048576) ∧ (0 ≤ y3 ∧ y3 ≤ 255) ∧ (∀ j, 0 ≤ Z4 j ∧ Z4 j ≤ 255) ∧ (∀ j, 0 ≤ Z5 j ∧ Z5 j ≤ 255) ∧ (∀ j, 0 ≤ Z6 j ∧ Z6 j ≤ 255) ∧ (∀ j, 0 ≤ Z7 j ∧ Z7 j ≤ 255) ∧ (∀ j, 0 ≤ Z8 j ∧ Z8 j ≤ 255) ∧ (∀ j, 0 ≤ Z9 j ∧ Z9 j ≤ 255) ∧ (∀ j, 0 ≤ Z10 j ∧ Z10 j ≤ 255) ∧ True
def i_Inv (x0 : Ext) (x1 : Ext) : Nat → Env → Prop
  | 0, ρ => ∃ (nx0 nx1 y2 y3 : Int) (Ax0 Ax1_0 Ax1_1 Ax1_2 Z4 Z5 Z6 Z7 Z8 Z9 Z10 : Nat → Int), ρ = (⟨[nx0, nx1, y2, y3], [], [Ax0, Ax1_0, Ax1_1, Ax1_2, Z4, Z5, Z6, Z7, Z8, Z9, Z10], [], Iv (fun i j => match i, j with | 0, 0 => x0 | 1, 0 => x1 | _, _ => Ext.none)⟩ : Env) ∧ i_Base x0 x1 nx0 nx1 Ax0 Ax1_0 Ax1_1 Ax1_2 ∧ i_J0 nx0 nx1 y2 y3 Ax0 Ax1_0 Ax1_1 Ax1_2 Z4 Z5 Z6 Z7 Z8 Z9 Z10
  | _, _ => False
def i_mu : Nat → Env → Nat := fun j ρ => (ρ.i.getD 1 0 - ρ.i.getD 2 0).toNat
theorem i_vc0 (x0 : Ext) (x1 : Ext) (nx0 nx1 y2 y3 : Int) (Ax0 Ax1_0 Ax1_1 Ax1_2 Z4 Z5 Z6 Z7 Z8 Z9 Z10 : Nat → Int) (hB : i_Base x0 x1 nx0 nx1 Ax0 Ax1_0 Ax1_1 Ax1_2) (hJ : i_J0 nx0 nx1 y2 y3 Ax0 Ax1_0 Ax1_1 Ax1_2 Z4 Z5 Z6 Z7 Z8 Z9 Z10) (hH : Hyp.ok i_h0.H (⟨[nx0, nx1, y2, y3], [], [Ax0, Ax1_0, Ax1_1, Ax1_2, Z4, Z5, Z6, Z7, Z8, Z9, Z10], [], Iv (fun i j => match i, j with | 0, 0 => x0 | 1, 0 => x1 | _, _ => Ext.none)⟩ : Env)) :
    LT.holds (⟨[nx0, nx1, y2, y3], [], [Ax0, Ax1_0, Ax1_1, Ax1_2, Z4, Z5, Z6, Z7, Z8, Z9, Z10], [], Iv (fun i j => match i, j with | 0, 0 => x0 | 1, 0 => x1 | _, _ => Ext.none)⟩ : Env) (fun v _ => retTrue (⟨[nx0, nx1, y2, y3], [], [Ax0, Ax1_0, Ax1_1, Ax1_2, Z4, Z5, Z6, Z7, Z8, Z9, Z10], [], Iv (fun i j => match i, j with | 0, 0 => x0 | 1, 0 => x1 | _, _ => Ext.none)⟩ : Env) v) (fun j' todo ρ' => (i_hs[j']?.map (·.todo)) = some todo ∧ i_Inv x0 x1 j' ρ' ∧ i_mu j' ρ' < i_mu 0 (⟨[nx0, nx1, y2, y3], [], [Ax0, Ax1_0, Ax1_1, Ax1_2, Z4, Z5, Z6, Z7, Z8, Z9, Z10], [], Iv (fun i j => match i, j with | 0, 0 => x0 | 1, 0 => x1 | _, _ => Ext.none)⟩ : Env)) (.ite i_0 (.need i_0 (.need i_0 (.need i_0 (.need i_0 (.need i_0 (.need i_0 (.need i_0 (.need i_0 (.need i_16 (.need i_31 (.need i_50 (.jump 0 i_T0 ⟨[(3, i_56), (2, i_57)], [], [(10, i_62), (9, i_66), (8, i_92), (7, i_194), (6, i_203), (5, i_211), (4, i_212)]⟩)))))))))))) (.ite i_235 (.ret (.s (.bool (.blit true))) []) (.ret (.s (.bool (.blit true))) []))) := by
  simp only [LT.holds, retTrue]
  refine ⟨fun hc0 => ?_, fun hc0 => ?_⟩
  ·
    refine ⟨?_, fun hc1 => ?_⟩
    ·
      simp only [i_0, i_1, i_2, i_3, i_4, i_5, i_6, i_7, i_8, i_9, i_10, i_11, i_12, i_13, i_14, i_15, i_16, i_17, i_18, i_19, i_20, i_21, i_22, i_23, i_24, i_25, i_26, i_27, i_28, i_29, i_30, i_31, i_32, i_33, i_34, i_35, i_36, i_37, i_38, i_39, i_40, i_41, i_42, i_43, i_44, i_45, i_46, i_47, i_48, i_49, i_50, i_51, i_52, i_53, i_54, i_55, i_56, i_57, i_58, i_59, i_60, i_61, i_62, i_63, i_64, i_65, i_66, i_67, i_68, i_69, i_70, i_71, i_72, i_73, i_74, i_75, i_76, i_77, i_78, i_79, i_80, i_81, i_82, i_83, i_84, i_85, i_86, i_87, i_88, i_89, i_90, i_91, i_92, i_93, i_94, i_95, i_96, i_97, i_98, i_99, i_100, i_101, i_102, i_103, i_104, i_105, i_106, i_107, i_108, i_109, i_110, i_111, i_112, i_113, i_114, i_115, i_116, i_117, i_118, i_119, i_120, i_121, i_122, i_123, i_124, i_125, i_126, i_127, i_128, i_129, i_130, i_131, i_132, i_133, i_134, i_135, i_136, i_137, i_138, i_139, i_140, i_141, i_142, i_143, i_144, i_145, i_146, i_147, i_148, i_149, i_150, i_151, i_152, i_153, i_154, i_155, i_156, i_157, i_158, i_159, i_160, i_161, i_162, i_163, i_164, i_165, i_166, i_167, i_168, i_169, i_170, i_171, i_172, i_173, i_174, i_175, i_176, i_177, i_178, i_179, i_180, i_181, i_182, i_183, i_184, i_185, i_186, i_187, i_188, i_189, i_190, i_191, i_192, i_193, i_194, i_195, i_196, i_197, i_198, i_199, i_200, i_201, i_202, i_203, i_204, i_205, i_206, i_207, i_208, i_209, i_210, i_211, i_212, i_213, i_214, i_215, i_216, i_217, i_218, i_219, i_220, i_221, i_222, i_223, i_224, i_225, i_226, i_227, i_228, i_229, i_230, i_231, i_232, i_233, i_234, i_235, i_v, b_bv, i_lit, b_blit, i_add, i_sub, i_mul, i_div, i_mod, i_tdiv, i_tmod, i_ite, b_ite, b_lt, b_le, b_eq, b_not, b_and, b_or, b_iff, i_sel, a_tab, i_pow2, List.getD_cons_zero, List.getD_cons_succ, decide_eq_true_eq, decide_eq_false_iff_not, Bool.and_eq_true, Bool.or_eq_true, Bool.not_eq_true', Bool.not_eq_false', Bool.and_eq_false_iff, Bool.or_eq_false_iff, Bool.not_not, ite_tt, ite_ff, iff_tt, iff_ff, a_av, a_ite, a_upd] at hc0 ⊢
      omega
    ·
      refine ⟨?_, fun hc2 => ?_⟩
      ·
        simp only [i_0, i_1, i_2, i_3, i_4, i_5, i_6, i_7, i_8, i_9, i_10, i_11, i_12, i_13, i_14, i_15, i_16, i_17, i_18, i_19, i_20, i_21, i_22, i_23, i_24, i_25, i_26, i_27, i_28, i_29, i_30, i_31, i_32, i_33, i_34, i_35, i_36, i_37, i_38, i_39, i_40, i_41, i_42, i_43, i_44, i_45, i_46, i_47, i_48, i_49, i_50, i_51, i_52, i_53, i_54, i_55, i_56, i_57, i_58, i_59, i_60, i_61, i_62, i_63, i_64, i_65, i_66, i_67, i_68, i_69, i_70, i_71, i_72, i_73, i_74, i_75, i_76, i_77, i_78, i_79, i_80, i_81, i_82, i_83, i_84, i_85, i_86, i_87, i_88, i_89, i_90, i_91, i_92, i_93, i_94, i_95, i_96, i_97, i_98, i_99, i_100, i_101, i_102, i_103, i_104, i_105, i_106, i_107, i_108, i_109, i_110, i_111, i_112, i_113, i_114, i_115, i_116, i_117, i_118, i_119, i_120, i_121, i_122, i_123, i_124, i_125, i_126, i_127, i_128, i_129, i_130, i_131, i_132, i_133, i_134, i_135, i_136, i_137, i_138, i_139, i_140, i_141, i_142, i_143, i_144, i_145, i_146, i_147, i_148, i_149, i_150, i_151, i_152, i_153, i_154, i_155, i_156, i_157, i_158, i_159, i_160, i_161, i_162, i_163, i_164, i_165, i_166, i_167, i_168, i_169, i_170, i_171, i_172, i_173, i_174, i_175, i_176, i_177, i_178, i_179, i_180, i_181, i_182, i_183, i_184, i_185, i_186, i_187, i_188, i_189, i_190, i_191, i_192, i_193, i_194, i_195, i_196, i_197, i_198, i_199, i_200, i_201, i_202, i_203, i_204, i_205, i_206, i_207, i_208, i_209, i_210, i_211, i_212, i_213, i_214, i_215, i_216, i_217, i_218, i_219, i_220, i_221, i_222, i_223, i_224, i_225, i_226, i_227, i_228, i_229, i_230, i_231, i_232, i_233, i_234, i_235, i_v, b_bv, i_lit, b_blit, i_add, i_sub, i_mul, i_div, i_mod, i_tdiv, i_tmod, i_ite, b_ite, b_lt, b_le, b_eq, b_not, b_and, b_or, b_iff, i_sel, a_tab, i_pow2, List.getD_cons_zero, List.getD_cons_succ, decide_eq_true_eq, decide_eq_false_iff_not, Bool.and_eq_true, Bool.or_eq_true, Bool.not_eq_true', Bool.not_eq_false', Bool.and_eq_false_iff, Bool.or_eq_false_iff, Bool.not_not, ite_tt, ite_ff, iff_tt, iff_ff, a_av, a_ite, a_upd] at hc0 ⊢
        omega
      ·
        refine ⟨?_, fun hc3 => ?_⟩
        ·
          simp only [i_0, i_1, i_2, i_3, i_4, i_5, i_6, i_7, i_8, i_9, i_10, i_11, i_12, i_13, i_14, i_15, i_16, i_17, i_18, i_19, i_20, i_21, i_22, i_23, i_24, i_25, i_26, i_27, i_28, i_29, i_30, i_31, i_32, i_33, i_34, i_35, i_36, i_37, i_38, i_39, i_40, i_41, i_42, i_43, i_44, i_45, i_46, i_47, i_48, i_49, i_50, i_51, i_52, i_53, i_54, i_55, i_56, i_57, i_58, i_59, i_60, i_61, i_62, i_63, i_64, i_65, i_66, i_67, i_68, i_69, i_70, i_71, i_72, i_73, i_74, i_75, i_76, i_77, i_78, i_79, i_80, i_81, i_82, i_83, i_84, i_85, i_86, i_87, i_88, i_89, i_90, i_91, i_92, i_93, i_94, i_95, i_96, i_97, i_98, i_99, i_100, i_101, i_102, i_103, i_104, i_105, i_106, i_107, i_108, i_109, i_110, i_111, i_112, i_113, i_114, i_115, i_116, i_117, i_118, i_119, i_120, i_121, i_122, i_123, i_124, i_125, i_126, i_127, i_128, i_129, i_130, i_131, i_132, i_133, i_134, i_135, i_136, i_137, i_138, i_139, i_140, i_141, i_142, i_143, i_144, i_145, i_146, i_147, i_148, i_149, i_150, i_151, i_152, i_153, i_154, i_155, i_156, i_157, i_158, i_159, i_160, i_161, i_162, i_163, i_164, i_165, i_166, i_167, i_168, i_169, i_170, i_171, i_172, i_173, i_174, i_175, i_176, i_177, i_178, i_179, i_180, i_181, i_182, i_183, i_184, i_185, i_186, i_187, i_188, i_189, i_190, i_191, i_192, i_193, i_194, i_195, i_196, i_197, i_198, i_199, i_200, i_201, i_202, i_203, i_204, i_205, i_206, i_207, i_208, i_209, i_210, i_211, i_212, i_213, i_214, i_215, i_216, i_217, i_218, i_219, i_220, i_221, i_222, i_223, i_224, i_225, i_226, i_227, i_228, i_229, i_230, i_231, i_232, i_233, i_234, i_235, i_v, b_bv, i_lit, b_blit, i_add, i_sub, i_mul, i_div, i_mod, i_tdiv, i_tmod, i_ite, b_ite, b_lt, b_le, b_eq, b_not, b_and, b_or, b_iff, i_sel, a_tab, i_pow2, List.getD_cons_zero, List.getD_cons_succ, decide_eq_true_eq, decide_eq_false_iff_not, Bool.and_eq_true, Bool.or_eq_true, Bool.not_eq_true', Bool.not_eq_false', Bool.and_eq_false_iff, Bool.or_eq_false_iff, Bool.not_not, ite_tt, ite_ff, iff_tt, iff_ff, a_av, a_ite, a_upd] at hc0 ⊢
          omega
        ·
          refine ⟨?_, fun hc4 => ?_⟩
          ·
            simp only [i_0, i_1, i_2, i_3, i_4, i_5, i_6, i_7, i_8, i_9, i_10, i_11, i_12, i_13, i_14, i_15, i_16, i_17, i_18, i_19, i_20, i_21, i_22, i_23, i_24, i_25, i_26, i_27, i_28, i_29, i_30, i_31, i_32, i_33, i_34, i_35, i_36, i_37, i_38, i_39, i_40, i_41, i_42, i_43, i_44, i_45, i_46, i_47, i_48, i_49, i_50, i_51, i_52, i_53, i_54, i_55, i_56, i_57, i_58, i_59, i_60, i_61, i_62, i_63, i_64, i_65, i_66, i_67, i_68, i_69, i_70, i_71, i_72, i_73, i_74, i_75, i_76, i_77, i_78, i_79, i_80, i_81, i_82, i_83, i_84, i_85, i_86, i_87, i_88, i_89, i_90, i_91, i_92, i_93, i_94, i_95, i_96, i_97, i_98, i_99, i_100, i_101, i_102, i_103, i_104, i_105, i_106, i_107, i_108, i_109, i_110, i_111, i_112, i_113, i_114, i_115, i_116, i_117, i_118, i_119, i_120, i_121, i_122, i_123, i_124, i_125, i_126, i_127, i_128, i_129, i_130, i_131, i_132, i_133, i_134, i_135, i_136, i_137, i_138, i_139, i_140, i_141, i_142, i_143, i_144, i_145, i_146, i_147, i_148, i_149, i_150, i_151, i_152, i_153, i_154, i_155, i_156, i_157, i_158, i_159, i_160, i_161, i_162, i_163, i_164, i_165, i_166, i_167, i_168, i_169, i_170, i_171, i_172, i_173, i_174, i_175, i_176, i_177, i_178, i_179, i_180, i_181, i_182, i_183, i_184, i_185, i_186, i_187, i_188, i_189, i_190, i_191, i_192, i_193, i_194, i_195, i_196, i_197, i_198, i_199, i_200, i_201, i_202, i_203, i_204, i_205, i_206, i_207, i_208, i_209, i_210, i_211, i_212, i_213, i_214, i_215, i_216, i_217, i_218, i_219, i_220, i_221, i_222, i_223, i_224, i_225, i_226, i_227, i_228, i_229, i_230, i_231, i_232, i_233, i_234, i_235, i_v, b_bv, i_lit, b_blit, i_add, i_sub, i_mul, i_div, i_mod, i_tdiv, i_tmod, i_ite, b_ite, b_lt, b_le, b_eq, b_not, b_and, b_or, b_iff, i_sel, a_tab, i_pow2, List.getD_cons_zero, List.getD_cons_succ, decide_eq_true_eq, decide_eq_false_iff_not, Bool.and_eq_true, Bool.or_eq_true, Bool.not_eq_true', Bool.not_eq_false', Bool.and_eq_false_iff, Bool.or_eq_false_iff, Bool.not_not, ite_tt, ite_ff, iff_tt, iff_ff, a_av, a_ite, a_upd] at hc0 ⊢
            omega
          ·
            refine ⟨?_, fun hc5 => ?_⟩
            ·
              simp only [i_0, i_1, i_2, i_3, i_4, i_5, i_6, i_7, i_8, i_9, i_10, i_11, i_12, i_13, i_14, i_15, i_16, i_17, i_18, i_19, i_20, i_21, i_22, i_23, i_24, i_25, i_26, i_27, i_28, i_29, i_30, i_31, i_32, i_33, i_34, i_35, i_36, i_37, i_38, i_39, i_40, i_41, i_42, i_43, i_44, i_45, i_46, i_47, i_48, i_49, i_50, i_51, i_52, i_53, i_54, i_55, i_56, i_57, i_58, i_59, i_60, i_61, i_62, i_63, i_64, i_65, i_66, i_67, i_68, i_69, i_70, i_71, i_72, i_73, i_74, i_75, i_76, i_77, i_78, i_79, i_80, i_81, i_82, i_83, i_84, i_85, i_86, i_87, i_88, i_89, i_90, i_91, i_92, i_93, i_94, i_95, i_96, i_97, i_98, i_99, i_100, i_101, i_102, i_103, i_104, i_105, i_106, i_107, i_108, i_109, i_110, i_111, i_112, i_113, i_114, i_115, i_116, i_117, i_118, i_119, i_120, i_121, i_122, i_123, i_124, i_125, i_126, i_127, i_128, i_129, i_130, i_131, i_132, i_133, i_134, i_135, i_136, i_137, i_138, i_139, i_140, i_141, i_142, i_143, i_144, i_145, i_146, i_147, i_148, i_149, i_150, i_151, i_152, i_153, i_154, i_155, i_156, i_157, i_158, i_159, i_160, i_161, i_162, i_163, i_164, i_165, i_166, i_167, i_168, i_169, i_170, i_171, i_172, i_173, i_174, i_175, i_176, i_177, i_178, i_179, i_180, i_181, i_182, i_183, i_184, i_185, i_186, i_187, i_188, i_189, i_190, i_191, i_192, i_193, i_194, i_195, i_196, i_197, i_198, i_199, i_200, i_201, i_202, i_203, i_204, i_205, i_206, i_207, i_208, i_209, i_210, i_211, i_212, i_213, i_214, i_215, i_216, i_217, i_218, i_219, i_220, i_221, i_222, i_223, i_224, i_225, i_226, i_227, i_228, i_229, i_230, i_231, i_232, i_233, i_234, i_235, i_v, b_bv, i_lit, b_blit, i_add, i_sub, i_mul, i_div, i_mod, i_tdiv, i_tmod, i_ite, b_ite, b_lt, b_le, b_eq, b_not, b_and, b_or, b_iff, i_sel, a_tab, i_pow2, List.getD_cons_zero, List.getD_cons_succ, decide_eq_true_eq, decide_eq_false_iff_not, Bool.and_eq_true, Bool.or_eq_true, Bool.not_eq_true', Bool.not_eq_false', Bool.and_eq_false_iff, Bool.or_eq_false_iff, Bool.not_not, ite_tt, ite_ff, iff_tt, iff_ff, a_av, a_ite, a_upd] at hc0 ⊢
              omega
            ·
              refine ⟨?_, fun hc6 => ?_⟩
              ·
                simp only [i_0, i_1, i_2, i_3, i_4, i_5, i_6, i_7, i_8, i_9, i_10, i_11, i_12, i_13, i_14, i_15, i_16, i_17, i_18, i_19, i_20, i_21, i_22, i_23, i_24, i_25, i_26, i_27, i_28, i_29, i_30, i_31, i_32, i_33, i_34, i_35, i_36, i_37, i_38, i_39, i_40, i_41, i_42, i_43, i_44, i_45, i_46, i_47, i_48, i_49, i_50, i_51, i_52, i_53, i_54, i_55, i_56, i_57, i_58, i_59, i_60, i_61, i_62, i_63, i_64, i_65, i_66, i_67, i_68, i_69, i_70, i_71, i_72, i_73, i_74, i_75, i_76, i_77, i_78, i_79, i_80, i_81, i_82, i_83, i_84, i_85, i_86, i_87, i_88, i_89, i_90, i_91, i_92, i_93, i_94, i_95, i_96, i_97, i_98, i_99, i_100, i_101, i_102, i_103, i_104, i_105, i_106, i_107, i_108, i_109, i_110, i_111, i_112, i_113, i_114, i_115, i_116, i_117, i_118, i_119, i_120, i_121, i_122, i_123, i_124, i_125, i_126, i_127, i_128, i_129, i_130, i_131, i_132, i_133, i_134, i_135, i_136, i_137, i_138, i_139, i_140, i_141, i_142, i_143, i_144, i_145, i_146, i_147, i_148, i_149, i_150, i_151, i_152, i_153, i_154, i_155, i_156, i_157, i_158, i_159, i_160, i_161, i_162, i_163, i_164, i_165, i_166, i_167, i_168, i_169, i_170, i_171, i_172, i_173, i_174, i_175, i_176, i_177, i_178, i_179, i_180, i_181, i_182, i_183, i_184, i_185, i_186, i_187, i_188, i_189, i_190, i_191, i_192, i_193, i_194, i_195, i_196, i_197, i_198, i_199, i_200, i_201, i_202, i_203, i_204, i_205, i_206, i_207, i_208, i_209, i_210, i_211, i_212, i_213, i_214, i_215, i_216, i_217, i_218, i_219, i_220, i_221, i_222, i_223, i_224, i_225, i_226, i_227, i_228, i_229, i_230, i_231, i_232, i_233, i_234, i_235, i_v, b_bv, i_lit, b_blit, i_add, i_sub, i_mul, i_div, i_mod, i_tdiv, i_tmod, i_ite, b_ite, b_lt, b_le, b_eq, b_not, b_and, b_or, b_iff, i_sel, a_tab, i_pow2, List.getD_cons_zero, List.getD_cons_succ, decide_eq_true_eq, decide_eq_false_iff_not, Bool.and_eq_true, Bool.or_eq_true, Bool.not_eq_true', Bool.not_eq_false', Bool.and_eq_false_iff, Bool.or_eq_false_iff, Bool.not_not, ite_tt, ite_ff, iff_tt, iff_ff, a_av, a_ite, a_upd] at hc0 ⊢
                omega
              ·
                refine ⟨?_, fun hc7 => ?_⟩
                ·
                  simp only [i_0, i_1, i_2, i_3, i_4, i_5, i_6, i_7, i_8, i_9, i_10, i_11, i_12, i_13, i_14, i_15, i_16, i_17, i_18, i_19, i_20, i_21, i_22, i_23, i_24, i_25, i_26, i_27, i_28, i_29, i_30, i_31, i_32, i_33, i_34, i_35, i_36, i_37, i_38, i_39, i_40, i_41, i_42, i_43, i_44, i_45, i_46, i_47, i_48, i_49, i_50, i_51, i_52, i_53, i_54, i_55, i_56, i_57, i_58, i_59, i_60, i_61, i_62, i_63, i_64, i_65, i_66, i_67, i_68, i_69, i_70, i_71, i_72, i_73, i_74, i_75, i_76, i_77, i_78, i_79, i_80, i_81, i_82, i_83, i_84, i_85, i_86, i_87, i_88, i_89, i_90, i_91, i_92, i_93, i_94, i_95, i_96, i_97, i_98, i_99, i_100, i_101, i_102, i_103, i_104, i_105, i_106, i_107, i_108, i_109, i_110, i_111, i_112, i_113, i_114, i_115, i_116, i_117, i_118, i_119, i_120, i_121, i_122, i_123, i_124, i_125, i_126, i_127, i_128, i_129, i_130, i_131, i_132, i_133, i_134, i_135, i_136, i_137, i_138, i_139, i_140, i_141, i_142, i_143, i_144, i_145, i_146, i_147, i_148, i_149, i_150, i_151, i_152, i_153, i_154, i_155, i_156, i_157, i_158, i_159, i_160, i_161, i_162, i_163, i_164, i_165, i_166, i_167, i_168, i_169, i_170, i_171, i_172, i_173, i_174, i_175, i_176, i_177, i_178, i_179, i_180, i_181, i_182, i_183, i_184, i_185, i_186, i_187, i_188, i_189, i_190, i_191, i_192, i_193, i_194, i_195, i_196, i_197, i_198, i_199, i_200, i_201, i_202, i_203, i_204, i_205, i_206, i_207, i_208, i_209, i_210, i_211, i_212, i_213, i_214, i_215, i_216, i_217, i_218, i_219, i_220, i_221, i_222, i_223, i_224, i_225, i_226, i_227, i_228, i_229, i_230, i_231, i_232, i_233, i_234, i_235, i_v, b_bv, i_lit, b_blit, i_add, i_sub, i_mul, i_div, i_mod, i_tdiv, i_tmod, i_ite, b_ite, b_lt, b_le, b_eq, b_not, b_and, b_or, b_iff, i_sel, a_tab, i_pow2, List.getD_cons_zero, List.getD_cons_succ, decide_eq_true_eq, decide_eq_false_iff_not, Bool.and_eq_true, Bool.or_eq_true, Bool.not_eq_true', Bool.not_eq_false', Bool.and_eq_false_iff, Bool.or_eq_false_iff, Bool.not_not, ite_tt, ite_ff, iff_tt, iff_ff, a_av, a_ite, a_upd] at hc0 ⊢
                  omega
                ·
                  refine ⟨?_, fun hc8 => ?_⟩
                  ·
                    simp only [i_0, i_1, i_2, i_3, i_4, i_5, i_6, i_7, i_8, i_9, i_10, i_11, i_12, i_13, i_14, i_15, i_16, i_17, i_18, i_19, i_20, i_21, i_22, i_23, i_24, i_25, i_26, i_27, i_28, i_29, i_30, i_31, i_32, i_33, i_34, i_35, i_36, i_37, i_38, i_39, i_40, i_41, i_42, i_43, i_44, i_45, i_46, i_47, i_48, i_49, i_50, i_51, i_52, i_53, i_54, i_55, i_56, i_57, i_58, i_59, i_60, i_61, i_62, i_63, i_64, i_65, i_66, i_67, i_68, i_69, i_70, i_71, i_72, i_73, i_74, i_75, i_76, i_77, i_78, i_79, i_80, i_81, i_82, i_83, i_84, i_85, i_86, i_87, i_88, i_89, i_90, i_91, i_92, i_93, i_94, i_95, i_96, i_97, i_98, i_99, i_100, i_101, i_102, i_103, i_104, i_105, i_106, i_107, i_108, i_109, i_110, i_111, i_112, i_113, i_114, i_115, i_116, i_117, i_118, i_119, i_120, i_121, i_122, i_123, i_124, i_125, i_126, i_127, i_128, i_129, i_130, i_131, i_132, i_133, i_134, i_135, i_136, i_137, i_138, i_139, i_140, i_141, i_142, i_143, i_144, i_145, i_146, i_147, i_148, i_149, i_150, i_151, i_152, i_153, i_154, i_155, i_156, i_157, i_158, i_159, i_160, i_161, i_162, i_163, i_164, i_165, i_166, i_167, i_168, i_169, i_170, i_171, i_172, i_173, i_174, i_175, i_176, i_177, i_178, i_179, i_180, i_181, i_182, i_183, i_184, i_185, i_186, i_187, i_188, i_189, i_190, i_191, i_192, i_193, i_194, i_195, i_196, i_197, i_198, i_199, i_200, i_201, i_202, i_203, i_204, i_205, i_206, i_207, i_208, i_209, i_210, i_211, i_212, i_213, i_214, i_215, i_216, i_217, i_218, i_219, i_220, i_221, i_222, i_223, i_224, i_225, i_226, i_227, i_228, i_229, i_230, i_231, i_232, i_233, i_234, i_235, i_v, b_bv, i_lit, b_blit, i_add, i_sub, i_mul, i_div, i_mod, i_tdiv, i_tmod, i_ite, b_ite, b_lt, b_le, b_eq, b_not, b_and, b_or, b_iff, i_sel, a_tab, i_pow2, List.getD_cons_zero, List.getD_cons_succ, decide_eq_true_eq, decide_eq_false_iff_not, Bool.and_eq_true, Bool.or_eq_true, Bool.not_eq_true', Bool.not_eq_false', Bool.and_eq_false_iff, Bool.or_eq_false_iff, Bool.not_not, ite_tt, ite_ff, iff_tt, iff_ff, a_av, a_ite, a_upd] at hc0 ⊢
                    omega
                  ·
                    refine ⟨?_, fun hc9 => ?_⟩
                    ·
                      simp only [i_0, i_1, i_2, i_3, i_4, i_5, i_6, i_7, i_8, i_9, i_10, i_11, i_12, i_13, i_14, i_15, i_16, i_17, i_18, i_19, i_20, i_21, i_22, i_23, i_24, i_25, i_26, i_27, i_28, i_29, i_30, i_31, i_32, i_33, i_34, i_35, i_36, i_37, i_38, i_39, i_40, i_41, i_42, i_43, i_44, i_45, i_46, i_47, i_48, i_49, i_50, i_51, i_52, i_53, i_54, i_55, i_56, i_57, i_58, i_59, i_60, i_61, i_62, i_63, i_64, i_65, i_66, i_67, i_68, i_69, i_70, i_71, i_72, i_73, i_74, i_75, i_76, i_77, i_78, i_79, i_80, i_81, i_82, i_83, i_84, i_85, i_86, i_87, i_88, i_89, i_90, i_91, i_92, i_93, i_94, i_95, i_96, i_97, i_98, i_99, i_100, i_101, i_102, i_103, i_104, i_105, i_106, i_107, i_108, i_109, i_110, i_111, i_112, i_113, i_114, i_115, i_116, i_117, i_118, i_119, i_120, i_121, i_122, i_123, i_124, i_125, i_126, i_127, i_128, i_129, i_130, i_131, i_132, i_133, i_134, i_135, i_136, i_137, i_138, i_139, i_140, i_141, i_142, i_143, i_144, i_145, i_146, i_147, i_148, i_149, i_150, i_151, i_152, i_153, i_154, i_155, i_156, i_157, i_158, i_159, i_160, i_161, i_162, i_163, i_164, i_165, i_166, i_167, i_168, i_169, i_170, i_171, i_172, i_173, i_174, i_175, i_176, i_177, i_178, i_179, i_180, i_181, i_182, i_183, i_184, i_185, i_186, i_187, i_188, i_189, i_190, i_191, i_192, i_193, i_194, i_195, i_196, i_197, i_198, i_199, i_200, i_201, i_202, i_203, i_204, i_205, i_206, i_207, i_208, i_209, i_210, i_211, i_212, i_213, i_214, i_215, i_216, i_217, i_218, i_219, i_220, i_221, i_222, i_223, i_224, i_225, i_226, i_227, i_228, i_229, i_230, i_231, i_232, i_233, i_234, i_235, i_v, b_bv, i_lit, b_blit, i_add, i_sub, i_mul, i_div, i_mod, i_tdiv, i_tmod, i_ite, b_ite, b_lt, b_le, b_eq, b_not, b_and, b_or, b_iff, i_sel, a_tab, i_pow2, List.getD_cons_zero, List.getD_cons_succ, decide_eq_true_eq, decide_eq_false_iff_not, Bool.and_eq_true, Bool.or_eq_true, Bool.not_eq_true', Bool.not_eq_false', Bool.and_eq_false_iff, Bool.or_eq_false_iff, Bool.not_not, ite_tt, ite_ff, iff_tt, iff_ff, a_av, a_ite, a_upd] at hc0 ⊢
                      omega
                    ·
                      refine ⟨?_, fun hc10 => ?_⟩
                      ·
                        simp only [i_0, i_1, i_2, i_3, i_4, i_5, i_6, i_7, i_8, i_9, i_10, i_11, i_12, i_13, i_14, i_15, i_16, i_17, i_18, i_19, i_20, i_21, i_22, i_23, i_24, i_25, i_26, i_27, i_28, i_29, i_30, i_31, i_32, i_33, i_34, i_35, i_36, i_37, i_38, i_39, i_40, i_41, i_42, i_43, i_44, i_45, i_46, i_47, i_48, i_49, i_50, i_51, i_52, i_53, i_54, i_55, i_56, i_57, i_58, i_59, i_60, i_61, i_62, i_63, i_64, i_65, i_66, i_67, i_68, i_69, i_70, i_71, i_72, i_73, i_74, i_75, i_76, i_77, i_78, i_79, i_80, i_81, i_82, i_83, i_84, i_85, i_86, i_87, i_88, i_89, i_90, i_91, i_92, i_93, i_94, i_95, i_96, i_97, i_98, i_99, i_100, i_101, i_102, i_103, i_104, i_105, i_106, i_107, i_108, i_109, i_110, i_111, i_112, i_113, i_114, i_115, i_116, i_117, i_118, i_119, i_120, i_121, i_122, i_123, i_124, i_125, i_126, i_127, i_128, i_129, i_130, i_131, i_132, i_133, i_134, i_135, i_136, i_137, i_138, i_139, i_140, i_141, i_142, i_143, i_144, i_145, i_146, i_147, i_148, i_149, i_150, i_151, i_152, i_153, i_154, i_155, i_156, i_157, i_158, i_159, i_160, i_161, i_162, i_163, i_164, i_165, i_166, i_167, i_168, i_169, i_170, i_171, i_172, i_173, i_174, i_175, i_176, i_177, i_178, i_179, i_180, i_181, i_182, i_183, i_184, i_185, i_186, i_187, i_188, i_189, i_190, i_191, i_192, i_193, i_194, i_195, i_196, i_197, i_198, i_199, i_200, i_201, i_202, i_203, i_204, i_205, i_206, i_207, i_208, i_209, i_210, i_211, i_212, i_213, i_214, i_215, i_216, i_217, i_218, i_219, i_220, i_221, i_222, i_223, i_224, i_225, i_226, i_227, i_228, i_229, i_230, i_231, i_232, i_233, i_234, i_235, i_v, b_bv, i_lit, b_blit, i_add, i_sub, i_mul, i_div, i_mod, i_tdiv, i_tmod, i_ite, b_ite, b_lt, b_le, b_eq, b_not, b_and, b_or, b_iff, i_sel, a_tab, i_pow2, List.getD_cons_zero, List.getD_cons_succ, decide_eq_true_eq, decide_eq_false_iff_not, Bool.and_eq_true, Bool.or_eq_true, Bool.not_eq_true', Bool.not_eq_false', Bool.and_eq_false_iff, Bool.or_eq_false_iff, Bool.not_not, ite_tt, ite_ff, iff_tt, iff_ff, a_av, a_ite, a_upd] at hc0 ⊢
                        omega
                      ·
                        refine ⟨?_, fun hc11 => ?_⟩
                        ·
                          simp only [i_0, i_1, i_2, i_3, i_4, i_5, i_6, i_7, i_8, i_9, i_10, i_11, i_12, i_13, i_14, i_15, i_16, i_17, i_18, i_19, i_20, i_21, i_22, i_23, i_24, i_25, i_26, i_27, i_28, i_29, i_30, i_31, i_32, i_33, i_34, i_35, i_36, i_37, i_38, i_39, i_40, i_41, i_42, i_43, i_44, i_45, i_46, i_47, i_48, i_49, i_50, i_51, i_52, i_53, i_54, i_55, i_56, i_57, i_58, i_59, i_60, i_61, i_62, i_63, i_64, i_65, i_66, i_67, i_68, i_69, i_70, i_71, i_72, i_73, i_74, i_75, i_76, i_77, i_78, i_79, i_80, i_81, i_82, i_83, i_84, i_85, i_86, i_87, i_88, i_89, i_90, i_91, i_92, i_93, i_94, i_95, i_96, i_97, i_98, i_99, i_100, i_101, i_102, i_103, i_104, i_105, i_106, i_107, i_108, i_109, i_110, i_111, i_112, i_113, i_114, i_115, i_116, i_117, i_118, i_119, i_120, i_121, i_122, i_123, i_124, i_125, i_126, i_127, i_128, i_129, i_130, i_131, i_132, i_133, i_134, i_135, i_136, i_137, i_138, i_139, i_140, i_141, i_142, i_143, i_144, i_145, i_146, i_147, i_148, i_149, i_150, i_151, i_152, i_153, i_154, i_155, i_156, i_157, i_158, i_159, i_160, i_161, i_162, i_163, i_164, i_165, i_166, i_167, i_168, i_169, i_170, i_171, i_172, i_173, i_174, i_175, i_176, i_177, i_178, i_179, i_180, i_181, i_182, i_183, i_184, i_185, i_186, i_187, i_188, i_189, i_190, i_191, i_192, i_193, i_194, i_195, i_196, i_197, i_198, i_199, i_200, i_201, i_202, i_203, i_204, i_205, i_206, i_207, i_208, i_209, i_210, i_211, i_212, i_213, i_214, i_215, i_216, i_217, i_218, i_219, i_220, i_221, i_222, i_223, i_224, i_225, i_226, i_227, i_228, i_229, i_230, i_231, i_232, i_233, i_234, i_235, i_v, b_bv, i_lit, b_blit, i_add, i_sub, i_mul, i_div, i_mod, i_tdiv, i_tmod, i_ite, b_ite, b_lt, b_le, b_eq, b_not, b_and, b_or, b_iff, i_sel, a_tab, i_pow2, List.getD_cons_zero, List.getD_cons_succ, decide_eq_true_eq, decide_eq_false_iff_not, Bool.and_eq_true, Bool.or_eq_true, Bool.not_eq_true', Bool.not_eq_false', Bool.and_eq_false_iff, Bool.or_eq_false_iff, Bool.not_not, ite_tt, ite_ff, iff_tt, iff_ff, a_av, a_ite, a_upd] at hc0 ⊢
                          omega
                        ·
                          refine ⟨i_hT0, ⟨_, _, _, _, _, _, _, _, _, _, _, _, _, _, _, rfl, hB, ?_⟩, ?_⟩
                          ·
                            simp only [i_Base] at hB
                            obtain ⟨b0, b1, b2, b3, b4, b5, _, _, _, _, _, _, ex0, ex1, _⟩ := hB
                            unfold i_J0
                            refine ⟨?_, rng_at hH (by kernel_rfl), arr_at hH (by kernel_rfl), arr_at hH (by kernel_rfl), arr_at hH (by kernel_rfl), arr_at hH (by kernel_rfl), arr_at hH (by kernel_rfl), arr_at hH (by kernel_rfl), arr_at hH (by kernel_rfl), trivial⟩
                            simp only [i_J0] at hJ
                            obtain ⟨l0, _⟩ := hJ
                            simp only [i_0, i_1, i_2, i_3, i_4, i_5, i_6, i_7, i_8, i_9, i_10, i_11, i_12, i_13, i_14, i_15, i_16, i_17, i_18, i_19, i_20, i_21, i_22, i_23, i_24, i_25, i_26, i_27, i_28, i_29, i_30, i_31, i_32, i_33, i_34, i_35, i_36, i_37, i_38, i_39, i_40, i_41, i_42, i_43, i_44, i_45, i_46, i_47, i_48, i_49, i_50, i_51, i_52, i_53, i_54, i_55, i_56, i_57, i_58, i_59, i_60, i_61, i_62, i_63, i_64, i_65, i_66, i_67, i_68, i_69, i_70, i_71, i_72, i_73, i_74, i_75, i_76, i_77, i_78, i_79, i_80, i_81, i_82, i_83, i_84, i_85, i_86, i_87, i_88, i_89, i_90, i_91, i_92, i_93, i_94, i_95, i_96, i_97, i_98, i_99, i_100, i_101, i_102, i_103, i_104, i_105, i_106, i_107, i_108, i_109, i_110, i_111, i_112, i_113, i_114, i_115, i_116, i_117, i_118, i_119, i_120, i_121, i_122, i_123, i_124, i_125, i_126, i_127, i_128, i_129, i_130, i_131, i_132, i_133, i_134, i_135, i_136, i_137, i_138, i_139, i_140, i_141, i_142, i_143, i_144, i_145, i_146, i_147, i_148, i_149, i_150, i_151, i_152, i_153, i_154, i_155, i_156, i_157, i_158, i_159, i_160, i_161, i_162, i_163, i_164, i_165, i_166, i_167, i_168, i_169, i_170, i_171, i_172, i_173, i_174, i_175, i_176, i_177, i_178, i_179, i_180, i_181, i_182, i_183, i_184, i_185, i_186, i_187, i_188, i_189, i_190, i_191, i_192, i_193, i_194, i_195, i_196, i_197, i_198, i_199, i_200, i_201, i_202, i_203, i_204, i_205, i_206, i_207, i_208, i_209, i_210, i_211, i_212, i_213, i_214, i_215, i_216, i_217, i_218, i_219, i_220, i_221, i_222, i_223, i_224, i_225, i_226, i_227, i_228, i_229, i_230, i_231, i_232, i_233, i_234, i_235, i_v, b_bv, i_lit, b_blit, i_add, i_sub, i_mul, i_div, i_mod, i_tdiv, i_tmod, i_ite, b_ite, b_lt, b_le, b_eq, b_not, b_and, b_or, b_iff, i_sel, a_tab, i_pow2, List.getD_cons_zero, List.getD_cons_succ, decide_eq_true_eq, decide_eq_false_iff_not, Bool.and_eq_true, Bool.or_eq_true, Bool.not_eq_true', Bool.not_eq_false', Bool.and_eq_false_iff, Bool.or_eq_false_iff, Bool.not_not, ite_tt, ite_ff, iff_tt, iff_ff, a_av, a_ite, a_upd] at hc0 ⊢
                            omega
                          simp only [i_Base] at hB
                          obtain ⟨b0, b1, b2, b3, b4, b5, _, _, _, _, _, _, ex0, ex1, _⟩ := hB
                          simp only [i_J0] at hJ
                          obtain ⟨l0, l1, l2, l3, l4, l5, l6, l7, l8, _⟩ := hJ
                          simp only [i_0, i_1, i_2, i_3, i_4, i_5, i_6, i_7, i_8, i_9, i_10, i_11, i_12, i_13, i_14, i_15, i_16, i_17, i_18, i_19, i_20, i_21, i_22, i_23, i_24, i_25, i_26, i_27, i_28, i_29, i_30, i_31, i_32, i_33, i_34, i_35, i_36, i_37, i_38, i_39, i_40, i_41, i_42, i_43, i_44, i_45, i_46, i_47, i_48, i_49, i_50, i_51, i_52, i_53, i_54, i_55, i_56, i_57, i_58, i_59, i_60, i_61, i_62, i_63, i_64, i_65, i_66, i_67, i_68, i_69, i_70, i_71, i_72, i_73, i_74, i_75, i_76, i_77, i_78, i_79, i_80, i_81, i_82, i_83, i_84, i_85, i_86, i_87, i_88, i_89, i_90, i_91, i_92, i_93, i_94, i_95, i_96, i_97, i_98, i_99, i_100, i_101, i_102, i_103, i_104, i_105, i_106, i_107, i_108, i_109, i_110, i_111, i_112, i_113, i_114, i_115, i_116, i_117, i_118, i_119, i_120, i_121, i_122, i_123, i_124, i_125, i_126, i_127, i_128, i_129, i_130, i_131, i_132, i_133, i_134, i_135, i_136, i_137, i_138, i_139, i_140, i_141, i_142, i_143, i_144, i_145, i_146, i_147, i_148, i_149, i_150, i_151, i_152, i_153, i_154, i_155, i_156, i_157, i_158, i_159, i_160, i_161, i_162, i_163, i_164, i_165, i_166, i_167, i_168, i_169, i_170, i_171, i_172, i_173, i_174, i_175, i_176, i_177, i_178, i_179, i_180, i_181, i_182, i_183, i_184, i_185, i_186, i_187, i_188, i_189, i_190, i_191, i_192, i_193, i_194, i_195, i_196, i_197, i_198, i_199, i_200, i_201, i_202, i_203, i_204, i_205, i_206, i_207, i_208, i_209, i_210, i_211, i_212, i_213, i_214, i_215, i_216, i_217, i_218, i_219, i_220, i_221, i_222, i_223, i_224, i_225, i_226, i_227, i_228, i_229, i_230, i_231, i_232, i_233, i_234, i_235, i_v, b_bv, i_lit, b_blit, i_add, i_sub, i_mul, i_div, i_mod, i_tdiv, i_tmod, i_ite, b_ite, b_lt, b_le, b_eq, b_not, b_and, b_or, b_iff, i_sel, a_tab, i_pow2, List.getD_cons_zero, List.getD_cons_succ, decide_eq_true_eq, decide_eq_false_iff_not, Bool.and_eq_true, Bool.or_eq_true, Bool.not_eq_true', Bool.not_eq_false', Bool.and_eq_false_iff, Bool.or_eq_false_iff, Bool.not_not, ite_tt, ite_ff, iff_tt, iff_ff, a_av, a_ite, a_upd] at hc0
                          simp only [i_mu, Env.app, setAll, List.map_cons, List.map_nil, List.set, List.getD_cons_zero, List.getD_cons_succ, i_0, i_1, i_2, i_3, i_4, i_5, i_6, i_7, i_8, i_9, i_10, i_11, i_12, i_13, i_14, i_15, i_16, i_17, i_18, i_19, i_20, i_21, i_22, i_23, i_24, i_25, i_26, i_27, i_28, i_29, i_30, i_31, i_32, i_33, i_34, i_35, i_36, i_37, i_38, i_39, i_40, i_41, i_42, i_43, i_44, i_45, i_46, i_47, i_48, i_49, i_50, i_51, i_52, i_53, i_54, i_55, i_56, i_57, i_58, i_59, i_60, i_61, i_62, i_63, i_64, i_65, i_66, i_67, i_68, i_69, i_70, i_71, i_72, i_73, i_74, i_75, i_76, i_77, i_78, i_79, i_80, i_81, i_82, i_83, i_84, i_85, i_86, i_87, i_88, i_89, i_90, i_91, i_92, i_93, i_94, i_95, i_96, i_97, i_98, i_99, i_100, i_101, i_102, i_103, i_104, i_105, i_106, i_107, i_108, i_109, i_110, i_111, i_112, i_113, i_114, i_115, i_116, i_117, i_118, i_119, i_120, i_121, i_122, i_123, i_124, i_125, i_126, i_127, i_128, i_129, i_130, i_131, i_132, i_133, i_134, i_135, i_136, i_137, i_138, i_139, i_140, i_141, i_142, i_143, i_144, i_145, i_146, i_147, i_148, i_149, i_150, i_151, i_152, i_153, i_154, i_155, i_156, i_157, i_158, i_159, i_160, i_161, i_162, i_163, i_164, i_165, i_166, i_167, i_168, i_169, i_170, i_171, i_172, i_173, i_174, i_175, i_176, i_177, i_178, i_179, i_180, i_181, i_182, i_183, i_184, i_185, i_186, i_187, i_188, i_189, i_190, i_191, i_192, i_193, i_194, i_195, i_196, i_197, i_198, i_199, i_200, i_201, i_202, i_203, i_204, i_205, i_206, i_207, i_208, i_209, i_210, i_211, i_212, i_213, i_214, i_215, i_216, i_217, i_218, i_219, i_220, i_221, i_222, i_223, i_224, i_225, i_226, i_227, i_228, i_229, i_230, i_231, i_232, i_233, i_234, i_235, i_v, b_bv, i_lit, b_blit, i_add, i_sub, i_mul, i_div, i_mod, i_tdiv, i_tmod, i_ite, b_ite, b_lt, b_le, b_eq, b_not, b_and, b_or, b_iff, i_sel, a_tab, i_pow2, List.getD_cons_zero, List.getD_cons_succ, decide_eq_true_eq, decide_eq_false_iff_not, Bool.and_eq_true, Bool.or_eq_true, Bool.not_eq_true', Bool.not_eq_false', Bool.and_eq_false_iff, Bool.or_eq_false_iff, Bool.not_not, ite_tt, ite_ff, iff_tt, iff_ff, a_av, a_ite, a_upd]
                          omega
  ·
    refine ⟨fun hc13 => ?_, fun hc13 => ?_⟩
    ·
      first
        | rfl
        | (exfalso
           simp only [i_Base] at hB
           obtain ⟨b0, b1, b2, b3, b4, b5, _⟩ := hB
           have b6 := b2 0
           simp only [i_0, i_1, i_2, i_3, i_4, i_5, i_6, i_7, i_8, i_9, i_10, i_11, i_12, i_13, i_14, i_15, i_16, i_17, i_18, i_19, i_20, i_21, i_22, i_23, i_24, i_25, i_26, i_27, i_28, i_29, i_30, i_31, i_32, i_33, i_34, i_35, i_36, i_37, i_38, i_39, i_40, i_41, i_42, i_43, i_44, i_45, i_46, i_47, i_48, i_49, i_50, i_51, i_52, i_53, i_54, i_55, i_56, i_57, i_58, i_59, i_60, i_61, i_62, i_63, i_64, i_65, i_66, i_67, i_68, i_69, i_70, i_71, i_72, i_73, i_74, i_75, i_76, i_77, i_78, i_79, i_80, i_81, i_82, i_83, i_84, i_85, i_86, i_87, i_88, i_89, i_90, i_91, i_92, i_93, i_94, i_95, i_96, i_97, i_98, i_99, i_100, i_101, i_102, i_103, i_104, i_105, i_106, i_107, i_108, i_109, i_110, i_111, i_112, i_113, i_114, i_115, i_116, i_117, i_118, i_119, i_120, i_121, i_122, i_123, i_124, i_125, i_126, i_127, i_128, i_129, i_130, i_131, i_132, i_133, i_134, i_135, i_136, i_137, i_138, i_139, i_140, i_141, i_142, i_143, i_144, i_145, i_146, i_147, i_148, i_149, i_150, i_151, i_152, i_153, i_154, i_155, i_156, i_157, i_158, i_159, i_160, i_161, i_162, i_163, i_164, i_165, i_166, i_167, i_168, i_169, i_170, i_171, i_172, i_173, i_174, i_175, i_176, i_177, i_178, i_179, i_180, i_181, i_182, i_183, i_184, i_185, i_186, i_187, i_188, i_189, i_190, i_191, i_192, i_193, i_194, i_195, i_196, i_197, i_198, i_199, i_200, i_201, i_202, i_203, i_204, i_205, i_206, i_207, i_208, i_209, i_210, i_211, i_212, i_213, i_214, i_215, i_216, i_217, i_218, i_219, i_220, i_221, i_222, i_223, i_224, i_225, i_226, i_227, i_228, i_229, i_230, i_231, i_232, i_233, i_234, i_235, i_v, b_bv, i_lit, b_blit, i_add, i_sub, i_mul, i_div, i_mod, i_tdiv, i_tmod, i_ite, b_ite, b_lt, b_le, b_eq, b_not, b_and, b_or, b_iff, i_sel, a_tab, i_pow2, List.getD_cons_zero, List.getD_cons_succ, decide_eq_true_eq, decide_eq_false_iff_not, Bool.and_eq_true, Bool.or_eq_true, Bool.not_eq_true', Bool.not_eq_false', Bool.and_eq_false_iff, Bool.or_eq_false_iff, Bool.not_not, ite_tt, ite_ff, iff_tt, iff_ff, a_av, a_ite, a_upd, Int.toNat_zero] at hc0 hc13
           omega)
    ·
      first
        | rfl
        | (exfalso
           simp only [i_Base] at hB
           obtain ⟨b0, b1, b2, b3, b4, b5, _⟩ := hB
           have b6 := b2 0
           simp only [i_0, i_1, i_2, i_3, i_4, i_5, i_6, i_7, i_8, i_9, i_10, i_11, i_12, i_13, i_14, i_15, i_16, i_17, i_18, i_19, i_20, i_21, i_22, i_23, i_24, i_25, i_26, i_27, i_28, i_29, i_30, i_31, i_32, i_33, i_34, i_35, i_36, i_37, i_38, i_39, i_40, i_41, i_42, i_43, i_44, i_45, i_46, i_47, i_48, i_49, i_50, i_51, i_52, i_53, i_54, i_55, i_56, i_57, i_58, i_59, i_60, i_61, i_62, i_63, i_64, i_65, i_66, i_67, i_68, i_69, i_70, i_71, i_72, i_73, i_74, i_75, i_76, i_77, i_78, i_79, i_80, i_81, i_82, i_83, i_84, i_85, i_86, i_87, i_88, i_89, i_90, i_91, i_92, i_93, i_94, i_95, i_96, i_97, i_98, i_99, i_100, i_101, i_102, i_103, i_104, i_105, i_106, i_107, i_108, i_109, i_110, i_111, i_112, i_113, i_114, i_115, i_116, i_117, i_118, i_119, i_120, i_121, i_122, i_123, i_124, i_125, i_126, i_127, i_128, i_129, i_130, i_131, i_132, i_133, i_134, i_135, i_136, i_137, i_138, i_139, i_140, i_141, i_142, i_143, i_144, i_145, i_146, i_147, i_148, i_149, i_150, i_151, i_152, i_153, i_154, i_155, i_156, i_157, i_158, i_159, i_160, i_161, i_162, i_163, i_164, i_165, i_166, i_167, i_168, i_169, i_170, i_171, i_172, i_173, i_174, i_175, i_176, i_177, i_178, i_179, i_180, i_181, i_182, i_183, i_184, i_185, i_186, i_187, i_188, i_189, i_190, i_191, i_192, i_193, i_194, i_195, i_196, i_197, i_198, i_199, i_200, i_201, i_202, i_203, i_204, i_205, i_206, i_207, i_208, i_209, i_210, i_211, i_212, i_213, i_214, i_215, i_216, i_217, i_218, i_219, i_220, i_221, i_222, i_223, i_224, i_225, i_226, i_227, i_228, i_229, i_230, i_231, i_232, i_233, i_234, i_235, i_v, b_bv, i_lit, b_blit, i_add, i_sub, i_mul, i_div, i_mod, i_tdiv, i_tmod, i_ite, b_ite, b_lt, b_le, b_eq, b_not, b_and, b_or, b_iff, i_sel, a_tab, i_pow2, List.getD_cons_zero, List.getD_cons_succ, decide_eq_true_eq, decide_eq_false_iff_not, Bool.and_eq_true, Bool.or_eq_true, Bool.not_eq_true', Bool.not_eq_false', Bool.and_eq_false_iff, Bool.or_eq_false_iff, Bool.not_not, ite_tt, ite_ff, iff_tt, iff_ff, a_av, a_ite, a_upd, Int.toNat_zero] at hc0 hc13
           omega)
theorem i_vcS (x0 : Ext) (x1 : Ext) (nx0 nx1 : Int) (Ax0 Ax1_0 Ax1_1 Ax1_2 : Nat → Int) (hB : i_Base x0 x1 nx0 nx1 Ax0 Ax1_0 Ax1_1 Ax1_2) :
    LT.holds (⟨[nx0, nx1, 0, 0], [], [Ax0, Ax1_0, Ax1_1, Ax1_2, fun _ => 0, fun _ => 0, fun _ => 0, fun _ => 0, fun _ => 0, fun _ => 0, fun _ => 0], [], Iv (fun i j => match i, j with | 0, 0 => x0 | 1, 0 => x1 | _, _ => Ext.none)⟩ : Env) (fun v _ => retTrue (⟨[nx0, nx1, 0, 0], [], [Ax0, Ax1_0, Ax1_1, Ax1_2, fun _ => 0, fun _ => 0, fun _ => 0, fun _ => 0, fun _ => 0, fun _ => 0, fun _ => 0], [], Iv (fun i j => match i, j with | 0, 0 => x0 | 1, 0 => x1 | _, _ => Ext.none)⟩ : Env) v) (fun j' todo ρ' => (i_hs[j']?.map (·.todo)) = some todo ∧ i_Inv x0 x1 j' ρ') (.jump 0 i_T0 ⟨[(3, (.lit 128)), (2, (.lit 0))], [], [(10, (.tab [])), (9, (.tab [])), (8, (.tab [])), (7, (.tab [])), (6, (.tab [])), (5, (.tab [])), (4, (.tab []))]⟩) := by
  simp only [LT.holds, retTrue]
  refine ⟨i_hT0, _, _, _, _, _, _, _, _, _, _, _, _, _, _, _, rfl, hB, ?_⟩
  ·
    simp only [i_0, i_1, i_2, i_3, i_4, i_5, i_6, i_7, i_8, i_9, i_10, i_11, i_12, i_13, i_14, i_15, i_16, i_17, i_18, i_19, i_20, i_21, i_22, i_23, i_24, i_25, i_26, i_27, i_28, i_29, i_30, i_31, i_32, i_33, i_34, i_35, i_36, i_37, i_38, i_39, i_40, i_41, i_42, i_43, i_44, i_45, i_46, i_47, i_48, i_49, i_50, i_51, i_52, i_53, i_54, i_55, i_56, i_57, i_58, i_59, i_60, i_61, i_62, i_63, i_64, i_65, i_66, i_67, i_68, i_69, i_70, i_71, i_72, i_73, i_74, i_75, i_76, i_77, i_78, i_79, i_80, i_81, i_82, i_83, i_84, i_85, i_86, i_87, i_88, i_89, i_90, i_91, i_92, i_93, i_94, i_95, i_96, i_97, i_98, i_99, i_100, i_101, i_102, i_103, i_104, i_105, i_106, i_107, i_108, i_109, i_110, i_111, i_112, i_113, i_114, i_115, i_116, i_117, i_118, i_119, i_120, i_121, i_122, i_123, i_124, i_125, i_126, i_127, i_128, i_129, i_130, i_131, i_132, i_133, i_134, i_135, i_136, i_137, i_138, i_139, i_140, i_141, i_142, i_143, i_144, i_145, i_146, i_147, i_148, i_149, i_150, i_151, i_152, i_153, i_154, i_155, i_156, i_157, i_158, i_159, i_160, i_161, i_162, i_163, i_164, i_165, i_166, i_167, i_168, i_169, i_170, i_171, i_172, i_173, i_174, i_175, i_176, i_177, i_178, i_179, i_180, i_181, i_182, i_183, i_184, i_185, i_186, i_187, i_188, i_189, i_190, i_191, i_192, i_193, i_194, i_195, i_196, i_197, i_198, i_199, i_200, i_201, i_202, i_203, i_204, i_205, i_206, i_207, i_208, i_209, i_210, i_211, i_212, i_213, i_214, i_215, i_216, i_217, i_218, i_219, i_220, i_221, i_222, i_223, i_224, i_225, i_226, i_227, i_228, i_229, i_230, i_231, i_232, i_233, i_234, i_235, i_J0, i_v, b_bv, i_lit, b_blit, i_add, i_sub, i_mul, i_div, i_mod, i_tdiv, i_tmod, i_ite, b_ite, b_lt, b_le, b_eq, b_not, b_and, b_or, b_iff, i_sel, a_tab, i_pow2, List.getD_cons_zero, List.getD_cons_succ, decide_eq_true_eq, decide_eq_false_iff_not, Bool.and_eq_true, Bool.or_eq_true, Bool.not_eq_true', Bool.not_eq_false', Bool.and_eq_false_iff, Bool.or_eq_false_iff, Bool.not_not, ite_tt, ite_ff, iff_tt, iff_ff, a_av, a_ite, a_upd]
    refine ⟨?_, ?_, ?_, ?_, ?_, ?_, ?_, ?_, ?_, trivial⟩
    all_goals first | omega | (intro j; simp) 
theorem i_calls (x0 : Ext) (x1 : Ext) (hex0 : ((x0.n : Int)) = 23) (hex1 : 0 ≤ ((x1.n : Int)) ∧ ((x1.n : Int)) ≤ 1048575) (w : World) (g0 : XFit x0 w [some .u8]) (g1 : XFit x1 w [some .i64, some .i64, some .u8]) :
    Calls Try.prog 7 #[x0.v, x1.v] w fun r w' => r = .returned (.bool true) ∧ Below w.heap.size w w' := by
  have hx0 : SV.conc (⟨[(x0.n : Int), (x1.n : Int), 0, 0], [], [xArr x0 1 0, xArr x1 3 0, xArr x1 3 1, xArr x1 3 2, fun _ => 0, fun _ => 0, fun _ => 0, fun _ => 0, fun _ => 0, fun _ => 0, fun _ => 0], [], Iv (fun i j => match i, j with | 0, 0 => x0 | 1, 0 => x1 | _, _ => Ext.none)⟩ : Env) Loc.id (.s (.xslc 0 (.lit 0) (.lit 0) (.lit 23))) = x0.v := conc_ext g0 rfl hex0.symm
  have hx1 : SV.conc (⟨[(x0.n : Int), (x1.n : Int), 0, 0], [], [xArr x0 1 0, xArr x1 3 0, xArr x1 3 1, xArr x1 3 2, fun _ => 0, fun _ => 0, fun _ => 0, fun _ => 0, fun _ => 0, fun _ => 0, fun _ => 0], [], Iv (fun i j => match i, j with | 0, 0 => x0 | 1, 0 => x1 | _, _ => Ext.none)⟩ : Env) Loc.id (.s (.xslc 1 (.lit 0) (.lit 0) (.v 1))) = x1.v := conc_ext g1 rfl rfl
  have hargs : (i_Ls.map (SV.conc (⟨[(x0.n : Int), (x1.n : Int), 0, 0], [], [xArr x0 1 0, xArr x1 3 0, xArr x1 3 1, xArr x1 3 2, fun _ => 0, fun _ => 0, fun _ => 0, fun _ => 0, fun _ => 0, fun _ => 0, fun _ => 0], [], Iv (fun i j => match i, j with | 0, 0 => x0 | 1, 0 => x1 | _, _ => Ext.none)⟩ : Env) Loc.id)).toArray = #[x0.v, x1.v] := by
    refine congrArg List.toArray ?_
    exact (cons_eq hx0 (cons_eq hx1 rfl))
  rw [← hargs]
  have hok : Hyp.ok i_Hy (⟨[(x0.n : Int), (x1.n : Int), 0, 0], [], [xArr x0 1 0, xArr x1 3 0, xArr x1 3 1, xArr x1 3 2, fun _ => 0, fun _ => 0, fun _ => 0, fun _ => 0, fun _ => 0, fun _ => 0, fun _ => 0], [], Iv (fun i j => match i, j with | 0, 0 => x0 | 1, 0 => x1 | _, _ => Ext.none)⟩ : Env) := by
    refine ⟨?_, ?_, ?_, (fun p hp is bs xs => by simp only [i_Hy, List.mem_cons, List.not_mem_nil, or_false] at hp; subst hp; exact sumF_rng _ _), ?_, by simp [i_Hy]⟩
    · intro p hp
      simp only [i_Hy, List.mem_cons, List.not_mem_nil, or_false] at hp
      rcases hp with rfl | rfl
      · exact xi_ok g0 rfl hex0.symm rfl
      · exact (xi_okN (n := .v 1) [.i64, .i64, .u8] [1, 2, 3] g1 (by decide) rfl rfl rfl (fun f a h => by rcases f with _ | _ | _ | f <;> simp only [List.getElem?_cons_zero, List.getElem?_cons_succ, List.getElem?_nil, Option.some.injEq, reduceCtorEq] at h <;> subst h <;> first | exact rfl | exact rfl | exact rfl))
    · intro p hp
      simp only [i_Hy, List.mem_cons, List.not_mem_nil, or_false] at hp
      rcases hp with rfl | rfl | rfl | rfl
      · exact (by have hx := hex0; first | exact ⟨Int.le_of_eq hx.symm, Int.le_of_eq hx⟩ | exact hx)
      · exact (by have hx := hex1; first | exact ⟨Int.le_of_eq hx.symm, Int.le_of_eq hx⟩ | exact hx)
      · exact xlen_rng g0
      · exact xlen_rng g1
    · intro p hp
      simp only [i_Hy, List.mem_cons, List.not_mem_nil, or_false] at hp
      rcases hp with rfl | rfl | rfl | rfl
      · exact xArr_rng g0
      · exact xArr_rngN [.i64, .i64, .u8] g1 0 rfl
      · exact xArr_rngN [.i64, .i64, .u8] g1 1 rfl
      · exact xArr_rngN [.i64, .i64, .u8] g1 2 rfl
    · simp [i_Hy]
  refine law_loops (D := i_D) (hs := i_hs) (ρ := (⟨[(x0.n : Int), (x1.n : Int), 0, 0], [], [xArr x0 1 0, xArr x1 3 0, xArr x1 3 1, xArr x1 3 2, fun _ => 0, fun _ => 0, fun _ => 0, fun _ => 0, fun _ => 0, fun _ => 0, fun _ => 0], [], Iv (fun i j => match i, j with | 0, 0 => x0 | 1, 0 => x1 | _, _ => Ext.none)⟩ : Env)) (G_ok _) (by kernel_rfl) rfl (i_Inv x0 x1 ) i_mu i_st rfl ⟨rfl, rfl, rfl⟩ hok (i_vcS x0 x1 ((x0.n : Int)) ((x1.n : Int)) (xArr x0 1 0) (xArr x1 3 0) (xArr x1 3 1) (xArr x1 3 2) ⟨xlen_rng g0, xlen_rng g1, xArr_rng g0, xArr_rngN [.i64, .i64, .u8] g1 0 rfl, xArr_rngN [.i64, .i64, .u8] g1 1 rfl, xArr_rngN [.i64, .i64, .u8] g1 2 rfl, rfl, rfl, rfl, rfl, rfl, rfl, hex0, hex1, trivial⟩) ?_ w (fun i j => by rcases i with _ | _ | i <;> rcases j with _ | j <;> first | exact Ext.none_ok _ | exact g0.ok | exact g1.ok)
  intro j h ρ hj hI hz hInv
  rcases j with _ | j
  · simp only [i_hs, List.getElem?_cons_zero, List.getElem?_cons_succ, Option.some.injEq] at hj; subst hj
    obtain ⟨nx0, nx1, y2, y3, Ax0, Ax1_0, Ax1_1, Ax1_2, Z4, Z5, Z6, Z7, Z8, Z9, Z10, rfl, hB, hJ⟩ := hInv
    have hok2 : Hyp.ok i_h0.H (⟨[nx0, nx1, y2, y3], [], [Ax0, Ax1_0, Ax1_1, Ax1_2, Z4, Z5, Z6, Z7, Z8, Z9, Z10], [], Iv (fun i j => match i, j with | 0, 0 => x0 | 1, 0 => x1 | _, _ => Ext.none)⟩ : Env) := by
      have hB2 := hB; have hJ2 := hJ
      simp only [i_Base] at hB2; simp only [i_J0] at hJ2
      obtain ⟨hb0, hb1, hb2, hb3, hb4, hb5, hn0, hn1, ha0_0, ha1_0, ha1_1, ha1_2, hex0, hex1, _⟩ := hB2
      obtain ⟨hl0, hl1, hl2, hl3, hl4, hl5, hl6, hl7, hl8, _⟩ := hJ2
      refine ⟨?_, ?_, ?_, (fun p hp is bs xs => by simp only [i_h0, List.mem_cons, List.not_mem_nil, or_false] at hp; subst hp; exact sumF_rng _ _), ?_, by simp [i_h0]⟩
      · intro p hp
        simp only [i_h0, List.mem_cons, List.not_mem_nil, or_false] at hp
        rcases hp with rfl | rfl
        · exact xi_ok g0 rfl (Eq.trans hex0.symm hn0) ha0_0
        · exact (xi_okN (n := .v 1) [.i64, .i64, .u8] [1, 2, 3] g1 (by decide) rfl rfl hn1 (fun f a h => by rcases f with _ | _ | _ | f <;> simp only [List.getElem?_cons_zero, List.getElem?_cons_succ, List.getElem?_nil, Option.some.injEq, reduceCtorEq] at h <;> subst h <;> first | exact ha1_0 | exact ha1_1 | exact ha1_2))
      · intro p hp
        simp only [i_h0, List.mem_cons, List.not_mem_nil, or_false] at hp
        rcases hp with rfl | rfl | rfl | rfl | rfl | rfl
        · exact (by have hx := hex0; first | exact ⟨Int.le_of_eq hx.symm, Int.le_of_eq hx⟩ | exact hx)
        · exact (by have hx := hex1; first | exact ⟨Int.le_of_eq hx.symm, Int.le_of_eq hx⟩ | exact hx)
        · exact hb0
        · exact hb1
        · exact hl0
        · exact hl1
      · intro p hp
        simp only [i_h0, List.mem_cons, List.not_mem_nil, or_false] at hp
        rcases hp with rfl | rfl | rfl | rfl | rfl | rfl | rfl | rfl | rfl | rfl | rfl
        · exact hb2
        · exact hb3
        · exact hb4
        · exact hb5
        · exact hl2
        · exact hl3
        · exact hl4
        · exact hl5
        · exact hl6
        · exact hl7
        · exact hl8
      · simp [i_h0]
    exact ⟨hok2, LT.of_bare i_sg0 (i_vc0 x0 x1 nx0 nx1 y2 y3 Ax0 Ax1_0 Ax1_1 Ax1_2 Z4 Z5 Z6 Z7 Z8 Z9 Z10 hB hJ hok2)⟩
  · simp [i_hs] at hj
end Go.Proofs.Ytngbibifiadgiaa.TickLoads
