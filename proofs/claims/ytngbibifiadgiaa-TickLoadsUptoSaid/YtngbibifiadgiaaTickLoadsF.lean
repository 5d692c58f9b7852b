/- A part of the law TickLoads, which returns true for every input. Bytes are taken, if they are a state, and refused if not, and then all is as it was; what was taken is saved again with the same bytes. Where what comes in is of bulk at most 1048576. No condition. -/
import Derived.Test.YtngbibifiadgiaaTickLoads0
namespace Go.Proofs.Ytngbibifiadgiaa.TickLoads
open Go.Sx Go.ChangeShapes Go.WideShapes Go.ChangeAt Go.RowKit
set_option linter.unusedVariables false
set_option linter.unusedSimpArgs false
set_option maxRecDepth 100000
def g_Hy (k : Int) : Hyp := ⟨[((.v 0), (k, k)), ((.v 1), (0, 1048575)), (.v 0, (0, 9223372036854775807)), (.v 1, (0, 9223372036854775807))], [(0, (0, 255)), (1, (-9223372036854775808, 9223372036854775807)), (2, (-9223372036854775808, 9223372036854775807)), (3, (0, 255))], [(10, (0, 4294967295))], [], [], [(0, ⟨.lit k, [(some .u8, .av 0)]⟩), (1, ⟨.v 1, [(some .i64, .av 1), (some .i64, .av 2), (some .u8, .av 3)]⟩)]⟩
def g_Ls (k : Int) : List SV := [.s (.xslc 0 (.lit 0) (.lit 0) (.lit k)), .s (.xslc 1 (.lit 0) (.lit 0) (.v 1))]
def g_0 : E := .lt (.v 2) (.v 1)
def g_1 : E := .sel (.av 2) (.v 2)
def g_2 : E := .add g_1 (.lit 252)
def g_3 : E := .mod g_2 (.lit 256)
def g_4 : E := .le g_3 (.lit 3)
def g_5 : E := .mod g_1 (.lit 256)
def g_6 : E := .eq g_5 (.lit 1)
def g_7 : E := .or g_4 g_6
def g_8 : E := .eq g_5 (.lit 4)
def g_9 : E := .eq g_5 (.lit 5)
def g_10 : E := .eq g_5 (.lit 6)
def g_11 : E := .eq g_5 (.lit 7)
def g_12 : E := .ite g_10 g_10 g_11
def g_13 : E := .ite g_9 g_9 g_12
def g_14 : E := .ite g_8 g_8 g_13
def g_15 : E := .not g_14
def g_16 : E := .or g_7 g_15
def g_17 : E := .add g_1 (.lit 248)
def g_18 : E := .mod g_17 (.lit 256)
def g_19 : E := .le g_18 (.lit 1)
def g_20 : E := .or g_14 g_19
def g_21 : E := .or g_20 g_6
def g_22 : E := .eq g_5 (.lit 8)
def g_23 : E := .eq g_5 (.lit 9)
def g_24 : E := .ite g_22 g_22 g_23
def g_25 : E := .not g_24
def g_26 : E := .or g_21 g_25
def g_27 : E := .le (.lit 4) g_3
def g_28 : E := .and g_14 g_27
def g_29 : E := .not g_6
def g_30 : E := .and g_28 g_29
def g_31 : E := .or g_26 g_30
def g_32 : E := .or g_14 g_24
def g_33 : E := .add g_1 (.lit 246)
def g_34 : E := .mod g_33 (.lit 256)
def g_35 : E := .le g_34 (.lit 2)
def g_36 : E := .or g_32 g_35
def g_37 : E := .or g_36 g_6
def g_38 : E := .eq g_5 (.lit 10)
def g_39 : E := .eq g_5 (.lit 11)
def g_40 : E := .eq g_5 (.lit 12)
def g_41 : E := .ite g_39 g_39 g_40
def g_42 : E := .ite g_38 g_38 g_41
def g_43 : E := .not g_42
def g_44 : E := .or g_37 g_43
def g_45 : E := .or g_44 g_30
def g_46 : E := .le (.lit 2) g_18
def g_47 : E := .and g_24 g_46
def g_48 : E := .and g_47 g_15
def g_49 : E := .and g_48 g_29
def g_50 : E := .or g_45 g_49
def g_51 : E := .sel (.av 3) (.v 2)
def g_52 : E := .div g_51 (.lit 128)
def g_53 : E := .mul g_52 (.lit 128)
def g_54 : E := .mod g_51 (.lit 8)
def g_55 : E := .add g_53 g_54
def g_56 : E := .ite g_6 g_55 (.v 3)
def g_57 : E := .add (.v 2) (.lit 1)
def g_58 : E := .or g_14 g_6
def g_59 : E := .sel (.av 10) g_18
def g_60 : E := .ite g_24 g_51 g_59
def g_61 : E := .ite g_58 g_59 g_60
def g_62 : E := .upd (.av 10) g_18 g_61
def g_63 : E := .sel (.av 9) g_3
def g_64 : E := .ite g_14 g_51 g_63
def g_65 : E := .ite g_6 g_63 g_64
def g_66 : E := .upd (.av 9) g_3 g_65
def g_67 : E := .div g_51 (.lit 16)
def g_68 : E := .mod g_67 (.lit 4)
def g_69 : E := .eq g_68 (.lit 1)
def g_70 : E := .eq g_68 (.lit 3)
def g_71 : E := .or g_69 g_70
def g_72 : E := .sel (.av 8) (.lit 0)
def g_73 : E := .ite g_71 (.lit 0) g_72
def g_74 : E := .ite g_6 g_73 g_72
def g_75 : E := .upd (.av 8) (.lit 0) g_74
def g_76 : E := .sel (.av 8) (.lit 1)
def g_77 : E := .ite g_71 (.lit 0) g_76
def g_78 : E := .ite g_6 g_77 g_76
def g_79 : E := .upd g_75 (.lit 1) g_78
def g_80 : E := .sel (.av 8) (.lit 2)
def g_81 : E := .eq g_68 (.lit 2)
def g_82 : E := .ite g_81 (.lit 0) g_80
def g_83 : E := .ite g_69 g_80 g_82
def g_84 : E := .ite g_70 (.lit 0) g_83
def g_85 : E := .ite g_6 g_84 g_80
def g_86 : E := .upd g_79 (.lit 2) g_85
def g_87 : E := .sel (.av 8) (.lit 3)
def g_88 : E := .ite g_81 (.lit 0) g_87
def g_89 : E := .ite g_69 g_87 g_88
def g_90 : E := .ite g_70 (.lit 0) g_89
def g_91 : E := .ite g_6 g_90 g_87
def g_92 : E := .upd g_86 (.lit 3) g_91
def g_93 : E := .sel (.av 5) (.lit 0)
def g_94 : E := .add g_93 (.lit 1)
def g_95 : E := .div g_94 (.lit 128)
def g_96 : E := .mod g_95 (.lit 2)
def g_97 : E := .eq g_96 (.lit 0)
def g_98 : E := .mod g_56 (.lit 2)
def g_99 : E := .eq g_98 (.lit 0)
def g_100 : E := .or g_97 g_99
def g_101 : E := .mod g_51 (.lit 2)
def g_102 : E := .eq g_101 (.lit 0)
def g_103 : E := .mod (.v 3) (.lit 2)
def g_104 : E := .eq g_103 (.lit 0)
def g_105 : E := .not g_104
def g_106 : E := .or g_102 g_105
def g_107 : E := .sel (.av 7) (.lit 0)
def g_108 : E := .ite g_106 g_107 (.lit 0)
def g_109 : E := .ite g_6 g_108 g_107
def g_110 : E := .sel (.av 6) (.lit 0)
def g_111 : E := .ite g_106 g_110 (.lit 0)
def g_112 : E := .ite g_6 g_111 g_110
def g_113 : E := .add g_112 (.lit 1)
def g_114 : E := .mod g_113 (.lit 256)
def g_115 : E := .eq g_34 (.lit 0)
def g_116 : E := .or g_32 g_6
def g_117 : E := .sel (.av 4) g_34
def g_118 : E := .ite g_42 g_51 g_117
def g_119 : E := .ite g_116 g_117 g_118
def g_120 : E := .sel (.av 4) (.lit 0)
def g_121 : E := .ite g_115 g_119 g_120
def g_122 : E := .eq g_114 g_121
def g_123 : E := .add g_109 (.lit 1)
def g_124 : E := .mod g_123 (.lit 16)
def g_125 : E := .ite g_122 g_124 g_109
def g_126 : E := .ite g_100 g_109 g_125
def g_127 : E := .upd (.av 7) (.lit 0) g_126
def g_128 : E := .sel (.av 5) (.lit 1)
def g_129 : E := .add g_128 (.lit 1)
def g_130 : E := .div g_129 (.lit 128)
def g_131 : E := .mod g_130 (.lit 2)
def g_132 : E := .eq g_131 (.lit 0)
def g_133 : E := .div g_56 (.lit 2)
def g_134 : E := .mod g_133 (.lit 2)
def g_135 : E := .eq g_134 (.lit 0)
def g_136 : E := .or g_132 g_135
def g_137 : E := .div g_51 (.lit 2)
def g_138 : E := .mod g_137 (.lit 2)
def g_139 : E := .eq g_138 (.lit 0)
def g_140 : E := .div (.v 3) (.lit 2)
def g_141 : E := .mod g_140 (.lit 2)
def g_142 : E := .eq g_141 (.lit 0)
def g_143 : E := .not g_142
def g_144 : E := .or g_139 g_143
def g_145 : E := .sel (.av 7) (.lit 1)
def g_146 : E := .ite g_144 g_145 (.lit 0)
def g_147 : E := .ite g_6 g_146 g_145
def g_148 : E := .sel (.av 6) (.lit 1)
def g_149 : E := .ite g_144 g_148 (.lit 0)
def g_150 : E := .ite g_6 g_149 g_148
def g_151 : E := .add g_150 (.lit 1)
def g_152 : E := .mod g_151 (.lit 256)
def g_153 : E := .eq g_34 (.lit 1)
def g_154 : E := .sel (.av 4) (.lit 1)
def g_155 : E := .ite g_153 g_119 g_154
def g_156 : E := .eq g_152 g_155
def g_157 : E := .add g_147 (.lit 1)
def g_158 : E := .mod g_157 (.lit 16)
def g_159 : E := .ite g_156 g_158 g_147
def g_160 : E := .ite g_136 g_147 g_159
def g_161 : E := .upd g_127 (.lit 1) g_160
def g_162 : E := .sel (.av 5) (.lit 2)
def g_163 : E := .add g_162 (.lit 1)
def g_164 : E := .mod g_163 (.lit 256)
def g_165 : E := .le g_164 (.lit 15)
def g_166 : E := .div g_56 (.lit 4)
def g_167 : E := .mod g_166 (.lit 2)
def g_168 : E := .eq g_167 (.lit 0)
def g_169 : E := .or g_165 g_168
def g_170 : E := .div g_51 (.lit 4)
def g_171 : E := .mod g_170 (.lit 2)
def g_172 : E := .eq g_171 (.lit 0)
def g_173 : E := .div (.v 3) (.lit 4)
def g_174 : E := .mod g_173 (.lit 2)
def g_175 : E := .eq g_174 (.lit 0)
def g_176 : E := .not g_175
def g_177 : E := .or g_172 g_176
def g_178 : E := .sel (.av 7) (.lit 2)
def g_179 : E := .ite g_177 g_178 (.lit 0)
def g_180 : E := .ite g_6 g_179 g_178
def g_181 : E := .sel (.av 6) (.lit 2)
def g_182 : E := .ite g_177 g_181 (.lit 0)
def g_183 : E := .ite g_6 g_182 g_181
def g_184 : E := .add g_183 (.lit 1)
def g_185 : E := .mod g_184 (.lit 256)
def g_186 : E := .eq g_34 (.lit 2)
def g_187 : E := .sel (.av 4) (.lit 2)
def g_188 : E := .ite g_186 g_119 g_187
def g_189 : E := .eq g_185 g_188
def g_190 : E := .add g_180 (.lit 1)
def g_191 : E := .mod g_190 (.lit 16)
def g_192 : E := .ite g_189 g_191 g_180
def g_193 : E := .ite g_169 g_180 g_192
def g_194 : E := .upd g_161 (.lit 2) g_193
def g_195 : E := .ite g_122 (.lit 0) g_114
def g_196 : E := .ite g_100 g_112 g_195
def g_197 : E := .upd (.av 6) (.lit 0) g_196
def g_198 : E := .ite g_156 (.lit 0) g_152
def g_199 : E := .ite g_136 g_150 g_198
def g_200 : E := .upd g_197 (.lit 1) g_199
def g_201 : E := .ite g_189 (.lit 0) g_185
def g_202 : E := .ite g_169 g_183 g_201
def g_203 : E := .upd g_200 (.lit 2) g_202
def g_204 : E := .mod g_94 (.lit 256)
def g_205 : E := .ite g_97 g_204 (.lit 0)
def g_206 : E := .upd (.av 5) (.lit 0) g_205
def g_207 : E := .mod g_129 (.lit 256)
def g_208 : E := .ite g_132 g_207 (.lit 0)
def g_209 : E := .upd g_206 (.lit 1) g_208
def g_210 : E := .ite g_165 g_164 (.lit 0)
def g_211 : E := .upd g_209 (.lit 2) g_210
def g_212 : E := .upd (.av 4) g_34 g_119
noncomputable def g_T0 (k : Int) : List Item := todoS Try.prog G Gh [] 3000 0 7 (g_Hy k) (g_Ls k) [] 4
noncomputable def g_h0 (k : Int) : Head := ⟨4, (g_T0 k), ⟨[((.v 0), (k, k)), ((.v 1), (0, 1048575)), ((.v 0), (0, 9223372036854775807)), ((.v 1), (0, 9223372036854775807)), ((.v 2), (0, 1048576)), ((.v 3), (0, 255))], [(0, (0, 255)), (1, ((-9223372036854775808), 9223372036854775807)), (2, ((-9223372036854775808), 9223372036854775807)), (3, (0, 255)), (4, (0, 255)), (5, (0, 255)), (6, (0, 255)), (7, (0, 255)), (8, (0, 255)), (9, (0, 255)), (10, (0, 255))], [(10, (0, 4294967295))], [], [], [(0, ⟨(.lit k), [(some .u8, (.av 0))]⟩), (1, ⟨(.v 1), [(some .i64, (.av 1)), (some .i64, (.av 2)), (some .u8, (.av 3))]⟩)]⟩, [⟨6, [], .s (.int .i64 (.v 2))⟩, ⟨5, [], .s (.ptr 0 (.lit 0))⟩, ⟨0, [], .s (.xslc 0 (.lit 0) (.lit 0) (.lit k))⟩, ⟨1, [], .s (.xslc 1 (.lit 0) (.lit 0) (.v 1))⟩], [⟨68, [.one (.int .u8 (.v 3)), .rows (.lit 3) [(some .u8, (.av 4)), (some .u8, (.av 5)), (some .u8, (.av 6)), (some .u8, (.av 7))] 0, .run .u8 (.lit 4) (.av 8) 0, .run .u8 (.lit 4) (.av 9) 0, .run .u8 (.lit 2) (.av 10) 0], true, none, false⟩]⟩
noncomputable def g_hs (k : Int) : List Head := [(g_h0 k)]
def g_D : Dim := ⟨4, 0, 11, 2, 0, 4, 0⟩
theorem g_hT0 (k : Int) : ((g_hs k)[0]?.map (·.todo)) = some (g_T0 k) := by kernel_rfl
def g_Base (k : Int) (x0 : Ext) (x1 : Ext) (nx0 nx1 : Int) (Ax0 Ax1_0 Ax1_1 Ax1_2 : Nat → Int) : Prop := (0 ≤ nx0 ∧ nx0 ≤ 9223372036854775807) ∧ (0 ≤ nx1 ∧ nx1 ≤ 9223372036854775807) ∧ (∀ j, 0 ≤ Ax0 j ∧ Ax0 j ≤ 255) ∧ (∀ j, -9223372036854775808 ≤ Ax1_0 j ∧ Ax1_0 j ≤ 9223372036854775807) ∧ (∀ j, -9223372036854775808 ≤ Ax1_1 j ∧ Ax1_1 j ≤ 9223372036854775807) ∧ (∀ j, 0 ≤ Ax1_2 j ∧ Ax1_2 j ≤ 255) ∧ nx0 = (x0.n : Int) ∧ nx1 = (x1.n : Int) ∧ Ax0 = xArr x0 1 0 ∧ Ax1_0 = xArr x1 3 0 ∧ Ax1_1 = xArr x1 3 1 ∧ Ax1_2 = xArr x1 3 2 ∧ ((nx0) = k) ∧ (0 ≤ (nx1) ∧ (nx1) ≤ 1048575) ∧ True
def g_J0 (nx0 nx1 y2 y3 : Int) (Ax0 Ax1_0 Ax1_1 Ax1_2 Z4 Z5 Z6 Z7 Z8 Z9 Z10 : Nat → Int) : Prop := (0 ≤ y2 ∧ y2 ≤ 1048576) ∧ (0 ≤ y3 ∧ y3 ≤ 255) ∧ (∀ j, 0 ≤ Z4 j ∧ Z4 j ≤ 255) ∧ (∀ j, 0 ≤ Z5 j ∧ Z5 j ≤ 255) ∧ (∀ j, 0 ≤ Z6 j ∧ Z6 j ≤ 255) ∧ (∀ j, 0 ≤ Z7 j ∧ Z7 j ≤ 255) ∧ (∀ j, 0 ≤ Z8 j ∧ Z8 j ≤ 255) ∧ (∀ j, 0 ≤ Z9 j ∧ Z9 j ≤ 255) ∧ (∀ j, 0 ≤ Z10 j ∧ Z10 j ≤ 255) ∧ True
def g_Inv (k : Int) (x0 : Ext) (x1 : Ext) : Nat → Env → Prop
  | 0, ρ => ∃ (nx0 nx1 y2 y3 : Int) (Ax0 Ax1_0 Ax1_1 Ax1_2 Z4 Z5 Z6 Z7 Z8 Z9 Z10 : Nat → Int), ρ = (⟨[nx0, nx1, y2, y3], [], [Ax0, Ax1_0, Ax1_1, Ax1_2, Z4, Z5, Z6, Z7, Z8, Z9, Z10], [], Iv (fun i j => match i, j with | 0, 0 => x0 | 1, 0 => x1 | _, _ => Ext.none)⟩ : Env) ∧ (g_Base k) x0 x1 nx0 nx1 Ax0 Ax1_0 Ax1_1 Ax1_2 ∧ g_J0 nx0 nx1 y2 y3 Ax0 Ax1_0 Ax1_1 Ax1_2 Z4 Z5 Z6 Z7 Z8 Z9 Z10
  | _, _ => False
def g_mu : Nat → Env → Nat := fun j ρ => (ρ.i.getD 1 0 - ρ.i.getD 2 0).toNat
theorem g_vc0 (k : Int) (x0 : Ext) (x1 : Ext) (nx0 nx1 y2 y3 : Int) (Ax0 Ax1_0 Ax1_1 Ax1_2 Z4 Z5 Z6 Z7 Z8 Z9 Z10 : Nat → Int) (hB : (g_Base k) x0 x1 nx0 nx1 Ax0 Ax1_0 Ax1_1 Ax1_2) (hJ : g_J0 nx0 nx1 y2 y3 Ax0 Ax1_0 Ax1_1 Ax1_2 Z4 Z5 Z6 Z7 Z8 Z9 Z10) (hH : Hyp.ok (g_h0 k).H (⟨[nx0, nx1, y2, y3], [], [Ax0, Ax1_0, Ax1_1, Ax1_2, Z4, Z5, Z6, Z7, Z8, Z9, Z10], [], Iv (fun i j => match i, j with | 0, 0 => x0 | 1, 0 => x1 | _, _ => Ext.none)⟩ : Env)) :
    LT.holds (⟨[nx0, nx1, y2, y3], [], [Ax0, Ax1_0, Ax1_1, Ax1_2, Z4, Z5, Z6, Z7, Z8, Z9, Z10], [], Iv (fun i j => match i, j with | 0, 0 => x0 | 1, 0 => x1 | _, _ => Ext.none)⟩ : Env) (fun v _ => retTrue (⟨[nx0, nx1, y2, y3], [], [Ax0, Ax1_0, Ax1_1, Ax1_2, Z4, Z5, Z6, Z7, Z8, Z9, Z10], [], Iv (fun i j => match i, j with | 0, 0 => x0 | 1, 0 => x1 | _, _ => Ext.none)⟩ : Env) v) (fun j' todo ρ' => ((g_hs k)[j']?.map (·.todo)) = some todo ∧ (g_Inv k) x0 x1 j' ρ' ∧ g_mu j' ρ' < g_mu 0 (⟨[nx0, nx1, y2, y3], [], [Ax0, Ax1_0, Ax1_1, Ax1_2, Z4, Z5, Z6, Z7, Z8, Z9, Z10], [], Iv (fun i j => match i, j with | 0, 0 => x0 | 1, 0 => x1 | _, _ => Ext.none)⟩ : Env)) (.ite g_0 (.need g_0 (.need g_0 (.need g_0 (.need g_0 (.need g_0 (.need g_0 (.need g_0 (.need g_0 (.need g_16 (.need g_31 (.need g_50 (.jump 0 (g_T0 k) ⟨[(3, g_56), (2, g_57)], [], [(10, g_62), (9, g_66), (8, g_92), (7, g_194), (6, g_203), (5, g_211), (4, g_212)]⟩)))))))))))) (.ret (.s (.bool (.blit true))) [])) := by
  simp only [LT.holds, retTrue]
  refine ⟨fun hc0 => ?_, fun hc0 => ?_⟩
  ·
    refine ⟨?_, fun hc1 => ?_⟩
    ·
      simp only [g_0, g_1, g_2, g_3, g_4, g_5, g_6, g_7, g_8, g_9, g_10, g_11, g_12, g_13, g_14, g_15, g_16, g_17, g_18, g_19, g_20, g_21, g_22, g_23, g_24, g_25, g_26, g_27, g_28, g_29, g_30, g_31, g_32, g_33, g_34, g_35, g_36, g_37, g_38, g_39, g_40, g_41, g_42, g_43, g_44, g_45, g_46, g_47, g_48, g_49, g_50, g_51, g_52, g_53, g_54, g_55, g_56, g_57, g_58, g_59, g_60, g_61, g_62, g_63, g_64, g_65, g_66, g_67, g_68, g_69, g_70, g_71, g_72, g_73, g_74, g_75, g_76, g_77, g_78, g_79, g_80, g_81, g_82, g_83, g_84, g_85, g_86, g_87, g_88, g_89, g_90, g_91, g_92, g_93, g_94, g_95, g_96, g_97, g_98, g_99, g_100, g_101, g_102, g_103, g_104, g_105, g_106, g_107, g_108, g_109, g_110, g_111, g_112, g_113, g_114, g_115, g_116, g_117, g_118, g_119, g_120, g_121, g_122, g_123, g_124, g_125, g_126, g_127, g_128, g_129, g_130, g_131, g_132, g_133, g_134, g_135, g_136, g_137, g_138, g_139, g_140, g_141, g_142, g_143, g_144, g_145, g_146, g_147, g_148, g_149, g_150, g_151, g_152, g_153, g_154, g_155, g_156, g_157, g_158, g_159, g_160, g_161, g_162, g_163, g_164, g_165, g_166, g_167, g_168, g_169, g_170, g_171, g_172, g_173, g_174, g_175, g_176, g_177, g_178, g_179, g_180, g_181, g_182, g_183, g_184, g_185, g_186, g_187, g_188, g_189, g_190, g_191, g_192, g_193, g_194, g_195, g_196, g_197, g_198, g_199, g_200, g_201, g_202, g_203, g_204, g_205, g_206, g_207, g_208, g_209, g_210, g_211, g_212, i_v, b_bv, i_lit, b_blit, i_add, i_sub, i_mul, i_div, i_mod, i_tdiv, i_tmod, i_ite, b_ite, b_lt, b_le, b_eq, b_not, b_and, b_or, b_iff, i_sel, a_tab, i_pow2, List.getD_cons_zero, List.getD_cons_succ, decide_eq_true_eq, decide_eq_false_iff_not, Bool.and_eq_true, Bool.or_eq_true, Bool.not_eq_true', Bool.not_eq_false', Bool.and_eq_false_iff, Bool.or_eq_false_iff, Bool.not_not, ite_tt, ite_ff, iff_tt, iff_ff, a_av, a_ite, a_upd] at hc0 ⊢
      omega
    ·
      refine ⟨?_, fun hc2 => ?_⟩
      ·
        simp only [g_0, g_1, g_2, g_3, g_4, g_5, g_6, g_7, g_8, g_9, g_10, g_11, g_12, g_13, g_14, g_15, g_16, g_17, g_18, g_19, g_20, g_21, g_22, g_23, g_24, g_25, g_26, g_27, g_28, g_29, g_30, g_31, g_32, g_33, g_34, g_35, g_36, g_37, g_38, g_39, g_40, g_41, g_42, g_43, g_44, g_45, g_46, g_47, g_48, g_49, g_50, g_51, g_52, g_53, g_54, g_55, g_56, g_57, g_58, g_59, g_60, g_61, g_62, g_63, g_64, g_65, g_66, g_67, g_68, g_69, g_70, g_71, g_72, g_73, g_74, g_75, g_76, g_77, g_78, g_79, g_80, g_81, g_82, g_83, g_84, g_85, g_86, g_87, g_88, g_89, g_90, g_91, g_92, g_93, g_94, g_95, g_96, g_97, g_98, g_99, g_100, g_101, g_102, g_103, g_104, g_105, g_106, g_107, g_108, g_109, g_110, g_111, g_112, g_113, g_114, g_115, g_116, g_117, g_118, g_119, g_120, g_121, g_122, g_123, g_124, g_125, g_126, g_127, g_128, g_129, g_130, g_131, g_132, g_133, g_134, g_135, g_136, g_137, g_138, g_139, g_140, g_141, g_142, g_143, g_144, g_145, g_146, g_147, g_148, g_149, g_150, g_151, g_152, g_153, g_154, g_155, g_156, g_157, g_158, g_159, g_160, g_161, g_162, g_163, g_164, g_165, g_166, g_167, g_168, g_169, g_170, g_171, g_172, g_173, g_174, g_175, g_176, g_177, g_178, g_179, g_180, g_181, g_182, g_183, g_184, g_185, g_186, g_187, g_188, g_189, g_190, g_191, g_192, g_193, g_194, g_195, g_196, g_197, g_198, g_199, g_200, g_201, g_202, g_203, g_204, g_205, g_206, g_207, g_208, g_209, g_210, g_211, g_212, i_v, b_bv, i_lit, b_blit, i_add, i_sub, i_mul, i_div, i_mod, i_tdiv, i_tmod, i_ite, b_ite, b_lt, b_le, b_eq, b_not, b_and, b_or, b_iff, i_sel, a_tab, i_pow2, List.getD_cons_zero, List.getD_cons_succ, decide_eq_true_eq, decide_eq_false_iff_not, Bool.and_eq_true, Bool.or_eq_true, Bool.not_eq_true', Bool.not_eq_false', Bool.and_eq_false_iff, Bool.or_eq_false_iff, Bool.not_not, ite_tt, ite_ff, iff_tt, iff_ff, a_av, a_ite, a_upd] at hc0 ⊢
        omega
      ·
        refine ⟨?_, fun hc3 => ?_⟩
        ·
          simp only [g_0, g_1, g_2, g_3, g_4, g_5, g_6, g_7, g_8, g_9, g_10, g_11, g_12, g_13, g_14, g_15, g_16, g_17, g_18, g_19, g_20, g_21, g_22, g_23, g_24, g_25, g_26, g_27, g_28, g_29, g_30, g_31, g_32, g_33, g_34, g_35, g_36, g_37, g_38, g_39, g_40, g_41, g_42, g_43, g_44, g_45, g_46, g_47, g_48, g_49, g_50, g_51, g_52, g_53, g_54, g_55, g_56, g_57, g_58, g_59, g_60, g_61, g_62, g_63, g_64, g_65, g_66, g_67, g_68, g_69, g_70, g_71, g_72, g_73, g_74, g_75, g_76, g_77, g_78, g_79, g_80, g_81, g_82, g_83, g_84, g_85, g_86, g_87, g_88, g_89, g_90, g_91, g_92, g_93, g_94, g_95, g_96, g_97, g_98, g_99, g_100, g_101, g_102, g_103, g_104, g_105, g_106, g_107, g_108, g_109, g_110, g_111, g_112, g_113, g_114, g_115, g_116, g_117, g_118, g_119, g_120, g_121, g_122, g_123, g_124, g_125, g_126, g_127, g_128, g_129, g_130, g_131, g_132, g_133, g_134, g_135, g_136, g_137, g_138, g_139, g_140, g_141, g_142, g_143, g_144, g_145, g_146, g_147, g_148, g_149, g_150, g_151, g_152, g_153, g_154, g_155, g_156, g_157, g_158, g_159, g_160, g_161, g_162, g_163, g_164, g_165, g_166, g_167, g_168, g_169, g_170, g_171, g_172, g_173, g_174, g_175, g_176, g_177, g_178, g_179, g_180, g_181, g_182, g_183, g_184, g_185, g_186, g_187, g_188, g_189, g_190, g_191, g_192, g_193, g_194, g_195, g_196, g_197, g_198, g_199, g_200, g_201, g_202, g_203, g_204, g_205, g_206, g_207, g_208, g_209, g_210, g_211, g_212, i_v, b_bv, i_lit, b_blit, i_add, i_sub, i_mul, i_div, i_mod, i_tdiv, i_tmod, i_ite, b_ite, b_lt, b_le, b_eq, b_not, b_and, b_or, b_iff, i_sel, a_tab, i_pow2, List.getD_cons_zero, List.getD_cons_succ, decide_eq_true_eq, decide_eq_false_iff_not, Bool.and_eq_true, Bool.or_eq_true, Bool.not_eq_true', Bool.not_eq_false', Bool.and_eq_false_iff, Bool.or_eq_false_iff, Bool.not_not, ite_tt, ite_ff, iff_tt, iff_ff, a_av, a_ite, a_upd] at hc0 ⊢
          omega
        ·
          refine ⟨?_, fun hc4 => ?_⟩
          ·
            simp only [g_0, g_1, g_2, g_3, g_4, g_5, g_6, g_7, g_8, g_9, g_10, g_11, g_12, g_13, g_14, g_15, g_16, g_17, g_18, g_19, g_20, g_21, g_22, g_23, g_24, g_25, g_26, g_27, g_28, g_29, g_30, g_31, g_32, g_33, g_34, g_35, g_36, g_37, g_38, g_39, g_40, g_41, g_42, g_43, g_44, g_45, g_46, g_47, g_48, g_49, g_50, g_51, g_52, g_53, g_54, g_55, g_56, g_57, g_58, g_59, g_60, g_61, g_62, g_63, g_64, g_65, g_66, g_67, g_68, g_69, g_70, g_71, g_72, g_73, g_74, g_75, g_76, g_77, g_78, g_79, g_80, g_81, g_82, g_83, g_84, g_85, g_86, g_87, g_88, g_89, g_90, g_91, g_92, g_93, g_94, g_95, g_96, g_97, g_98, g_99, g_100, g_101, g_102, g_103, g_104, g_105, g_106, g_107, g_108, g_109, g_110, g_111, g_112, g_113, g_114, g_115, g_116, g_117, g_118, g_119, g_120, g_121, g_122, g_123, g_124, g_125, g_126, g_127, g_128, g_129, g_130, g_131, g_132, g_133, g_134, g_135, g_136, g_137, g_138, g_139, g_140, g_141, g_142, g_143, g_144, g_145, g_146, g_147, g_148, g_149, g_150, g_151, g_152, g_153, g_154, g_155, g_156, g_157, g_158, g_159, g_160, g_161, g_162, g_163, g_164, g_165, g_166, g_167, g_168, g_169, g_170, g_171, g_172, g_173, g_174, g_175, g_176, g_177, g_178, g_179, g_180, g_181, g_182, g_183, g_184, g_185, g_186, g_187, g_188, g_189, g_190, g_191, g_192, g_193, g_194, g_195, g_196, g_197, g_198, g_199, g_200, g_201, g_202, g_203, g_204, g_205, g_206, g_207, g_208, g_209, g_210, g_211, g_212, i_v, b_bv, i_lit, b_blit, i_add, i_sub, i_mul, i_div, i_mod, i_tdiv, i_tmod, i_ite, b_ite, b_lt, b_le, b_eq, b_not, b_and, b_or, b_iff, i_sel, a_tab, i_pow2, List.getD_cons_zero, List.getD_cons_succ, decide_eq_true_eq, decide_eq_false_iff_not, Bool.and_eq_true, Bool.or_eq_true, Bool.not_eq_true', Bool.not_eq_false', Bool.and_eq_false_iff, Bool.or_eq_false_iff, Bool.not_not, ite_tt, ite_ff, iff_tt, iff_ff, a_av, a_ite, a_upd] at hc0 ⊢
            omega
          ·
            refine ⟨?_, fun hc5 => ?_⟩
            ·
              simp only [g_0, g_1, g_2, g_3, g_4, g_5, g_6, g_7, g_8, g_9, g_10, g_11, g_12, g_13, g_14, g_15, g_16, g_17, g_18, g_19, g_20, g_21, g_22, g_23, g_24, g_25, g_26, g_27, g_28, g_29, g_30, g_31, g_32, g_33, g_34, g_35, g_36, g_37, g_38, g_39, g_40, g_41, g_42, g_43, g_44, g_45, g_46, g_47, g_48, g_49, g_50, g_51, g_52, g_53, g_54, g_55, g_56, g_57, g_58, g_59, g_60, g_61, g_62, g_63, g_64, g_65, g_66, g_67, g_68, g_69, g_70, g_71, g_72, g_73, g_74, g_75, g_76, g_77, g_78, g_79, g_80, g_81, g_82, g_83, g_84, g_85, g_86, g_87, g_88, g_89, g_90, g_91, g_92, g_93, g_94, g_95, g_96, g_97, g_98, g_99, g_100, g_101, g_102, g_103, g_104, g_105, g_106, g_107, g_108, g_109, g_110, g_111, g_112, g_113, g_114, g_115, g_116, g_117, g_118, g_119, g_120, g_121, g_122, g_123, g_124, g_125, g_126, g_127, g_128, g_129, g_130, g_131, g_132, g_133, g_134, g_135, g_136, g_137, g_138, g_139, g_140, g_141, g_142, g_143, g_144, g_145, g_146, g_147, g_148, g_149, g_150, g_151, g_152, g_153, g_154, g_155, g_156, g_157, g_158, g_159, g_160, g_161, g_162, g_163, g_164, g_165, g_166, g_167, g_168, g_169, g_170, g_171, g_172, g_173, g_174, g_175, g_176, g_177, g_178, g_179, g_180, g_181, g_182, g_183, g_184, g_185, g_186, g_187, g_188, g_189, g_190, g_191, g_192, g_193, g_194, g_195, g_196, g_197, g_198, g_199, g_200, g_201, g_202, g_203, g_204, g_205, g_206, g_207, g_208, g_209, g_210, g_211, g_212, i_v, b_bv, i_lit, b_blit, i_add, i_sub, i_mul, i_div, i_mod, i_tdiv, i_tmod, i_ite, b_ite, b_lt, b_le, b_eq, b_not, b_and, b_or, b_iff, i_sel, a_tab, i_pow2, List.getD_cons_zero, List.getD_cons_succ, decide_eq_true_eq, decide_eq_false_iff_not, Bool.and_eq_true, Bool.or_eq_true, Bool.not_eq_true', Bool.not_eq_false', Bool.and_eq_false_iff, Bool.or_eq_false_iff, Bool.not_not, ite_tt, ite_ff, iff_tt, iff_ff, a_av, a_ite, a_upd] at hc0 ⊢
              omega
            ·
              refine ⟨?_, fun hc6 => ?_⟩
              ·
                simp only [g_0, g_1, g_2, g_3, g_4, g_5, g_6, g_7, g_8, g_9, g_10, g_11, g_12, g_13, g_14, g_15, g_16, g_17, g_18, g_19, g_20, g_21, g_22, g_23, g_24, g_25, g_26, g_27, g_28, g_29, g_30, g_31, g_32, g_33, g_34, g_35, g_36, g_37, g_38, g_39, g_40, g_41, g_42, g_43, g_44, g_45, g_46, g_47, g_48, g_49, g_50, g_51, g_52, g_53, g_54, g_55, g_56, g_57, g_58, g_59, g_60, g_61, g_62, g_63, g_64, g_65, g_66, g_67, g_68, g_69, g_70, g_71, g_72, g_73, g_74, g_75, g_76, g_77, g_78, g_79, g_80, g_81, g_82, g_83, g_84, g_85, g_86, g_87, g_88, g_89, g_90, g_91, g_92, g_93, g_94, g_95, g_96, g_97, g_98, g_99, g_100, g_101, g_102, g_103, g_104, g_105, g_106, g_107, g_108, g_109, g_110, g_111, g_112, g_113, g_114, g_115, g_116, g_117, g_118, g_119, g_120, g_121, g_122, g_123, g_124, g_125, g_126, g_127, g_128, g_129, g_130, g_131, g_132, g_133, g_134, g_135, g_136, g_137, g_138, g_139, g_140, g_141, g_142, g_143, g_144, g_145, g_146, g_147, g_148, g_149, g_150, g_151, g_152, g_153, g_154, g_155, g_156, g_157, g_158, g_159, g_160, g_161, g_162, g_163, g_164, g_165, g_166, g_167, g_168, g_169, g_170, g_171, g_172, g_173, g_174, g_175, g_176, g_177, g_178, g_179, g_180, g_181, g_182, g_183, g_184, g_185, g_186, g_187, g_188, g_189, g_190, g_191, g_192, g_193, g_194, g_195, g_196, g_197, g_198, g_199, g_200, g_201, g_202, g_203, g_204, g_205, g_206, g_207, g_208, g_209, g_210, g_211, g_212, i_v, b_bv, i_lit, b_blit, i_add, i_sub, i_mul, i_div, i_mod, i_tdiv, i_tmod, i_ite, b_ite, b_lt, b_le, b_eq, b_not, b_and, b_or, b_iff, i_sel, a_tab, i_pow2, List.getD_cons_zero, List.getD_cons_succ, decide_eq_true_eq, decide_eq_false_iff_not, Bool.and_eq_true, Bool.or_eq_true, Bool.not_eq_true', Bool.not_eq_false', Bool.and_eq_false_iff, Bool.or_eq_false_iff, Bool.not_not, ite_tt, ite_ff, iff_tt, iff_ff, a_av, a_ite, a_upd] at hc0 ⊢
                omega
              ·
                refine ⟨?_, fun hc7 => ?_⟩
                ·
                  simp only [g_0, g_1, g_2, g_3, g_4, g_5, g_6, g_7, g_8, g_9, g_10, g_11, g_12, g_13, g_14, g_15, g_16, g_17, g_18, g_19, g_20, g_21, g_22, g_23, g_24, g_25, g_26, g_27, g_28, g_29, g_30, g_31, g_32, g_33, g_34, g_35, g_36, g_37, g_38, g_39, g_40, g_41, g_42, g_43, g_44, g_45, g_46, g_47, g_48, g_49, g_50, g_51, g_52, g_53, g_54, g_55, g_56, g_57, g_58, g_59, g_60, g_61, g_62, g_63, g_64, g_65, g_66, g_67, g_68, g_69, g_70, g_71, g_72, g_73, g_74, g_75, g_76, g_77, g_78, g_79, g_80, g_81, g_82, g_83, g_84, g_85, g_86, g_87, g_88, g_89, g_90, g_91, g_92, g_93, g_94, g_95, g_96, g_97, g_98, g_99, g_100, g_101, g_102, g_103, g_104, g_105, g_106, g_107, g_108, g_109, g_110, g_111, g_112, g_113, g_114, g_115, g_116, g_117, g_118, g_119, g_120, g_121, g_122, g_123, g_124, g_125, g_126, g_127, g_128, g_129, g_130, g_131, g_132, g_133, g_134, g_135, g_136, g_137, g_138, g_139, g_140, g_141, g_142, g_143, g_144, g_145, g_146, g_147, g_148, g_149, g_150, g_151, g_152, g_153, g_154, g_155, g_156, g_157, g_158, g_159, g_160, g_161, g_162, g_163, g_164, g_165, g_166, g_167, g_168, g_169, g_170, g_171, g_172, g_173, g_174, g_175, g_176, g_177, g_178, g_179, g_180, g_181, g_182, g_183, g_184, g_185, g_186, g_187, g_188, g_189, g_190, g_191, g_192, g_193, g_194, g_195, g_196, g_197, g_198, g_199, g_200, g_201, g_202, g_203, g_204, g_205, g_206, g_207, g_208, g_209, g_210, g_211, g_212, i_v, b_bv, i_lit, b_blit, i_add, i_sub, i_mul, i_div, i_mod, i_tdiv, i_tmod, i_ite, b_ite, b_lt, b_le, b_eq, b_not, b_and, b_or, b_iff, i_sel, a_tab, i_pow2, List.getD_cons_zero, List.getD_cons_succ, decide_eq_true_eq, decide_eq_false_iff_not, Bool.and_eq_true, Bool.or_eq_true, Bool.not_eq_true', Bool.not_eq_false', Bool.and_eq_false_iff, Bool.or_eq_false_iff, Bool.not_not, ite_tt, ite_ff, iff_tt, iff_ff, a_av, a_ite, a_upd] at hc0 ⊢
                  omega
                ·
                  refine ⟨?_, fun hc8 => ?_⟩
                  ·
                    simp only [g_0, g_1, g_2, g_3, g_4, g_5, g_6, g_7, g_8, g_9, g_10, g_11, g_12, g_13, g_14, g_15, g_16, g_17, g_18, g_19, g_20, g_21, g_22, g_23, g_24, g_25, g_26, g_27, g_28, g_29, g_30, g_31, g_32, g_33, g_34, g_35, g_36, g_37, g_38, g_39, g_40, g_41, g_42, g_43, g_44, g_45, g_46, g_47, g_48, g_49, g_50, g_51, g_52, g_53, g_54, g_55, g_56, g_57, g_58, g_59, g_60, g_61, g_62, g_63, g_64, g_65, g_66, g_67, g_68, g_69, g_70, g_71, g_72, g_73, g_74, g_75, g_76, g_77, g_78, g_79, g_80, g_81, g_82, g_83, g_84, g_85, g_86, g_87, g_88, g_89, g_90, g_91, g_92, g_93, g_94, g_95, g_96, g_97, g_98, g_99, g_100, g_101, g_102, g_103, g_104, g_105, g_106, g_107, g_108, g_109, g_110, g_111, g_112, g_113, g_114, g_115, g_116, g_117, g_118, g_119, g_120, g_121, g_122, g_123, g_124, g_125, g_126, g_127, g_128, g_129, g_130, g_131, g_132, g_133, g_134, g_135, g_136, g_137, g_138, g_139, g_140, g_141, g_142, g_143, g_144, g_145, g_146, g_147, g_148, g_149, g_150, g_151, g_152, g_153, g_154, g_155, g_156, g_157, g_158, g_159, g_160, g_161, g_162, g_163, g_164, g_165, g_166, g_167, g_168, g_169, g_170, g_171, g_172, g_173, g_174, g_175, g_176, g_177, g_178, g_179, g_180, g_181, g_182, g_183, g_184, g_185, g_186, g_187, g_188, g_189, g_190, g_191, g_192, g_193, g_194, g_195, g_196, g_197, g_198, g_199, g_200, g_201, g_202, g_203, g_204, g_205, g_206, g_207, g_208, g_209, g_210, g_211, g_212, i_v, b_bv, i_lit, b_blit, i_add, i_sub, i_mul, i_div, i_mod, i_tdiv, i_tmod, i_ite, b_ite, b_lt, b_le, b_eq, b_not, b_and, b_or, b_iff, i_sel, a_tab, i_pow2, List.getD_cons_zero, List.getD_cons_succ, decide_eq_true_eq, decide_eq_false_iff_not, Bool.and_eq_true, Bool.or_eq_true, Bool.not_eq_true', Bool.not_eq_false', Bool.and_eq_false_iff, Bool.or_eq_false_iff, Bool.not_not, ite_tt, ite_ff, iff_tt, iff_ff, a_av, a_ite, a_upd] at hc0 ⊢
                    omega
                  ·
                    refine ⟨?_, fun hc9 => ?_⟩
                    ·
                      simp only [g_0, g_1, g_2, g_3, g_4, g_5, g_6, g_7, g_8, g_9, g_10, g_11, g_12, g_13, g_14, g_15, g_16, g_17, g_18, g_19, g_20, g_21, g_22, g_23, g_24, g_25, g_26, g_27, g_28, g_29, g_30, g_31, g_32, g_33, g_34, g_35, g_36, g_37, g_38, g_39, g_40, g_41, g_42, g_43, g_44, g_45, g_46, g_47, g_48, g_49, g_50, g_51, g_52, g_53, g_54, g_55, g_56, g_57, g_58, g_59, g_60, g_61, g_62, g_63, g_64, g_65, g_66, g_67, g_68, g_69, g_70, g_71, g_72, g_73, g_74, g_75, g_76, g_77, g_78, g_79, g_80, g_81, g_82, g_83, g_84, g_85, g_86, g_87, g_88, g_89, g_90, g_91, g_92, g_93, g_94, g_95, g_96, g_97, g_98, g_99, g_100, g_101, g_102, g_103, g_104, g_105, g_106, g_107, g_108, g_109, g_110, g_111, g_112, g_113, g_114, g_115, g_116, g_117, g_118, g_119, g_120, g_121, g_122, g_123, g_124, g_125, g_126, g_127, g_128, g_129, g_130, g_131, g_132, g_133, g_134, g_135, g_136, g_137, g_138, g_139, g_140, g_141, g_142, g_143, g_144, g_145, g_146, g_147, g_148, g_149, g_150, g_151, g_152, g_153, g_154, g_155, g_156, g_157, g_158, g_159, g_160, g_161, g_162, g_163, g_164, g_165, g_166, g_167, g_168, g_169, g_170, g_171, g_172, g_173, g_174, g_175, g_176, g_177, g_178, g_179, g_180, g_181, g_182, g_183, g_184, g_185, g_186, g_187, g_188, g_189, g_190, g_191, g_192, g_193, g_194, g_195, g_196, g_197, g_198, g_199, g_200, g_201, g_202, g_203, g_204, g_205, g_206, g_207, g_208, g_209, g_210, g_211, g_212, i_v, b_bv, i_lit, b_blit, i_add, i_sub, i_mul, i_div, i_mod, i_tdiv, i_tmod, i_ite, b_ite, b_lt, b_le, b_eq, b_not, b_and, b_or, b_iff, i_sel, a_tab, i_pow2, List.getD_cons_zero, List.getD_cons_succ, decide_eq_true_eq, decide_eq_false_iff_not, Bool.and_eq_true, Bool.or_eq_true, Bool.not_eq_true', Bool.not_eq_false', Bool.and_eq_false_iff, Bool.or_eq_false_iff, Bool.not_not, ite_tt, ite_ff, iff_tt, iff_ff, a_av, a_ite, a_upd] at hc0 ⊢
                      omega
                    ·
                      refine ⟨?_, fun hc10 => ?_⟩
                      ·
                        simp only [g_0, g_1, g_2, g_3, g_4, g_5, g_6, g_7, g_8, g_9, g_10, g_11, g_12, g_13, g_14, g_15, g_16, g_17, g_18, g_19, g_20, g_21, g_22, g_23, g_24, g_25, g_26, g_27, g_28, g_29, g_30, g_31, g_32, g_33, g_34, g_35, g_36, g_37, g_38, g_39, g_40, g_41, g_42, g_43, g_44, g_45, g_46, g_47, g_48, g_49, g_50, g_51, g_52, g_53, g_54, g_55, g_56, g_57, g_58, g_59, g_60, g_61, g_62, g_63, g_64, g_65, g_66, g_67, g_68, g_69, g_70, g_71, g_72, g_73, g_74, g_75, g_76, g_77, g_78, g_79, g_80, g_81, g_82, g_83, g_84, g_85, g_86, g_87, g_88, g_89, g_90, g_91, g_92, g_93, g_94, g_95, g_96, g_97, g_98, g_99, g_100, g_101, g_102, g_103, g_104, g_105, g_106, g_107, g_108, g_109, g_110, g_111, g_112, g_113, g_114, g_115, g_116, g_117, g_118, g_119, g_120, g_121, g_122, g_123, g_124, g_125, g_126, g_127, g_128, g_129, g_130, g_131, g_132, g_133, g_134, g_135, g_136, g_137, g_138, g_139, g_140, g_141, g_142, g_143, g_144, g_145, g_146, g_147, g_148, g_149, g_150, g_151, g_152, g_153, g_154, g_155, g_156, g_157, g_158, g_159, g_160, g_161, g_162, g_163, g_164, g_165, g_166, g_167, g_168, g_169, g_170, g_171, g_172, g_173, g_174, g_175, g_176, g_177, g_178, g_179, g_180, g_181, g_182, g_183, g_184, g_185, g_186, g_187, g_188, g_189, g_190, g_191, g_192, g_193, g_194, g_195, g_196, g_197, g_198, g_199, g_200, g_201, g_202, g_203, g_204, g_205, g_206, g_207, g_208, g_209, g_210, g_211, g_212, i_v, b_bv, i_lit, b_blit, i_add, i_sub, i_mul, i_div, i_mod, i_tdiv, i_tmod, i_ite, b_ite, b_lt, b_le, b_eq, b_not, b_and, b_or, b_iff, i_sel, a_tab, i_pow2, List.getD_cons_zero, List.getD_cons_succ, decide_eq_true_eq, decide_eq_false_iff_not, Bool.and_eq_true, Bool.or_eq_true, Bool.not_eq_true', Bool.not_eq_false', Bool.and_eq_false_iff, Bool.or_eq_false_iff, Bool.not_not, ite_tt, ite_ff, iff_tt, iff_ff, a_av, a_ite, a_upd] at hc0 ⊢
                        omega
                      ·
                        refine ⟨?_, fun hc11 => ?_⟩
                        ·
                          simp only [g_0, g_1, g_2, g_3, g_4, g_5, g_6, g_7, g_8, g_9, g_10, g_11, g_12, g_13, g_14, g_15, g_16, g_17, g_18, g_19, g_20, g_21, g_22, g_23, g_24, g_25, g_26, g_27, g_28, g_29, g_30, g_31, g_32, g_33, g_34, g_35, g_36, g_37, g_38, g_39, g_40, g_41, g_42, g_43, g_44, g_45, g_46, g_47, g_48, g_49, g_50, g_51, g_52, g_53, g_54, g_55, g_56, g_57, g_58, g_59, g_60, g_61, g_62, g_63, g_64, g_65, g_66, g_67, g_68, g_69, g_70, g_71, g_72, g_73, g_74, g_75, g_76, g_77, g_78, g_79, g_80, g_81, g_82, g_83, g_84, g_85, g_86, g_87, g_88, g_89, g_90, g_91, g_92, g_93, g_94, g_95, g_96, g_97, g_98, g_99, g_100, g_101, g_102, g_103, g_104, g_105, g_106, g_107, g_108, g_109, g_110, g_111, g_112, g_113, g_114, g_115, g_116, g_117, g_118, g_119, g_120, g_121, g_122, g_123, g_124, g_125, g_126, g_127, g_128, g_129, g_130, g_131, g_132, g_133, g_134, g_135, g_136, g_137, g_138, g_139, g_140, g_141, g_142, g_143, g_144, g_145, g_146, g_147, g_148, g_149, g_150, g_151, g_152, g_153, g_154, g_155, g_156, g_157, g_158, g_159, g_160, g_161, g_162, g_163, g_164, g_165, g_166, g_167, g_168, g_169, g_170, g_171, g_172, g_173, g_174, g_175, g_176, g_177, g_178, g_179, g_180, g_181, g_182, g_183, g_184, g_185, g_186, g_187, g_188, g_189, g_190, g_191, g_192, g_193, g_194, g_195, g_196, g_197, g_198, g_199, g_200, g_201, g_202, g_203, g_204, g_205, g_206, g_207, g_208, g_209, g_210, g_211, g_212, i_v, b_bv, i_lit, b_blit, i_add, i_sub, i_mul, i_div, i_mod, i_tdiv, i_tmod, i_ite, b_ite, b_lt, b_le, b_eq, b_not, b_and, b_or, b_iff, i_sel, a_tab, i_pow2, List.getD_cons_zero, List.getD_cons_succ, decide_eq_true_eq, decide_eq_false_iff_not, Bool.and_eq_true, Bool.or_eq_true, Bool.not_eq_true', Bool.not_eq_false', Bool.and_eq_false_iff, Bool.or_eq_false_iff, Bool.not_not, ite_tt, ite_ff, iff_tt, iff_ff, a_av, a_ite, a_upd] at hc0 ⊢
                          omega
                        ·
                          refine ⟨(g_hT0 k), ⟨_, _, _, _, _, _, _, _, _, _, _, _, _, _, _, rfl, hB, ?_⟩, ?_⟩
                          ·
                            simp only [g_Base] at hB
                            obtain ⟨b0, b1, b2, b3, b4, b5, _, _, _, _, _, _, ex0, ex1, _⟩ := hB
                            unfold g_J0
                            refine ⟨?_, rng_at hH (by kernel_rfl), arr_at hH (by kernel_rfl), arr_at hH (by kernel_rfl), arr_at hH (by kernel_rfl), arr_at hH (by kernel_rfl), arr_at hH (by kernel_rfl), arr_at hH (by kernel_rfl), arr_at hH (by kernel_rfl), trivial⟩
                            simp only [g_J0] at hJ
                            obtain ⟨l0, _⟩ := hJ
                            simp only [g_0, g_1, g_2, g_3, g_4, g_5, g_6, g_7, g_8, g_9, g_10, g_11, g_12, g_13, g_14, g_15, g_16, g_17, g_18, g_19, g_20, g_21, g_22, g_23, g_24, g_25, g_26, g_27, g_28, g_29, g_30, g_31, g_32, g_33, g_34, g_35, g_36, g_37, g_38, g_39, g_40, g_41, g_42, g_43, g_44, g_45, g_46, g_47, g_48, g_49, g_50, g_51, g_52, g_53, g_54, g_55, g_56, g_57, g_58, g_59, g_60, g_61, g_62, g_63, g_64, g_65, g_66, g_67, g_68, g_69, g_70, g_71, g_72, g_73, g_74, g_75, g_76, g_77, g_78, g_79, g_80, g_81, g_82, g_83, g_84, g_85, g_86, g_87, g_88, g_89, g_90, g_91, g_92, g_93, g_94, g_95, g_96, g_97, g_98, g_99, g_100, g_101, g_102, g_103, g_104, g_105, g_106, g_107, g_108, g_109, g_110, g_111, g_112, g_113, g_114, g_115, g_116, g_117, g_118, g_119, g_120, g_121, g_122, g_123, g_124, g_125, g_126, g_127, g_128, g_129, g_130, g_131, g_132, g_133, g_134, g_135, g_136, g_137, g_138, g_139, g_140, g_141, g_142, g_143, g_144, g_145, g_146, g_147, g_148, g_149, g_150, g_151, g_152, g_153, g_154, g_155, g_156, g_157, g_158, g_159, g_160, g_161, g_162, g_163, g_164, g_165, g_166, g_167, g_168, g_169, g_170, g_171, g_172, g_173, g_174, g_175, g_176, g_177, g_178, g_179, g_180, g_181, g_182, g_183, g_184, g_185, g_186, g_187, g_188, g_189, g_190, g_191, g_192, g_193, g_194, g_195, g_196, g_197, g_198, g_199, g_200, g_201, g_202, g_203, g_204, g_205, g_206, g_207, g_208, g_209, g_210, g_211, g_212, i_v, b_bv, i_lit, b_blit, i_add, i_sub, i_mul, i_div, i_mod, i_tdiv, i_tmod, i_ite, b_ite, b_lt, b_le, b_eq, b_not, b_and, b_or, b_iff, i_sel, a_tab, i_pow2, List.getD_cons_zero, List.getD_cons_succ, decide_eq_true_eq, decide_eq_false_iff_not, Bool.and_eq_true, Bool.or_eq_true, Bool.not_eq_true', Bool.not_eq_false', Bool.and_eq_false_iff, Bool.or_eq_false_iff, Bool.not_not, ite_tt, ite_ff, iff_tt, iff_ff, a_av, a_ite, a_upd] at hc0 ⊢
                            omega
                          simp only [g_Base] at hB
                          obtain ⟨b0, b1, b2, b3, b4, b5, _, _, _, _, _, _, ex0, ex1, _⟩ := hB
                          simp only [g_J0] at hJ
                          obtain ⟨l0, l1, l2, l3, l4, l5, l6, l7, l8, _⟩ := hJ
                          simp only [g_0, g_1, g_2, g_3, g_4, g_5, g_6, g_7, g_8, g_9, g_10, g_11, g_12, g_13, g_14, g_15, g_16, g_17, g_18, g_19, g_20, g_21, g_22, g_23, g_24, g_25, g_26, g_27, g_28, g_29, g_30, g_31, g_32, g_33, g_34, g_35, g_36, g_37, g_38, g_39, g_40, g_41, g_42, g_43, g_44, g_45, g_46, g_47, g_48, g_49, g_50, g_51, g_52, g_53, g_54, g_55, g_56, g_57, g_58, g_59, g_60, g_61, g_62, g_63, g_64, g_65, g_66, g_67, g_68, g_69, g_70, g_71, g_72, g_73, g_74, g_75, g_76, g_77, g_78, g_79, g_80, g_81, g_82, g_83, g_84, g_85, g_86, g_87, g_88, g_89, g_90, g_91, g_92, g_93, g_94, g_95, g_96, g_97, g_98, g_99, g_100, g_101, g_102, g_103, g_104, g_105, g_106, g_107, g_108, g_109, g_110, g_111, g_112, g_113, g_114, g_115, g_116, g_117, g_118, g_119, g_120, g_121, g_122, g_123, g_124, g_125, g_126, g_127, g_128, g_129, g_130, g_131, g_132, g_133, g_134, g_135, g_136, g_137, g_138, g_139, g_140, g_141, g_142, g_143, g_144, g_145, g_146, g_147, g_148, g_149, g_150, g_151, g_152, g_153, g_154, g_155, g_156, g_157, g_158, g_159, g_160, g_161, g_162, g_163, g_164, g_165, g_166, g_167, g_168, g_169, g_170, g_171, g_172, g_173, g_174, g_175, g_176, g_177, g_178, g_179, g_180, g_181, g_182, g_183, g_184, g_185, g_186, g_187, g_188, g_189, g_190, g_191, g_192, g_193, g_194, g_195, g_196, g_197, g_198, g_199, g_200, g_201, g_202, g_203, g_204, g_205, g_206, g_207, g_208, g_209, g_210, g_211, g_212, i_v, b_bv, i_lit, b_blit, i_add, i_sub, i_mul, i_div, i_mod, i_tdiv, i_tmod, i_ite, b_ite, b_lt, b_le, b_eq, b_not, b_and, b_or, b_iff, i_sel, a_tab, i_pow2, List.getD_cons_zero, List.getD_cons_succ, decide_eq_true_eq, decide_eq_false_iff_not, Bool.and_eq_true, Bool.or_eq_true, Bool.not_eq_true', Bool.not_eq_false', Bool.and_eq_false_iff, Bool.or_eq_false_iff, Bool.not_not, ite_tt, ite_ff, iff_tt, iff_ff, a_av, a_ite, a_upd] at hc0
                          simp only [g_mu, Env.app, setAll, List.map_cons, List.map_nil, List.set, List.getD_cons_zero, List.getD_cons_succ, g_0, g_1, g_2, g_3, g_4, g_5, g_6, g_7, g_8, g_9, g_10, g_11, g_12, g_13, g_14, g_15, g_16, g_17, g_18, g_19, g_20, g_21, g_22, g_23, g_24, g_25, g_26, g_27, g_28, g_29, g_30, g_31, g_32, g_33, g_34, g_35, g_36, g_37, g_38, g_39, g_40, g_41, g_42, g_43, g_44, g_45, g_46, g_47, g_48, g_49, g_50, g_51, g_52, g_53, g_54, g_55, g_56, g_57, g_58, g_59, g_60, g_61, g_62, g_63, g_64, g_65, g_66, g_67, g_68, g_69, g_70, g_71, g_72, g_73, g_74, g_75, g_76, g_77, g_78, g_79, g_80, g_81, g_82, g_83, g_84, g_85, g_86, g_87, g_88, g_89, g_90, g_91, g_92, g_93, g_94, g_95, g_96, g_97, g_98, g_99, g_100, g_101, g_102, g_103, g_104, g_105, g_106, g_107, g_108, g_109, g_110, g_111, g_112, g_113, g_114, g_115, g_116, g_117, g_118, g_119, g_120, g_121, g_122, g_123, g_124, g_125, g_126, g_127, g_128, g_129, g_130, g_131, g_132, g_133, g_134, g_135, g_136, g_137, g_138, g_139, g_140, g_141, g_142, g_143, g_144, g_145, g_146, g_147, g_148, g_149, g_150, g_151, g_152, g_153, g_154, g_155, g_156, g_157, g_158, g_159, g_160, g_161, g_162, g_163, g_164, g_165, g_166, g_167, g_168, g_169, g_170, g_171, g_172, g_173, g_174, g_175, g_176, g_177, g_178, g_179, g_180, g_181, g_182, g_183, g_184, g_185, g_186, g_187, g_188, g_189, g_190, g_191, g_192, g_193, g_194, g_195, g_196, g_197, g_198, g_199, g_200, g_201, g_202, g_203, g_204, g_205, g_206, g_207, g_208, g_209, g_210, g_211, g_212, i_v, b_bv, i_lit, b_blit, i_add, i_sub, i_mul, i_div, i_mod, i_tdiv, i_tmod, i_ite, b_ite, b_lt, b_le, b_eq, b_not, b_and, b_or, b_iff, i_sel, a_tab, i_pow2, List.getD_cons_zero, List.getD_cons_succ, decide_eq_true_eq, decide_eq_false_iff_not, Bool.and_eq_true, Bool.or_eq_true, Bool.not_eq_true', Bool.not_eq_false', Bool.and_eq_false_iff, Bool.or_eq_false_iff, Bool.not_not, ite_tt, ite_ff, iff_tt, iff_ff, a_av, a_ite, a_upd]
                          omega
  ·
    first
      | rfl
      | (exfalso
         simp only [g_Base] at hB
         obtain ⟨b0, b1, b2, b3, b4, b5, _⟩ := hB
         have b6 := b2 0
         simp only [g_0, g_1, g_2, g_3, g_4, g_5, g_6, g_7, g_8, g_9, g_10, g_11, g_12, g_13, g_14, g_15, g_16, g_17, g_18, g_19, g_20, g_21, g_22, g_23, g_24, g_25, g_26, g_27, g_28, g_29, g_30, g_31, g_32, g_33, g_34, g_35, g_36, g_37, g_38, g_39, g_40, g_41, g_42, g_43, g_44, g_45, g_46, g_47, g_48, g_49, g_50, g_51, g_52, g_53, g_54, g_55, g_56, g_57, g_58, g_59, g_60, g_61, g_62, g_63, g_64, g_65, g_66, g_67, g_68, g_69, g_70, g_71, g_72, g_73, g_74, g_75, g_76, g_77, g_78, g_79, g_80, g_81, g_82, g_83, g_84, g_85, g_86, g_87, g_88, g_89, g_90, g_91, g_92, g_93, g_94, g_95, g_96, g_97, g_98, g_99, g_100, g_101, g_102, g_103, g_104, g_105, g_106, g_107, g_108, g_109, g_110, g_111, g_112, g_113, g_114, g_115, g_116, g_117, g_118, g_119, g_120, g_121, g_122, g_123, g_124, g_125, g_126, g_127, g_128, g_129, g_130, g_131, g_132, g_133, g_134, g_135, g_136, g_137, g_138, g_139, g_140, g_141, g_142, g_143, g_144, g_145, g_146, g_147, g_148, g_149, g_150, g_151, g_152, g_153, g_154, g_155, g_156, g_157, g_158, g_159, g_160, g_161, g_162, g_163, g_164, g_165, g_166, g_167, g_168, g_169, g_170, g_171, g_172, g_173, g_174, g_175, g_176, g_177, g_178, g_179, g_180, g_181, g_182, g_183, g_184, g_185, g_186, g_187, g_188, g_189, g_190, g_191, g_192, g_193, g_194, g_195, g_196, g_197, g_198, g_199, g_200, g_201, g_202, g_203, g_204, g_205, g_206, g_207, g_208, g_209, g_210, g_211, g_212, i_v, b_bv, i_lit, b_blit, i_add, i_sub, i_mul, i_div, i_mod, i_tdiv, i_tmod, i_ite, b_ite, b_lt, b_le, b_eq, b_not, b_and, b_or, b_iff, i_sel, a_tab, i_pow2, List.getD_cons_zero, List.getD_cons_succ, decide_eq_true_eq, decide_eq_false_iff_not, Bool.and_eq_true, Bool.or_eq_true, Bool.not_eq_true', Bool.not_eq_false', Bool.and_eq_false_iff, Bool.or_eq_false_iff, Bool.not_not, ite_tt, ite_ff, iff_tt, iff_ff, a_av, a_ite, a_upd, Int.toNat_zero] at hc0
         omega)
theorem g_vcS (k : Int) (x0 : Ext) (x1 : Ext) (nx0 nx1 : Int) (Ax0 Ax1_0 Ax1_1 Ax1_2 : Nat → Int) (hB : (g_Base k) x0 x1 nx0 nx1 Ax0 Ax1_0 Ax1_1 Ax1_2) :
    LT.holds (⟨[nx0, nx1, 0, 0], [], [Ax0, Ax1_0, Ax1_1, Ax1_2, fun _ => 0, fun _ => 0, fun _ => 0, fun _ => 0, fun _ => 0, fun _ => 0, fun _ => 0], [], Iv (fun i j => match i, j with | 0, 0 => x0 | 1, 0 => x1 | _, _ => Ext.none)⟩ : Env) (fun v _ => retTrue (⟨[nx0, nx1, 0, 0], [], [Ax0, Ax1_0, Ax1_1, Ax1_2, fun _ => 0, fun _ => 0, fun _ => 0, fun _ => 0, fun _ => 0, fun _ => 0, fun _ => 0], [], Iv (fun i j => match i, j with | 0, 0 => x0 | 1, 0 => x1 | _, _ => Ext.none)⟩ : Env) v) (fun j' todo ρ' => ((g_hs k)[j']?.map (·.todo)) = some todo ∧ (g_Inv k) x0 x1 j' ρ') (.jump 0 (g_T0 k) ⟨[(3, (.lit 128)), (2, (.lit 0))], [], [(10, (.tab [])), (9, (.tab [])), (8, (.tab [])), (7, (.tab [])), (6, (.tab [])), (5, (.tab [])), (4, (.tab []))]⟩) := by
  simp only [LT.holds, retTrue]
  refine ⟨(g_hT0 k), _, _, _, _, _, _, _, _, _, _, _, _, _, _, _, rfl, hB, ?_⟩
  ·
    simp only [g_0, g_1, g_2, g_3, g_4, g_5, g_6, g_7, g_8, g_9, g_10, g_11, g_12, g_13, g_14, g_15, g_16, g_17, g_18, g_19, g_20, g_21, g_22, g_23, g_24, g_25, g_26, g_27, g_28, g_29, g_30, g_31, g_32, g_33, g_34, g_35, g_36, g_37, g_38, g_39, g_40, g_41, g_42, g_43, g_44, g_45, g_46, g_47, g_48, g_49, g_50, g_51, g_52, g_53, g_54, g_55, g_56, g_57, g_58, g_59, g_60, g_61, g_62, g_63, g_64, g_65, g_66, g_67, g_68, g_69, g_70, g_71, g_72, g_73, g_74, g_75, g_76, g_77, g_78, g_79, g_80, g_81, g_82, g_83, g_84, g_85, g_86, g_87, g_88, g_89, g_90, g_91, g_92, g_93, g_94, g_95, g_96, g_97, g_98, g_99, g_100, g_101, g_102, g_103, g_104, g_105, g_106, g_107, g_108, g_109, g_110, g_111, g_112, g_113, g_114, g_115, g_116, g_117, g_118, g_119, g_120, g_121, g_122, g_123, g_124, g_125, g_126, g_127, g_128, g_129, g_130, g_131, g_132, g_133, g_134, g_135, g_136, g_137, g_138, g_139, g_140, g_141, g_142, g_143, g_144, g_145, g_146, g_147, g_148, g_149, g_150, g_151, g_152, g_153, g_154, g_155, g_156, g_157, g_158, g_159, g_160, g_161, g_162, g_163, g_164, g_165, g_166, g_167, g_168, g_169, g_170, g_171, g_172, g_173, g_174, g_175, g_176, g_177, g_178, g_179, g_180, g_181, g_182, g_183, g_184, g_185, g_186, g_187, g_188, g_189, g_190, g_191, g_192, g_193, g_194, g_195, g_196, g_197, g_198, g_199, g_200, g_201, g_202, g_203, g_204, g_205, g_206, g_207, g_208, g_209, g_210, g_211, g_212, g_J0, i_v, b_bv, i_lit, b_blit, i_add, i_sub, i_mul, i_div, i_mod, i_tdiv, i_tmod, i_ite, b_ite, b_lt, b_le, b_eq, b_not, b_and, b_or, b_iff, i_sel, a_tab, i_pow2, List.getD_cons_zero, List.getD_cons_succ, decide_eq_true_eq, decide_eq_false_iff_not, Bool.and_eq_true, Bool.or_eq_true, Bool.not_eq_true', Bool.not_eq_false', Bool.and_eq_false_iff, Bool.or_eq_false_iff, Bool.not_not, ite_tt, ite_ff, iff_tt, iff_ff, a_av, a_ite, a_upd]
    refine ⟨?_, ?_, ?_, ?_, ?_, ?_, ?_, ?_, ?_, trivial⟩
    all_goals first | omega | (intro j; simp) 
theorem g_calls (k : Int) (hst : startL Try.prog G Gh g_D (g_hs k) [] 3000 0 7 (g_Hy k) (g_Ls k) [] = some (.jump 0 (g_T0 k) ⟨[(3, (.lit 128)), (2, (.lit 0))], [], [(10, (.tab [])), (9, (.tab [])), (8, (.tab [])), (7, (.tab [])), (6, (.tab [])), (5, (.tab [])), (4, (.tab []))]⟩)) (hsg : (segL Try.prog G Gh g_D (g_hs k) [] 3000 0 7 (g_h0 k)).map LT.bare = some (.ite g_0 (.need g_0 (.need g_0 (.need g_0 (.need g_0 (.need g_0 (.need g_0 (.need g_0 (.need g_0 (.need g_16 (.need g_31 (.need g_50 (.jump 0 (g_T0 k) ⟨[(3, g_56), (2, g_57)], [], [(10, g_62), (9, g_66), (8, g_92), (7, g_194), (6, g_203), (5, g_211), (4, g_212)]⟩)))))))))))) (.ret (.s (.bool (.blit true))) []))) (x0 : Ext) (x1 : Ext) (hex0 : ((x0.n : Int)) = k) (hex1 : 0 ≤ ((x1.n : Int)) ∧ ((x1.n : Int)) ≤ 1048575) (w : World) (g0 : XFit x0 w [some .u8]) (g1 : XFit x1 w [some .i64, some .i64, some .u8]) :
    Calls Try.prog 7 #[x0.v, x1.v] w fun r w' => r = .returned (.bool true) ∧ Below w.heap.size w w' := by
  have hx0 : SV.conc (⟨[(x0.n : Int), (x1.n : Int), 0, 0], [], [xArr x0 1 0, xArr x1 3 0, xArr x1 3 1, xArr x1 3 2, fun _ => 0, fun _ => 0, fun _ => 0, fun _ => 0, fun _ => 0, fun _ => 0, fun _ => 0], [], Iv (fun i j => match i, j with | 0, 0 => x0 | 1, 0 => x1 | _, _ => Ext.none)⟩ : Env) Loc.id (.s (.xslc 0 (.lit 0) (.lit 0) (.lit k))) = x0.v := conc_ext g0 rfl hex0.symm
  have hx1 : SV.conc (⟨[(x0.n : Int), (x1.n : Int), 0, 0], [], [xArr x0 1 0, xArr x1 3 0, xArr x1 3 1, xArr x1 3 2, fun _ => 0, fun _ => 0, fun _ => 0, fun _ => 0, fun _ => 0, fun _ => 0, fun _ => 0], [], Iv (fun i j => match i, j with | 0, 0 => x0 | 1, 0 => x1 | _, _ => Ext.none)⟩ : Env) Loc.id (.s (.xslc 1 (.lit 0) (.lit 0) (.v 1))) = x1.v := conc_ext g1 rfl rfl
  have hargs : ((g_Ls k).map (SV.conc (⟨[(x0.n : Int), (x1.n : Int), 0, 0], [], [xArr x0 1 0, xArr x1 3 0, xArr x1 3 1, xArr x1 3 2, fun _ => 0, fun _ => 0, fun _ => 0, fun _ => 0, fun _ => 0, fun _ => 0, fun _ => 0], [], Iv (fun i j => match i, j with | 0, 0 => x0 | 1, 0 => x1 | _, _ => Ext.none)⟩ : Env) Loc.id)).toArray = #[x0.v, x1.v] := by
    refine congrArg List.toArray ?_
    exact (cons_eq hx0 (cons_eq hx1 rfl))
  rw [← hargs]
  have hok : Hyp.ok (g_Hy k) (⟨[(x0.n : Int), (x1.n : Int), 0, 0], [], [xArr x0 1 0, xArr x1 3 0, xArr x1 3 1, xArr x1 3 2, fun _ => 0, fun _ => 0, fun _ => 0, fun _ => 0, fun _ => 0, fun _ => 0, fun _ => 0], [], Iv (fun i j => match i, j with | 0, 0 => x0 | 1, 0 => x1 | _, _ => Ext.none)⟩ : Env) := by
    refine ⟨?_, ?_, ?_, (fun p hp is bs xs => by simp only [g_Hy, List.mem_cons, List.not_mem_nil, or_false] at hp; subst hp; exact sumF_rng _ _), ?_, by simp [g_Hy]⟩
    · intro p hp
      simp only [g_Hy, List.mem_cons, List.not_mem_nil, or_false] at hp
      rcases hp with rfl | rfl
      · exact xi_ok g0 rfl hex0.symm rfl
      · exact (xi_okN (n := .v 1) [.i64, .i64, .u8] [1, 2, 3] g1 (by decide) rfl rfl rfl (fun f a h => by rcases f with _ | _ | _ | f <;> simp only [List.getElem?_cons_zero, List.getElem?_cons_succ, List.getElem?_nil, Option.some.injEq, reduceCtorEq] at h <;> subst h <;> first | exact rfl | exact rfl | exact rfl))
    · intro p hp
      simp only [g_Hy, List.mem_cons, List.not_mem_nil, or_false] at hp
      rcases hp with rfl | rfl | rfl | rfl
      · exact (by have hx := hex0; first | exact ⟨Int.le_of_eq hx.symm, Int.le_of_eq hx⟩ | exact hx)
      · exact (by have hx := hex1; first | exact ⟨Int.le_of_eq hx.symm, Int.le_of_eq hx⟩ | exact hx)
      · exact xlen_rng g0
      · exact xlen_rng g1
    · intro p hp
      simp only [g_Hy, List.mem_cons, List.not_mem_nil, or_false] at hp
      rcases hp with rfl | rfl | rfl | rfl
      · exact xArr_rng g0
      · exact xArr_rngN [.i64, .i64, .u8] g1 0 rfl
      · exact xArr_rngN [.i64, .i64, .u8] g1 1 rfl
      · exact xArr_rngN [.i64, .i64, .u8] g1 2 rfl
    · simp [g_Hy]
  refine law_loops (D := g_D) (hs := (g_hs k)) (ρ := (⟨[(x0.n : Int), (x1.n : Int), 0, 0], [], [xArr x0 1 0, xArr x1 3 0, xArr x1 3 1, xArr x1 3 2, fun _ => 0, fun _ => 0, fun _ => 0, fun _ => 0, fun _ => 0, fun _ => 0, fun _ => 0], [], Iv (fun i j => match i, j with | 0, 0 => x0 | 1, 0 => x1 | _, _ => Ext.none)⟩ : Env)) (G_ok _) (by kernel_rfl) rfl ((g_Inv k) x0 x1 ) g_mu hst rfl ⟨rfl, rfl, rfl⟩ hok (g_vcS k x0 x1 ((x0.n : Int)) ((x1.n : Int)) (xArr x0 1 0) (xArr x1 3 0) (xArr x1 3 1) (xArr x1 3 2) ⟨xlen_rng g0, xlen_rng g1, xArr_rng g0, xArr_rngN [.i64, .i64, .u8] g1 0 rfl, xArr_rngN [.i64, .i64, .u8] g1 1 rfl, xArr_rngN [.i64, .i64, .u8] g1 2 rfl, rfl, rfl, rfl, rfl, rfl, rfl, hex0, hex1, trivial⟩) ?_ w (fun i j => by rcases i with _ | _ | i <;> rcases j with _ | j <;> first | exact Ext.none_ok _ | exact g0.ok | exact g1.ok)
  intro j h ρ hj hI hz hInv
  rcases j with _ | j
  · simp only [g_hs, List.getElem?_cons_zero, List.getElem?_cons_succ, Option.some.injEq] at hj; subst hj
    obtain ⟨nx0, nx1, y2, y3, Ax0, Ax1_0, Ax1_1, Ax1_2, Z4, Z5, Z6, Z7, Z8, Z9, Z10, rfl, hB, hJ⟩ := hInv
    have hok2 : Hyp.ok (g_h0 k).H (⟨[nx0, nx1, y2, y3], [], [Ax0, Ax1_0, Ax1_1, Ax1_2, Z4, Z5, Z6, Z7, Z8, Z9, Z10], [], Iv (fun i j => match i, j with | 0, 0 => x0 | 1, 0 => x1 | _, _ => Ext.none)⟩ : Env) := by
      have hB2 := hB; have hJ2 := hJ
      simp only [g_Base] at hB2; simp only [g_J0] at hJ2
      obtain ⟨hb0, hb1, hb2, hb3, hb4, hb5, hn0, hn1, ha0_0, ha1_0, ha1_1, ha1_2, hex0, hex1, _⟩ := hB2
      obtain ⟨hl0, hl1, hl2, hl3, hl4, hl5, hl6, hl7, hl8, _⟩ := hJ2
      refine ⟨?_, ?_, ?_, (fun p hp is bs xs => by simp only [g_h0, List.mem_cons, List.not_mem_nil, or_false] at hp; subst hp; exact sumF_rng _ _), ?_, by simp [g_h0]⟩
      · intro p hp
        simp only [g_h0, List.mem_cons, List.not_mem_nil, or_false] at hp
        rcases hp with rfl | rfl
        · exact xi_ok g0 rfl (Eq.trans hex0.symm hn0) ha0_0
        · exact (xi_okN (n := .v 1) [.i64, .i64, .u8] [1, 2, 3] g1 (by decide) rfl rfl hn1 (fun f a h => by rcases f with _ | _ | _ | f <;> simp only [List.getElem?_cons_zero, List.getElem?_cons_succ, List.getElem?_nil, Option.some.injEq, reduceCtorEq] at h <;> subst h <;> first | exact ha1_0 | exact ha1_1 | exact ha1_2))
      · intro p hp
        simp only [g_h0, List.mem_cons, List.not_mem_nil, or_false] at hp
        rcases hp with rfl | rfl | rfl | rfl | rfl | rfl
        · exact (by have hx := hex0; first | exact ⟨Int.le_of_eq hx.symm, Int.le_of_eq hx⟩ | exact hx)
        · exact (by have hx := hex1; first | exact ⟨Int.le_of_eq hx.symm, Int.le_of_eq hx⟩ | exact hx)
        · exact hb0
        · exact hb1
        · exact hl0
        · exact hl1
      · intro p hp
        simp only [g_h0, List.mem_cons, List.not_mem_nil, or_false] at hp
        rcases hp with rfl | rfl | rfl | rfl | rfl | rfl | rfl | rfl | rfl | rfl | rfl
        · exact hb2
        · exact hb3
        · exact hb4
        · exact hb5
        · exact hl2
        · exact hl3
        · exact hl4
        · exact hl5
        · exact hl6
        · exact hl7
        · exact hl8
      · simp [g_h0]
    exact ⟨hok2, LT.of_bare hsg (g_vc0 k x0 x1 nx0 nx1 y2 y3 Ax0 Ax1_0 Ax1_1 Ax1_2 Z4 Z5 Z6 Z7 Z8 Z9 Z10 hB hJ hok2)⟩
  · simp [g_hs] at hj
end Go.Proofs.Ytngbibifiadgiaa.TickLoads
