/- A part of the law BlendPlain, which returns true for every input. Without a region and a math bit the colour is that of the layer in front, or what lies behind. No condition. -/
import Derived.Test.YtgbncbclhdnbmaaBlendPlain0
namespace Go.Proofs.Ytgbncbclhdnbmaa.BlendPlain
open Go.Sx Go.ChangeShapes Go.WideShapes Go.ChangeAt Go.RowKit
set_option linter.unusedVariables false
set_option linter.unusedSimpArgs false
set_option maxRecDepth 100000
def e1b_Hy : Hyp := ⟨[(.v 0, (-32768, 32767)), (.v 1, (-32768, 32767)), (.v 2, (0, 65535)), (.v 3, (0, 255)), (.v 4, (0, 255)), (.v 5, (0, 65535)), (.v 6, (0, 255)), (.v 7, (0, 255)), (.v 8, (0, 65535)), (.v 9, (0, 255)), (.v 10, (0, 255)), (.v 11, (0, 65535)), (.v 12, (0, 255)), (.v 13, (0, 255)), (.v 14, (0, 65535)), (.v 15, (0, 255)), (.v 16, (0, 255)), (.v 17, (0, 65535)), (.v 18, (0, 255)), (.v 19, (0, 65535)), ((.mod (.sel (.av 0) (.lit 5)) (.lit 8)), (1, 1)), ((.mod (.div (.sel (.av 0) (.lit 5)) (.lit 8)) (.lit 2)), (1, 1))], [(0, (0, 255)), (1, (0, 65535)), (2, (0, 65535)), (3, (-32768, 32767))], [], [], [], []⟩
def e1b_Ls : List SV := [.agg (pcSegs 0 0 0 Pc0), .agg (pcSegs 4 0 3 Pc1), .s (.int .i64 (.v 18)), .s (.int .u16 (.v 19))]
def e1b_c0 : E := .sel (.av 0) (.lit 44)
def e1b_c1 : E := .div e1b_c0 (.lit 4)
def e1b_c2 : E := .mod e1b_c1 (.lit 2)
def e1b_c3 : E := .eq e1b_c2 (.lit 0)
def e1b_c4 : E := .not (.bv 2)
def e1b_c5 : E := .or e1b_c3 e1b_c4
def e1b_c6 : E := .eq (.v 9) (.lit 1)
def e1b_c7 : E := .not e1b_c6
def e1b_c8 : E := .or e1b_c5 e1b_c7
def e1b_c9 : E := .sel (.av 0) (.lit 36)
def e1b_c10 : E := .div e1b_c9 (.lit 8)
def e1b_c11 : E := .mod e1b_c10 (.lit 2)
def e1b_c12 : E := .mul e1b_c11 (.lit 8)
def e1b_c13 : E := .div e1b_c9 (.lit 2)
def e1b_c14 : E := .mod e1b_c13 (.lit 2)
def e1b_c15 : E := .mul e1b_c14 (.lit 2)
def e1b_c16 : E := .add e1b_c12 e1b_c15
def e1b_c17 : E := .eq e1b_c16 (.lit 2)
def e1b_c18 : E := .sel (.av 0) (.lit 39)
def e1b_c19 : E := .le (.v 18) e1b_c18
def e1b_c20 : E := .sel (.av 0) (.lit 38)
def e1b_c21 : E := .le e1b_c20 (.v 18)
def e1b_c22 : E := .and e1b_c19 e1b_c21
def e1b_c23 : E := .mod e1b_c9 (.lit 2)
def e1b_c24 : E := .eq e1b_c23 (.lit 0)
def e1b_c25 : E := .not e1b_c24
def e1b_c26 : E := .iff e1b_c22 e1b_c25
def e1b_c27 : E := .not e1b_c26
def e1b_c28 : E := .eq e1b_c16 (.lit 8)
def e1b_c29 : E := .sel (.av 0) (.lit 41)
def e1b_c30 : E := .le (.v 18) e1b_c29
def e1b_c31 : E := .sel (.av 0) (.lit 40)
def e1b_c32 : E := .le e1b_c31 (.v 18)
def e1b_c33 : E := .and e1b_c30 e1b_c32
def e1b_c34 : E := .div e1b_c9 (.lit 4)
def e1b_c35 : E := .mod e1b_c34 (.lit 2)
def e1b_c36 : E := .eq e1b_c35 (.lit 0)
def e1b_c37 : E := .not e1b_c36
def e1b_c38 : E := .iff e1b_c33 e1b_c37
def e1b_c39 : E := .not e1b_c38
def e1b_c40 : E := .sel (.av 0) (.lit 42)
def e1b_c41 : E := .div e1b_c40 (.lit 16)
def e1b_c42 : E := .mod e1b_c41 (.lit 4)
def e1b_c43 : E := .eq e1b_c42 (.lit 0)
def e1b_c44 : E := .or e1b_c27 e1b_c39
def e1b_c45 : E := .eq e1b_c42 (.lit 1)
def e1b_c46 : E := .and e1b_c27 e1b_c39
def e1b_c47 : E := .eq e1b_c42 (.lit 2)
def e1b_c48 : E := .iff e1b_c27 e1b_c39
def e1b_c49 : E := .not e1b_c48
def e1b_c50 : E := .ite e1b_c47 e1b_c49 e1b_c48
def e1b_c51 : E := .ite e1b_c45 e1b_c46 e1b_c50
def e1b_c52 : E := .ite e1b_c43 e1b_c44 e1b_c51
def e1b_c53 : E := .ite e1b_c28 e1b_c39 e1b_c52
def e1b_c54 : E := .ite e1b_c17 e1b_c27 e1b_c53
def e1b_c55 : E := .eq e1b_c16 (.lit 0)
def e1b_c56 : E := .not e1b_c55
def e1b_c57 : E := .and e1b_c54 e1b_c56
def e1b_c58 : E := .sel (.av 0) (.lit 46)
def e1b_c59 : E := .div e1b_c58 (.lit 4)
def e1b_c60 : E := .mod e1b_c59 (.lit 2)
def e1b_c61 : E := .eq e1b_c60 (.lit 0)
def e1b_c62 : E := .not e1b_c61
def e1b_c63 : E := .and e1b_c57 e1b_c62
def e1b_c64 : E := .or e1b_c8 e1b_c63
def e1b_c65 : E := .div e1b_c0 (.lit 16)
def e1b_c66 : E := .mod e1b_c65 (.lit 2)
def e1b_c67 : E := .eq e1b_c66 (.lit 0)
def e1b_c68 : E := .not (.bv 4)
def e1b_c69 : E := .or e1b_c67 e1b_c68
def e1b_c70 : E := .eq (.v 15) (.lit 3)
def e1b_c71 : E := .not e1b_c70
def e1b_c72 : E := .or e1b_c69 e1b_c71
def e1b_c73 : E := .sel (.av 0) (.lit 37)
def e1b_c74 : E := .div e1b_c73 (.lit 8)
def e1b_c75 : E := .mod e1b_c74 (.lit 2)
def e1b_c76 : E := .mul e1b_c75 (.lit 8)
def e1b_c77 : E := .div e1b_c73 (.lit 2)
def e1b_c78 : E := .mod e1b_c77 (.lit 2)
def e1b_c79 : E := .mul e1b_c78 (.lit 2)
def e1b_c80 : E := .add e1b_c76 e1b_c79
def e1b_c81 : E := .eq e1b_c80 (.lit 2)
def e1b_c82 : E := .mod e1b_c73 (.lit 2)
def e1b_c83 : E := .eq e1b_c82 (.lit 0)
def e1b_c84 : E := .not e1b_c83
def e1b_c85 : E := .iff e1b_c22 e1b_c84
def e1b_c86 : E := .not e1b_c85
def e1b_c87 : E := .eq e1b_c80 (.lit 8)
def e1b_c88 : E := .div e1b_c73 (.lit 4)
def e1b_c89 : E := .mod e1b_c88 (.lit 2)
def e1b_c90 : E := .eq e1b_c89 (.lit 0)
def e1b_c91 : E := .not e1b_c90
def e1b_c92 : E := .iff e1b_c33 e1b_c91
def e1b_c93 : E := .not e1b_c92
def e1b_c94 : E := .sel (.av 0) (.lit 43)
def e1b_c95 : E := .mod e1b_c94 (.lit 4)
def e1b_c96 : E := .eq e1b_c95 (.lit 0)
def e1b_c97 : E := .or e1b_c86 e1b_c93
def e1b_c98 : E := .eq e1b_c95 (.lit 1)
def e1b_c99 : E := .and e1b_c86 e1b_c93
def e1b_c100 : E := .eq e1b_c95 (.lit 2)
def e1b_c101 : E := .iff e1b_c86 e1b_c93
def e1b_c102 : E := .not e1b_c101
def e1b_c103 : E := .ite e1b_c100 e1b_c102 e1b_c101
def e1b_c104 : E := .ite e1b_c98 e1b_c99 e1b_c103
def e1b_c105 : E := .ite e1b_c96 e1b_c97 e1b_c104
def e1b_c106 : E := .ite e1b_c87 e1b_c93 e1b_c105
def e1b_c107 : E := .ite e1b_c81 e1b_c86 e1b_c106
def e1b_c108 : E := .eq e1b_c80 (.lit 0)
def e1b_c109 : E := .not e1b_c108
def e1b_c110 : E := .and e1b_c107 e1b_c109
def e1b_c111 : E := .div e1b_c58 (.lit 16)
def e1b_c112 : E := .mod e1b_c111 (.lit 2)
def e1b_c113 : E := .eq e1b_c112 (.lit 0)
def e1b_c114 : E := .not e1b_c113
def e1b_c115 : E := .and e1b_c110 e1b_c114
def e1b_c116 : E := .or e1b_c72 e1b_c115
def e1b_c117 : E := .mod e1b_c0 (.lit 2)
def e1b_c118 : E := .eq e1b_c117 (.lit 0)
def e1b_c119 : E := .not (.bv 0)
def e1b_c120 : E := .or e1b_c118 e1b_c119
def e1b_c121 : E := .eq (.v 3) (.lit 1)
def e1b_c122 : E := .not e1b_c121
def e1b_c123 : E := .or e1b_c120 e1b_c122
def e1b_c124 : E := .sel (.av 0) (.lit 35)
def e1b_c125 : E := .div e1b_c124 (.lit 8)
def e1b_c126 : E := .mod e1b_c125 (.lit 2)
def e1b_c127 : E := .mul e1b_c126 (.lit 8)
def e1b_c128 : E := .div e1b_c124 (.lit 2)
def e1b_c129 : E := .mod e1b_c128 (.lit 2)
def e1b_c130 : E := .mul e1b_c129 (.lit 2)
def e1b_c131 : E := .add e1b_c127 e1b_c130
def e1b_c132 : E := .eq e1b_c131 (.lit 2)
def e1b_c133 : E := .mod e1b_c124 (.lit 2)
def e1b_c134 : E := .eq e1b_c133 (.lit 0)
def e1b_c135 : E := .not e1b_c134
def e1b_c136 : E := .iff e1b_c22 e1b_c135
def e1b_c137 : E := .not e1b_c136
def e1b_c138 : E := .eq e1b_c131 (.lit 8)
def e1b_c139 : E := .div e1b_c124 (.lit 4)
def e1b_c140 : E := .mod e1b_c139 (.lit 2)
def e1b_c141 : E := .eq e1b_c140 (.lit 0)
def e1b_c142 : E := .not e1b_c141
def e1b_c143 : E := .iff e1b_c33 e1b_c142
def e1b_c144 : E := .not e1b_c143
def e1b_c145 : E := .mod e1b_c40 (.lit 4)
def e1b_c146 : E := .eq e1b_c145 (.lit 0)
def e1b_c147 : E := .or e1b_c137 e1b_c144
def e1b_c148 : E := .eq e1b_c145 (.lit 1)
def e1b_c149 : E := .and e1b_c137 e1b_c144
def e1b_c150 : E := .eq e1b_c145 (.lit 2)
def e1b_c151 : E := .iff e1b_c137 e1b_c144
def e1b_c152 : E := .not e1b_c151
def e1b_c153 : E := .ite e1b_c150 e1b_c152 e1b_c151
def e1b_c154 : E := .ite e1b_c148 e1b_c149 e1b_c153
def e1b_c155 : E := .ite e1b_c146 e1b_c147 e1b_c154
def e1b_c156 : E := .ite e1b_c138 e1b_c144 e1b_c155
def e1b_c157 : E := .ite e1b_c132 e1b_c137 e1b_c156
def e1b_c158 : E := .eq e1b_c131 (.lit 0)
def e1b_c159 : E := .not e1b_c158
def e1b_c160 : E := .and e1b_c157 e1b_c159
def e1b_c161 : E := .mod e1b_c58 (.lit 2)
def e1b_c162 : E := .eq e1b_c161 (.lit 0)
def e1b_c163 : E := .not e1b_c162
def e1b_c164 : E := .and e1b_c160 e1b_c163
def e1b_c165 : E := .or e1b_c123 e1b_c164
def e1b_c166 : E := .div e1b_c0 (.lit 2)
def e1b_c167 : E := .mod e1b_c166 (.lit 2)
def e1b_c168 : E := .eq e1b_c167 (.lit 0)
def e1b_c169 : E := .not (.bv 1)
def e1b_c170 : E := .or e1b_c168 e1b_c169
def e1b_c171 : E := .eq (.v 6) (.lit 1)
def e1b_c172 : E := .not e1b_c171
def e1b_c173 : E := .or e1b_c170 e1b_c172
def e1b_c174 : E := .div e1b_c124 (.lit 128)
def e1b_c175 : E := .mul e1b_c174 (.lit 8)
def e1b_c176 : E := .div e1b_c124 (.lit 32)
def e1b_c177 : E := .mod e1b_c176 (.lit 2)
def e1b_c178 : E := .mul e1b_c177 (.lit 2)
def e1b_c179 : E := .add e1b_c175 e1b_c178
def e1b_c180 : E := .eq e1b_c179 (.lit 2)
def e1b_c181 : E := .div e1b_c124 (.lit 16)
def e1b_c182 : E := .mod e1b_c181 (.lit 2)
def e1b_c183 : E := .eq e1b_c182 (.lit 0)
def e1b_c184 : E := .not e1b_c183
def e1b_c185 : E := .iff e1b_c22 e1b_c184
def e1b_c186 : E := .not e1b_c185
def e1b_c187 : E := .eq e1b_c179 (.lit 8)
def e1b_c188 : E := .div e1b_c124 (.lit 64)
def e1b_c189 : E := .mod e1b_c188 (.lit 2)
def e1b_c190 : E := .eq e1b_c189 (.lit 0)
def e1b_c191 : E := .not e1b_c190
def e1b_c192 : E := .iff e1b_c33 e1b_c191
def e1b_c193 : E := .not e1b_c192
def e1b_c194 : E := .div e1b_c40 (.lit 4)
def e1b_c195 : E := .mod e1b_c194 (.lit 4)
def e1b_c196 : E := .eq e1b_c195 (.lit 0)
def e1b_c197 : E := .or e1b_c186 e1b_c193
def e1b_c198 : E := .eq e1b_c195 (.lit 1)
def e1b_c199 : E := .and e1b_c186 e1b_c193
def e1b_c200 : E := .eq e1b_c195 (.lit 2)
def e1b_c201 : E := .iff e1b_c186 e1b_c193
def e1b_c202 : E := .not e1b_c201
def e1b_c203 : E := .ite e1b_c200 e1b_c202 e1b_c201
def e1b_c204 : E := .ite e1b_c198 e1b_c199 e1b_c203
def e1b_c205 : E := .ite e1b_c196 e1b_c197 e1b_c204
def e1b_c206 : E := .ite e1b_c187 e1b_c193 e1b_c205
def e1b_c207 : E := .ite e1b_c180 e1b_c186 e1b_c206
def e1b_c208 : E := .eq e1b_c179 (.lit 0)
def e1b_c209 : E := .not e1b_c208
def e1b_c210 : E := .and e1b_c207 e1b_c209
def e1b_c211 : E := .div e1b_c58 (.lit 2)
def e1b_c212 : E := .mod e1b_c211 (.lit 2)
def e1b_c213 : E := .eq e1b_c212 (.lit 0)
def e1b_c214 : E := .not e1b_c213
def e1b_c215 : E := .and e1b_c210 e1b_c214
def e1b_c216 : E := .or e1b_c173 e1b_c215
def e1b_c217 : E := .eq (.v 15) (.lit 2)
def e1b_c218 : E := .not e1b_c217
def e1b_c219 : E := .or e1b_c69 e1b_c218
def e1b_c220 : E := .or e1b_c219 e1b_c115
def e1b_c221 : E := .eq (.v 3) (.lit 0)
def e1b_c222 : E := .not e1b_c221
def e1b_c223 : E := .or e1b_c120 e1b_c222
def e1b_c224 : E := .or e1b_c223 e1b_c164
def e1b_c225 : E := .eq (.v 6) (.lit 0)
def e1b_c226 : E := .not e1b_c225
def e1b_c227 : E := .or e1b_c170 e1b_c226
def e1b_c228 : E := .or e1b_c227 e1b_c215
def e1b_c229 : E := .eq (.v 15) (.lit 1)
def e1b_c230 : E := .not e1b_c229
def e1b_c231 : E := .or e1b_c69 e1b_c230
def e1b_c232 : E := .or e1b_c231 e1b_c115
def e1b_c233 : E := .eq (.v 15) (.lit 0)
def e1b_c234 : E := .not e1b_c233
def e1b_c235 : E := .or e1b_c69 e1b_c234
def e1b_c236 : E := .or e1b_c235 e1b_c115
def e1b_c237 : E := .eq (.v 9) (.lit 0)
def e1b_c238 : E := .not e1b_c237
def e1b_c239 : E := .or e1b_c5 e1b_c238
def e1b_c240 : E := .or e1b_c239 e1b_c63
def e1b_p0Hy : Hyp := (addF true e1b_c240 (addF true e1b_c236 (addF true e1b_c232 (addF true e1b_c228 (addF true e1b_c224 (addF true e1b_c220 (addF true e1b_c216 (addF true e1b_c165 (addF true e1b_c116 (addF true e1b_c64 e1b_Hy))))))))))
theorem e1b_p0run : enter Try.prog G Gh 6000 40 8 e1b_p0Hy e1b_Ls [] = some ([], .s (.bool (.blit true)), none) := by kernel_rfl
def e1b_p1Hy : Hyp := (addF false e1b_c240 (addF true e1b_c236 (addF true e1b_c232 (addF true e1b_c228 (addF true e1b_c224 (addF true e1b_c220 (addF true e1b_c216 (addF true e1b_c165 (addF true e1b_c116 (addF true e1b_c64 e1b_Hy))))))))))
theorem e1b_p1run : enter Try.prog G Gh 6000 40 8 e1b_p1Hy e1b_Ls [] = some ([], .s (.bool (.blit true)), none) := by kernel_rfl
def e1b_p2Hy : Hyp := (addF false e1b_c236 (addF true e1b_c232 (addF true e1b_c228 (addF true e1b_c224 (addF true e1b_c220 (addF true e1b_c216 (addF true e1b_c165 (addF true e1b_c116 (addF true e1b_c64 e1b_Hy)))))))))
theorem e1b_p2run : enter Try.prog G Gh 6000 40 8 e1b_p2Hy e1b_Ls [] = some ([], .s (.bool (.blit true)), none) := by kernel_rfl
def e1b_p3Hy : Hyp := (addF false e1b_c232 (addF true e1b_c228 (addF true e1b_c224 (addF true e1b_c220 (addF true e1b_c216 (addF true e1b_c165 (addF true e1b_c116 (addF true e1b_c64 e1b_Hy))))))))
theorem e1b_p3run : enter Try.prog G Gh 6000 40 8 e1b_p3Hy e1b_Ls [] = some ([], .s (.bool (.blit true)), none) := by kernel_rfl
def e1b_p4Hy : Hyp := (addF false e1b_c228 (addF true e1b_c224 (addF true e1b_c220 (addF true e1b_c216 (addF true e1b_c165 (addF true e1b_c116 (addF true e1b_c64 e1b_Hy)))))))
theorem e1b_p4run : enter Try.prog G Gh 6000 40 8 e1b_p4Hy e1b_Ls [] = some ([], .s (.bool (.blit true)), none) := by kernel_rfl
def e1b_p5Hy : Hyp := (addF false e1b_c224 (addF true e1b_c220 (addF true e1b_c216 (addF true e1b_c165 (addF true e1b_c116 (addF true e1b_c64 e1b_Hy))))))
theorem e1b_p5run : enter Try.prog G Gh 6000 40 8 e1b_p5Hy e1b_Ls [] = some ([], .s (.bool (.blit true)), none) := by kernel_rfl
def e1b_p6Hy : Hyp := (addF false e1b_c220 (addF true e1b_c216 (addF true e1b_c165 (addF true e1b_c116 (addF true e1b_c64 e1b_Hy)))))
theorem e1b_p6run : enter Try.prog G Gh 6000 40 8 e1b_p6Hy e1b_Ls [] = some ([], .s (.bool (.blit true)), none) := by kernel_rfl
def e1b_p7Hy : Hyp := (addF false e1b_c216 (addF true e1b_c165 (addF true e1b_c116 (addF true e1b_c64 e1b_Hy))))
theorem e1b_p7run : enter Try.prog G Gh 6000 40 8 e1b_p7Hy e1b_Ls [] = some ([], .s (.bool (.blit true)), none) := by kernel_rfl
def e1b_p8Hy : Hyp := (addF false e1b_c165 (addF true e1b_c116 (addF true e1b_c64 e1b_Hy)))
theorem e1b_p8run : enter Try.prog G Gh 6000 40 8 e1b_p8Hy e1b_Ls [] = some ([], .s (.bool (.blit true)), none) := by kernel_rfl
def e1b_p9Hy : Hyp := (addF false e1b_c116 (addF true e1b_c64 e1b_Hy))
theorem e1b_p9run : enter Try.prog G Gh 6000 40 8 e1b_p9Hy e1b_Ls [] = some ([], .s (.bool (.blit true)), none) := by kernel_rfl
def e1b_p10Hy : Hyp := (addF false e1b_c64 e1b_Hy)
theorem e1b_p10run : enter Try.prog G Gh 6000 40 8 e1b_p10Hy e1b_Ls [] = some ([], .s (.bool (.blit true)), none) := by kernel_rfl
theorem e1b_calls (c0 : List Value) (l0 : c0.length = pcTotal Pc0) (f0 : PcFit c0 0 Pc0) (c1 : List Value) (l1 : c1.length = pcTotal Pc1) (f1 : PcFit c1 0 Pc1) (a2 : Int) (w2 : 0 ≤ a2 ∧ a2 ≤ 255) (a3 : Int) (w3 : (Lit.int .u16 a3).wf = true) (hex0 : (arrOf c0 0 64) 5 % 8 = 1) (hex1 : (arrOf c0 0 64) 5 / 8 % 2 = 1) (w : World) :
    Calls Try.prog 8 #[.agg c0.toArray, .agg c1.toArray, .int .i64 a2, .int .u16 a3] w fun r w' => r = .returned (.bool true) ∧ Below w.heap.size w w' := by
  have hc0 : cellsOf (⟨[intV (c0.getD 78 Go.undef), intV (c0.getD 79 Go.undef), intV (c0.getD 80 Go.undef), intV (c1.getD 1 Go.undef), intV (c1.getD 2 Go.undef), intV (c1.getD 3 Go.undef), intV (c1.getD 5 Go.undef), intV (c1.getD 6 Go.undef), intV (c1.getD 7 Go.undef), intV (c1.getD 9 Go.undef), intV (c1.getD 10 Go.undef), intV (c1.getD 11 Go.undef), intV (c1.getD 13 Go.undef), intV (c1.getD 14 Go.undef), intV (c1.getD 15 Go.undef), intV (c1.getD 17 Go.undef), intV (c1.getD 18 Go.undef), intV (c1.getD 19 Go.undef), a2, a3], [boolV (c1.getD 0 Go.undef), boolV (c1.getD 4 Go.undef), boolV (c1.getD 8 Go.undef), boolV (c1.getD 12 Go.undef), boolV (c1.getD 16 Go.undef)], [arrOf c0 0 64, arrOf c0 64 4, arrOf c0 68 4, arrOf c0 72 6], [], Iv (fun _ _ => Ext.none)⟩ : Env) Loc.id (pcSegs 0 0 0 Pc0) = c0 := by
    rw [pc_cells Pc0 0 0 0 0 f0 (by intro j hj; rcases j with _ | _ | _ | _ | j <;> first | rfl | (simp [Pc0, pcA, pcB, pcI] at hj; omega)) (by intro j hj; simp [Pc0, pcA, pcB, pcI] at hj) (by intro j hj; rcases j with _ | _ | _ | j <;> first | rfl | (simp [Pc0, pcA, pcB, pcI] at hj; omega)), List.drop_zero, ← l0, List.take_length]
  have hc1 : cellsOf (⟨[intV (c0.getD 78 Go.undef), intV (c0.getD 79 Go.undef), intV (c0.getD 80 Go.undef), intV (c1.getD 1 Go.undef), intV (c1.getD 2 Go.undef), intV (c1.getD 3 Go.undef), intV (c1.getD 5 Go.undef), intV (c1.getD 6 Go.undef), intV (c1.getD 7 Go.undef), intV (c1.getD 9 Go.undef), intV (c1.getD 10 Go.undef), intV (c1.getD 11 Go.undef), intV (c1.getD 13 Go.undef), intV (c1.getD 14 Go.undef), intV (c1.getD 15 Go.undef), intV (c1.getD 17 Go.undef), intV (c1.getD 18 Go.undef), intV (c1.getD 19 Go.undef), a2, a3], [boolV (c1.getD 0 Go.undef), boolV (c1.getD 4 Go.undef), boolV (c1.getD 8 Go.undef), boolV (c1.getD 12 Go.undef), boolV (c1.getD 16 Go.undef)], [arrOf c0 0 64, arrOf c0 64 4, arrOf c0 68 4, arrOf c0 72 6], [], Iv (fun _ _ => Ext.none)⟩ : Env) Loc.id (pcSegs 4 0 3 Pc1) = c1 := by
    rw [pc_cells Pc1 0 4 0 3 f1 (by intro j hj; simp [Pc1, pcA, pcB, pcI] at hj) (by intro j hj; rcases j with _ | _ | _ | _ | _ | j <;> first | rfl | (simp [Pc1, pcA, pcB, pcI] at hj; omega)) (by intro j hj; rcases j with _ | _ | _ | _ | _ | _ | _ | _ | _ | _ | _ | _ | _ | _ | _ | j <;> first | rfl | (simp [Pc1, pcA, pcB, pcI] at hj; omega)), List.drop_zero, ← l1, List.take_length]
  have hargs : (e1b_Ls.map (SV.conc (⟨[intV (c0.getD 78 Go.undef), intV (c0.getD 79 Go.undef), intV (c0.getD 80 Go.undef), intV (c1.getD 1 Go.undef), intV (c1.getD 2 Go.undef), intV (c1.getD 3 Go.undef), intV (c1.getD 5 Go.undef), intV (c1.getD 6 Go.undef), intV (c1.getD 7 Go.undef), intV (c1.getD 9 Go.undef), intV (c1.getD 10 Go.undef), intV (c1.getD 11 Go.undef), intV (c1.getD 13 Go.undef), intV (c1.getD 14 Go.undef), intV (c1.getD 15 Go.undef), intV (c1.getD 17 Go.undef), intV (c1.getD 18 Go.undef), intV (c1.getD 19 Go.undef), a2, a3], [boolV (c1.getD 0 Go.undef), boolV (c1.getD 4 Go.undef), boolV (c1.getD 8 Go.undef), boolV (c1.getD 12 Go.undef), boolV (c1.getD 16 Go.undef)], [arrOf c0 0 64, arrOf c0 64 4, arrOf c0 68 4, arrOf c0 72 6], [], Iv (fun _ _ => Ext.none)⟩ : Env) Loc.id)).toArray = #[.agg c0.toArray, .agg c1.toArray, .int .i64 a2, .int .u16 a3] := by
    refine congrArg List.toArray ?_
    exact (cons_eq (congrArg (fun l => Value.agg (List.toArray l)) hc0) (cons_eq (congrArg (fun l => Value.agg (List.toArray l)) hc1) (cons_eq rfl (cons_eq rfl rfl))))
  rw [← hargs]
  have hok : Hyp.ok e1b_Hy (⟨[intV (c0.getD 78 Go.undef), intV (c0.getD 79 Go.undef), intV (c0.getD 80 Go.undef), intV (c1.getD 1 Go.undef), intV (c1.getD 2 Go.undef), intV (c1.getD 3 Go.undef), intV (c1.getD 5 Go.undef), intV (c1.getD 6 Go.undef), intV (c1.getD 7 Go.undef), intV (c1.getD 9 Go.undef), intV (c1.getD 10 Go.undef), intV (c1.getD 11 Go.undef), intV (c1.getD 13 Go.undef), intV (c1.getD 14 Go.undef), intV (c1.getD 15 Go.undef), intV (c1.getD 17 Go.undef), intV (c1.getD 18 Go.undef), intV (c1.getD 19 Go.undef), a2, a3], [boolV (c1.getD 0 Go.undef), boolV (c1.getD 4 Go.undef), boolV (c1.getD 8 Go.undef), boolV (c1.getD 12 Go.undef), boolV (c1.getD 16 Go.undef)], [arrOf c0 0 64, arrOf c0 64 4, arrOf c0 68 4, arrOf c0 72 6], [], Iv (fun _ _ => Ext.none)⟩ : Env) := by
    refine ⟨?_, ?_, ?_, by simp [e1b_Hy], ?_, by simp [e1b_Hy]⟩
    · simp [e1b_Hy]
    · intro p hp
      simp only [e1b_Hy, List.mem_cons, List.not_mem_nil, or_false] at hp
      rcases hp with rfl | rfl | rfl | rfl | rfl | rfl | rfl | rfl | rfl | rfl | rfl | rfl | rfl | rfl | rfl | rfl | rfl | rfl | rfl | rfl | rfl | rfl
      · exact num_rng (f0.tail.tail.tail.tail)
      · exact num_rng (f0.tail.tail.tail.tail.tail)
      · exact num_rng (f0.tail.tail.tail.tail.tail.tail)
      · exact num_rng (f1.tail)
      · exact num_rng (f1.tail.tail)
      · exact num_rng (f1.tail.tail.tail)
      · exact num_rng (f1.tail.tail.tail.tail.tail)
      · exact num_rng (f1.tail.tail.tail.tail.tail.tail)
      · exact num_rng (f1.tail.tail.tail.tail.tail.tail.tail)
      · exact num_rng (f1.tail.tail.tail.tail.tail.tail.tail.tail.tail)
      · exact num_rng (f1.tail.tail.tail.tail.tail.tail.tail.tail.tail.tail)
      · exact num_rng (f1.tail.tail.tail.tail.tail.tail.tail.tail.tail.tail.tail)
      · exact num_rng (f1.tail.tail.tail.tail.tail.tail.tail.tail.tail.tail.tail.tail.tail)
      · exact num_rng (f1.tail.tail.tail.tail.tail.tail.tail.tail.tail.tail.tail.tail.tail.tail)
      · exact num_rng (f1.tail.tail.tail.tail.tail.tail.tail.tail.tail.tail.tail.tail.tail.tail.tail)
      · exact num_rng (f1.tail.tail.tail.tail.tail.tail.tail.tail.tail.tail.tail.tail.tail.tail.tail.tail.tail)
      · exact num_rng (f1.tail.tail.tail.tail.tail.tail.tail.tail.tail.tail.tail.tail.tail.tail.tail.tail.tail.tail)
      · exact num_rng (f1.tail.tail.tail.tail.tail.tail.tail.tail.tail.tail.tail.tail.tail.tail.tail.tail.tail.tail.tail)
      · exact w2
      · exact bounds_u16 w3
      · exact (by have hx := hex0; first | exact ⟨Int.le_of_eq hx.symm, Int.le_of_eq hx⟩ | exact hx)
      · exact (by have hx := hex1; first | exact ⟨Int.le_of_eq hx.symm, Int.le_of_eq hx⟩ | exact hx)
    · intro p hp
      simp only [e1b_Hy, List.mem_cons, List.not_mem_nil, or_false] at hp
      rcases hp with rfl | rfl | rfl | rfl
      · exact arrOf_rng (f0)
      · exact arrOf_rng (f0.tail)
      · exact arrOf_rng (f0.tail.tail)
      · exact arrOf_rng (f0.tail.tail.tail)
    · simp [e1b_Hy]
  cases h0 : E.b (⟨[intV (c0.getD 78 Go.undef), intV (c0.getD 79 Go.undef), intV (c0.getD 80 Go.undef), intV (c1.getD 1 Go.undef), intV (c1.getD 2 Go.undef), intV (c1.getD 3 Go.undef), intV (c1.getD 5 Go.undef), intV (c1.getD 6 Go.undef), intV (c1.getD 7 Go.undef), intV (c1.getD 9 Go.undef), intV (c1.getD 10 Go.undef), intV (c1.getD 11 Go.undef), intV (c1.getD 13 Go.undef), intV (c1.getD 14 Go.undef), intV (c1.getD 15 Go.undef), intV (c1.getD 17 Go.undef), intV (c1.getD 18 Go.undef), intV (c1.getD 19 Go.undef), a2, a3], [boolV (c1.getD 0 Go.undef), boolV (c1.getD 4 Go.undef), boolV (c1.getD 8 Go.undef), boolV (c1.getD 12 Go.undef), boolV (c1.getD 16 Go.undef)], [arrOf c0 0 64, arrOf c0 64 4, arrOf c0 68 4, arrOf c0 72 6], [], Iv (fun _ _ => Ext.none)⟩ : Env) e1b_c64 with
  | false =>
    exact law_true (ρ := (⟨[intV (c0.getD 78 Go.undef), intV (c0.getD 79 Go.undef), intV (c0.getD 80 Go.undef), intV (c1.getD 1 Go.undef), intV (c1.getD 2 Go.undef), intV (c1.getD 3 Go.undef), intV (c1.getD 5 Go.undef), intV (c1.getD 6 Go.undef), intV (c1.getD 7 Go.undef), intV (c1.getD 9 Go.undef), intV (c1.getD 10 Go.undef), intV (c1.getD 11 Go.undef), intV (c1.getD 13 Go.undef), intV (c1.getD 14 Go.undef), intV (c1.getD 15 Go.undef), intV (c1.getD 17 Go.undef), intV (c1.getD 18 Go.undef), intV (c1.getD 19 Go.undef), a2, a3], [boolV (c1.getD 0 Go.undef), boolV (c1.getD 4 Go.undef), boolV (c1.getD 8 Go.undef), boolV (c1.getD 12 Go.undef), boolV (c1.getD 16 Go.undef)], [arrOf c0 0 64, arrOf c0 64 4, arrOf c0 68 4, arrOf c0 72 6], [], Iv (fun _ _ => Ext.none)⟩ : Env)) (G_ok _) (by kernel_rfl) e1b_p10run rfl (addF_ok _ _ _ hok h0) (by intro e he; cases he) rfl w (fun i j => Ext.none_ok _)
  | true =>
    cases h1 : E.b (⟨[intV (c0.getD 78 Go.undef), intV (c0.getD 79 Go.undef), intV (c0.getD 80 Go.undef), intV (c1.getD 1 Go.undef), intV (c1.getD 2 Go.undef), intV (c1.getD 3 Go.undef), intV (c1.getD 5 Go.undef), intV (c1.getD 6 Go.undef), intV (c1.getD 7 Go.undef), intV (c1.getD 9 Go.undef), intV (c1.getD 10 Go.undef), intV (c1.getD 11 Go.undef), intV (c1.getD 13 Go.undef), intV (c1.getD 14 Go.undef), intV (c1.getD 15 Go.undef), intV (c1.getD 17 Go.undef), intV (c1.getD 18 Go.undef), intV (c1.getD 19 Go.undef), a2, a3], [boolV (c1.getD 0 Go.undef), boolV (c1.getD 4 Go.undef), boolV (c1.getD 8 Go.undef), boolV (c1.getD 12 Go.undef), boolV (c1.getD 16 Go.undef)], [arrOf c0 0 64, arrOf c0 64 4, arrOf c0 68 4, arrOf c0 72 6], [], Iv (fun _ _ => Ext.none)⟩ : Env) e1b_c116 with
    | false =>
      exact law_true (ρ := (⟨[intV (c0.getD 78 Go.undef), intV (c0.getD 79 Go.undef), intV (c0.getD 80 Go.undef), intV (c1.getD 1 Go.undef), intV (c1.getD 2 Go.undef), intV (c1.getD 3 Go.undef), intV (c1.getD 5 Go.undef), intV (c1.getD 6 Go.undef), intV (c1.getD 7 Go.undef), intV (c1.getD 9 Go.undef), intV (c1.getD 10 Go.undef), intV (c1.getD 11 Go.undef), intV (c1.getD 13 Go.undef), intV (c1.getD 14 Go.undef), intV (c1.getD 15 Go.undef), intV (c1.getD 17 Go.undef), intV (c1.getD 18 Go.undef), intV (c1.getD 19 Go.undef), a2, a3], [boolV (c1.getD 0 Go.undef), boolV (c1.getD 4 Go.undef), boolV (c1.getD 8 Go.undef), boolV (c1.getD 12 Go.undef), boolV (c1.getD 16 Go.undef)], [arrOf c0 0 64, arrOf c0 64 4, arrOf c0 68 4, arrOf c0 72 6], [], Iv (fun _ _ => Ext.none)⟩ : Env)) (G_ok _) (by kernel_rfl) e1b_p9run rfl (addF_ok _ _ _ (addF_ok _ _ _ hok h0) h1) (by intro e he; cases he) rfl w (fun i j => Ext.none_ok _)
    | true =>
      cases h2 : E.b (⟨[intV (c0.getD 78 Go.undef), intV (c0.getD 79 Go.undef), intV (c0.getD 80 Go.undef), intV (c1.getD 1 Go.undef), intV (c1.getD 2 Go.undef), intV (c1.getD 3 Go.undef), intV (c1.getD 5 Go.undef), intV (c1.getD 6 Go.undef), intV (c1.getD 7 Go.undef), intV (c1.getD 9 Go.undef), intV (c1.getD 10 Go.undef), intV (c1.getD 11 Go.undef), intV (c1.getD 13 Go.undef), intV (c1.getD 14 Go.undef), intV (c1.getD 15 Go.undef), intV (c1.getD 17 Go.undef), intV (c1.getD 18 Go.undef), intV (c1.getD 19 Go.undef), a2, a3], [boolV (c1.getD 0 Go.undef), boolV (c1.getD 4 Go.undef), boolV (c1.getD 8 Go.undef), boolV (c1.getD 12 Go.undef), boolV (c1.getD 16 Go.undef)], [arrOf c0 0 64, arrOf c0 64 4, arrOf c0 68 4, arrOf c0 72 6], [], Iv (fun _ _ => Ext.none)⟩ : Env) e1b_c165 with
      | false =>
        exact law_true (ρ := (⟨[intV (c0.getD 78 Go.undef), intV (c0.getD 79 Go.undef), intV (c0.getD 80 Go.undef), intV (c1.getD 1 Go.undef), intV (c1.getD 2 Go.undef), intV (c1.getD 3 Go.undef), intV (c1.getD 5 Go.undef), intV (c1.getD 6 Go.undef), intV (c1.getD 7 Go.undef), intV (c1.getD 9 Go.undef), intV (c1.getD 10 Go.undef), intV (c1.getD 11 Go.undef), intV (c1.getD 13 Go.undef), intV (c1.getD 14 Go.undef), intV (c1.getD 15 Go.undef), intV (c1.getD 17 Go.undef), intV (c1.getD 18 Go.undef), intV (c1.getD 19 Go.undef), a2, a3], [boolV (c1.getD 0 Go.undef), boolV (c1.getD 4 Go.undef), boolV (c1.getD 8 Go.undef), boolV (c1.getD 12 Go.undef), boolV (c1.getD 16 Go.undef)], [arrOf c0 0 64, arrOf c0 64 4, arrOf c0 68 4, arrOf c0 72 6], [], Iv (fun _ _ => Ext.none)⟩ : Env)) (G_ok _) (by kernel_rfl) e1b_p8run rfl (addF_ok _ _ _ (addF_ok _ _ _ (addF_ok _ _ _ hok h0) h1) h2) (by intro e he; cases he) rfl w (fun i j => Ext.none_ok _)
      | true =>
        cases h3 : E.b (⟨[intV (c0.getD 78 Go.undef), intV (c0.getD 79 Go.undef), intV (c0.getD 80 Go.undef), intV (c1.getD 1 Go.undef), intV (c1.getD 2 Go.undef), intV (c1.getD 3 Go.undef), intV (c1.getD 5 Go.undef), intV (c1.getD 6 Go.undef), intV (c1.getD 7 Go.undef), intV (c1.getD 9 Go.undef), intV (c1.getD 10 Go.undef), intV (c1.getD 11 Go.undef), intV (c1.getD 13 Go.undef), intV (c1.getD 14 Go.undef), intV (c1.getD 15 Go.undef), intV (c1.getD 17 Go.undef), intV (c1.getD 18 Go.undef), intV (c1.getD 19 Go.undef), a2, a3], [boolV (c1.getD 0 Go.undef), boolV (c1.getD 4 Go.undef), boolV (c1.getD 8 Go.undef), boolV (c1.getD 12 Go.undef), boolV (c1.getD 16 Go.undef)], [arrOf c0 0 64, arrOf c0 64 4, arrOf c0 68 4, arrOf c0 72 6], [], Iv (fun _ _ => Ext.none)⟩ : Env) e1b_c216 with
        | false =>
          exact law_true (ρ := (⟨[intV (c0.getD 78 Go.undef), intV (c0.getD 79 Go.undef), intV (c0.getD 80 Go.undef), intV (c1.getD 1 Go.undef), intV (c1.getD 2 Go.undef), intV (c1.getD 3 Go.undef), intV (c1.getD 5 Go.undef), intV (c1.getD 6 Go.undef), intV (c1.getD 7 Go.undef), intV (c1.getD 9 Go.undef), intV (c1.getD 10 Go.undef), intV (c1.getD 11 Go.undef), intV (c1.getD 13 Go.undef), intV (c1.getD 14 Go.undef), intV (c1.getD 15 Go.undef), intV (c1.getD 17 Go.undef), intV (c1.getD 18 Go.undef), intV (c1.getD 19 Go.undef), a2, a3], [boolV (c1.getD 0 Go.undef), boolV (c1.getD 4 Go.undef), boolV (c1.getD 8 Go.undef), boolV (c1.getD 12 Go.undef), boolV (c1.getD 16 Go.undef)], [arrOf c0 0 64, arrOf c0 64 4, arrOf c0 68 4, arrOf c0 72 6], [], Iv (fun _ _ => Ext.none)⟩ : Env)) (G_ok _) (by kernel_rfl) e1b_p7run rfl (addF_ok _ _ _ (addF_ok _ _ _ (addF_ok _ _ _ (addF_ok _ _ _ hok h0) h1) h2) h3) (by intro e he; cases he) rfl w (fun i j => Ext.none_ok _)
        | true =>
          cases h4 : E.b (⟨[intV (c0.getD 78 Go.undef), intV (c0.getD 79 Go.undef), intV (c0.getD 80 Go.undef), intV (c1.getD 1 Go.undef), intV (c1.getD 2 Go.undef), intV (c1.getD 3 Go.undef), intV (c1.getD 5 Go.undef), intV (c1.getD 6 Go.undef), intV (c1.getD 7 Go.undef), intV (c1.getD 9 Go.undef), intV (c1.getD 10 Go.undef), intV (c1.getD 11 Go.undef), intV (c1.getD 13 Go.undef), intV (c1.getD 14 Go.undef), intV (c1.getD 15 Go.undef), intV (c1.getD 17 Go.undef), intV (c1.getD 18 Go.undef), intV (c1.getD 19 Go.undef), a2, a3], [boolV (c1.getD 0 Go.undef), boolV (c1.getD 4 Go.undef), boolV (c1.getD 8 Go.undef), boolV (c1.getD 12 Go.undef), boolV (c1.getD 16 Go.undef)], [arrOf c0 0 64, arrOf c0 64 4, arrOf c0 68 4, arrOf c0 72 6], [], Iv (fun _ _ => Ext.none)⟩ : Env) e1b_c220 with
          | false =>
            exact law_true (ρ := (⟨[intV (c0.getD 78 Go.undef), intV (c0.getD 79 Go.undef), intV (c0.getD 80 Go.undef), intV (c1.getD 1 Go.undef), intV (c1.getD 2 Go.undef), intV (c1.getD 3 Go.undef), intV (c1.getD 5 Go.undef), intV (c1.getD 6 Go.undef), intV (c1.getD 7 Go.undef), intV (c1.getD 9 Go.undef), intV (c1.getD 10 Go.undef), intV (c1.getD 11 Go.undef), intV (c1.getD 13 Go.undef), intV (c1.getD 14 Go.undef), intV (c1.getD 15 Go.undef), intV (c1.getD 17 Go.undef), intV (c1.getD 18 Go.undef), intV (c1.getD 19 Go.undef), a2, a3], [boolV (c1.getD 0 Go.undef), boolV (c1.getD 4 Go.undef), boolV (c1.getD 8 Go.undef), boolV (c1.getD 12 Go.undef), boolV (c1.getD 16 Go.undef)], [arrOf c0 0 64, arrOf c0 64 4, arrOf c0 68 4, arrOf c0 72 6], [], Iv (fun _ _ => Ext.none)⟩ : Env)) (G_ok _) (by kernel_rfl) e1b_p6run rfl (addF_ok _ _ _ (addF_ok _ _ _ (addF_ok _ _ _ (addF_ok _ _ _ (addF_ok _ _ _ hok h0) h1) h2) h3) h4) (by intro e he; cases he) rfl w (fun i j => Ext.none_ok _)
          | true =>
            cases h5 : E.b (⟨[intV (c0.getD 78 Go.undef), intV (c0.getD 79 Go.undef), intV (c0.getD 80 Go.undef), intV (c1.getD 1 Go.undef), intV (c1.getD 2 Go.undef), intV (c1.getD 3 Go.undef), intV (c1.getD 5 Go.undef), intV (c1.getD 6 Go.undef), intV (c1.getD 7 Go.undef), intV (c1.getD 9 Go.undef), intV (c1.getD 10 Go.undef), intV (c1.getD 11 Go.undef), intV (c1.getD 13 Go.undef), intV (c1.getD 14 Go.undef), intV (c1.getD 15 Go.undef), intV (c1.getD 17 Go.undef), intV (c1.getD 18 Go.undef), intV (c1.getD 19 Go.undef), a2, a3], [boolV (c1.getD 0 Go.undef), boolV (c1.getD 4 Go.undef), boolV (c1.getD 8 Go.undef), boolV (c1.getD 12 Go.undef), boolV (c1.getD 16 Go.undef)], [arrOf c0 0 64, arrOf c0 64 4, arrOf c0 68 4, arrOf c0 72 6], [], Iv (fun _ _ => Ext.none)⟩ : Env) e1b_c224 with
            | false =>
              exact law_true (ρ := (⟨[intV (c0.getD 78 Go.undef), intV (c0.getD 79 Go.undef), intV (c0.getD 80 Go.undef), intV (c1.getD 1 Go.undef), intV (c1.getD 2 Go.undef), intV (c1.getD 3 Go.undef), intV (c1.getD 5 Go.undef), intV (c1.getD 6 Go.undef), intV (c1.getD 7 Go.undef), intV (c1.getD 9 Go.undef), intV (c1.getD 10 Go.undef), intV (c1.getD 11 Go.undef), intV (c1.getD 13 Go.undef), intV (c1.getD 14 Go.undef), intV (c1.getD 15 Go.undef), intV (c1.getD 17 Go.undef), intV (c1.getD 18 Go.undef), intV (c1.getD 19 Go.undef), a2, a3], [boolV (c1.getD 0 Go.undef), boolV (c1.getD 4 Go.undef), boolV (c1.getD 8 Go.undef), boolV (c1.getD 12 Go.undef), boolV (c1.getD 16 Go.undef)], [arrOf c0 0 64, arrOf c0 64 4, arrOf c0 68 4, arrOf c0 72 6], [], Iv (fun _ _ => Ext.none)⟩ : Env)) (G_ok _) (by kernel_rfl) e1b_p5run rfl (addF_ok _ _ _ (addF_ok _ _ _ (addF_ok _ _ _ (addF_ok _ _ _ (addF_ok _ _ _ (addF_ok _ _ _ hok h0) h1) h2) h3) h4) h5) (by intro e he; cases he) rfl w (fun i j => Ext.none_ok _)
            | true =>
              cases h6 : E.b (⟨[intV (c0.getD 78 Go.undef), intV (c0.getD 79 Go.undef), intV (c0.getD 80 Go.undef), intV (c1.getD 1 Go.undef), intV (c1.getD 2 Go.undef), intV (c1.getD 3 Go.undef), intV (c1.getD 5 Go.undef), intV (c1.getD 6 Go.undef), intV (c1.getD 7 Go.undef), intV (c1.getD 9 Go.undef), intV (c1.getD 10 Go.undef), intV (c1.getD 11 Go.undef), intV (c1.getD 13 Go.undef), intV (c1.getD 14 Go.undef), intV (c1.getD 15 Go.undef), intV (c1.getD 17 Go.undef), intV (c1.getD 18 Go.undef), intV (c1.getD 19 Go.undef), a2, a3], [boolV (c1.getD 0 Go.undef), boolV (c1.getD 4 Go.undef), boolV (c1.getD 8 Go.undef), boolV (c1.getD 12 Go.undef), boolV (c1.getD 16 Go.undef)], [arrOf c0 0 64, arrOf c0 64 4, arrOf c0 68 4, arrOf c0 72 6], [], Iv (fun _ _ => Ext.none)⟩ : Env) e1b_c228 with
              | false =>
                exact law_true (ρ := (⟨[intV (c0.getD 78 Go.undef), intV (c0.getD 79 Go.undef), intV (c0.getD 80 Go.undef), intV (c1.getD 1 Go.undef), intV (c1.getD 2 Go.undef), intV (c1.getD 3 Go.undef), intV (c1.getD 5 Go.undef), intV (c1.getD 6 Go.undef), intV (c1.getD 7 Go.undef), intV (c1.getD 9 Go.undef), intV (c1.getD 10 Go.undef), intV (c1.getD 11 Go.undef), intV (c1.getD 13 Go.undef), intV (c1.getD 14 Go.undef), intV (c1.getD 15 Go.undef), intV (c1.getD 17 Go.undef), intV (c1.getD 18 Go.undef), intV (c1.getD 19 Go.undef), a2, a3], [boolV (c1.getD 0 Go.undef), boolV (c1.getD 4 Go.undef), boolV (c1.getD 8 Go.undef), boolV (c1.getD 12 Go.undef), boolV (c1.getD 16 Go.undef)], [arrOf c0 0 64, arrOf c0 64 4, arrOf c0 68 4, arrOf c0 72 6], [], Iv (fun _ _ => Ext.none)⟩ : Env)) (G_ok _) (by kernel_rfl) e1b_p4run rfl (addF_ok _ _ _ (addF_ok _ _ _ (addF_ok _ _ _ (addF_ok _ _ _ (addF_ok _ _ _ (addF_ok _ _ _ (addF_ok _ _ _ hok h0) h1) h2) h3) h4) h5) h6) (by intro e he; cases he) rfl w (fun i j => Ext.none_ok _)
              | true =>
                cases h7 : E.b (⟨[intV (c0.getD 78 Go.undef), intV (c0.getD 79 Go.undef), intV (c0.getD 80 Go.undef), intV (c1.getD 1 Go.undef), intV (c1.getD 2 Go.undef), intV (c1.getD 3 Go.undef), intV (c1.getD 5 Go.undef), intV (c1.getD 6 Go.undef), intV (c1.getD 7 Go.undef), intV (c1.getD 9 Go.undef), intV (c1.getD 10 Go.undef), intV (c1.getD 11 Go.undef), intV (c1.getD 13 Go.undef), intV (c1.getD 14 Go.undef), intV (c1.getD 15 Go.undef), intV (c1.getD 17 Go.undef), intV (c1.getD 18 Go.undef), intV (c1.getD 19 Go.undef), a2, a3], [boolV (c1.getD 0 Go.undef), boolV (c1.getD 4 Go.undef), boolV (c1.getD 8 Go.undef), boolV (c1.getD 12 Go.undef), boolV (c1.getD 16 Go.undef)], [arrOf c0 0 64, arrOf c0 64 4, arrOf c0 68 4, arrOf c0 72 6], [], Iv (fun _ _ => Ext.none)⟩ : Env) e1b_c232 with
                | false =>
                  exact law_true (ρ := (⟨[intV (c0.getD 78 Go.undef), intV (c0.getD 79 Go.undef), intV (c0.getD 80 Go.undef), intV (c1.getD 1 Go.undef), intV (c1.getD 2 Go.undef), intV (c1.getD 3 Go.undef), intV (c1.getD 5 Go.undef), intV (c1.getD 6 Go.undef), intV (c1.getD 7 Go.undef), intV (c1.getD 9 Go.undef), intV (c1.getD 10 Go.undef), intV (c1.getD 11 Go.undef), intV (c1.getD 13 Go.undef), intV (c1.getD 14 Go.undef), intV (c1.getD 15 Go.undef), intV (c1.getD 17 Go.undef), intV (c1.getD 18 Go.undef), intV (c1.getD 19 Go.undef), a2, a3], [boolV (c1.getD 0 Go.undef), boolV (c1.getD 4 Go.undef), boolV (c1.getD 8 Go.undef), boolV (c1.getD 12 Go.undef), boolV (c1.getD 16 Go.undef)], [arrOf c0 0 64, arrOf c0 64 4, arrOf c0 68 4, arrOf c0 72 6], [], Iv (fun _ _ => Ext.none)⟩ : Env)) (G_ok _) (by kernel_rfl) e1b_p3run rfl (addF_ok _ _ _ (addF_ok _ _ _ (addF_ok _ _ _ (addF_ok _ _ _ (addF_ok _ _ _ (addF_ok _ _ _ (addF_ok _ _ _ (addF_ok _ _ _ hok h0) h1) h2) h3) h4) h5) h6) h7) (by intro e he; cases he) rfl w (fun i j => Ext.none_ok _)
                | true =>
                  cases h8 : E.b (⟨[intV (c0.getD 78 Go.undef), intV (c0.getD 79 Go.undef), intV (c0.getD 80 Go.undef), intV (c1.getD 1 Go.undef), intV (c1.getD 2 Go.undef), intV (c1.getD 3 Go.undef), intV (c1.getD 5 Go.undef), intV (c1.getD 6 Go.undef), intV (c1.getD 7 Go.undef), intV (c1.getD 9 Go.undef), intV (c1.getD 10 Go.undef), intV (c1.getD 11 Go.undef), intV (c1.getD 13 Go.undef), intV (c1.getD 14 Go.undef), intV (c1.getD 15 Go.undef), intV (c1.getD 17 Go.undef), intV (c1.getD 18 Go.undef), intV (c1.getD 19 Go.undef), a2, a3], [boolV (c1.getD 0 Go.undef), boolV (c1.getD 4 Go.undef), boolV (c1.getD 8 Go.undef), boolV (c1.getD 12 Go.undef), boolV (c1.getD 16 Go.undef)], [arrOf c0 0 64, arrOf c0 64 4, arrOf c0 68 4, arrOf c0 72 6], [], Iv (fun _ _ => Ext.none)⟩ : Env) e1b_c236 with
                  | false =>
                    exact law_true (ρ := (⟨[intV (c0.getD 78 Go.undef), intV (c0.getD 79 Go.undef), intV (c0.getD 80 Go.undef), intV (c1.getD 1 Go.undef), intV (c1.getD 2 Go.undef), intV (c1.getD 3 Go.undef), intV (c1.getD 5 Go.undef), intV (c1.getD 6 Go.undef), intV (c1.getD 7 Go.undef), intV (c1.getD 9 Go.undef), intV (c1.getD 10 Go.undef), intV (c1.getD 11 Go.undef), intV (c1.getD 13 Go.undef), intV (c1.getD 14 Go.undef), intV (c1.getD 15 Go.undef), intV (c1.getD 17 Go.undef), intV (c1.getD 18 Go.undef), intV (c1.getD 19 Go.undef), a2, a3], [boolV (c1.getD 0 Go.undef), boolV (c1.getD 4 Go.undef), boolV (c1.getD 8 Go.undef), boolV (c1.getD 12 Go.undef), boolV (c1.getD 16 Go.undef)], [arrOf c0 0 64, arrOf c0 64 4, arrOf c0 68 4, arrOf c0 72 6], [], Iv (fun _ _ => Ext.none)⟩ : Env)) (G_ok _) (by kernel_rfl) e1b_p2run rfl (addF_ok _ _ _ (addF_ok _ _ _ (addF_ok _ _ _ (addF_ok _ _ _ (addF_ok _ _ _ (addF_ok _ _ _ (addF_ok _ _ _ (addF_ok _ _ _ (addF_ok _ _ _ hok h0) h1) h2) h3) h4) h5) h6) h7) h8) (by intro e he; cases he) rfl w (fun i j => Ext.none_ok _)
                  | true =>
                    cases h9 : E.b (⟨[intV (c0.getD 78 Go.undef), intV (c0.getD 79 Go.undef), intV (c0.getD 80 Go.undef), intV (c1.getD 1 Go.undef), intV (c1.getD 2 Go.undef), intV (c1.getD 3 Go.undef), intV (c1.getD 5 Go.undef), intV (c1.getD 6 Go.undef), intV (c1.getD 7 Go.undef), intV (c1.getD 9 Go.undef), intV (c1.getD 10 Go.undef), intV (c1.getD 11 Go.undef), intV (c1.getD 13 Go.undef), intV (c1.getD 14 Go.undef), intV (c1.getD 15 Go.undef), intV (c1.getD 17 Go.undef), intV (c1.getD 18 Go.undef), intV (c1.getD 19 Go.undef), a2, a3], [boolV (c1.getD 0 Go.undef), boolV (c1.getD 4 Go.undef), boolV (c1.getD 8 Go.undef), boolV (c1.getD 12 Go.undef), boolV (c1.getD 16 Go.undef)], [arrOf c0 0 64, arrOf c0 64 4, arrOf c0 68 4, arrOf c0 72 6], [], Iv (fun _ _ => Ext.none)⟩ : Env) e1b_c240 with
                    | false =>
                      exact law_true (ρ := (⟨[intV (c0.getD 78 Go.undef), intV (c0.getD 79 Go.undef), intV (c0.getD 80 Go.undef), intV (c1.getD 1 Go.undef), intV (c1.getD 2 Go.undef), intV (c1.getD 3 Go.undef), intV (c1.getD 5 Go.undef), intV (c1.getD 6 Go.undef), intV (c1.getD 7 Go.undef), intV (c1.getD 9 Go.undef), intV (c1.getD 10 Go.undef), intV (c1.getD 11 Go.undef), intV (c1.getD 13 Go.undef), intV (c1.getD 14 Go.undef), intV (c1.getD 15 Go.undef), intV (c1.getD 17 Go.undef), intV (c1.getD 18 Go.undef), intV (c1.getD 19 Go.undef), a2, a3], [boolV (c1.getD 0 Go.undef), boolV (c1.getD 4 Go.undef), boolV (c1.getD 8 Go.undef), boolV (c1.getD 12 Go.undef), boolV (c1.getD 16 Go.undef)], [arrOf c0 0 64, arrOf c0 64 4, arrOf c0 68 4, arrOf c0 72 6], [], Iv (fun _ _ => Ext.none)⟩ : Env)) (G_ok _) (by kernel_rfl) e1b_p1run rfl (addF_ok _ _ _ (addF_ok _ _ _ (addF_ok _ _ _ (addF_ok _ _ _ (addF_ok _ _ _ (addF_ok _ _ _ (addF_ok _ _ _ (addF_ok _ _ _ (addF_ok _ _ _ (addF_ok _ _ _ hok h0) h1) h2) h3) h4) h5) h6) h7) h8) h9) (by intro e he; cases he) rfl w (fun i j => Ext.none_ok _)
                    | true =>
                      exact law_true (ρ := (⟨[intV (c0.getD 78 Go.undef), intV (c0.getD 79 Go.undef), intV (c0.getD 80 Go.undef), intV (c1.getD 1 Go.undef), intV (c1.getD 2 Go.undef), intV (c1.getD 3 Go.undef), intV (c1.getD 5 Go.undef), intV (c1.getD 6 Go.undef), intV (c1.getD 7 Go.undef), intV (c1.getD 9 Go.undef), intV (c1.getD 10 Go.undef), intV (c1.getD 11 Go.undef), intV (c1.getD 13 Go.undef), intV (c1.getD 14 Go.undef), intV (c1.getD 15 Go.undef), intV (c1.getD 17 Go.undef), intV (c1.getD 18 Go.undef), intV (c1.getD 19 Go.undef), a2, a3], [boolV (c1.getD 0 Go.undef), boolV (c1.getD 4 Go.undef), boolV (c1.getD 8 Go.undef), boolV (c1.getD 12 Go.undef), boolV (c1.getD 16 Go.undef)], [arrOf c0 0 64, arrOf c0 64 4, arrOf c0 68 4, arrOf c0 72 6], [], Iv (fun _ _ => Ext.none)⟩ : Env)) (G_ok _) (by kernel_rfl) e1b_p0run rfl (addF_ok _ _ _ (addF_ok _ _ _ (addF_ok _ _ _ (addF_ok _ _ _ (addF_ok _ _ _ (addF_ok _ _ _ (addF_ok _ _ _ (addF_ok _ _ _ (addF_ok _ _ _ (addF_ok _ _ _ hok h0) h1) h2) h3) h4) h5) h6) h7) h8) h9) (by intro e he; cases he) rfl w (fun i j => Ext.none_ok _)
end Go.Proofs.Ytgbncbclhdnbmaa.BlendPlain
