/- A part of the law BlendPlain, which returns true for every input. Without a region and a math bit the colour is that of the layer in front, or what lies behind. No condition. -/
import Derived.Test.YtgbncbclhdnbmaaBlendPlain0
namespace Go.Proofs.Ytgbncbclhdnbmaa.BlendPlain
open Go.Sx Go.ChangeShapes Go.WideShapes Go.ChangeAt Go.RowKit
set_option linter.unusedVariables false
set_option linter.unusedSimpArgs false
set_option maxRecDepth 100000
def e0_Hy : Hyp := ⟨[(.v 0, (-32768, 32767)), (.v 1, (-32768, 32767)), (.v 2, (0, 65535)), (.v 3, (0, 255)), (.v 4, (0, 255)), (.v 5, (0, 65535)), (.v 6, (0, 255)), (.v 7, (0, 255)), (.v 8, (0, 65535)), (.v 9, (0, 255)), (.v 10, (0, 255)), (.v 11, (0, 65535)), (.v 12, (0, 255)), (.v 13, (0, 255)), (.v 14, (0, 65535)), (.v 15, (0, 255)), (.v 16, (0, 255)), (.v 17, (0, 65535)), (.v 18, (0, 255)), (.v 19, (0, 65535)), ((.mod (.sel (.av 0) (.lit 5)) (.lit 8)), (0, 0))], [(0, (0, 255)), (1, (0, 65535)), (2, (0, 65535)), (3, (-32768, 32767))], [], [], [], []⟩
def e0_Ls : List SV := [.agg (pcSegs 0 0 0 Pc0), .agg (pcSegs 4 0 3 Pc1), .s (.int .i64 (.v 18)), .s (.int .u16 (.v 19))]
def e0_c0 : E := .sel (.av 0) (.lit 44)
def e0_c1 : E := .div e0_c0 (.lit 16)
def e0_c2 : E := .mod e0_c1 (.lit 2)
def e0_c3 : E := .eq e0_c2 (.lit 0)
def e0_c4 : E := .not (.bv 4)
def e0_c5 : E := .or e0_c3 e0_c4
def e0_c6 : E := .eq (.v 15) (.lit 3)
def e0_c7 : E := .not e0_c6
def e0_c8 : E := .or e0_c5 e0_c7
def e0_c9 : E := .sel (.av 0) (.lit 37)
def e0_c10 : E := .div e0_c9 (.lit 8)
def e0_c11 : E := .mod e0_c10 (.lit 2)
def e0_c12 : E := .mul e0_c11 (.lit 8)
def e0_c13 : E := .div e0_c9 (.lit 2)
def e0_c14 : E := .mod e0_c13 (.lit 2)
def e0_c15 : E := .mul e0_c14 (.lit 2)
def e0_c16 : E := .add e0_c12 e0_c15
def e0_c17 : E := .eq e0_c16 (.lit 2)
def e0_c18 : E := .sel (.av 0) (.lit 39)
def e0_c19 : E := .le (.v 18) e0_c18
def e0_c20 : E := .sel (.av 0) (.lit 38)
def e0_c21 : E := .le e0_c20 (.v 18)
def e0_c22 : E := .and e0_c19 e0_c21
def e0_c23 : E := .mod e0_c9 (.lit 2)
def e0_c24 : E := .eq e0_c23 (.lit 0)
def e0_c25 : E := .not e0_c24
def e0_c26 : E := .iff e0_c22 e0_c25
def e0_c27 : E := .not e0_c26
def e0_c28 : E := .eq e0_c16 (.lit 8)
def e0_c29 : E := .sel (.av 0) (.lit 41)
def e0_c30 : E := .le (.v 18) e0_c29
def e0_c31 : E := .sel (.av 0) (.lit 40)
def e0_c32 : E := .le e0_c31 (.v 18)
def e0_c33 : E := .and e0_c30 e0_c32
def e0_c34 : E := .div e0_c9 (.lit 4)
def e0_c35 : E := .mod e0_c34 (.lit 2)
def e0_c36 : E := .eq e0_c35 (.lit 0)
def e0_c37 : E := .not e0_c36
def e0_c38 : E := .iff e0_c33 e0_c37
def e0_c39 : E := .not e0_c38
def e0_c40 : E := .sel (.av 0) (.lit 43)
def e0_c41 : E := .mod e0_c40 (.lit 4)
def e0_c42 : E := .eq e0_c41 (.lit 0)
def e0_c43 : E := .or e0_c27 e0_c39
def e0_c44 : E := .eq e0_c41 (.lit 1)
def e0_c45 : E := .and e0_c27 e0_c39
def e0_c46 : E := .eq e0_c41 (.lit 2)
def e0_c47 : E := .iff e0_c27 e0_c39
def e0_c48 : E := .not e0_c47
def e0_c49 : E := .ite e0_c46 e0_c48 e0_c47
def e0_c50 : E := .ite e0_c44 e0_c45 e0_c49
def e0_c51 : E := .ite e0_c42 e0_c43 e0_c50
def e0_c52 : E := .ite e0_c28 e0_c39 e0_c51
def e0_c53 : E := .ite e0_c17 e0_c27 e0_c52
def e0_c54 : E := .eq e0_c16 (.lit 0)
def e0_c55 : E := .not e0_c54
def e0_c56 : E := .and e0_c53 e0_c55
def e0_c57 : E := .sel (.av 0) (.lit 46)
def e0_c58 : E := .div e0_c57 (.lit 16)
def e0_c59 : E := .mod e0_c58 (.lit 2)
def e0_c60 : E := .eq e0_c59 (.lit 0)
def e0_c61 : E := .not e0_c60
def e0_c62 : E := .and e0_c56 e0_c61
def e0_c63 : E := .or e0_c8 e0_c62
def e0_c64 : E := .mod e0_c0 (.lit 2)
def e0_c65 : E := .eq e0_c64 (.lit 0)
def e0_c66 : E := .not (.bv 0)
def e0_c67 : E := .or e0_c65 e0_c66
def e0_c68 : E := .eq (.v 3) (.lit 1)
def e0_c69 : E := .not e0_c68
def e0_c70 : E := .or e0_c67 e0_c69
def e0_c71 : E := .sel (.av 0) (.lit 35)
def e0_c72 : E := .div e0_c71 (.lit 8)
def e0_c73 : E := .mod e0_c72 (.lit 2)
def e0_c74 : E := .mul e0_c73 (.lit 8)
def e0_c75 : E := .div e0_c71 (.lit 2)
def e0_c76 : E := .mod e0_c75 (.lit 2)
def e0_c77 : E := .mul e0_c76 (.lit 2)
def e0_c78 : E := .add e0_c74 e0_c77
def e0_c79 : E := .eq e0_c78 (.lit 2)
def e0_c80 : E := .mod e0_c71 (.lit 2)
def e0_c81 : E := .eq e0_c80 (.lit 0)
def e0_c82 : E := .not e0_c81
def e0_c83 : E := .iff e0_c22 e0_c82
def e0_c84 : E := .not e0_c83
def e0_c85 : E := .eq e0_c78 (.lit 8)
def e0_c86 : E := .div e0_c71 (.lit 4)
def e0_c87 : E := .mod e0_c86 (.lit 2)
def e0_c88 : E := .eq e0_c87 (.lit 0)
def e0_c89 : E := .not e0_c88
def e0_c90 : E := .iff e0_c33 e0_c89
def e0_c91 : E := .not e0_c90
def e0_c92 : E := .sel (.av 0) (.lit 42)
def e0_c93 : E := .mod e0_c92 (.lit 4)
def e0_c94 : E := .eq e0_c93 (.lit 0)
def e0_c95 : E := .or e0_c84 e0_c91
def e0_c96 : E := .eq e0_c93 (.lit 1)
def e0_c97 : E := .and e0_c84 e0_c91
def e0_c98 : E := .eq e0_c93 (.lit 2)
def e0_c99 : E := .iff e0_c84 e0_c91
def e0_c100 : E := .not e0_c99
def e0_c101 : E := .ite e0_c98 e0_c100 e0_c99
def e0_c102 : E := .ite e0_c96 e0_c97 e0_c101
def e0_c103 : E := .ite e0_c94 e0_c95 e0_c102
def e0_c104 : E := .ite e0_c85 e0_c91 e0_c103
def e0_c105 : E := .ite e0_c79 e0_c84 e0_c104
def e0_c106 : E := .eq e0_c78 (.lit 0)
def e0_c107 : E := .not e0_c106
def e0_c108 : E := .and e0_c105 e0_c107
def e0_c109 : E := .mod e0_c57 (.lit 2)
def e0_c110 : E := .eq e0_c109 (.lit 0)
def e0_c111 : E := .not e0_c110
def e0_c112 : E := .and e0_c108 e0_c111
def e0_c113 : E := .or e0_c70 e0_c112
def e0_c114 : E := .div e0_c0 (.lit 2)
def e0_c115 : E := .mod e0_c114 (.lit 2)
def e0_c116 : E := .eq e0_c115 (.lit 0)
def e0_c117 : E := .not (.bv 1)
def e0_c118 : E := .or e0_c116 e0_c117
def e0_c119 : E := .eq (.v 6) (.lit 1)
def e0_c120 : E := .not e0_c119
def e0_c121 : E := .or e0_c118 e0_c120
def e0_c122 : E := .div e0_c71 (.lit 128)
def e0_c123 : E := .mul e0_c122 (.lit 8)
def e0_c124 : E := .div e0_c71 (.lit 32)
def e0_c125 : E := .mod e0_c124 (.lit 2)
def e0_c126 : E := .mul e0_c125 (.lit 2)
def e0_c127 : E := .add e0_c123 e0_c126
def e0_c128 : E := .eq e0_c127 (.lit 2)
def e0_c129 : E := .div e0_c71 (.lit 16)
def e0_c130 : E := .mod e0_c129 (.lit 2)
def e0_c131 : E := .eq e0_c130 (.lit 0)
def e0_c132 : E := .not e0_c131
def e0_c133 : E := .iff e0_c22 e0_c132
def e0_c134 : E := .not e0_c133
def e0_c135 : E := .eq e0_c127 (.lit 8)
def e0_c136 : E := .div e0_c71 (.lit 64)
def e0_c137 : E := .mod e0_c136 (.lit 2)
def e0_c138 : E := .eq e0_c137 (.lit 0)
def e0_c139 : E := .not e0_c138
def e0_c140 : E := .iff e0_c33 e0_c139
def e0_c141 : E := .not e0_c140
def e0_c142 : E := .div e0_c92 (.lit 4)
def e0_c143 : E := .mod e0_c142 (.lit 4)
def e0_c144 : E := .eq e0_c143 (.lit 0)
def e0_c145 : E := .or e0_c134 e0_c141
def e0_c146 : E := .eq e0_c143 (.lit 1)
def e0_c147 : E := .and e0_c134 e0_c141
def e0_c148 : E := .eq e0_c143 (.lit 2)
def e0_c149 : E := .iff e0_c134 e0_c141
def e0_c150 : E := .not e0_c149
def e0_c151 : E := .ite e0_c148 e0_c150 e0_c149
def e0_c152 : E := .ite e0_c146 e0_c147 e0_c151
def e0_c153 : E := .ite e0_c144 e0_c145 e0_c152
def e0_c154 : E := .ite e0_c135 e0_c141 e0_c153
def e0_c155 : E := .ite e0_c128 e0_c134 e0_c154
def e0_c156 : E := .eq e0_c127 (.lit 0)
def e0_c157 : E := .not e0_c156
def e0_c158 : E := .and e0_c155 e0_c157
def e0_c159 : E := .div e0_c57 (.lit 2)
def e0_c160 : E := .mod e0_c159 (.lit 2)
def e0_c161 : E := .eq e0_c160 (.lit 0)
def e0_c162 : E := .not e0_c161
def e0_c163 : E := .and e0_c158 e0_c162
def e0_c164 : E := .or e0_c121 e0_c163
def e0_c165 : E := .eq (.v 15) (.lit 2)
def e0_c166 : E := .not e0_c165
def e0_c167 : E := .or e0_c5 e0_c166
def e0_c168 : E := .or e0_c167 e0_c62
def e0_c169 : E := .eq (.v 3) (.lit 0)
def e0_c170 : E := .not e0_c169
def e0_c171 : E := .or e0_c67 e0_c170
def e0_c172 : E := .or e0_c171 e0_c112
def e0_c173 : E := .eq (.v 6) (.lit 0)
def e0_c174 : E := .not e0_c173
def e0_c175 : E := .or e0_c118 e0_c174
def e0_c176 : E := .or e0_c175 e0_c163
def e0_c177 : E := .eq (.v 15) (.lit 1)
def e0_c178 : E := .not e0_c177
def e0_c179 : E := .or e0_c5 e0_c178
def e0_c180 : E := .or e0_c179 e0_c62
def e0_c181 : E := .div e0_c0 (.lit 4)
def e0_c182 : E := .mod e0_c181 (.lit 2)
def e0_c183 : E := .eq e0_c182 (.lit 0)
def e0_c184 : E := .not (.bv 2)
def e0_c185 : E := .or e0_c183 e0_c184
def e0_c186 : E := .eq (.v 9) (.lit 1)
def e0_c187 : E := .not e0_c186
def e0_c188 : E := .or e0_c185 e0_c187
def e0_c189 : E := .sel (.av 0) (.lit 36)
def e0_c190 : E := .div e0_c189 (.lit 8)
def e0_c191 : E := .mod e0_c190 (.lit 2)
def e0_c192 : E := .mul e0_c191 (.lit 8)
def e0_c193 : E := .div e0_c189 (.lit 2)
def e0_c194 : E := .mod e0_c193 (.lit 2)
def e0_c195 : E := .mul e0_c194 (.lit 2)
def e0_c196 : E := .add e0_c192 e0_c195
def e0_c197 : E := .eq e0_c196 (.lit 2)
def e0_c198 : E := .mod e0_c189 (.lit 2)
def e0_c199 : E := .eq e0_c198 (.lit 0)
def e0_c200 : E := .not e0_c199
def e0_c201 : E := .iff e0_c22 e0_c200
def e0_c202 : E := .not e0_c201
def e0_c203 : E := .eq e0_c196 (.lit 8)
def e0_c204 : E := .div e0_c189 (.lit 4)
def e0_c205 : E := .mod e0_c204 (.lit 2)
def e0_c206 : E := .eq e0_c205 (.lit 0)
def e0_c207 : E := .not e0_c206
def e0_c208 : E := .iff e0_c33 e0_c207
def e0_c209 : E := .not e0_c208
def e0_c210 : E := .div e0_c92 (.lit 16)
def e0_c211 : E := .mod e0_c210 (.lit 4)
def e0_c212 : E := .eq e0_c211 (.lit 0)
def e0_c213 : E := .or e0_c202 e0_c209
def e0_c214 : E := .eq e0_c211 (.lit 1)
def e0_c215 : E := .and e0_c202 e0_c209
def e0_c216 : E := .eq e0_c211 (.lit 2)
def e0_c217 : E := .iff e0_c202 e0_c209
def e0_c218 : E := .not e0_c217
def e0_c219 : E := .ite e0_c216 e0_c218 e0_c217
def e0_c220 : E := .ite e0_c214 e0_c215 e0_c219
def e0_c221 : E := .ite e0_c212 e0_c213 e0_c220
def e0_c222 : E := .ite e0_c203 e0_c209 e0_c221
def e0_c223 : E := .ite e0_c197 e0_c202 e0_c222
def e0_c224 : E := .eq e0_c196 (.lit 0)
def e0_c225 : E := .not e0_c224
def e0_c226 : E := .and e0_c223 e0_c225
def e0_c227 : E := .div e0_c57 (.lit 4)
def e0_c228 : E := .mod e0_c227 (.lit 2)
def e0_c229 : E := .eq e0_c228 (.lit 0)
def e0_c230 : E := .not e0_c229
def e0_c231 : E := .and e0_c226 e0_c230
def e0_c232 : E := .or e0_c188 e0_c231
def e0_c233 : E := .div e0_c0 (.lit 8)
def e0_c234 : E := .mod e0_c233 (.lit 2)
def e0_c235 : E := .eq e0_c234 (.lit 0)
def e0_c236 : E := .not (.bv 3)
def e0_c237 : E := .or e0_c235 e0_c236
def e0_c238 : E := .eq (.v 12) (.lit 1)
def e0_c239 : E := .not e0_c238
def e0_c240 : E := .or e0_c237 e0_c239
def e0_c241 : E := .div e0_c189 (.lit 128)
def e0_c242 : E := .mul e0_c241 (.lit 8)
def e0_c243 : E := .div e0_c189 (.lit 32)
def e0_c244 : E := .mod e0_c243 (.lit 2)
def e0_c245 : E := .mul e0_c244 (.lit 2)
def e0_c246 : E := .add e0_c242 e0_c245
def e0_c247 : E := .eq e0_c246 (.lit 2)
def e0_c248 : E := .div e0_c189 (.lit 16)
def e0_c249 : E := .mod e0_c248 (.lit 2)
def e0_c250 : E := .eq e0_c249 (.lit 0)
def e0_c251 : E := .not e0_c250
def e0_c252 : E := .iff e0_c22 e0_c251
def e0_c253 : E := .not e0_c252
def e0_c254 : E := .eq e0_c246 (.lit 8)
def e0_c255 : E := .div e0_c189 (.lit 64)
def e0_c256 : E := .mod e0_c255 (.lit 2)
def e0_c257 : E := .eq e0_c256 (.lit 0)
def e0_c258 : E := .not e0_c257
def e0_c259 : E := .iff e0_c33 e0_c258
def e0_c260 : E := .not e0_c259
def e0_c261 : E := .le e0_c92 (.lit 63)
def e0_c262 : E := .or e0_c253 e0_c260
def e0_c263 : E := .div e0_c92 (.lit 64)
def e0_c264 : E := .eq e0_c263 (.lit 1)
def e0_c265 : E := .and e0_c253 e0_c260
def e0_c266 : E := .eq e0_c263 (.lit 2)
def e0_c267 : E := .iff e0_c253 e0_c260
def e0_c268 : E := .not e0_c267
def e0_c269 : E := .ite e0_c266 e0_c268 e0_c267
def e0_c270 : E := .ite e0_c264 e0_c265 e0_c269
def e0_c271 : E := .ite e0_c261 e0_c262 e0_c270
def e0_c272 : E := .ite e0_c254 e0_c260 e0_c271
def e0_c273 : E := .ite e0_c247 e0_c253 e0_c272
def e0_c274 : E := .eq e0_c246 (.lit 0)
def e0_c275 : E := .not e0_c274
def e0_c276 : E := .and e0_c273 e0_c275
def e0_c277 : E := .div e0_c57 (.lit 8)
def e0_c278 : E := .mod e0_c277 (.lit 2)
def e0_c279 : E := .eq e0_c278 (.lit 0)
def e0_c280 : E := .not e0_c279
def e0_c281 : E := .and e0_c276 e0_c280
def e0_c282 : E := .or e0_c240 e0_c281
def e0_c283 : E := .eq (.v 15) (.lit 0)
def e0_c284 : E := .not e0_c283
def e0_c285 : E := .or e0_c5 e0_c284
def e0_c286 : E := .or e0_c285 e0_c62
def e0_c287 : E := .eq (.v 9) (.lit 0)
def e0_c288 : E := .not e0_c287
def e0_c289 : E := .or e0_c185 e0_c288
def e0_c290 : E := .or e0_c289 e0_c231
def e0_c291 : E := .eq (.v 12) (.lit 0)
def e0_c292 : E := .not e0_c291
def e0_c293 : E := .or e0_c237 e0_c292
def e0_c294 : E := .or e0_c293 e0_c281
def e0_p0Hy : Hyp := (addF true e0_c294 (addF true e0_c290 (addF true e0_c286 (addF true e0_c282 (addF true e0_c232 (addF true e0_c180 (addF true e0_c176 (addF true e0_c172 (addF true e0_c168 (addF true e0_c164 (addF true e0_c113 (addF true e0_c63 e0_Hy))))))))))))
theorem e0_p0run : enter Try.prog G Gh 6000 40 8 e0_p0Hy e0_Ls [] = some ([], .s (.bool (.blit true)), none) := by kernel_rfl
def e0_p1Hy : Hyp := (addF false e0_c294 (addF true e0_c290 (addF true e0_c286 (addF true e0_c282 (addF true e0_c232 (addF true e0_c180 (addF true e0_c176 (addF true e0_c172 (addF true e0_c168 (addF true e0_c164 (addF true e0_c113 (addF true e0_c63 e0_Hy))))))))))))
theorem e0_p1run : enter Try.prog G Gh 6000 40 8 e0_p1Hy e0_Ls [] = some ([], .s (.bool (.blit true)), none) := by kernel_rfl
def e0_p2Hy : Hyp := (addF false e0_c290 (addF true e0_c286 (addF true e0_c282 (addF true e0_c232 (addF true e0_c180 (addF true e0_c176 (addF true e0_c172 (addF true e0_c168 (addF true e0_c164 (addF true e0_c113 (addF true e0_c63 e0_Hy)))))))))))
theorem e0_p2run : enter Try.prog G Gh 6000 40 8 e0_p2Hy e0_Ls [] = some ([], .s (.bool (.blit true)), none) := by kernel_rfl
def e0_p3Hy : Hyp := (addF false e0_c286 (addF true e0_c282 (addF true e0_c232 (addF true e0_c180 (addF true e0_c176 (addF true e0_c172 (addF true e0_c168 (addF true e0_c164 (addF true e0_c113 (addF true e0_c63 e0_Hy))))))))))
theorem e0_p3run : enter Try.prog G Gh 6000 40 8 e0_p3Hy e0_Ls [] = some ([], .s (.bool (.blit true)), none) := by kernel_rfl
def e0_p4Hy : Hyp := (addF false e0_c282 (addF true e0_c232 (addF true e0_c180 (addF true e0_c176 (addF true e0_c172 (addF true e0_c168 (addF true e0_c164 (addF true e0_c113 (addF true e0_c63 e0_Hy)))))))))
theorem e0_p4run : enter Try.prog G Gh 6000 40 8 e0_p4Hy e0_Ls [] = some ([], .s (.bool (.blit true)), none) := by kernel_rfl
def e0_p5Hy : Hyp := (addF false e0_c232 (addF true e0_c180 (addF true e0_c176 (addF true e0_c172 (addF true e0_c168 (addF true e0_c164 (addF true e0_c113 (addF true e0_c63 e0_Hy))))))))
theorem e0_p5run : enter Try.prog G Gh 6000 40 8 e0_p5Hy e0_Ls [] = some ([], .s (.bool (.blit true)), none) := by kernel_rfl
def e0_p6Hy : Hyp := (addF false e0_c180 (addF true e0_c176 (addF true e0_c172 (addF true e0_c168 (addF true e0_c164 (addF true e0_c113 (addF true e0_c63 e0_Hy)))))))
theorem e0_p6run : enter Try.prog G Gh 6000 40 8 e0_p6Hy e0_Ls [] = some ([], .s (.bool (.blit true)), none) := by kernel_rfl
def e0_p7Hy : Hyp := (addF false e0_c176 (addF true e0_c172 (addF true e0_c168 (addF true e0_c164 (addF true e0_c113 (addF true e0_c63 e0_Hy))))))
theorem e0_p7run : enter Try.prog G Gh 6000 40 8 e0_p7Hy e0_Ls [] = some ([], .s (.bool (.blit true)), none) := by kernel_rfl
def e0_p8Hy : Hyp := (addF false e0_c172 (addF true e0_c168 (addF true e0_c164 (addF true e0_c113 (addF true e0_c63 e0_Hy)))))
theorem e0_p8run : enter Try.prog G Gh 6000 40 8 e0_p8Hy e0_Ls [] = some ([], .s (.bool (.blit true)), none) := by kernel_rfl
def e0_p9Hy : Hyp := (addF false e0_c168 (addF true e0_c164 (addF true e0_c113 (addF true e0_c63 e0_Hy))))
theorem e0_p9run : enter Try.prog G Gh 6000 40 8 e0_p9Hy e0_Ls [] = some ([], .s (.bool (.blit true)), none) := by kernel_rfl
def e0_p10Hy : Hyp := (addF false e0_c164 (addF true e0_c113 (addF true e0_c63 e0_Hy)))
theorem e0_p10run : enter Try.prog G Gh 6000 40 8 e0_p10Hy e0_Ls [] = some ([], .s (.bool (.blit true)), none) := by kernel_rfl
def e0_p11Hy : Hyp := (addF false e0_c113 (addF true e0_c63 e0_Hy))
theorem e0_p11run : enter Try.prog G Gh 6000 40 8 e0_p11Hy e0_Ls [] = some ([], .s (.bool (.blit true)), none) := by kernel_rfl
def e0_p12Hy : Hyp := (addF false e0_c63 e0_Hy)
theorem e0_p12run : enter Try.prog G Gh 6000 40 8 e0_p12Hy e0_Ls [] = some ([], .s (.bool (.blit true)), none) := by kernel_rfl
theorem e0_calls (c0 : List Value) (l0 : c0.length = pcTotal Pc0) (f0 : PcFit c0 0 Pc0) (c1 : List Value) (l1 : c1.length = pcTotal Pc1) (f1 : PcFit c1 0 Pc1) (a2 : Int) (w2 : 0 ≤ a2 ∧ a2 ≤ 255) (a3 : Int) (w3 : (Lit.int .u16 a3).wf = true) (hex0 : (arrOf c0 0 64) 5 % 8 = 0) (w : World) :
    Calls Try.prog 8 #[.agg c0.toArray, .agg c1.toArray, .int .i64 a2, .int .u16 a3] w fun r w' => r = .returned (.bool true) ∧ Below w.heap.size w w' := by
  have hc0 : cellsOf (⟨[intV (c0.getD 78 Go.undef), intV (c0.getD 79 Go.undef), intV (c0.getD 80 Go.undef), intV (c1.getD 1 Go.undef), intV (c1.getD 2 Go.undef), intV (c1.getD 3 Go.undef), intV (c1.getD 5 Go.undef), intV (c1.getD 6 Go.undef), intV (c1.getD 7 Go.undef), intV (c1.getD 9 Go.undef), intV (c1.getD 10 Go.undef), intV (c1.getD 11 Go.undef), intV (c1.getD 13 Go.undef), intV (c1.getD 14 Go.undef), intV (c1.getD 15 Go.undef), intV (c1.getD 17 Go.undef), intV (c1.getD 18 Go.undef), intV (c1.getD 19 Go.undef), a2, a3], [boolV (c1.getD 0 Go.undef), boolV (c1.getD 4 Go.undef), boolV (c1.getD 8 Go.undef), boolV (c1.getD 12 Go.undef), boolV (c1.getD 16 Go.undef)], [arrOf c0 0 64, arrOf c0 64 4, arrOf c0 68 4, arrOf c0 72 6], [], Iv (fun _ _ => Ext.none)⟩ : Env) Loc.id (pcSegs 0 0 0 Pc0) = c0 := by
    rw [pc_cells Pc0 0 0 0 0 f0 (by intro j hj; rcases j with _ | _ | _ | _ | j <;> first | rfl | (simp [Pc0, pcA, pcB, pcI] at hj; omega)) (by intro j hj; simp [Pc0, pcA, pcB, pcI] at hj) (by intro j hj; rcases j with _ | _ | _ | j <;> first | rfl | (simp [Pc0, pcA, pcB, pcI] at hj; omega)), List.drop_zero, ← l0, List.take_length]
  have hc1 : cellsOf (⟨[intV (c0.getD 78 Go.undef), intV (c0.getD 79 Go.undef), intV (c0.getD 80 Go.undef), intV (c1.getD 1 Go.undef), intV (c1.getD 2 Go.undef), intV (c1.getD 3 Go.undef), intV (c1.getD 5 Go.undef), intV (c1.getD 6 Go.undef), intV (c1.getD 7 Go.undef), intV (c1.getD 9 Go.undef), intV (c1.getD 10 Go.undef), intV (c1.getD 11 Go.undef), intV (c1.getD 13 Go.undef), intV (c1.getD 14 Go.undef), intV (c1.getD 15 Go.undef), intV (c1.getD 17 Go.undef), intV (c1.getD 18 Go.undef), intV (c1.getD 19 Go.undef), a2, a3], [boolV (c1.getD 0 Go.undef), boolV (c1.getD 4 Go.undef), boolV (c1.getD 8 Go.undef), boolV (c1.getD 12 Go.undef), boolV (c1.getD 16 Go.undef)], [arrOf c0 0 64, arrOf c0 64 4, arrOf c0 68 4, arrOf c0 72 6], [], Iv (fun _ _ => Ext.none)⟩ : Env) Loc.id (pcSegs 4 0 3 Pc1) = c1 := by
    rw [pc_cells Pc1 0 4 0 3 f1 (by intro j hj; simp [Pc1, pcA, pcB, pcI] at hj) (by intro j hj; rcases j with _ | _ | _ | _ | _ | j <;> first | rfl | (simp [Pc1, pcA, pcB, pcI] at hj; omega)) (by intro j hj; rcases j with _ | _ | _ | _ | _ | _ | _ | _ | _ | _ | _ | _ | _ | _ | _ | j <;> first | rfl | (simp [Pc1, pcA, pcB, pcI] at hj; omega)), List.drop_zero, ← l1, List.take_length]
  have hargs : (e0_Ls.map (SV.conc (⟨[intV (c0.getD 78 Go.undef), intV (c0.getD 79 Go.undef), intV (c0.getD 80 Go.undef), intV (c1.getD 1 Go.undef), intV (c1.getD 2 Go.undef), intV (c1.getD 3 Go.undef), intV (c1.getD 5 Go.undef), intV (c1.getD 6 Go.undef), intV (c1.getD 7 Go.undef), intV (c1.getD 9 Go.undef), intV (c1.getD 10 Go.undef), intV (c1.getD 11 Go.undef), intV (c1.getD 13 Go.undef), intV (c1.getD 14 Go.undef), intV (c1.getD 15 Go.undef), intV (c1.getD 17 Go.undef), intV (c1.getD 18 Go.undef), intV (c1.getD 19 Go.undef), a2, a3], [boolV (c1.getD 0 Go.undef), boolV (c1.getD 4 Go.undef), boolV (c1.getD 8 Go.undef), boolV (c1.getD 12 Go.undef), boolV (c1.getD 16 Go.undef)], [arrOf c0 0 64, arrOf c0 64 4, arrOf c0 68 4, arrOf c0 72 6], [], Iv (fun _ _ => Ext.none)⟩ : Env) Loc.id)).toArray = #[.agg c0.toArray, .agg c1.toArray, .int .i64 a2, .int .u16 a3] := by
    refine congrArg List.toArray ?_
    exact (cons_eq (congrArg (fun l => Value.agg (List.toArray l)) hc0) (cons_eq (congrArg (fun l => Value.agg (List.toArray l)) hc1) (cons_eq rfl (cons_eq rfl rfl))))
  rw [← hargs]
  have hok : Hyp.ok e0_Hy (⟨[intV (c0.getD 78 Go.undef), intV (c0.getD 79 Go.undef), intV (c0.getD 80 Go.undef), intV (c1.getD 1 Go.undef), intV (c1.getD 2 Go.undef), intV (c1.getD 3 Go.undef), intV (c1.getD 5 Go.undef), intV (c1.getD 6 Go.undef), intV (c1.getD 7 Go.undef), intV (c1.getD 9 Go.undef), intV (c1.getD 10 Go.undef), intV (c1.getD 11 Go.undef), intV (c1.getD 13 Go.undef), intV (c1.getD 14 Go.undef), intV (c1.getD 15 Go.undef), intV (c1.getD 17 Go.undef), intV (c1.getD 18 Go.undef), intV (c1.getD 19 Go.undef), a2, a3], [boolV (c1.getD 0 Go.undef), boolV (c1.getD 4 Go.undef), boolV (c1.getD 8 Go.undef), boolV (c1.getD 12 Go.undef), boolV (c1.getD 16 Go.undef)], [arrOf c0 0 64, arrOf c0 64 4, arrOf c0 68 4, arrOf c0 72 6], [], Iv (fun _ _ => Ext.none)⟩ : Env) := by
    refine ⟨?_, ?_, ?_, by simp [e0_Hy], ?_, by simp [e0_Hy]⟩
    · simp [e0_Hy]
    · intro p hp
      simp only [e0_Hy, List.mem_cons, List.not_mem_nil, or_false] at hp
      rcases hp with rfl | rfl | rfl | rfl | rfl | rfl | rfl | rfl | rfl | rfl | rfl | rfl | rfl | rfl | rfl | rfl | rfl | rfl | rfl | rfl | rfl
      · exact num_rng (f0.tail.tail.tail.tail)
      · exact num_rng (f0.tail.tail.tail.tail.tail)
      · exact num_rng (f0.tail.tail.tail.tail.tail.tail)
      · exact num_rng (f1.tail)
      · exact num_rng (f1.tail.tail)
      · exact num_rng (f1.tail.tail.tail)
      · exact num_rng (f1.tail.tail.tail.tail.tail)
      · exact num_rng (f1.tail.tail.tail.tail.tail.tail)
      · exact num_rng (f1.tail.tail.tail.tail.tail.tail.tail)
      · exact num_rng (f1.tail.tail.tail.tail.tail.tail.tail.tail.tail)
      · exact num_rng (f1.tail.tail.tail.tail.tail.tail.tail.tail.tail.tail)
      · exact num_rng (f1.tail.tail.tail.tail.tail.tail.tail.tail.tail.tail.tail)
      · exact num_rng (f1.tail.tail.tail.tail.tail.tail.tail.tail.tail.tail.tail.tail.tail)
      · exact num_rng (f1.tail.tail.tail.tail.tail.tail.tail.tail.tail.tail.tail.tail.tail.tail)
      · exact num_rng (f1.tail.tail.tail.tail.tail.tail.tail.tail.tail.tail.tail.tail.tail.tail.tail)
      · exact num_rng (f1.tail.tail.tail.tail.tail.tail.tail.tail.tail.tail.tail.tail.tail.tail.tail.tail.tail)
      · exact num_rng (f1.tail.tail.tail.tail.tail.tail.tail.tail.tail.tail.tail.tail.tail.tail.tail.tail.tail.tail)
      · exact num_rng (f1.tail.tail.tail.tail.tail.tail.tail.tail.tail.tail.tail.tail.tail.tail.tail.tail.tail.tail.tail)
      · exact w2
      · exact bounds_u16 w3
      · exact (by have hx := hex0; first | exact ⟨Int.le_of_eq hx.symm, Int.le_of_eq hx⟩ | exact hx)
    · intro p hp
      simp only [e0_Hy, List.mem_cons, List.not_mem_nil, or_false] at hp
      rcases hp with rfl | rfl | rfl | rfl
      · exact arrOf_rng (f0)
      · exact arrOf_rng (f0.tail)
      · exact arrOf_rng (f0.tail.tail)
      · exact arrOf_rng (f0.tail.tail.tail)
    · simp [e0_Hy]
  cases h0 : E.b (⟨[intV (c0.getD 78 Go.undef), intV (c0.getD 79 Go.undef), intV (c0.getD 80 Go.undef), intV (c1.getD 1 Go.undef), intV (c1.getD 2 Go.undef), intV (c1.getD 3 Go.undef), intV (c1.getD 5 Go.undef), intV (c1.getD 6 Go.undef), intV (c1.getD 7 Go.undef), intV (c1.getD 9 Go.undef), intV (c1.getD 10 Go.undef), intV (c1.getD 11 Go.undef), intV (c1.getD 13 Go.undef), intV (c1.getD 14 Go.undef), intV (c1.getD 15 Go.undef), intV (c1.getD 17 Go.undef), intV (c1.getD 18 Go.undef), intV (c1.getD 19 Go.undef), a2, a3], [boolV (c1.getD 0 Go.undef), boolV (c1.getD 4 Go.undef), boolV (c1.getD 8 Go.undef), boolV (c1.getD 12 Go.undef), boolV (c1.getD 16 Go.undef)], [arrOf c0 0 64, arrOf c0 64 4, arrOf c0 68 4, arrOf c0 72 6], [], Iv (fun _ _ => Ext.none)⟩ : Env) e0_c63 with
  | false =>
    exact law_true (ρ := (⟨[intV (c0.getD 78 Go.undef), intV (c0.getD 79 Go.undef), intV (c0.getD 80 Go.undef), intV (c1.getD 1 Go.undef), intV (c1.getD 2 Go.undef), intV (c1.getD 3 Go.undef), intV (c1.getD 5 Go.undef), intV (c1.getD 6 Go.undef), intV (c1.getD 7 Go.undef), intV (c1.getD 9 Go.undef), intV (c1.getD 10 Go.undef), intV (c1.getD 11 Go.undef), intV (c1.getD 13 Go.undef), intV (c1.getD 14 Go.undef), intV (c1.getD 15 Go.undef), intV (c1.getD 17 Go.undef), intV (c1.getD 18 Go.undef), intV (c1.getD 19 Go.undef), a2, a3], [boolV (c1.getD 0 Go.undef), boolV (c1.getD 4 Go.undef), boolV (c1.getD 8 Go.undef), boolV (c1.getD 12 Go.undef), boolV (c1.getD 16 Go.undef)], [arrOf c0 0 64, arrOf c0 64 4, arrOf c0 68 4, arrOf c0 72 6], [], Iv (fun _ _ => Ext.none)⟩ : Env)) (G_ok _) (by kernel_rfl) e0_p12run rfl (addF_ok _ _ _ hok h0) (by intro e he; cases he) rfl w (fun i j => Ext.none_ok _)
  | true =>
    cases h1 : E.b (⟨[intV (c0.getD 78 Go.undef), intV (c0.getD 79 Go.undef), intV (c0.getD 80 Go.undef), intV (c1.getD 1 Go.undef), intV (c1.getD 2 Go.undef), intV (c1.getD 3 Go.undef), intV (c1.getD 5 Go.undef), intV (c1.getD 6 Go.undef), intV (c1.getD 7 Go.undef), intV (c1.getD 9 Go.undef), intV (c1.getD 10 Go.undef), intV (c1.getD 11 Go.undef), intV (c1.getD 13 Go.undef), intV (c1.getD 14 Go.undef), intV (c1.getD 15 Go.undef), intV (c1.getD 17 Go.undef), intV (c1.getD 18 Go.undef), intV (c1.getD 19 Go.undef), a2, a3], [boolV (c1.getD 0 Go.undef), boolV (c1.getD 4 Go.undef), boolV (c1.getD 8 Go.undef), boolV (c1.getD 12 Go.undef), boolV (c1.getD 16 Go.undef)], [arrOf c0 0 64, arrOf c0 64 4, arrOf c0 68 4, arrOf c0 72 6], [], Iv (fun _ _ => Ext.none)⟩ : Env) e0_c113 with
    | false =>
      exact law_true (ρ := (⟨[intV (c0.getD 78 Go.undef), intV (c0.getD 79 Go.undef), intV (c0.getD 80 Go.undef), intV (c1.getD 1 Go.undef), intV (c1.getD 2 Go.undef), intV (c1.getD 3 Go.undef), intV (c1.getD 5 Go.undef), intV (c1.getD 6 Go.undef), intV (c1.getD 7 Go.undef), intV (c1.getD 9 Go.undef), intV (c1.getD 10 Go.undef), intV (c1.getD 11 Go.undef), intV (c1.getD 13 Go.undef), intV (c1.getD 14 Go.undef), intV (c1.getD 15 Go.undef), intV (c1.getD 17 Go.undef), intV (c1.getD 18 Go.undef), intV (c1.getD 19 Go.undef), a2, a3], [boolV (c1.getD 0 Go.undef), boolV (c1.getD 4 Go.undef), boolV (c1.getD 8 Go.undef), boolV (c1.getD 12 Go.undef), boolV (c1.getD 16 Go.undef)], [arrOf c0 0 64, arrOf c0 64 4, arrOf c0 68 4, arrOf c0 72 6], [], Iv (fun _ _ => Ext.none)⟩ : Env)) (G_ok _) (by kernel_rfl) e0_p11run rfl (addF_ok _ _ _ (addF_ok _ _ _ hok h0) h1) (by intro e he; cases he) rfl w (fun i j => Ext.none_ok _)
    | true =>
      cases h2 : E.b (⟨[intV (c0.getD 78 Go.undef), intV (c0.getD 79 Go.undef), intV (c0.getD 80 Go.undef), intV (c1.getD 1 Go.undef), intV (c1.getD 2 Go.undef), intV (c1.getD 3 Go.undef), intV (c1.getD 5 Go.undef), intV (c1.getD 6 Go.undef), intV (c1.getD 7 Go.undef), intV (c1.getD 9 Go.undef), intV (c1.getD 10 Go.undef), intV (c1.getD 11 Go.undef), intV (c1.getD 13 Go.undef), intV (c1.getD 14 Go.undef), intV (c1.getD 15 Go.undef), intV (c1.getD 17 Go.undef), intV (c1.getD 18 Go.undef), intV (c1.getD 19 Go.undef), a2, a3], [boolV (c1.getD 0 Go.undef), boolV (c1.getD 4 Go.undef), boolV (c1.getD 8 Go.undef), boolV (c1.getD 12 Go.undef), boolV (c1.getD 16 Go.undef)], [arrOf c0 0 64, arrOf c0 64 4, arrOf c0 68 4, arrOf c0 72 6], [], Iv (fun _ _ => Ext.none)⟩ : Env) e0_c164 with
      | false =>
        exact law_true (ρ := (⟨[intV (c0.getD 78 Go.undef), intV (c0.getD 79 Go.undef), intV (c0.getD 80 Go.undef), intV (c1.getD 1 Go.undef), intV (c1.getD 2 Go.undef), intV (c1.getD 3 Go.undef), intV (c1.getD 5 Go.undef), intV (c1.getD 6 Go.undef), intV (c1.getD 7 Go.undef), intV (c1.getD 9 Go.undef), intV (c1.getD 10 Go.undef), intV (c1.getD 11 Go.undef), intV (c1.getD 13 Go.undef), intV (c1.getD 14 Go.undef), intV (c1.getD 15 Go.undef), intV (c1.getD 17 Go.undef), intV (c1.getD 18 Go.undef), intV (c1.getD 19 Go.undef), a2, a3], [boolV (c1.getD 0 Go.undef), boolV (c1.getD 4 Go.undef), boolV (c1.getD 8 Go.undef), boolV (c1.getD 12 Go.undef), boolV (c1.getD 16 Go.undef)], [arrOf c0 0 64, arrOf c0 64 4, arrOf c0 68 4, arrOf c0 72 6], [], Iv (fun _ _ => Ext.none)⟩ : Env)) (G_ok _) (by kernel_rfl) e0_p10run rfl (addF_ok _ _ _ (addF_ok _ _ _ (addF_ok _ _ _ hok h0) h1) h2) (by intro e he; cases he) rfl w (fun i j => Ext.none_ok _)
      | true =>
        cases h3 : E.b (⟨[intV (c0.getD 78 Go.undef), intV (c0.getD 79 Go.undef), intV (c0.getD 80 Go.undef), intV (c1.getD 1 Go.undef), intV (c1.getD 2 Go.undef), intV (c1.getD 3 Go.undef), intV (c1.getD 5 Go.undef), intV (c1.getD 6 Go.undef), intV (c1.getD 7 Go.undef), intV (c1.getD 9 Go.undef), intV (c1.getD 10 Go.undef), intV (c1.getD 11 Go.undef), intV (c1.getD 13 Go.undef), intV (c1.getD 14 Go.undef), intV (c1.getD 15 Go.undef), intV (c1.getD 17 Go.undef), intV (c1.getD 18 Go.undef), intV (c1.getD 19 Go.undef), a2, a3], [boolV (c1.getD 0 Go.undef), boolV (c1.getD 4 Go.undef), boolV (c1.getD 8 Go.undef), boolV (c1.getD 12 Go.undef), boolV (c1.getD 16 Go.undef)], [arrOf c0 0 64, arrOf c0 64 4, arrOf c0 68 4, arrOf c0 72 6], [], Iv (fun _ _ => Ext.none)⟩ : Env) e0_c168 with
        | false =>
          exact law_true (ρ := (⟨[intV (c0.getD 78 Go.undef), intV (c0.getD 79 Go.undef), intV (c0.getD 80 Go.undef), intV (c1.getD 1 Go.undef), intV (c1.getD 2 Go.undef), intV (c1.getD 3 Go.undef), intV (c1.getD 5 Go.undef), intV (c1.getD 6 Go.undef), intV (c1.getD 7 Go.undef), intV (c1.getD 9 Go.undef), intV (c1.getD 10 Go.undef), intV (c1.getD 11 Go.undef), intV (c1.getD 13 Go.undef), intV (c1.getD 14 Go.undef), intV (c1.getD 15 Go.undef), intV (c1.getD 17 Go.undef), intV (c1.getD 18 Go.undef), intV (c1.getD 19 Go.undef), a2, a3], [boolV (c1.getD 0 Go.undef), boolV (c1.getD 4 Go.undef), boolV (c1.getD 8 Go.undef), boolV (c1.getD 12 Go.undef), boolV (c1.getD 16 Go.undef)], [arrOf c0 0 64, arrOf c0 64 4, arrOf c0 68 4, arrOf c0 72 6], [], Iv (fun _ _ => Ext.none)⟩ : Env)) (G_ok _) (by kernel_rfl) e0_p9run rfl (addF_ok _ _ _ (addF_ok _ _ _ (addF_ok _ _ _ (addF_ok _ _ _ hok h0) h1) h2) h3) (by intro e he; cases he) rfl w (fun i j => Ext.none_ok _)
        | true =>
          cases h4 : E.b (⟨[intV (c0.getD 78 Go.undef), intV (c0.getD 79 Go.undef), intV (c0.getD 80 Go.undef), intV (c1.getD 1 Go.undef), intV (c1.getD 2 Go.undef), intV (c1.getD 3 Go.undef), intV (c1.getD 5 Go.undef), intV (c1.getD 6 Go.undef), intV (c1.getD 7 Go.undef), intV (c1.getD 9 Go.undef), intV (c1.getD 10 Go.undef), intV (c1.getD 11 Go.undef), intV (c1.getD 13 Go.undef), intV (c1.getD 14 Go.undef), intV (c1.getD 15 Go.undef), intV (c1.getD 17 Go.undef), intV (c1.getD 18 Go.undef), intV (c1.getD 19 Go.undef), a2, a3], [boolV (c1.getD 0 Go.undef), boolV (c1.getD 4 Go.undef), boolV (c1.getD 8 Go.undef), boolV (c1.getD 12 Go.undef), boolV (c1.getD 16 Go.undef)], [arrOf c0 0 64, arrOf c0 64 4, arrOf c0 68 4, arrOf c0 72 6], [], Iv (fun _ _ => Ext.none)⟩ : Env) e0_c172 with
          | false =>
            exact law_true (ρ := (⟨[intV (c0.getD 78 Go.undef), intV (c0.getD 79 Go.undef), intV (c0.getD 80 Go.undef), intV (c1.getD 1 Go.undef), intV (c1.getD 2 Go.undef), intV (c1.getD 3 Go.undef), intV (c1.getD 5 Go.undef), intV (c1.getD 6 Go.undef), intV (c1.getD 7 Go.undef), intV (c1.getD 9 Go.undef), intV (c1.getD 10 Go.undef), intV (c1.getD 11 Go.undef), intV (c1.getD 13 Go.undef), intV (c1.getD 14 Go.undef), intV (c1.getD 15 Go.undef), intV (c1.getD 17 Go.undef), intV (c1.getD 18 Go.undef), intV (c1.getD 19 Go.undef), a2, a3], [boolV (c1.getD 0 Go.undef), boolV (c1.getD 4 Go.undef), boolV (c1.getD 8 Go.undef), boolV (c1.getD 12 Go.undef), boolV (c1.getD 16 Go.undef)], [arrOf c0 0 64, arrOf c0 64 4, arrOf c0 68 4, arrOf c0 72 6], [], Iv (fun _ _ => Ext.none)⟩ : Env)) (G_ok _) (by kernel_rfl) e0_p8run rfl (addF_ok _ _ _ (addF_ok _ _ _ (addF_ok _ _ _ (addF_ok _ _ _ (addF_ok _ _ _ hok h0) h1) h2) h3) h4) (by intro e he; cases he) rfl w (fun i j => Ext.none_ok _)
          | true =>
            cases h5 : E.b (⟨[intV (c0.getD 78 Go.undef), intV (c0.getD 79 Go.undef), intV (c0.getD 80 Go.undef), intV (c1.getD 1 Go.undef), intV (c1.getD 2 Go.undef), intV (c1.getD 3 Go.undef), intV (c1.getD 5 Go.undef), intV (c1.getD 6 Go.undef), intV (c1.getD 7 Go.undef), intV (c1.getD 9 Go.undef), intV (c1.getD 10 Go.undef), intV (c1.getD 11 Go.undef), intV (c1.getD 13 Go.undef), intV (c1.getD 14 Go.undef), intV (c1.getD 15 Go.undef), intV (c1.getD 17 Go.undef), intV (c1.getD 18 Go.undef), intV (c1.getD 19 Go.undef), a2, a3], [boolV (c1.getD 0 Go.undef), boolV (c1.getD 4 Go.undef), boolV (c1.getD 8 Go.undef), boolV (c1.getD 12 Go.undef), boolV (c1.getD 16 Go.undef)], [arrOf c0 0 64, arrOf c0 64 4, arrOf c0 68 4, arrOf c0 72 6], [], Iv (fun _ _ => Ext.none)⟩ : Env) e0_c176 with
            | false =>
              exact law_true (ρ := (⟨[intV (c0.getD 78 Go.undef), intV (c0.getD 79 Go.undef), intV (c0.getD 80 Go.undef), intV (c1.getD 1 Go.undef), intV (c1.getD 2 Go.undef), intV (c1.getD 3 Go.undef), intV (c1.getD 5 Go.undef), intV (c1.getD 6 Go.undef), intV (c1.getD 7 Go.undef), intV (c1.getD 9 Go.undef), intV (c1.getD 10 Go.undef), intV (c1.getD 11 Go.undef), intV (c1.getD 13 Go.undef), intV (c1.getD 14 Go.undef), intV (c1.getD 15 Go.undef), intV (c1.getD 17 Go.undef), intV (c1.getD 18 Go.undef), intV (c1.getD 19 Go.undef), a2, a3], [boolV (c1.getD 0 Go.undef), boolV (c1.getD 4 Go.undef), boolV (c1.getD 8 Go.undef), boolV (c1.getD 12 Go.undef), boolV (c1.getD 16 Go.undef)], [arrOf c0 0 64, arrOf c0 64 4, arrOf c0 68 4, arrOf c0 72 6], [], Iv (fun _ _ => Ext.none)⟩ : Env)) (G_ok _) (by kernel_rfl) e0_p7run rfl (addF_ok _ _ _ (addF_ok _ _ _ (addF_ok _ _ _ (addF_ok _ _ _ (addF_ok _ _ _ (addF_ok _ _ _ hok h0) h1) h2) h3) h4) h5) (by intro e he; cases he) rfl w (fun i j => Ext.none_ok _)
            | true =>
              cases h6 : E.b (⟨[intV (c0.getD 78 Go.undef), intV (c0.getD 79 Go.undef), intV (c0.getD 80 Go.undef), intV (c1.getD 1 Go.undef), intV (c1.getD 2 Go.undef), intV (c1.getD 3 Go.undef), intV (c1.getD 5 Go.undef), intV (c1.getD 6 Go.undef), intV (c1.getD 7 Go.undef), intV (c1.getD 9 Go.undef), intV (c1.getD 10 Go.undef), intV (c1.getD 11 Go.undef), intV (c1.getD 13 Go.undef), intV (c1.getD 14 Go.undef), intV (c1.getD 15 Go.undef), intV (c1.getD 17 Go.undef), intV (c1.getD 18 Go.undef), intV (c1.getD 19 Go.undef), a2, a3], [boolV (c1.getD 0 Go.undef), boolV (c1.getD 4 Go.undef), boolV (c1.getD 8 Go.undef), boolV (c1.getD 12 Go.undef), boolV (c1.getD 16 Go.undef)], [arrOf c0 0 64, arrOf c0 64 4, arrOf c0 68 4, arrOf c0 72 6], [], Iv (fun _ _ => Ext.none)⟩ : Env) e0_c180 with
              | false =>
                exact law_true (ρ := (⟨[intV (c0.getD 78 Go.undef), intV (c0.getD 79 Go.undef), intV (c0.getD 80 Go.undef), intV (c1.getD 1 Go.undef), intV (c1.getD 2 Go.undef), intV (c1.getD 3 Go.undef), intV (c1.getD 5 Go.undef), intV (c1.getD 6 Go.undef), intV (c1.getD 7 Go.undef), intV (c1.getD 9 Go.undef), intV (c1.getD 10 Go.undef), intV (c1.getD 11 Go.undef), intV (c1.getD 13 Go.undef), intV (c1.getD 14 Go.undef), intV (c1.getD 15 Go.undef), intV (c1.getD 17 Go.undef), intV (c1.getD 18 Go.undef), intV (c1.getD 19 Go.undef), a2, a3], [boolV (c1.getD 0 Go.undef), boolV (c1.getD 4 Go.undef), boolV (c1.getD 8 Go.undef), boolV (c1.getD 12 Go.undef), boolV (c1.getD 16 Go.undef)], [arrOf c0 0 64, arrOf c0 64 4, arrOf c0 68 4, arrOf c0 72 6], [], Iv (fun _ _ => Ext.none)⟩ : Env)) (G_ok _) (by kernel_rfl) e0_p6run rfl (addF_ok _ _ _ (addF_ok _ _ _ (addF_ok _ _ _ (addF_ok _ _ _ (addF_ok _ _ _ (addF_ok _ _ _ (addF_ok _ _ _ hok h0) h1) h2) h3) h4) h5) h6) (by intro e he; cases he) rfl w (fun i j => Ext.none_ok _)
              | true =>
                cases h7 : E.b (⟨[intV (c0.getD 78 Go.undef), intV (c0.getD 79 Go.undef), intV (c0.getD 80 Go.undef), intV (c1.getD 1 Go.undef), intV (c1.getD 2 Go.undef), intV (c1.getD 3 Go.undef), intV (c1.getD 5 Go.undef), intV (c1.getD 6 Go.undef), intV (c1.getD 7 Go.undef), intV (c1.getD 9 Go.undef), intV (c1.getD 10 Go.undef), intV (c1.getD 11 Go.undef), intV (c1.getD 13 Go.undef), intV (c1.getD 14 Go.undef), intV (c1.getD 15 Go.undef), intV (c1.getD 17 Go.undef), intV (c1.getD 18 Go.undef), intV (c1.getD 19 Go.undef), a2, a3], [boolV (c1.getD 0 Go.undef), boolV (c1.getD 4 Go.undef), boolV (c1.getD 8 Go.undef), boolV (c1.getD 12 Go.undef), boolV (c1.getD 16 Go.undef)], [arrOf c0 0 64, arrOf c0 64 4, arrOf c0 68 4, arrOf c0 72 6], [], Iv (fun _ _ => Ext.none)⟩ : Env) e0_c232 with
                | false =>
                  exact law_true (ρ := (⟨[intV (c0.getD 78 Go.undef), intV (c0.getD 79 Go.undef), intV (c0.getD 80 Go.undef), intV (c1.getD 1 Go.undef), intV (c1.getD 2 Go.undef), intV (c1.getD 3 Go.undef), intV (c1.getD 5 Go.undef), intV (c1.getD 6 Go.undef), intV (c1.getD 7 Go.undef), intV (c1.getD 9 Go.undef), intV (c1.getD 10 Go.undef), intV (c1.getD 11 Go.undef), intV (c1.getD 13 Go.undef), intV (c1.getD 14 Go.undef), intV (c1.getD 15 Go.undef), intV (c1.getD 17 Go.undef), intV (c1.getD 18 Go.undef), intV (c1.getD 19 Go.undef), a2, a3], [boolV (c1.getD 0 Go.undef), boolV (c1.getD 4 Go.undef), boolV (c1.getD 8 Go.undef), boolV (c1.getD 12 Go.undef), boolV (c1.getD 16 Go.undef)], [arrOf c0 0 64, arrOf c0 64 4, arrOf c0 68 4, arrOf c0 72 6], [], Iv (fun _ _ => Ext.none)⟩ : Env)) (G_ok _) (by kernel_rfl) e0_p5run rfl (addF_ok _ _ _ (addF_ok _ _ _ (addF_ok _ _ _ (addF_ok _ _ _ (addF_ok _ _ _ (addF_ok _ _ _ (addF_ok _ _ _ (addF_ok _ _ _ hok h0) h1) h2) h3) h4) h5) h6) h7) (by intro e he; cases he) rfl w (fun i j => Ext.none_ok _)
                | true =>
                  cases h8 : E.b (⟨[intV (c0.getD 78 Go.undef), intV (c0.getD 79 Go.undef), intV (c0.getD 80 Go.undef), intV (c1.getD 1 Go.undef), intV (c1.getD 2 Go.undef), intV (c1.getD 3 Go.undef), intV (c1.getD 5 Go.undef), intV (c1.getD 6 Go.undef), intV (c1.getD 7 Go.undef), intV (c1.getD 9 Go.undef), intV (c1.getD 10 Go.undef), intV (c1.getD 11 Go.undef), intV (c1.getD 13 Go.undef), intV (c1.getD 14 Go.undef), intV (c1.getD 15 Go.undef), intV (c1.getD 17 Go.undef), intV (c1.getD 18 Go.undef), intV (c1.getD 19 Go.undef), a2, a3], [boolV (c1.getD 0 Go.undef), boolV (c1.getD 4 Go.undef), boolV (c1.getD 8 Go.undef), boolV (c1.getD 12 Go.undef), boolV (c1.getD 16 Go.undef)], [arrOf c0 0 64, arrOf c0 64 4, arrOf c0 68 4, arrOf c0 72 6], [], Iv (fun _ _ => Ext.none)⟩ : Env) e0_c282 with
                  | false =>
                    exact law_true (ρ := (⟨[intV (c0.getD 78 Go.undef), intV (c0.getD 79 Go.undef), intV (c0.getD 80 Go.undef), intV (c1.getD 1 Go.undef), intV (c1.getD 2 Go.undef), intV (c1.getD 3 Go.undef), intV (c1.getD 5 Go.undef), intV (c1.getD 6 Go.undef), intV (c1.getD 7 Go.undef), intV (c1.getD 9 Go.undef), intV (c1.getD 10 Go.undef), intV (c1.getD 11 Go.undef), intV (c1.getD 13 Go.undef), intV (c1.getD 14 Go.undef), intV (c1.getD 15 Go.undef), intV (c1.getD 17 Go.undef), intV (c1.getD 18 Go.undef), intV (c1.getD 19 Go.undef), a2, a3], [boolV (c1.getD 0 Go.undef), boolV (c1.getD 4 Go.undef), boolV (c1.getD 8 Go.undef), boolV (c1.getD 12 Go.undef), boolV (c1.getD 16 Go.undef)], [arrOf c0 0 64, arrOf c0 64 4, arrOf c0 68 4, arrOf c0 72 6], [], Iv (fun _ _ => Ext.none)⟩ : Env)) (G_ok _) (by kernel_rfl) e0_p4run rfl (addF_ok _ _ _ (addF_ok _ _ _ (addF_ok _ _ _ (addF_ok _ _ _ (addF_ok _ _ _ (addF_ok _ _ _ (addF_ok _ _ _ (addF_ok _ _ _ (addF_ok _ _ _ hok h0) h1) h2) h3) h4) h5) h6) h7) h8) (by intro e he; cases he) rfl w (fun i j => Ext.none_ok _)
                  | true =>
                    cases h9 : E.b (⟨[intV (c0.getD 78 Go.undef), intV (c0.getD 79 Go.undef), intV (c0.getD 80 Go.undef), intV (c1.getD 1 Go.undef), intV (c1.getD 2 Go.undef), intV (c1.getD 3 Go.undef), intV (c1.getD 5 Go.undef), intV (c1.getD 6 Go.undef), intV (c1.getD 7 Go.undef), intV (c1.getD 9 Go.undef), intV (c1.getD 10 Go.undef), intV (c1.getD 11 Go.undef), intV (c1.getD 13 Go.undef), intV (c1.getD 14 Go.undef), intV (c1.getD 15 Go.undef), intV (c1.getD 17 Go.undef), intV (c1.getD 18 Go.undef), intV (c1.getD 19 Go.undef), a2, a3], [boolV (c1.getD 0 Go.undef), boolV (c1.getD 4 Go.undef), boolV (c1.getD 8 Go.undef), boolV (c1.getD 12 Go.undef), boolV (c1.getD 16 Go.undef)], [arrOf c0 0 64, arrOf c0 64 4, arrOf c0 68 4, arrOf c0 72 6], [], Iv (fun _ _ => Ext.none)⟩ : Env) e0_c286 with
                    | false =>
                      exact law_true (ρ := (⟨[intV (c0.getD 78 Go.undef), intV (c0.getD 79 Go.undef), intV (c0.getD 80 Go.undef), intV (c1.getD 1 Go.undef), intV (c1.getD 2 Go.undef), intV (c1.getD 3 Go.undef), intV (c1.getD 5 Go.undef), intV (c1.getD 6 Go.undef), intV (c1.getD 7 Go.undef), intV (c1.getD 9 Go.undef), intV (c1.getD 10 Go.undef), intV (c1.getD 11 Go.undef), intV (c1.getD 13 Go.undef), intV (c1.getD 14 Go.undef), intV (c1.getD 15 Go.undef), intV (c1.getD 17 Go.undef), intV (c1.getD 18 Go.undef), intV (c1.getD 19 Go.undef), a2, a3], [boolV (c1.getD 0 Go.undef), boolV (c1.getD 4 Go.undef), boolV (c1.getD 8 Go.undef), boolV (c1.getD 12 Go.undef), boolV (c1.getD 16 Go.undef)], [arrOf c0 0 64, arrOf c0 64 4, arrOf c0 68 4, arrOf c0 72 6], [], Iv (fun _ _ => Ext.none)⟩ : Env)) (G_ok _) (by kernel_rfl) e0_p3run rfl (addF_ok _ _ _ (addF_ok _ _ _ (addF_ok _ _ _ (addF_ok _ _ _ (addF_ok _ _ _ (addF_ok _ _ _ (addF_ok _ _ _ (addF_ok _ _ _ (addF_ok _ _ _ (addF_ok _ _ _ hok h0) h1) h2) h3) h4) h5) h6) h7) h8) h9) (by intro e he; cases he) rfl w (fun i j => Ext.none_ok _)
                    | true =>
                      cases h10 : E.b (⟨[intV (c0.getD 78 Go.undef), intV (c0.getD 79 Go.undef), intV (c0.getD 80 Go.undef), intV (c1.getD 1 Go.undef), intV (c1.getD 2 Go.undef), intV (c1.getD 3 Go.undef), intV (c1.getD 5 Go.undef), intV (c1.getD 6 Go.undef), intV (c1.getD 7 Go.undef), intV (c1.getD 9 Go.undef), intV (c1.getD 10 Go.undef), intV (c1.getD 11 Go.undef), intV (c1.getD 13 Go.undef), intV (c1.getD 14 Go.undef), intV (c1.getD 15 Go.undef), intV (c1.getD 17 Go.undef), intV (c1.getD 18 Go.undef), intV (c1.getD 19 Go.undef), a2, a3], [boolV (c1.getD 0 Go.undef), boolV (c1.getD 4 Go.undef), boolV (c1.getD 8 Go.undef), boolV (c1.getD 12 Go.undef), boolV (c1.getD 16 Go.undef)], [arrOf c0 0 64, arrOf c0 64 4, arrOf c0 68 4, arrOf c0 72 6], [], Iv (fun _ _ => Ext.none)⟩ : Env) e0_c290 with
                      | false =>
                        exact law_true (ρ := (⟨[intV (c0.getD 78 Go.undef), intV (c0.getD 79 Go.undef), intV (c0.getD 80 Go.undef), intV (c1.getD 1 Go.undef), intV (c1.getD 2 Go.undef), intV (c1.getD 3 Go.undef), intV (c1.getD 5 Go.undef), intV (c1.getD 6 Go.undef), intV (c1.getD 7 Go.undef), intV (c1.getD 9 Go.undef), intV (c1.getD 10 Go.undef), intV (c1.getD 11 Go.undef), intV (c1.getD 13 Go.undef), intV (c1.getD 14 Go.undef), intV (c1.getD 15 Go.undef), intV (c1.getD 17 Go.undef), intV (c1.getD 18 Go.undef), intV (c1.getD 19 Go.undef), a2, a3], [boolV (c1.getD 0 Go.undef), boolV (c1.getD 4 Go.undef), boolV (c1.getD 8 Go.undef), boolV (c1.getD 12 Go.undef), boolV (c1.getD 16 Go.undef)], [arrOf c0 0 64, arrOf c0 64 4, arrOf c0 68 4, arrOf c0 72 6], [], Iv (fun _ _ => Ext.none)⟩ : Env)) (G_ok _) (by kernel_rfl) e0_p2run rfl (addF_ok _ _ _ (addF_ok _ _ _ (addF_ok _ _ _ (addF_ok _ _ _ (addF_ok _ _ _ (addF_ok _ _ _ (addF_ok _ _ _ (addF_ok _ _ _ (addF_ok _ _ _ (addF_ok _ _ _ (addF_ok _ _ _ hok h0) h1) h2) h3) h4) h5) h6) h7) h8) h9) h10) (by intro e he; cases he) rfl w (fun i j => Ext.none_ok _)
                      | true =>
                        cases h11 : E.b (⟨[intV (c0.getD 78 Go.undef), intV (c0.getD 79 Go.undef), intV (c0.getD 80 Go.undef), intV (c1.getD 1 Go.undef), intV (c1.getD 2 Go.undef), intV (c1.getD 3 Go.undef), intV (c1.getD 5 Go.undef), intV (c1.getD 6 Go.undef), intV (c1.getD 7 Go.undef), intV (c1.getD 9 Go.undef), intV (c1.getD 10 Go.undef), intV (c1.getD 11 Go.undef), intV (c1.getD 13 Go.undef), intV (c1.getD 14 Go.undef), intV (c1.getD 15 Go.undef), intV (c1.getD 17 Go.undef), intV (c1.getD 18 Go.undef), intV (c1.getD 19 Go.undef), a2, a3], [boolV (c1.getD 0 Go.undef), boolV (c1.getD 4 Go.undef), boolV (c1.getD 8 Go.undef), boolV (c1.getD 12 Go.undef), boolV (c1.getD 16 Go.undef)], [arrOf c0 0 64, arrOf c0 64 4, arrOf c0 68 4, arrOf c0 72 6], [], Iv (fun _ _ => Ext.none)⟩ : Env) e0_c294 with
                        | false =>
                          exact law_true (ρ := (⟨[intV (c0.getD 78 Go.undef), intV (c0.getD 79 Go.undef), intV (c0.getD 80 Go.undef), intV (c1.getD 1 Go.undef), intV (c1.getD 2 Go.undef), intV (c1.getD 3 Go.undef), intV (c1.getD 5 Go.undef), intV (c1.getD 6 Go.undef), intV (c1.getD 7 Go.undef), intV (c1.getD 9 Go.undef), intV (c1.getD 10 Go.undef), intV (c1.getD 11 Go.undef), intV (c1.getD 13 Go.undef), intV (c1.getD 14 Go.undef), intV (c1.getD 15 Go.undef), intV (c1.getD 17 Go.undef), intV (c1.getD 18 Go.undef), intV (c1.getD 19 Go.undef), a2, a3], [boolV (c1.getD 0 Go.undef), boolV (c1.getD 4 Go.undef), boolV (c1.getD 8 Go.undef), boolV (c1.getD 12 Go.undef), boolV (c1.getD 16 Go.undef)], [arrOf c0 0 64, arrOf c0 64 4, arrOf c0 68 4, arrOf c0 72 6], [], Iv (fun _ _ => Ext.none)⟩ : Env)) (G_ok _) (by kernel_rfl) e0_p1run rfl (addF_ok _ _ _ (addF_ok _ _ _ (addF_ok _ _ _ (addF_ok _ _ _ (addF_ok _ _ _ (addF_ok _ _ _ (addF_ok _ _ _ (addF_ok _ _ _ (addF_ok _ _ _ (addF_ok _ _ _ (addF_ok _ _ _ (addF_ok _ _ _ hok h0) h1) h2) h3) h4) h5) h6) h7) h8) h9) h10) h11) (by intro e he; cases he) rfl w (fun i j => Ext.none_ok _)
                        | true =>
                          exact law_true (ρ := (⟨[intV (c0.getD 78 Go.undef), intV (c0.getD 79 Go.undef), intV (c0.getD 80 Go.undef), intV (c1.getD 1 Go.undef), intV (c1.getD 2 Go.undef), intV (c1.getD 3 Go.undef), intV (c1.getD 5 Go.undef), intV (c1.getD 6 Go.undef), intV (c1.getD 7 Go.undef), intV (c1.getD 9 Go.undef), intV (c1.getD 10 Go.undef), intV (c1.getD 11 Go.undef), intV (c1.getD 13 Go.undef), intV (c1.getD 14 Go.undef), intV (c1.getD 15 Go.undef), intV (c1.getD 17 Go.undef), intV (c1.getD 18 Go.undef), intV (c1.getD 19 Go.undef), a2, a3], [boolV (c1.getD 0 Go.undef), boolV (c1.getD 4 Go.undef), boolV (c1.getD 8 Go.undef), boolV (c1.getD 12 Go.undef), boolV (c1.getD 16 Go.undef)], [arrOf c0 0 64, arrOf c0 64 4, arrOf c0 68 4, arrOf c0 72 6], [], Iv (fun _ _ => Ext.none)⟩ : Env)) (G_ok _) (by kernel_rfl) e0_p0run rfl (addF_ok _ _ _ (addF_ok _ _ _ (addF_ok _ _ _ (addF_ok _ _ _ (addF_ok _ _ _ (addF_ok _ _ _ (addF_ok _ _ _ (addF_ok _ _ _ (addF_ok _ _ _ (addF_ok _ _ _ (addF_ok _ _ _ (addF_ok _ _ _ hok h0) h1) h2) h3) h4) h5) h6) h7) h8) h9) h10) h11) (by intro e he; cases he) rfl w (fun i j => Ext.none_ok _)
end Go.Proofs.Ytgbncbclhdnbmaa.BlendPlain
