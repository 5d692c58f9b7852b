/- A part of the law BlendPlain, which returns true for every input. Without a region and a math bit the colour is that of the layer in front, or what lies behind. No condition. -/
import Derived.Test.YtgbncbclhdnbmaaBlendPlain0
namespace Go.Proofs.Ytgbncbclhdnbmaa.BlendPlain
open Go.Sx Go.ChangeShapes Go.WideShapes Go.ChangeAt Go.RowKit
set_option linter.unusedVariables false
set_option linter.unusedSimpArgs false
set_option maxRecDepth 100000
def e1a_Hy : Hyp := ⟨[(.v 0, (-32768, 32767)), (.v 1, (-32768, 32767)), (.v 2, (0, 65535)), (.v 3, (0, 255)), (.v 4, (0, 255)), (.v 5, (0, 65535)), (.v 6, (0, 255)), (.v 7, (0, 255)), (.v 8, (0, 65535)), (.v 9, (0, 255)), (.v 10, (0, 255)), (.v 11, (0, 65535)), (.v 12, (0, 255)), (.v 13, (0, 255)), (.v 14, (0, 65535)), (.v 15, (0, 255)), (.v 16, (0, 255)), (.v 17, (0, 65535)), (.v 18, (0, 255)), (.v 19, (0, 65535)), ((.mod (.sel (.av 0) (.lit 5)) (.lit 8)), (1, 1)), ((.mod (.div (.sel (.av 0) (.lit 5)) (.lit 8)) (.lit 2)), (0, 0))], [(0, (0, 255)), (1, (0, 65535)), (2, (0, 65535)), (3, (-32768, 32767))], [], [], [], []⟩
def e1a_Ls : List SV := [.agg (pcSegs 0 0 0 Pc0), .agg (pcSegs 4 0 3 Pc1), .s (.int .i64 (.v 18)), .s (.int .u16 (.v 19))]
def e1a_c0 : E := .sel (.av 0) (.lit 44)
def e1a_c1 : E := .div e1a_c0 (.lit 16)
def e1a_c2 : E := .mod e1a_c1 (.lit 2)
def e1a_c3 : E := .eq e1a_c2 (.lit 0)
def e1a_c4 : E := .not (.bv 4)
def e1a_c5 : E := .or e1a_c3 e1a_c4
def e1a_c6 : E := .eq (.v 15) (.lit 3)
def e1a_c7 : E := .not e1a_c6
def e1a_c8 : E := .or e1a_c5 e1a_c7
def e1a_c9 : E := .sel (.av 0) (.lit 37)
def e1a_c10 : E := .div e1a_c9 (.lit 8)
def e1a_c11 : E := .mod e1a_c10 (.lit 2)
def e1a_c12 : E := .mul e1a_c11 (.lit 8)
def e1a_c13 : E := .div e1a_c9 (.lit 2)
def e1a_c14 : E := .mod e1a_c13 (.lit 2)
def e1a_c15 : E := .mul e1a_c14 (.lit 2)
def e1a_c16 : E := .add e1a_c12 e1a_c15
def e1a_c17 : E := .eq e1a_c16 (.lit 2)
def e1a_c18 : E := .sel (.av 0) (.lit 39)
def e1a_c19 : E := .le (.v 18) e1a_c18
def e1a_c20 : E := .sel (.av 0) (.lit 38)
def e1a_c21 : E := .le e1a_c20 (.v 18)
def e1a_c22 : E := .and e1a_c19 e1a_c21
def e1a_c23 : E := .mod e1a_c9 (.lit 2)
def e1a_c24 : E := .eq e1a_c23 (.lit 0)
def e1a_c25 : E := .not e1a_c24
def e1a_c26 : E := .iff e1a_c22 e1a_c25
def e1a_c27 : E := .not e1a_c26
def e1a_c28 : E := .eq e1a_c16 (.lit 8)
def e1a_c29 : E := .sel (.av 0) (.lit 41)
def e1a_c30 : E := .le (.v 18) e1a_c29
def e1a_c31 : E := .sel (.av 0) (.lit 40)
def e1a_c32 : E := .le e1a_c31 (.v 18)
def e1a_c33 : E := .and e1a_c30 e1a_c32
def e1a_c34 : E := .div e1a_c9 (.lit 4)
def e1a_c35 : E := .mod e1a_c34 (.lit 2)
def e1a_c36 : E := .eq e1a_c35 (.lit 0)
def e1a_c37 : E := .not e1a_c36
def e1a_c38 : E := .iff e1a_c33 e1a_c37
def e1a_c39 : E := .not e1a_c38
def e1a_c40 : E := .sel (.av 0) (.lit 43)
def e1a_c41 : E := .mod e1a_c40 (.lit 4)
def e1a_c42 : E := .eq e1a_c41 (.lit 0)
def e1a_c43 : E := .or e1a_c27 e1a_c39
def e1a_c44 : E := .eq e1a_c41 (.lit 1)
def e1a_c45 : E := .and e1a_c27 e1a_c39
def e1a_c46 : E := .eq e1a_c41 (.lit 2)
def e1a_c47 : E := .iff e1a_c27 e1a_c39
def e1a_c48 : E := .not e1a_c47
def e1a_c49 : E := .ite e1a_c46 e1a_c48 e1a_c47
def e1a_c50 : E := .ite e1a_c44 e1a_c45 e1a_c49
def e1a_c51 : E := .ite e1a_c42 e1a_c43 e1a_c50
def e1a_c52 : E := .ite e1a_c28 e1a_c39 e1a_c51
def e1a_c53 : E := .ite e1a_c17 e1a_c27 e1a_c52
def e1a_c54 : E := .eq e1a_c16 (.lit 0)
def e1a_c55 : E := .not e1a_c54
def e1a_c56 : E := .and e1a_c53 e1a_c55
def e1a_c57 : E := .sel (.av 0) (.lit 46)
def e1a_c58 : E := .div e1a_c57 (.lit 16)
def e1a_c59 : E := .mod e1a_c58 (.lit 2)
def e1a_c60 : E := .eq e1a_c59 (.lit 0)
def e1a_c61 : E := .not e1a_c60
def e1a_c62 : E := .and e1a_c56 e1a_c61
def e1a_c63 : E := .or e1a_c8 e1a_c62
def e1a_c64 : E := .mod e1a_c0 (.lit 2)
def e1a_c65 : E := .eq e1a_c64 (.lit 0)
def e1a_c66 : E := .not (.bv 0)
def e1a_c67 : E := .or e1a_c65 e1a_c66
def e1a_c68 : E := .eq (.v 3) (.lit 1)
def e1a_c69 : E := .not e1a_c68
def e1a_c70 : E := .or e1a_c67 e1a_c69
def e1a_c71 : E := .sel (.av 0) (.lit 35)
def e1a_c72 : E := .div e1a_c71 (.lit 8)
def e1a_c73 : E := .mod e1a_c72 (.lit 2)
def e1a_c74 : E := .mul e1a_c73 (.lit 8)
def e1a_c75 : E := .div e1a_c71 (.lit 2)
def e1a_c76 : E := .mod e1a_c75 (.lit 2)
def e1a_c77 : E := .mul e1a_c76 (.lit 2)
def e1a_c78 : E := .add e1a_c74 e1a_c77
def e1a_c79 : E := .eq e1a_c78 (.lit 2)
def e1a_c80 : E := .mod e1a_c71 (.lit 2)
def e1a_c81 : E := .eq e1a_c80 (.lit 0)
def e1a_c82 : E := .not e1a_c81
def e1a_c83 : E := .iff e1a_c22 e1a_c82
def e1a_c84 : E := .not e1a_c83
def e1a_c85 : E := .eq e1a_c78 (.lit 8)
def e1a_c86 : E := .div e1a_c71 (.lit 4)
def e1a_c87 : E := .mod e1a_c86 (.lit 2)
def e1a_c88 : E := .eq e1a_c87 (.lit 0)
def e1a_c89 : E := .not e1a_c88
def e1a_c90 : E := .iff e1a_c33 e1a_c89
def e1a_c91 : E := .not e1a_c90
def e1a_c92 : E := .sel (.av 0) (.lit 42)
def e1a_c93 : E := .mod e1a_c92 (.lit 4)
def e1a_c94 : E := .eq e1a_c93 (.lit 0)
def e1a_c95 : E := .or e1a_c84 e1a_c91
def e1a_c96 : E := .eq e1a_c93 (.lit 1)
def e1a_c97 : E := .and e1a_c84 e1a_c91
def e1a_c98 : E := .eq e1a_c93 (.lit 2)
def e1a_c99 : E := .iff e1a_c84 e1a_c91
def e1a_c100 : E := .not e1a_c99
def e1a_c101 : E := .ite e1a_c98 e1a_c100 e1a_c99
def e1a_c102 : E := .ite e1a_c96 e1a_c97 e1a_c101
def e1a_c103 : E := .ite e1a_c94 e1a_c95 e1a_c102
def e1a_c104 : E := .ite e1a_c85 e1a_c91 e1a_c103
def e1a_c105 : E := .ite e1a_c79 e1a_c84 e1a_c104
def e1a_c106 : E := .eq e1a_c78 (.lit 0)
def e1a_c107 : E := .not e1a_c106
def e1a_c108 : E := .and e1a_c105 e1a_c107
def e1a_c109 : E := .mod e1a_c57 (.lit 2)
def e1a_c110 : E := .eq e1a_c109 (.lit 0)
def e1a_c111 : E := .not e1a_c110
def e1a_c112 : E := .and e1a_c108 e1a_c111
def e1a_c113 : E := .or e1a_c70 e1a_c112
def e1a_c114 : E := .div e1a_c0 (.lit 2)
def e1a_c115 : E := .mod e1a_c114 (.lit 2)
def e1a_c116 : E := .eq e1a_c115 (.lit 0)
def e1a_c117 : E := .not (.bv 1)
def e1a_c118 : E := .or e1a_c116 e1a_c117
def e1a_c119 : E := .eq (.v 6) (.lit 1)
def e1a_c120 : E := .not e1a_c119
def e1a_c121 : E := .or e1a_c118 e1a_c120
def e1a_c122 : E := .div e1a_c71 (.lit 128)
def e1a_c123 : E := .mul e1a_c122 (.lit 8)
def e1a_c124 : E := .div e1a_c71 (.lit 32)
def e1a_c125 : E := .mod e1a_c124 (.lit 2)
def e1a_c126 : E := .mul e1a_c125 (.lit 2)
def e1a_c127 : E := .add e1a_c123 e1a_c126
def e1a_c128 : E := .eq e1a_c127 (.lit 2)
def e1a_c129 : E := .div e1a_c71 (.lit 16)
def e1a_c130 : E := .mod e1a_c129 (.lit 2)
def e1a_c131 : E := .eq e1a_c130 (.lit 0)
def e1a_c132 : E := .not e1a_c131
def e1a_c133 : E := .iff e1a_c22 e1a_c132
def e1a_c134 : E := .not e1a_c133
def e1a_c135 : E := .eq e1a_c127 (.lit 8)
def e1a_c136 : E := .div e1a_c71 (.lit 64)
def e1a_c137 : E := .mod e1a_c136 (.lit 2)
def e1a_c138 : E := .eq e1a_c137 (.lit 0)
def e1a_c139 : E := .not e1a_c138
def e1a_c140 : E := .iff e1a_c33 e1a_c139
def e1a_c141 : E := .not e1a_c140
def e1a_c142 : E := .div e1a_c92 (.lit 4)
def e1a_c143 : E := .mod e1a_c142 (.lit 4)
def e1a_c144 : E := .eq e1a_c143 (.lit 0)
def e1a_c145 : E := .or e1a_c134 e1a_c141
def e1a_c146 : E := .eq e1a_c143 (.lit 1)
def e1a_c147 : E := .and e1a_c134 e1a_c141
def e1a_c148 : E := .eq e1a_c143 (.lit 2)
def e1a_c149 : E := .iff e1a_c134 e1a_c141
def e1a_c150 : E := .not e1a_c149
def e1a_c151 : E := .ite e1a_c148 e1a_c150 e1a_c149
def e1a_c152 : E := .ite e1a_c146 e1a_c147 e1a_c151
def e1a_c153 : E := .ite e1a_c144 e1a_c145 e1a_c152
def e1a_c154 : E := .ite e1a_c135 e1a_c141 e1a_c153
def e1a_c155 : E := .ite e1a_c128 e1a_c134 e1a_c154
def e1a_c156 : E := .eq e1a_c127 (.lit 0)
def e1a_c157 : E := .not e1a_c156
def e1a_c158 : E := .and e1a_c155 e1a_c157
def e1a_c159 : E := .div e1a_c57 (.lit 2)
def e1a_c160 : E := .mod e1a_c159 (.lit 2)
def e1a_c161 : E := .eq e1a_c160 (.lit 0)
def e1a_c162 : E := .not e1a_c161
def e1a_c163 : E := .and e1a_c158 e1a_c162
def e1a_c164 : E := .or e1a_c121 e1a_c163
def e1a_c165 : E := .eq (.v 15) (.lit 2)
def e1a_c166 : E := .not e1a_c165
def e1a_c167 : E := .or e1a_c5 e1a_c166
def e1a_c168 : E := .or e1a_c167 e1a_c62
def e1a_c169 : E := .eq (.v 3) (.lit 0)
def e1a_c170 : E := .not e1a_c169
def e1a_c171 : E := .or e1a_c67 e1a_c170
def e1a_c172 : E := .or e1a_c171 e1a_c112
def e1a_c173 : E := .eq (.v 6) (.lit 0)
def e1a_c174 : E := .not e1a_c173
def e1a_c175 : E := .or e1a_c118 e1a_c174
def e1a_c176 : E := .or e1a_c175 e1a_c163
def e1a_c177 : E := .eq (.v 15) (.lit 1)
def e1a_c178 : E := .not e1a_c177
def e1a_c179 : E := .or e1a_c5 e1a_c178
def e1a_c180 : E := .or e1a_c179 e1a_c62
def e1a_c181 : E := .div e1a_c0 (.lit 4)
def e1a_c182 : E := .mod e1a_c181 (.lit 2)
def e1a_c183 : E := .eq e1a_c182 (.lit 0)
def e1a_c184 : E := .not (.bv 2)
def e1a_c185 : E := .or e1a_c183 e1a_c184
def e1a_c186 : E := .eq (.v 9) (.lit 1)
def e1a_c187 : E := .not e1a_c186
def e1a_c188 : E := .or e1a_c185 e1a_c187
def e1a_c189 : E := .sel (.av 0) (.lit 36)
def e1a_c190 : E := .div e1a_c189 (.lit 8)
def e1a_c191 : E := .mod e1a_c190 (.lit 2)
def e1a_c192 : E := .mul e1a_c191 (.lit 8)
def e1a_c193 : E := .div e1a_c189 (.lit 2)
def e1a_c194 : E := .mod e1a_c193 (.lit 2)
def e1a_c195 : E := .mul e1a_c194 (.lit 2)
def e1a_c196 : E := .add e1a_c192 e1a_c195
def e1a_c197 : E := .eq e1a_c196 (.lit 2)
def e1a_c198 : E := .mod e1a_c189 (.lit 2)
def e1a_c199 : E := .eq e1a_c198 (.lit 0)
def e1a_c200 : E := .not e1a_c199
def e1a_c201 : E := .iff e1a_c22 e1a_c200
def e1a_c202 : E := .not e1a_c201
def e1a_c203 : E := .eq e1a_c196 (.lit 8)
def e1a_c204 : E := .div e1a_c189 (.lit 4)
def e1a_c205 : E := .mod e1a_c204 (.lit 2)
def e1a_c206 : E := .eq e1a_c205 (.lit 0)
def e1a_c207 : E := .not e1a_c206
def e1a_c208 : E := .iff e1a_c33 e1a_c207
def e1a_c209 : E := .not e1a_c208
def e1a_c210 : E := .div e1a_c92 (.lit 16)
def e1a_c211 : E := .mod e1a_c210 (.lit 4)
def e1a_c212 : E := .eq e1a_c211 (.lit 0)
def e1a_c213 : E := .or e1a_c202 e1a_c209
def e1a_c214 : E := .eq e1a_c211 (.lit 1)
def e1a_c215 : E := .and e1a_c202 e1a_c209
def e1a_c216 : E := .eq e1a_c211 (.lit 2)
def e1a_c217 : E := .iff e1a_c202 e1a_c209
def e1a_c218 : E := .not e1a_c217
def e1a_c219 : E := .ite e1a_c216 e1a_c218 e1a_c217
def e1a_c220 : E := .ite e1a_c214 e1a_c215 e1a_c219
def e1a_c221 : E := .ite e1a_c212 e1a_c213 e1a_c220
def e1a_c222 : E := .ite e1a_c203 e1a_c209 e1a_c221
def e1a_c223 : E := .ite e1a_c197 e1a_c202 e1a_c222
def e1a_c224 : E := .eq e1a_c196 (.lit 0)
def e1a_c225 : E := .not e1a_c224
def e1a_c226 : E := .and e1a_c223 e1a_c225
def e1a_c227 : E := .div e1a_c57 (.lit 4)
def e1a_c228 : E := .mod e1a_c227 (.lit 2)
def e1a_c229 : E := .eq e1a_c228 (.lit 0)
def e1a_c230 : E := .not e1a_c229
def e1a_c231 : E := .and e1a_c226 e1a_c230
def e1a_c232 : E := .or e1a_c188 e1a_c231
def e1a_c233 : E := .eq (.v 15) (.lit 0)
def e1a_c234 : E := .not e1a_c233
def e1a_c235 : E := .or e1a_c5 e1a_c234
def e1a_c236 : E := .or e1a_c235 e1a_c62
def e1a_c237 : E := .eq (.v 9) (.lit 0)
def e1a_c238 : E := .not e1a_c237
def e1a_c239 : E := .or e1a_c185 e1a_c238
def e1a_c240 : E := .or e1a_c239 e1a_c231
def e1a_p0Hy : Hyp := (addF true e1a_c240 (addF true e1a_c236 (addF true e1a_c232 (addF true e1a_c180 (addF true e1a_c176 (addF true e1a_c172 (addF true e1a_c168 (addF true e1a_c164 (addF true e1a_c113 (addF true e1a_c63 e1a_Hy))))))))))
theorem e1a_p0run : enter Try.prog G Gh 6000 40 8 e1a_p0Hy e1a_Ls [] = some ([], .s (.bool (.blit true)), none) := by kernel_rfl
def e1a_p1Hy : Hyp := (addF false e1a_c240 (addF true e1a_c236 (addF true e1a_c232 (addF true e1a_c180 (addF true e1a_c176 (addF true e1a_c172 (addF true e1a_c168 (addF true e1a_c164 (addF true e1a_c113 (addF true e1a_c63 e1a_Hy))))))))))
theorem e1a_p1run : enter Try.prog G Gh 6000 40 8 e1a_p1Hy e1a_Ls [] = some ([], .s (.bool (.blit true)), none) := by kernel_rfl
def e1a_p2Hy : Hyp := (addF false e1a_c236 (addF true e1a_c232 (addF true e1a_c180 (addF true e1a_c176 (addF true e1a_c172 (addF true e1a_c168 (addF true e1a_c164 (addF true e1a_c113 (addF true e1a_c63 e1a_Hy)))))))))
theorem e1a_p2run : enter Try.prog G Gh 6000 40 8 e1a_p2Hy e1a_Ls [] = some ([], .s (.bool (.blit true)), none) := by kernel_rfl
def e1a_p3Hy : Hyp := (addF false e1a_c232 (addF true e1a_c180 (addF true e1a_c176 (addF true e1a_c172 (addF true e1a_c168 (addF true e1a_c164 (addF true e1a_c113 (addF true e1a_c63 e1a_Hy))))))))
theorem e1a_p3run : enter Try.prog G Gh 6000 40 8 e1a_p3Hy e1a_Ls [] = some ([], .s (.bool (.blit true)), none) := by kernel_rfl
def e1a_p4Hy : Hyp := (addF false e1a_c180 (addF true e1a_c176 (addF true e1a_c172 (addF true e1a_c168 (addF true e1a_c164 (addF true e1a_c113 (addF true e1a_c63 e1a_Hy)))))))
theorem e1a_p4run : enter Try.prog G Gh 6000 40 8 e1a_p4Hy e1a_Ls [] = some ([], .s (.bool (.blit true)), none) := by kernel_rfl
def e1a_p5Hy : Hyp := (addF false e1a_c176 (addF true e1a_c172 (addF true e1a_c168 (addF true e1a_c164 (addF true e1a_c113 (addF true e1a_c63 e1a_Hy))))))
theorem e1a_p5run : enter Try.prog G Gh 6000 40 8 e1a_p5Hy e1a_Ls [] = some ([], .s (.bool (.blit true)), none) := by kernel_rfl
def e1a_p6Hy : Hyp := (addF false e1a_c172 (addF true e1a_c168 (addF true e1a_c164 (addF true e1a_c113 (addF true e1a_c63 e1a_Hy)))))
theorem e1a_p6run : enter Try.prog G Gh 6000 40 8 e1a_p6Hy e1a_Ls [] = some ([], .s (.bool (.blit true)), none) := by kernel_rfl
def e1a_p7Hy : Hyp := (addF false e1a_c168 (addF true e1a_c164 (addF true e1a_c113 (addF true e1a_c63 e1a_Hy))))
theorem e1a_p7run : enter Try.prog G Gh 6000 40 8 e1a_p7Hy e1a_Ls [] = some ([], .s (.bool (.blit true)), none) := by kernel_rfl
def e1a_p8Hy : Hyp := (addF false e1a_c164 (addF true e1a_c113 (addF true e1a_c63 e1a_Hy)))
theorem e1a_p8run : enter Try.prog G Gh 6000 40 8 e1a_p8Hy e1a_Ls [] = some ([], .s (.bool (.blit true)), none) := by kernel_rfl
def e1a_p9Hy : Hyp := (addF false e1a_c113 (addF true e1a_c63 e1a_Hy))
theorem e1a_p9run : enter Try.prog G Gh 6000 40 8 e1a_p9Hy e1a_Ls [] = some ([], .s (.bool (.blit true)), none) := by kernel_rfl
def e1a_p10Hy : Hyp := (addF false e1a_c63 e1a_Hy)
theorem e1a_p10run : enter Try.prog G Gh 6000 40 8 e1a_p10Hy e1a_Ls [] = some ([], .s (.bool (.blit true)), none) := by kernel_rfl
theorem e1a_calls (c0 : List Value) (l0 : c0.length = pcTotal Pc0) (f0 : PcFit c0 0 Pc0) (c1 : List Value) (l1 : c1.length = pcTotal Pc1) (f1 : PcFit c1 0 Pc1) (a2 : Int) (w2 : 0 ≤ a2 ∧ a2 ≤ 255) (a3 : Int) (w3 : (Lit.int .u16 a3).wf = true) (hex0 : (arrOf c0 0 64) 5 % 8 = 1) (hex1 : (arrOf c0 0 64) 5 / 8 % 2 = 0) (w : World) :
    Calls Try.prog 8 #[.agg c0.toArray, .agg c1.toArray, .int .i64 a2, .int .u16 a3] w fun r w' => r = .returned (.bool true) ∧ Below w.heap.size w w' := by
  have hc0 : cellsOf (⟨[intV (c0.getD 78 Go.undef), intV (c0.getD 79 Go.undef), intV (c0.getD 80 Go.undef), intV (c1.getD 1 Go.undef), intV (c1.getD 2 Go.undef), intV (c1.getD 3 Go.undef), intV (c1.getD 5 Go.undef), intV (c1.getD 6 Go.undef), intV (c1.getD 7 Go.undef), intV (c1.getD 9 Go.undef), intV (c1.getD 10 Go.undef), intV (c1.getD 11 Go.undef), intV (c1.getD 13 Go.undef), intV (c1.getD 14 Go.undef), intV (c1.getD 15 Go.undef), intV (c1.getD 17 Go.undef), intV (c1.getD 18 Go.undef), intV (c1.getD 19 Go.undef), a2, a3], [boolV (c1.getD 0 Go.undef), boolV (c1.getD 4 Go.undef), boolV (c1.getD 8 Go.undef), boolV (c1.getD 12 Go.undef), boolV (c1.getD 16 Go.undef)], [arrOf c0 0 64, arrOf c0 64 4, arrOf c0 68 4, arrOf c0 72 6], [], Iv (fun _ _ => Ext.none)⟩ : Env) Loc.id (pcSegs 0 0 0 Pc0) = c0 := by
    rw [pc_cells Pc0 0 0 0 0 f0 (by intro j hj; rcases j with _ | _ | _ | _ | j <;> first | rfl | (simp [Pc0, pcA, pcB, pcI] at hj; omega)) (by intro j hj; simp [Pc0, pcA, pcB, pcI] at hj) (by intro j hj; rcases j with _ | _ | _ | j <;> first | rfl | (simp [Pc0, pcA, pcB, pcI] at hj; omega)), List.drop_zero, ← l0, List.take_length]
  have hc1 : cellsOf (⟨[intV (c0.getD 78 Go.undef), intV (c0.getD 79 Go.undef), intV (c0.getD 80 Go.undef), intV (c1.getD 1 Go.undef), intV (c1.getD 2 Go.undef), intV (c1.getD 3 Go.undef), intV (c1.getD 5 Go.undef), intV (c1.getD 6 Go.undef), intV (c1.getD 7 Go.undef), intV (c1.getD 9 Go.undef), intV (c1.getD 10 Go.undef), intV (c1.getD 11 Go.undef), intV (c1.getD 13 Go.undef), intV (c1.getD 14 Go.undef), intV (c1.getD 15 Go.undef), intV (c1.getD 17 Go.undef), intV (c1.getD 18 Go.undef), intV (c1.getD 19 Go.undef), a2, a3], [boolV (c1.getD 0 Go.undef), boolV (c1.getD 4 Go.undef), boolV (c1.getD 8 Go.undef), boolV (c1.getD 12 Go.undef), boolV (c1.getD 16 Go.undef)], [arrOf c0 0 64, arrOf c0 64 4, arrOf c0 68 4, arrOf c0 72 6], [], Iv (fun _ _ => Ext.none)⟩ : Env) Loc.id (pcSegs 4 0 3 Pc1) = c1 := by
    rw [pc_cells Pc1 0 4 0 3 f1 (by intro j hj; simp [Pc1, pcA, pcB, pcI] at hj) (by intro j hj; rcases j with _ | _ | _ | _ | _ | j <;> first | rfl | (simp [Pc1, pcA, pcB, pcI] at hj; omega)) (by intro j hj; rcases j with _ | _ | _ | _ | _ | _ | _ | _ | _ | _ | _ | _ | _ | _ | _ | j <;> first | rfl | (simp [Pc1, pcA, pcB, pcI] at hj; omega)), List.drop_zero, ← l1, List.take_length]
  have hargs : (e1a_Ls.map (SV.conc (⟨[intV (c0.getD 78 Go.undef), intV (c0.getD 79 Go.undef), intV (c0.getD 80 Go.undef), intV (c1.getD 1 Go.undef), intV (c1.getD 2 Go.undef), intV (c1.getD 3 Go.undef), intV (c1.getD 5 Go.undef), intV (c1.getD 6 Go.undef), intV (c1.getD 7 Go.undef), intV (c1.getD 9 Go.undef), intV (c1.getD 10 Go.undef), intV (c1.getD 11 Go.undef), intV (c1.getD 13 Go.undef), intV (c1.getD 14 Go.undef), intV (c1.getD 15 Go.undef), intV (c1.getD 17 Go.undef), intV (c1.getD 18 Go.undef), intV (c1.getD 19 Go.undef), a2, a3], [boolV (c1.getD 0 Go.undef), boolV (c1.getD 4 Go.undef), boolV (c1.getD 8 Go.undef), boolV (c1.getD 12 Go.undef), boolV (c1.getD 16 Go.undef)], [arrOf c0 0 64, arrOf c0 64 4, arrOf c0 68 4, arrOf c0 72 6], [], Iv (fun _ _ => Ext.none)⟩ : Env) Loc.id)).toArray = #[.agg c0.toArray, .agg c1.toArray, .int .i64 a2, .int .u16 a3] := by
    refine congrArg List.toArray ?_
    exact (cons_eq (congrArg (fun l => Value.agg (List.toArray l)) hc0) (cons_eq (congrArg (fun l => Value.agg (List.toArray l)) hc1) (cons_eq rfl (cons_eq rfl rfl))))
  rw [← hargs]
  have hok : Hyp.ok e1a_Hy (⟨[intV (c0.getD 78 Go.undef), intV (c0.getD 79 Go.undef), intV (c0.getD 80 Go.undef), intV (c1.getD 1 Go.undef), intV (c1.getD 2 Go.undef), intV (c1.getD 3 Go.undef), intV (c1.getD 5 Go.undef), intV (c1.getD 6 Go.undef), intV (c1.getD 7 Go.undef), intV (c1.getD 9 Go.undef), intV (c1.getD 10 Go.undef), intV (c1.getD 11 Go.undef), intV (c1.getD 13 Go.undef), intV (c1.getD 14 Go.undef), intV (c1.getD 15 Go.undef), intV (c1.getD 17 Go.undef), intV (c1.getD 18 Go.undef), intV (c1.getD 19 Go.undef), a2, a3], [boolV (c1.getD 0 Go.undef), boolV (c1.getD 4 Go.undef), boolV (c1.getD 8 Go.undef), boolV (c1.getD 12 Go.undef), boolV (c1.getD 16 Go.undef)], [arrOf c0 0 64, arrOf c0 64 4, arrOf c0 68 4, arrOf c0 72 6], [], Iv (fun _ _ => Ext.none)⟩ : Env) := by
    refine ⟨?_, ?_, ?_, by simp [e1a_Hy], ?_, by simp [e1a_Hy]⟩
    · simp [e1a_Hy]
    · intro p hp
      simp only [e1a_Hy, List.mem_cons, List.not_mem_nil, or_false] at hp
      rcases hp with rfl | rfl | rfl | rfl | rfl | rfl | rfl | rfl | rfl | rfl | rfl | rfl | rfl | rfl | rfl | rfl | rfl | rfl | rfl | rfl | rfl | rfl
      · exact num_rng (f0.tail.tail.tail.tail)
      · exact num_rng (f0.tail.tail.tail.tail.tail)
      · exact num_rng (f0.tail.tail.tail.tail.tail.tail)
      · exact num_rng (f1.tail)
      · exact num_rng (f1.tail.tail)
      · exact num_rng (f1.tail.tail.tail)
      · exact num_rng (f1.tail.tail.tail.tail.tail)
      · exact num_rng (f1.tail.tail.tail.tail.tail.tail)
      · exact num_rng (f1.tail.tail.tail.tail.tail.tail.tail)
      · exact num_rng (f1.tail.tail.tail.tail.tail.tail.tail.tail.tail)
      · exact num_rng (f1.tail.tail.tail.tail.tail.tail.tail.tail.tail.tail)
      · exact num_rng (f1.tail.tail.tail.tail.tail.tail.tail.tail.tail.tail.tail)
      · exact num_rng (f1.tail.tail.tail.tail.tail.tail.tail.tail.tail.tail.tail.tail.tail)
      · exact num_rng (f1.tail.tail.tail.tail.tail.tail.tail.tail.tail.tail.tail.tail.tail.tail)
      · exact num_rng (f1.tail.tail.tail.tail.tail.tail.tail.tail.tail.tail.tail.tail.tail.tail.tail)
      · exact num_rng (f1.tail.tail.tail.tail.tail.tail.tail.tail.tail.tail.tail.tail.tail.tail.tail.tail.tail)
      · exact num_rng (f1.tail.tail.tail.tail.tail.tail.tail.tail.tail.tail.tail.tail.tail.tail.tail.tail.tail.tail)
      · exact num_rng (f1.tail.tail.tail.tail.tail.tail.tail.tail.tail.tail.tail.tail.tail.tail.tail.tail.tail.tail.tail)
      · exact w2
      · exact bounds_u16 w3
      · exact (by have hx := hex0; first | exact ⟨Int.le_of_eq hx.symm, Int.le_of_eq hx⟩ | exact hx)
      · exact (by have hx := hex1; first | exact ⟨Int.le_of_eq hx.symm, Int.le_of_eq hx⟩ | exact hx)
    · intro p hp
      simp only [e1a_Hy, List.mem_cons, List.not_mem_nil, or_false] at hp
      rcases hp with rfl | rfl | rfl | rfl
      · exact arrOf_rng (f0)
      · exact arrOf_rng (f0.tail)
      · exact arrOf_rng (f0.tail.tail)
      · exact arrOf_rng (f0.tail.tail.tail)
    · simp [e1a_Hy]
  cases h0 : E.b (⟨[intV (c0.getD 78 Go.undef), intV (c0.getD 79 Go.undef), intV (c0.getD 80 Go.undef), intV (c1.getD 1 Go.undef), intV (c1.getD 2 Go.undef), intV (c1.getD 3 Go.undef), intV (c1.getD 5 Go.undef), intV (c1.getD 6 Go.undef), intV (c1.getD 7 Go.undef), intV (c1.getD 9 Go.undef), intV (c1.getD 10 Go.undef), intV (c1.getD 11 Go.undef), intV (c1.getD 13 Go.undef), intV (c1.getD 14 Go.undef), intV (c1.getD 15 Go.undef), intV (c1.getD 17 Go.undef), intV (c1.getD 18 Go.undef), intV (c1.getD 19 Go.undef), a2, a3], [boolV (c1.getD 0 Go.undef), boolV (c1.getD 4 Go.undef), boolV (c1.getD 8 Go.undef), boolV (c1.getD 12 Go.undef), boolV (c1.getD 16 Go.undef)], [arrOf c0 0 64, arrOf c0 64 4, arrOf c0 68 4, arrOf c0 72 6], [], Iv (fun _ _ => Ext.none)⟩ : Env) e1a_c63 with
  | false =>
    exact law_true (ρ := (⟨[intV (c0.getD 78 Go.undef), intV (c0.getD 79 Go.undef), intV (c0.getD 80 Go.undef), intV (c1.getD 1 Go.undef), intV (c1.getD 2 Go.undef), intV (c1.getD 3 Go.undef), intV (c1.getD 5 Go.undef), intV (c1.getD 6 Go.undef), intV (c1.getD 7 Go.undef), intV (c1.getD 9 Go.undef), intV (c1.getD 10 Go.undef), intV (c1.getD 11 Go.undef), intV (c1.getD 13 Go.undef), intV (c1.getD 14 Go.undef), intV (c1.getD 15 Go.undef), intV (c1.getD 17 Go.undef), intV (c1.getD 18 Go.undef), intV (c1.getD 19 Go.undef), a2, a3], [boolV (c1.getD 0 Go.undef), boolV (c1.getD 4 Go.undef), boolV (c1.getD 8 Go.undef), boolV (c1.getD 12 Go.undef), boolV (c1.getD 16 Go.undef)], [arrOf c0 0 64, arrOf c0 64 4, arrOf c0 68 4, arrOf c0 72 6], [], Iv (fun _ _ => Ext.none)⟩ : Env)) (G_ok _) (by kernel_rfl) e1a_p10run rfl (addF_ok _ _ _ hok h0) (by intro e he; cases he) rfl w (fun i j => Ext.none_ok _)
  | true =>
    cases h1 : E.b (⟨[intV (c0.getD 78 Go.undef), intV (c0.getD 79 Go.undef), intV (c0.getD 80 Go.undef), intV (c1.getD 1 Go.undef), intV (c1.getD 2 Go.undef), intV (c1.getD 3 Go.undef), intV (c1.getD 5 Go.undef), intV (c1.getD 6 Go.undef), intV (c1.getD 7 Go.undef), intV (c1.getD 9 Go.undef), intV (c1.getD 10 Go.undef), intV (c1.getD 11 Go.undef), intV (c1.getD 13 Go.undef), intV (c1.getD 14 Go.undef), intV (c1.getD 15 Go.undef), intV (c1.getD 17 Go.undef), intV (c1.getD 18 Go.undef), intV (c1.getD 19 Go.undef), a2, a3], [boolV (c1.getD 0 Go.undef), boolV (c1.getD 4 Go.undef), boolV (c1.getD 8 Go.undef), boolV (c1.getD 12 Go.undef), boolV (c1.getD 16 Go.undef)], [arrOf c0 0 64, arrOf c0 64 4, arrOf c0 68 4, arrOf c0 72 6], [], Iv (fun _ _ => Ext.none)⟩ : Env) e1a_c113 with
    | false =>
      exact law_true (ρ := (⟨[intV (c0.getD 78 Go.undef), intV (c0.getD 79 Go.undef), intV (c0.getD 80 Go.undef), intV (c1.getD 1 Go.undef), intV (c1.getD 2 Go.undef), intV (c1.getD 3 Go.undef), intV (c1.getD 5 Go.undef), intV (c1.getD 6 Go.undef), intV (c1.getD 7 Go.undef), intV (c1.getD 9 Go.undef), intV (c1.getD 10 Go.undef), intV (c1.getD 11 Go.undef), intV (c1.getD 13 Go.undef), intV (c1.getD 14 Go.undef), intV (c1.getD 15 Go.undef), intV (c1.getD 17 Go.undef), intV (c1.getD 18 Go.undef), intV (c1.getD 19 Go.undef), a2, a3], [boolV (c1.getD 0 Go.undef), boolV (c1.getD 4 Go.undef), boolV (c1.getD 8 Go.undef), boolV (c1.getD 12 Go.undef), boolV (c1.getD 16 Go.undef)], [arrOf c0 0 64, arrOf c0 64 4, arrOf c0 68 4, arrOf c0 72 6], [], Iv (fun _ _ => Ext.none)⟩ : Env)) (G_ok _) (by kernel_rfl) e1a_p9run rfl (addF_ok _ _ _ (addF_ok _ _ _ hok h0) h1) (by intro e he; cases he) rfl w (fun i j => Ext.none_ok _)
    | true =>
      cases h2 : E.b (⟨[intV (c0.getD 78 Go.undef), intV (c0.getD 79 Go.undef), intV (c0.getD 80 Go.undef), intV (c1.getD 1 Go.undef), intV (c1.getD 2 Go.undef), intV (c1.getD 3 Go.undef), intV (c1.getD 5 Go.undef), intV (c1.getD 6 Go.undef), intV (c1.getD 7 Go.undef), intV (c1.getD 9 Go.undef), intV (c1.getD 10 Go.undef), intV (c1.getD 11 Go.undef), intV (c1.getD 13 Go.undef), intV (c1.getD 14 Go.undef), intV (c1.getD 15 Go.undef), intV (c1.getD 17 Go.undef), intV (c1.getD 18 Go.undef), intV (c1.getD 19 Go.undef), a2, a3], [boolV (c1.getD 0 Go.undef), boolV (c1.getD 4 Go.undef), boolV (c1.getD 8 Go.undef), boolV (c1.getD 12 Go.undef), boolV (c1.getD 16 Go.undef)], [arrOf c0 0 64, arrOf c0 64 4, arrOf c0 68 4, arrOf c0 72 6], [], Iv (fun _ _ => Ext.none)⟩ : Env) e1a_c164 with
      | false =>
        exact law_true (ρ := (⟨[intV (c0.getD 78 Go.undef), intV (c0.getD 79 Go.undef), intV (c0.getD 80 Go.undef), intV (c1.getD 1 Go.undef), intV (c1.getD 2 Go.undef), intV (c1.getD 3 Go.undef), intV (c1.getD 5 Go.undef), intV (c1.getD 6 Go.undef), intV (c1.getD 7 Go.undef), intV (c1.getD 9 Go.undef), intV (c1.getD 10 Go.undef), intV (c1.getD 11 Go.undef), intV (c1.getD 13 Go.undef), intV (c1.getD 14 Go.undef), intV (c1.getD 15 Go.undef), intV (c1.getD 17 Go.undef), intV (c1.getD 18 Go.undef), intV (c1.getD 19 Go.undef), a2, a3], [boolV (c1.getD 0 Go.undef), boolV (c1.getD 4 Go.undef), boolV (c1.getD 8 Go.undef), boolV (c1.getD 12 Go.undef), boolV (c1.getD 16 Go.undef)], [arrOf c0 0 64, arrOf c0 64 4, arrOf c0 68 4, arrOf c0 72 6], [], Iv (fun _ _ => Ext.none)⟩ : Env)) (G_ok _) (by kernel_rfl) e1a_p8run rfl (addF_ok _ _ _ (addF_ok _ _ _ (addF_ok _ _ _ hok h0) h1) h2) (by intro e he; cases he) rfl w (fun i j => Ext.none_ok _)
      | true =>
        cases h3 : E.b (⟨[intV (c0.getD 78 Go.undef), intV (c0.getD 79 Go.undef), intV (c0.getD 80 Go.undef), intV (c1.getD 1 Go.undef), intV (c1.getD 2 Go.undef), intV (c1.getD 3 Go.undef), intV (c1.getD 5 Go.undef), intV (c1.getD 6 Go.undef), intV (c1.getD 7 Go.undef), intV (c1.getD 9 Go.undef), intV (c1.getD 10 Go.undef), intV (c1.getD 11 Go.undef), intV (c1.getD 13 Go.undef), intV (c1.getD 14 Go.undef), intV (c1.getD 15 Go.undef), intV (c1.getD 17 Go.undef), intV (c1.getD 18 Go.undef), intV (c1.getD 19 Go.undef), a2, a3], [boolV (c1.getD 0 Go.undef), boolV (c1.getD 4 Go.undef), boolV (c1.getD 8 Go.undef), boolV (c1.getD 12 Go.undef), boolV (c1.getD 16 Go.undef)], [arrOf c0 0 64, arrOf c0 64 4, arrOf c0 68 4, arrOf c0 72 6], [], Iv (fun _ _ => Ext.none)⟩ : Env) e1a_c168 with
        | false =>
          exact law_true (ρ := (⟨[intV (c0.getD 78 Go.undef), intV (c0.getD 79 Go.undef), intV (c0.getD 80 Go.undef), intV (c1.getD 1 Go.undef), intV (c1.getD 2 Go.undef), intV (c1.getD 3 Go.undef), intV (c1.getD 5 Go.undef), intV (c1.getD 6 Go.undef), intV (c1.getD 7 Go.undef), intV (c1.getD 9 Go.undef), intV (c1.getD 10 Go.undef), intV (c1.getD 11 Go.undef), intV (c1.getD 13 Go.undef), intV (c1.getD 14 Go.undef), intV (c1.getD 15 Go.undef), intV (c1.getD 17 Go.undef), intV (c1.getD 18 Go.undef), intV (c1.getD 19 Go.undef), a2, a3], [boolV (c1.getD 0 Go.undef), boolV (c1.getD 4 Go.undef), boolV (c1.getD 8 Go.undef), boolV (c1.getD 12 Go.undef), boolV (c1.getD 16 Go.undef)], [arrOf c0 0 64, arrOf c0 64 4, arrOf c0 68 4, arrOf c0 72 6], [], Iv (fun _ _ => Ext.none)⟩ : Env)) (G_ok _) (by kernel_rfl) e1a_p7run rfl (addF_ok _ _ _ (addF_ok _ _ _ (addF_ok _ _ _ (addF_ok _ _ _ hok h0) h1) h2) h3) (by intro e he; cases he) rfl w (fun i j => Ext.none_ok _)
        | true =>
          cases h4 : E.b (⟨[intV (c0.getD 78 Go.undef), intV (c0.getD 79 Go.undef), intV (c0.getD 80 Go.undef), intV (c1.getD 1 Go.undef), intV (c1.getD 2 Go.undef), intV (c1.getD 3 Go.undef), intV (c1.getD 5 Go.undef), intV (c1.getD 6 Go.undef), intV (c1.getD 7 Go.undef), intV (c1.getD 9 Go.undef), intV (c1.getD 10 Go.undef), intV (c1.getD 11 Go.undef), intV (c1.getD 13 Go.undef), intV (c1.getD 14 Go.undef), intV (c1.getD 15 Go.undef), intV (c1.getD 17 Go.undef), intV (c1.getD 18 Go.undef), intV (c1.getD 19 Go.undef), a2, a3], [boolV (c1.getD 0 Go.undef), boolV (c1.getD 4 Go.undef), boolV (c1.getD 8 Go.undef), boolV (c1.getD 12 Go.undef), boolV (c1.getD 16 Go.undef)], [arrOf c0 0 64, arrOf c0 64 4, arrOf c0 68 4, arrOf c0 72 6], [], Iv (fun _ _ => Ext.none)⟩ : Env) e1a_c172 with
          | false =>
            exact law_true (ρ := (⟨[intV (c0.getD 78 Go.undef), intV (c0.getD 79 Go.undef), intV (c0.getD 80 Go.undef), intV (c1.getD 1 Go.undef), intV (c1.getD 2 Go.undef), intV (c1.getD 3 Go.undef), intV (c1.getD 5 Go.undef), intV (c1.getD 6 Go.undef), intV (c1.getD 7 Go.undef), intV (c1.getD 9 Go.undef), intV (c1.getD 10 Go.undef), intV (c1.getD 11 Go.undef), intV (c1.getD 13 Go.undef), intV (c1.getD 14 Go.undef), intV (c1.getD 15 Go.undef), intV (c1.getD 17 Go.undef), intV (c1.getD 18 Go.undef), intV (c1.getD 19 Go.undef), a2, a3], [boolV (c1.getD 0 Go.undef), boolV (c1.getD 4 Go.undef), boolV (c1.getD 8 Go.undef), boolV (c1.getD 12 Go.undef), boolV (c1.getD 16 Go.undef)], [arrOf c0 0 64, arrOf c0 64 4, arrOf c0 68 4, arrOf c0 72 6], [], Iv (fun _ _ => Ext.none)⟩ : Env)) (G_ok _) (by kernel_rfl) e1a_p6run rfl (addF_ok _ _ _ (addF_ok _ _ _ (addF_ok _ _ _ (addF_ok _ _ _ (addF_ok _ _ _ hok h0) h1) h2) h3) h4) (by intro e he; cases he) rfl w (fun i j => Ext.none_ok _)
          | true =>
            cases h5 : E.b (⟨[intV (c0.getD 78 Go.undef), intV (c0.getD 79 Go.undef), intV (c0.getD 80 Go.undef), intV (c1.getD 1 Go.undef), intV (c1.getD 2 Go.undef), intV (c1.getD 3 Go.undef), intV (c1.getD 5 Go.undef), intV (c1.getD 6 Go.undef), intV (c1.getD 7 Go.undef), intV (c1.getD 9 Go.undef), intV (c1.getD 10 Go.undef), intV (c1.getD 11 Go.undef), intV (c1.getD 13 Go.undef), intV (c1.getD 14 Go.undef), intV (c1.getD 15 Go.undef), intV (c1.getD 17 Go.undef), intV (c1.getD 18 Go.undef), intV (c1.getD 19 Go.undef), a2, a3], [boolV (c1.getD 0 Go.undef), boolV (c1.getD 4 Go.undef), boolV (c1.getD 8 Go.undef), boolV (c1.getD 12 Go.undef), boolV (c1.getD 16 Go.undef)], [arrOf c0 0 64, arrOf c0 64 4, arrOf c0 68 4, arrOf c0 72 6], [], Iv (fun _ _ => Ext.none)⟩ : Env) e1a_c176 with
            | false =>
              exact law_true (ρ := (⟨[intV (c0.getD 78 Go.undef), intV (c0.getD 79 Go.undef), intV (c0.getD 80 Go.undef), intV (c1.getD 1 Go.undef), intV (c1.getD 2 Go.undef), intV (c1.getD 3 Go.undef), intV (c1.getD 5 Go.undef), intV (c1.getD 6 Go.undef), intV (c1.getD 7 Go.undef), intV (c1.getD 9 Go.undef), intV (c1.getD 10 Go.undef), intV (c1.getD 11 Go.undef), intV (c1.getD 13 Go.undef), intV (c1.getD 14 Go.undef), intV (c1.getD 15 Go.undef), intV (c1.getD 17 Go.undef), intV (c1.getD 18 Go.undef), intV (c1.getD 19 Go.undef), a2, a3], [boolV (c1.getD 0 Go.undef), boolV (c1.getD 4 Go.undef), boolV (c1.getD 8 Go.undef), boolV (c1.getD 12 Go.undef), boolV (c1.getD 16 Go.undef)], [arrOf c0 0 64, arrOf c0 64 4, arrOf c0 68 4, arrOf c0 72 6], [], Iv (fun _ _ => Ext.none)⟩ : Env)) (G_ok _) (by kernel_rfl) e1a_p5run rfl (addF_ok _ _ _ (addF_ok _ _ _ (addF_ok _ _ _ (addF_ok _ _ _ (addF_ok _ _ _ (addF_ok _ _ _ hok h0) h1) h2) h3) h4) h5) (by intro e he; cases he) rfl w (fun i j => Ext.none_ok _)
            | true =>
              cases h6 : E.b (⟨[intV (c0.getD 78 Go.undef), intV (c0.getD 79 Go.undef), intV (c0.getD 80 Go.undef), intV (c1.getD 1 Go.undef), intV (c1.getD 2 Go.undef), intV (c1.getD 3 Go.undef), intV (c1.getD 5 Go.undef), intV (c1.getD 6 Go.undef), intV (c1.getD 7 Go.undef), intV (c1.getD 9 Go.undef), intV (c1.getD 10 Go.undef), intV (c1.getD 11 Go.undef), intV (c1.getD 13 Go.undef), intV (c1.getD 14 Go.undef), intV (c1.getD 15 Go.undef), intV (c1.getD 17 Go.undef), intV (c1.getD 18 Go.undef), intV (c1.getD 19 Go.undef), a2, a3], [boolV (c1.getD 0 Go.undef), boolV (c1.getD 4 Go.undef), boolV (c1.getD 8 Go.undef), boolV (c1.getD 12 Go.undef), boolV (c1.getD 16 Go.undef)], [arrOf c0 0 64, arrOf c0 64 4, arrOf c0 68 4, arrOf c0 72 6], [], Iv (fun _ _ => Ext.none)⟩ : Env) e1a_c180 with
              | false =>
                exact law_true (ρ := (⟨[intV (c0.getD 78 Go.undef), intV (c0.getD 79 Go.undef), intV (c0.getD 80 Go.undef), intV (c1.getD 1 Go.undef), intV (c1.getD 2 Go.undef), intV (c1.getD 3 Go.undef), intV (c1.getD 5 Go.undef), intV (c1.getD 6 Go.undef), intV (c1.getD 7 Go.undef), intV (c1.getD 9 Go.undef), intV (c1.getD 10 Go.undef), intV (c1.getD 11 Go.undef), intV (c1.getD 13 Go.undef), intV (c1.getD 14 Go.undef), intV (c1.getD 15 Go.undef), intV (c1.getD 17 Go.undef), intV (c1.getD 18 Go.undef), intV (c1.getD 19 Go.undef), a2, a3], [boolV (c1.getD 0 Go.undef), boolV (c1.getD 4 Go.undef), boolV (c1.getD 8 Go.undef), boolV (c1.getD 12 Go.undef), boolV (c1.getD 16 Go.undef)], [arrOf c0 0 64, arrOf c0 64 4, arrOf c0 68 4, arrOf c0 72 6], [], Iv (fun _ _ => Ext.none)⟩ : Env)) (G_ok _) (by kernel_rfl) e1a_p4run rfl (addF_ok _ _ _ (addF_ok _ _ _ (addF_ok _ _ _ (addF_ok _ _ _ (addF_ok _ _ _ (addF_ok _ _ _ (addF_ok _ _ _ hok h0) h1) h2) h3) h4) h5) h6) (by intro e he; cases he) rfl w (fun i j => Ext.none_ok _)
              | true =>
                cases h7 : E.b (⟨[intV (c0.getD 78 Go.undef), intV (c0.getD 79 Go.undef), intV (c0.getD 80 Go.undef), intV (c1.getD 1 Go.undef), intV (c1.getD 2 Go.undef), intV (c1.getD 3 Go.undef), intV (c1.getD 5 Go.undef), intV (c1.getD 6 Go.undef), intV (c1.getD 7 Go.undef), intV (c1.getD 9 Go.undef), intV (c1.getD 10 Go.undef), intV (c1.getD 11 Go.undef), intV (c1.getD 13 Go.undef), intV (c1.getD 14 Go.undef), intV (c1.getD 15 Go.undef), intV (c1.getD 17 Go.undef), intV (c1.getD 18 Go.undef), intV (c1.getD 19 Go.undef), a2, a3], [boolV (c1.getD 0 Go.undef), boolV (c1.getD 4 Go.undef), boolV (c1.getD 8 Go.undef), boolV (c1.getD 12 Go.undef), boolV (c1.getD 16 Go.undef)], [arrOf c0 0 64, arrOf c0 64 4, arrOf c0 68 4, arrOf c0 72 6], [], Iv (fun _ _ => Ext.none)⟩ : Env) e1a_c232 with
                | false =>
                  exact law_true (ρ := (⟨[intV (c0.getD 78 Go.undef), intV (c0.getD 79 Go.undef), intV (c0.getD 80 Go.undef), intV (c1.getD 1 Go.undef), intV (c1.getD 2 Go.undef), intV (c1.getD 3 Go.undef), intV (c1.getD 5 Go.undef), intV (c1.getD 6 Go.undef), intV (c1.getD 7 Go.undef), intV (c1.getD 9 Go.undef), intV (c1.getD 10 Go.undef), intV (c1.getD 11 Go.undef), intV (c1.getD 13 Go.undef), intV (c1.getD 14 Go.undef), intV (c1.getD 15 Go.undef), intV (c1.getD 17 Go.undef), intV (c1.getD 18 Go.undef), intV (c1.getD 19 Go.undef), a2, a3], [boolV (c1.getD 0 Go.undef), boolV (c1.getD 4 Go.undef), boolV (c1.getD 8 Go.undef), boolV (c1.getD 12 Go.undef), boolV (c1.getD 16 Go.undef)], [arrOf c0 0 64, arrOf c0 64 4, arrOf c0 68 4, arrOf c0 72 6], [], Iv (fun _ _ => Ext.none)⟩ : Env)) (G_ok _) (by kernel_rfl) e1a_p3run rfl (addF_ok _ _ _ (addF_ok _ _ _ (addF_ok _ _ _ (addF_ok _ _ _ (addF_ok _ _ _ (addF_ok _ _ _ (addF_ok _ _ _ (addF_ok _ _ _ hok h0) h1) h2) h3) h4) h5) h6) h7) (by intro e he; cases he) rfl w (fun i j => Ext.none_ok _)
                | true =>
                  cases h8 : E.b (⟨[intV (c0.getD 78 Go.undef), intV (c0.getD 79 Go.undef), intV (c0.getD 80 Go.undef), intV (c1.getD 1 Go.undef), intV (c1.getD 2 Go.undef), intV (c1.getD 3 Go.undef), intV (c1.getD 5 Go.undef), intV (c1.getD 6 Go.undef), intV (c1.getD 7 Go.undef), intV (c1.getD 9 Go.undef), intV (c1.getD 10 Go.undef), intV (c1.getD 11 Go.undef), intV (c1.getD 13 Go.undef), intV (c1.getD 14 Go.undef), intV (c1.getD 15 Go.undef), intV (c1.getD 17 Go.undef), intV (c1.getD 18 Go.undef), intV (c1.getD 19 Go.undef), a2, a3], [boolV (c1.getD 0 Go.undef), boolV (c1.getD 4 Go.undef), boolV (c1.getD 8 Go.undef), boolV (c1.getD 12 Go.undef), boolV (c1.getD 16 Go.undef)], [arrOf c0 0 64, arrOf c0 64 4, arrOf c0 68 4, arrOf c0 72 6], [], Iv (fun _ _ => Ext.none)⟩ : Env) e1a_c236 with
                  | false =>
                    exact law_true (ρ := (⟨[intV (c0.getD 78 Go.undef), intV (c0.getD 79 Go.undef), intV (c0.getD 80 Go.undef), intV (c1.getD 1 Go.undef), intV (c1.getD 2 Go.undef), intV (c1.getD 3 Go.undef), intV (c1.getD 5 Go.undef), intV (c1.getD 6 Go.undef), intV (c1.getD 7 Go.undef), intV (c1.getD 9 Go.undef), intV (c1.getD 10 Go.undef), intV (c1.getD 11 Go.undef), intV (c1.getD 13 Go.undef), intV (c1.getD 14 Go.undef), intV (c1.getD 15 Go.undef), intV (c1.getD 17 Go.undef), intV (c1.getD 18 Go.undef), intV (c1.getD 19 Go.undef), a2, a3], [boolV (c1.getD 0 Go.undef), boolV (c1.getD 4 Go.undef), boolV (c1.getD 8 Go.undef), boolV (c1.getD 12 Go.undef), boolV (c1.getD 16 Go.undef)], [arrOf c0 0 64, arrOf c0 64 4, arrOf c0 68 4, arrOf c0 72 6], [], Iv (fun _ _ => Ext.none)⟩ : Env)) (G_ok _) (by kernel_rfl) e1a_p2run rfl (addF_ok _ _ _ (addF_ok _ _ _ (addF_ok _ _ _ (addF_ok _ _ _ (addF_ok _ _ _ (addF_ok _ _ _ (addF_ok _ _ _ (addF_ok _ _ _ (addF_ok _ _ _ hok h0) h1) h2) h3) h4) h5) h6) h7) h8) (by intro e he; cases he) rfl w (fun i j => Ext.none_ok _)
                  | true =>
                    cases h9 : E.b (⟨[intV (c0.getD 78 Go.undef), intV (c0.getD 79 Go.undef), intV (c0.getD 80 Go.undef), intV (c1.getD 1 Go.undef), intV (c1.getD 2 Go.undef), intV (c1.getD 3 Go.undef), intV (c1.getD 5 Go.undef), intV (c1.getD 6 Go.undef), intV (c1.getD 7 Go.undef), intV (c1.getD 9 Go.undef), intV (c1.getD 10 Go.undef), intV (c1.getD 11 Go.undef), intV (c1.getD 13 Go.undef), intV (c1.getD 14 Go.undef), intV (c1.getD 15 Go.undef), intV (c1.getD 17 Go.undef), intV (c1.getD 18 Go.undef), intV (c1.getD 19 Go.undef), a2, a3], [boolV (c1.getD 0 Go.undef), boolV (c1.getD 4 Go.undef), boolV (c1.getD 8 Go.undef), boolV (c1.getD 12 Go.undef), boolV (c1.getD 16 Go.undef)], [arrOf c0 0 64, arrOf c0 64 4, arrOf c0 68 4, arrOf c0 72 6], [], Iv (fun _ _ => Ext.none)⟩ : Env) e1a_c240 with
                    | false =>
                      exact law_true (ρ := (⟨[intV (c0.getD 78 Go.undef), intV (c0.getD 79 Go.undef), intV (c0.getD 80 Go.undef), intV (c1.getD 1 Go.undef), intV (c1.getD 2 Go.undef), intV (c1.getD 3 Go.undef), intV (c1.getD 5 Go.undef), intV (c1.getD 6 Go.undef), intV (c1.getD 7 Go.undef), intV (c1.getD 9 Go.undef), intV (c1.getD 10 Go.undef), intV (c1.getD 11 Go.undef), intV (c1.getD 13 Go.undef), intV (c1.getD 14 Go.undef), intV (c1.getD 15 Go.undef), intV (c1.getD 17 Go.undef), intV (c1.getD 18 Go.undef), intV (c1.getD 19 Go.undef), a2, a3], [boolV (c1.getD 0 Go.undef), boolV (c1.getD 4 Go.undef), boolV (c1.getD 8 Go.undef), boolV (c1.getD 12 Go.undef), boolV (c1.getD 16 Go.undef)], [arrOf c0 0 64, arrOf c0 64 4, arrOf c0 68 4, arrOf c0 72 6], [], Iv (fun _ _ => Ext.none)⟩ : Env)) (G_ok _) (by kernel_rfl) e1a_p1run rfl (addF_ok _ _ _ (addF_ok _ _ _ (addF_ok _ _ _ (addF_ok _ _ _ (addF_ok _ _ _ (addF_ok _ _ _ (addF_ok _ _ _ (addF_ok _ _ _ (addF_ok _ _ _ (addF_ok _ _ _ hok h0) h1) h2) h3) h4) h5) h6) h7) h8) h9) (by intro e he; cases he) rfl w (fun i j => Ext.none_ok _)
                    | true =>
                      exact law_true (ρ := (⟨[intV (c0.getD 78 Go.undef), intV (c0.getD 79 Go.undef), intV (c0.getD 80 Go.undef), intV (c1.getD 1 Go.undef), intV (c1.getD 2 Go.undef), intV (c1.getD 3 Go.undef), intV (c1.getD 5 Go.undef), intV (c1.getD 6 Go.undef), intV (c1.getD 7 Go.undef), intV (c1.getD 9 Go.undef), intV (c1.getD 10 Go.undef), intV (c1.getD 11 Go.undef), intV (c1.getD 13 Go.undef), intV (c1.getD 14 Go.undef), intV (c1.getD 15 Go.undef), intV (c1.getD 17 Go.undef), intV (c1.getD 18 Go.undef), intV (c1.getD 19 Go.undef), a2, a3], [boolV (c1.getD 0 Go.undef), boolV (c1.getD 4 Go.undef), boolV (c1.getD 8 Go.undef), boolV (c1.getD 12 Go.undef), boolV (c1.getD 16 Go.undef)], [arrOf c0 0 64, arrOf c0 64 4, arrOf c0 68 4, arrOf c0 72 6], [], Iv (fun _ _ => Ext.none)⟩ : Env)) (G_ok _) (by kernel_rfl) e1a_p0run rfl (addF_ok _ _ _ (addF_ok _ _ _ (addF_ok _ _ _ (addF_ok _ _ _ (addF_ok _ _ _ (addF_ok _ _ _ (addF_ok _ _ _ (addF_ok _ _ _ (addF_ok _ _ _ (addF_ok _ _ _ hok h0) h1) h2) h3) h4) h5) h6) h7) h8) h9) (by intro e he; cases he) rfl w (fun i j => Ext.none_ok _)
end Go.Proofs.Ytgbncbclhdnbmaa.BlendPlain
