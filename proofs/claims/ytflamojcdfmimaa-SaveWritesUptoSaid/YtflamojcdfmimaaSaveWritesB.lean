/- A part of the law SaveWrites, which returns true for every input. A writer that is told values and parts, in every order, gives just the document's bytes, whenever it is asked. No condition. -/
import Derived.Test.YtflamojcdfmimaaSaveWrites0
namespace Go.Proofs.Ytflamojcdfmimaa.SaveWrites
open Go.Sx Go.ChangeShapes Go.WideShapes Go.ChangeAt Go.RowKit
set_option linter.unusedVariables false
set_option linter.unusedSimpArgs false
set_option maxRecDepth 100000
def eV (x0 : Ext) (Y0 : Nat → Ext) (nx0 y1 y2 y3 y4 y5 y6 y7 y8 y9 : Int) (Ax0_0 Ax0_1 Ax0_2 Ax0_3 Z4 Z5 Z6 : Nat → Int) : Env := (⟨[nx0, y1, y2, y3, y4, y5, y6, y7, y8, y9], [], [Ax0_0, Ax0_1, Ax0_2, Ax0_3, Z4, Z5, Z6], [], Iv (fun i j => match i, j with | 0, 0 => x0 | 1, j => Y0 j | _, _ => Ext.none)⟩ : Env)
def eHy : Hyp := ⟨[(.v 0, (0, 1048575))], [(0, (-9223372036854775808, 9223372036854775807)), (1, (-9223372036854775808, 9223372036854775807)), (2, (0, 1048575)), (3, (0, 255))], [(10, (0, 4294967295))], [], [], [(0, ⟨.v 0, [(some .i64, .av 0), (some .i64, .av 1)], [(1, .av 2, .av 3)]⟩)]⟩
def eLs : List SV := [.s (.xslc 0 (.lit 0) (.lit 0) (.v 0))]
def e0 : E := .lt (.v 5) (.v 0)
def e1 : E := .add (.v 5) (.lit 1)
def e2 : E := .app 10 (.cons (.lit 0) (.cons (.tab []) .nil))
def e3 : E := .mod e2 (.lit 256)
def e4 : E := .div e2 (.lit 256)
def e5 : E := .mod e4 (.lit 256)
def e6 : E := .div e2 (.lit 65536)
def e7 : E := .mod e6 (.lit 256)
def e8 : E := .div e2 (.lit 16777216)
def e9 : E := .sel (.av 0) (.v 5)
def e10 : E := .sel (.av 1) (.v 5)
def e11 : E := .mod e10 (.lit 256)
def e12 : E := .upd (.tab []) (.lit 0) e11
def e13 : E := .div e10 (.lit 256)
def e14 : E := .mod e13 (.lit 256)
def e15 : E := .upd e12 (.lit 1) e14
def e16 : E := .div e10 (.lit 65536)
def e17 : E := .mod e16 (.lit 256)
def e18 : E := .upd e15 (.lit 2) e17
def e19 : E := .div e10 (.lit 16777216)
def e20 : E := .mod e19 (.lit 256)
def e21 : E := .upd e18 (.lit 3) e20
def e22 : E := .div e10 (.lit 4294967296)
def e23 : E := .mod e22 (.lit 256)
def e24 : E := .upd e21 (.lit 4) e23
def e25 : E := .div e10 (.lit 1099511627776)
def e26 : E := .mod e25 (.lit 256)
def e27 : E := .upd e24 (.lit 5) e26
def e28 : E := .div e10 (.lit 281474976710656)
def e29 : E := .mod e28 (.lit 256)
def e30 : E := .upd e27 (.lit 6) e29
def e31 : E := .div e10 (.lit 72057594037927936)
def e32 : E := .mod e31 (.lit 256)
def e33 : E := .upd e30 (.lit 7) e32
def e34 : E := .mod e10 (.lit 2)
def e35 : E := .upd (.tab []) (.lit 0) e34
def e36 : E := .sel (.av 2) (.v 5)
def e37 : E := .add e36 (.lit 4)
def e38 : E := .mod e36 (.lit 256)
def e39 : E := .upd (.tab []) (.lit 0) e38
def e40 : E := .div e36 (.lit 256)
def e41 : E := .mod e40 (.lit 256)
def e42 : E := .upd e39 (.lit 1) e41
def e43 : E := .div e36 (.lit 65536)
def e44 : E := .upd e42 (.lit 2) e43
def e45 : E := .upd e44 (.lit 3) (.lit 0)
def e46 : E := .mul (.v 5) (.lit 18446744073709551616)
def e47 : E := .blt (.tab []) (.lit 0) e36 (.av 3) e46
def e48 : E := .blt e45 (.lit 4) e36 e47 (.lit 0)
def e49 : E := .upd e12 (.lit 1) (.lit 0)
def e50 : E := .upd e49 (.lit 2) (.lit 0)
def e51 : E := .upd e50 (.lit 3) (.lit 0)
def e52 : E := .upd e51 (.lit 4) (.lit 0)
def e53 : E := .upd (.tab []) (.lit 0) (.lit 5)
def e54 : E := .lt (.v 1) (.v 0)
def e55 : E := .add (.v 1) (.lit 1)
def e56 : E := .add (.v 2) (.lit 13)
def e57 : E := .upd (.tab []) (.lit 0) (.lit 76)
def e58 : E := .upd e57 (.lit 1) (.lit 65)
def e59 : E := .upd e58 (.lit 2) (.lit 78)
def e60 : E := .upd e59 (.lit 3) (.lit 84)
def e61 : E := .upd e60 (.lit 4) (.lit 1)
def e62 : E := .mod (.v 2) (.lit 256)
def e63 : E := .upd e61 (.lit 5) e62
def e64 : E := .div (.v 2) (.lit 256)
def e65 : E := .mod e64 (.lit 256)
def e66 : E := .upd e63 (.lit 6) e65
def e67 : E := .div (.v 2) (.lit 65536)
def e68 : E := .upd e66 (.lit 7) e67
def e69 : E := .upd e68 (.lit 8) (.lit 0)
def e70 : E := .app 10 (.cons (.v 2) (.cons (.av 4) .nil))
def e71 : E := .mod e70 (.lit 256)
def e72 : E := .upd e69 (.lit 9) e71
def e73 : E := .div e70 (.lit 256)
def e74 : E := .mod e73 (.lit 256)
def e75 : E := .upd e72 (.lit 10) e74
def e76 : E := .div e70 (.lit 65536)
def e77 : E := .mod e76 (.lit 256)
def e78 : E := .upd e75 (.lit 11) e77
def e79 : E := .div e70 (.lit 16777216)
def e80 : E := .upd e78 (.lit 12) e79
def e81 : E := .blt e80 (.lit 13) (.v 2) (.av 4) (.lit 0)
def e82 : E := .sel (.av 0) (.v 1)
def e83 : E := .add (.v 2) (.lit 1)
def e84 : E := .sel (.av 1) (.v 1)
def e85 : E := .mod e84 (.lit 256)
def e86 : E := .upd (.av 4) (.v 2) e85
def e87 : E := .add (.v 2) (.lit 2)
def e88 : E := .div e84 (.lit 256)
def e89 : E := .mod e88 (.lit 256)
def e90 : E := .upd e86 e83 e89
def e91 : E := .add (.v 2) (.lit 4)
def e92 : E := .div e84 (.lit 65536)
def e93 : E := .mod e92 (.lit 256)
def e94 : E := .upd e90 e87 e93
def e95 : E := .add (.v 2) (.lit 3)
def e96 : E := .div e84 (.lit 16777216)
def e97 : E := .mod e96 (.lit 256)
def e98 : E := .upd e94 e95 e97
def e99 : E := .add (.v 2) (.lit 8)
def e100 : E := .div e84 (.lit 4294967296)
def e101 : E := .mod e100 (.lit 256)
def e102 : E := .upd e98 e91 e101
def e103 : E := .add (.v 2) (.lit 5)
def e104 : E := .div e84 (.lit 1099511627776)
def e105 : E := .mod e104 (.lit 256)
def e106 : E := .upd e102 e103 e105
def e107 : E := .add (.v 2) (.lit 6)
def e108 : E := .div e84 (.lit 281474976710656)
def e109 : E := .mod e108 (.lit 256)
def e110 : E := .upd e106 e107 e109
def e111 : E := .add (.v 2) (.lit 7)
def e112 : E := .div e84 (.lit 72057594037927936)
def e113 : E := .mod e112 (.lit 256)
def e114 : E := .upd e110 e111 e113
def e115 : E := .mod e84 (.lit 2)
def e116 : E := .upd (.av 4) (.v 2) e115
def e117 : E := .sel (.av 2) (.v 1)
def e118 : E := .add (.v 2) e117
def e119 : E := .add e118 (.lit 4)
def e120 : E := .add e117 (.lit 4)
def e121 : E := .mod e117 (.lit 256)
def e122 : E := .upd (.tab []) (.lit 0) e121
def e123 : E := .div e117 (.lit 256)
def e124 : E := .mod e123 (.lit 256)
def e125 : E := .upd e122 (.lit 1) e124
def e126 : E := .div e117 (.lit 65536)
def e127 : E := .upd e125 (.lit 2) e126
def e128 : E := .upd e127 (.lit 3) (.lit 0)
def e129 : E := .mul (.v 1) (.lit 18446744073709551616)
def e130 : E := .blt (.tab []) (.lit 0) e117 (.av 3) e129
def e131 : E := .blt e128 (.lit 4) e117 e130 (.lit 0)
def e132 : E := .blt (.av 4) (.v 2) e120 e131 (.lit 0)
def e133 : E := .upd e86 e83 (.lit 0)
def e134 : E := .upd e133 e87 (.lit 0)
def e135 : E := .upd e134 e95 (.lit 0)
def e136 : E := .upd e135 e91 (.lit 0)
def e137 : E := .upd (.tab []) (.lit 0) e103
def e138 : E := .lt (.v 4) (.v 0)
def e139 : E := .add (.v 4) (.lit 1)
def e140 : E := .add (.v 3) (.lit 13)
def e141 : E := .mod (.v 3) (.lit 256)
def e142 : E := .upd e61 (.lit 5) e141
def e143 : E := .div (.v 3) (.lit 256)
def e144 : E := .mod e143 (.lit 256)
def e145 : E := .upd e142 (.lit 6) e144
def e146 : E := .div (.v 3) (.lit 65536)
def e147 : E := .upd e145 (.lit 7) e146
def e148 : E := .upd e147 (.lit 8) (.lit 0)
def e149 : E := .app 10 (.cons (.v 3) (.cons (.av 6) .nil))
def e150 : E := .mod e149 (.lit 256)
def e151 : E := .upd e148 (.lit 9) e150
def e152 : E := .div e149 (.lit 256)
def e153 : E := .mod e152 (.lit 256)
def e154 : E := .upd e151 (.lit 10) e153
def e155 : E := .div e149 (.lit 65536)
def e156 : E := .mod e155 (.lit 256)
def e157 : E := .upd e154 (.lit 11) e156
def e158 : E := .div e149 (.lit 16777216)
def e159 : E := .upd e157 (.lit 12) e158
def e160 : E := .blt e159 (.lit 13) (.v 3) (.av 6) (.lit 0)
def e161 : E := .sel (.av 0) (.v 4)
def e162 : E := .add (.v 3) (.lit 1)
def e163 : E := .sel (.av 1) (.v 4)
def e164 : E := .mod e163 (.lit 256)
def e165 : E := .upd (.av 6) (.v 3) e164
def e166 : E := .add (.v 3) (.lit 2)
def e167 : E := .div e163 (.lit 256)
def e168 : E := .mod e167 (.lit 256)
def e169 : E := .upd e165 e162 e168
def e170 : E := .add (.v 3) (.lit 4)
def e171 : E := .div e163 (.lit 65536)
def e172 : E := .mod e171 (.lit 256)
def e173 : E := .upd e169 e166 e172
def e174 : E := .add (.v 3) (.lit 3)
def e175 : E := .div e163 (.lit 16777216)
def e176 : E := .mod e175 (.lit 256)
def e177 : E := .upd e173 e174 e176
def e178 : E := .add (.v 3) (.lit 8)
def e179 : E := .div e163 (.lit 4294967296)
def e180 : E := .mod e179 (.lit 256)
def e181 : E := .upd e177 e170 e180
def e182 : E := .add (.v 3) (.lit 5)
def e183 : E := .div e163 (.lit 1099511627776)
def e184 : E := .mod e183 (.lit 256)
def e185 : E := .upd e181 e182 e184
def e186 : E := .add (.v 3) (.lit 6)
def e187 : E := .div e163 (.lit 281474976710656)
def e188 : E := .mod e187 (.lit 256)
def e189 : E := .upd e185 e186 e188
def e190 : E := .add (.v 3) (.lit 7)
def e191 : E := .div e163 (.lit 72057594037927936)
def e192 : E := .mod e191 (.lit 256)
def e193 : E := .upd e189 e190 e192
def e194 : E := .mod e163 (.lit 2)
def e195 : E := .upd (.av 6) (.v 3) e194
def e196 : E := .sel (.av 2) (.v 4)
def e197 : E := .add (.v 3) e196
def e198 : E := .add e197 (.lit 4)
def e199 : E := .add e196 (.lit 4)
def e200 : E := .mod e196 (.lit 256)
def e201 : E := .upd (.tab []) (.lit 0) e200
def e202 : E := .div e196 (.lit 256)
def e203 : E := .mod e202 (.lit 256)
def e204 : E := .upd e201 (.lit 1) e203
def e205 : E := .div e196 (.lit 65536)
def e206 : E := .upd e204 (.lit 2) e205
def e207 : E := .upd e206 (.lit 3) (.lit 0)
def e208 : E := .mul (.v 4) (.lit 18446744073709551616)
def e209 : E := .blt (.tab []) (.lit 0) e196 (.av 3) e208
def e210 : E := .blt e207 (.lit 4) e196 e209 (.lit 0)
def e211 : E := .blt (.av 6) (.v 3) e199 e210 (.lit 0)
def e212 : E := .add (.v 7) (.lit 1)
def e213 : E := .upd e165 e162 (.lit 0)
def e214 : E := .upd e213 e166 (.lit 0)
def e215 : E := .upd e214 e174 (.lit 0)
def e216 : E := .upd e215 e170 (.lit 0)
def e217 : E := .upd (.av 5) (.v 7) e182
def e218 : E := .add (.v 7) (.lit (-1))
def e219 : E := .sel (.av 5) e218
def e220 : E := .add e219 (.lit (-4))
def e221 : E := .le (.lit 0) e220
def e222 : E := .le e220 (.lit (-1))
def e223 : E := .le e219 (.v 3)
def e224 : E := .or e222 e223
def e225 : E := .le e220 (.v 3)
def e226 : E := .lt (.v 3) e220
def e227 : E := .or e226 e223
def e228 : E := .sub (.v 3) e219
def e229 : E := .mod e228 (.lit 256)
def e230 : E := .upd (.av 6) e220 e229
def e231 : E := .add e219 (.lit (-3))
def e232 : E := .div e228 (.lit 256)
def e233 : E := .mod e232 (.lit 256)
def e234 : E := .upd e230 e231 e233
def e235 : E := .add e219 (.lit (-2))
def e236 : E := .div e228 (.lit 65536)
def e237 : E := .mod e236 (.lit 256)
def e238 : E := .upd e234 e235 e237
def e239 : E := .add e219 (.lit (-1))
def e240 : E := .div e228 (.lit 16777216)
def e241 : E := .mod e240 (.lit 256)
def e242 : E := .upd e238 e239 e241
noncomputable def eT0 : List Item := todoS Try.prog G Gh [] 3000 0 3 eHy eLs [] 5
noncomputable def eh0 : Head := ⟨5, eT0, ⟨[((.v 0), (0, 1048575)), ((.v 1), (0, 1048575)), ((.v 2), (1, 2097152)), ((.v 3), (1, 2097152)), ((.v 4), (0, 1048575)), ((.v 5), (0, 1048575)), ((.v 6), (0, 255)), ((.v 7), (0, 16)), ((.v 8), (0, 255)), ((.v 9), (0, 255))], [(0, ((-9223372036854775808), 9223372036854775807)), (1, ((-9223372036854775808), 9223372036854775807)), (2, (0, 1048575)), (3, (0, 255)), (4, (0, 255)), (5, (0, 16777216)), (6, (0, 255))], [(10, (0, 4294967295))], [], [], [(0, ⟨(.v 0), [(some .i64, (.av 0)), (some .i64, (.av 1))], [(1, (.av 2), (.av 3))]⟩)]⟩, [⟨5, [], .s (.int .i64 (.v 5))⟩, ⟨4, [], .s (.ptr 1 (.lit 0))⟩, ⟨3, [], .s (.ptr 0 (.lit 0))⟩, ⟨0, [], .s (.xslc 0 (.lit 0) (.lit 0) (.v 0))⟩], [⟨69, [.one (.nilSlc), .run .i64 (.lit 16) (.tab []) 0, .one (.int .i64 (.lit 0)), .one (.int .i64 (.v 6))], true, none, false⟩, ⟨29, [.one (.nilSlc), .one (.nilSlc), .one (.int .i64 (.v 6))], true, none, false⟩]⟩
noncomputable def eT1 : List Item := eT0
noncomputable def eh1 : Head := ⟨5, eT1, ⟨[((.v 0), (0, 1048575)), ((.v 1), (0, 1048575)), ((.v 2), (1, 2097152)), ((.v 3), (1, 2097152)), ((.v 4), (0, 1048575)), ((.v 5), (0, 1048575)), ((.v 6), (0, 255)), ((.v 7), (0, 16)), ((.v 8), (0, 255)), ((.v 9), (0, 255))], [(0, ((-9223372036854775808), 9223372036854775807)), (1, ((-9223372036854775808), 9223372036854775807)), (2, (0, 1048575)), (3, (0, 255)), (4, (0, 255)), (5, (0, 16777216)), (6, (0, 255))], [(10, (0, 4294967295))], [], [], [(0, ⟨(.v 0), [(some .i64, (.av 0)), (some .i64, (.av 1))], [(1, (.av 2), (.av 3))]⟩)]⟩, [⟨5, [], .s (.int .i64 (.v 1))⟩, ⟨4, [], .s (.ptr 1 (.lit 0))⟩, ⟨3, [], .s (.ptr 0 (.lit 0))⟩, ⟨0, [], .s (.xslc 0 (.lit 0) (.lit 0) (.v 0))⟩], [⟨69, [.one (.slc 2 (.lit 0) (.v 2) (.op (.lit 0))), .run .i64 (.lit 16) (.tab []) 0, .one (.int .i64 (.lit 0)), .one (.int .i64 (.v 8))], true, none, false⟩, ⟨29, [.one (.slc 3 (.lit 0) (.v 2) (.op (.lit 0))), .one (.nilSlc), .one (.int .i64 (.v 8))], true, none, false⟩, ⟨5, [.run .u8 (.v 2) (.av 4) 0], true, some 1, false⟩, ⟨5, [.run .u8 (.v 2) (.av 4) 0], true, some 1, false⟩]⟩
noncomputable def eT2 : List Item := eT0
noncomputable def eh2 : Head := ⟨5, eT2, ⟨[((.v 0), (0, 1048575)), ((.v 1), (0, 1048575)), ((.v 2), (1, 2097152)), ((.v 3), (1, 2097152)), ((.v 4), (0, 1048575)), ((.v 5), (0, 1048575)), ((.v 6), (0, 255)), ((.v 7), (0, 16)), ((.v 8), (0, 255)), ((.v 9), (0, 255))], [(0, ((-9223372036854775808), 9223372036854775807)), (1, ((-9223372036854775808), 9223372036854775807)), (2, (0, 1048575)), (3, (0, 255)), (4, (0, 255)), (5, (0, 16777216)), (6, (0, 255))], [(10, (0, 4294967295))], [], [], [(0, ⟨(.v 0), [(some .i64, (.av 0)), (some .i64, (.av 1))], [(1, (.av 2), (.av 3))]⟩)]⟩, [⟨5, [], .s (.int .i64 (.v 4))⟩, ⟨4, [], .s (.ptr 1 (.lit 0))⟩, ⟨3, [], .s (.ptr 0 (.lit 0))⟩, ⟨0, [], .s (.xslc 0 (.lit 0) (.lit 0) (.v 0))⟩], [⟨69, [.one (.slc 2 (.lit 0) (.v 3) (.op (.lit 0))), .run .i64 (.lit 16) (.av 5) 0, .one (.int .i64 (.v 7)), .one (.int .i64 (.v 9))], true, none, false⟩, ⟨29, [.one (.slc 3 (.lit 0) (.v 3) (.op (.lit 0))), .one (.slc 4 (.lit 0) (.v 7) (.op (.lit 0))), .one (.int .i64 (.v 9))], true, none, false⟩, ⟨5, [.run .u8 (.v 3) (.av 6) 0], true, some 1, false⟩, ⟨5, [.run .u8 (.v 3) (.av 6) 0], true, some 1, false⟩, ⟨3, [.run .i64 (.v 7) (.av 5) 0], true, some 1, false⟩]⟩
noncomputable def ehs : List Head := [eh0, eh1, eh2]
def eD : Dim := ⟨10, 0, 7, 1, 0, 4, 0⟩
theorem est : startL Try.prog G Gh eD ehs [] 3000 0 3 eHy eLs [] = some (.jump 0 eT0 ⟨[(6, (.lit 0)), (5, (.lit 0))], [], []⟩) := by kernel_rfl
theorem ehT0 : (ehs[0]?.map (·.todo)) = some eT0 := by kernel_rfl
theorem ehT1 : (ehs[1]?.map (·.todo)) = some eT1 := by kernel_rfl
theorem ehT2 : (ehs[2]?.map (·.todo)) = some eT2 := by kernel_rfl
def eBase (x0 : Ext) (Y0 : Nat → Ext) (nx0 : Int) (Ax0_0 Ax0_1 Ax0_2 Ax0_3 : Nat → Int) : Prop := (0 ≤ nx0 ∧ nx0 ≤ 1048575) ∧ (∀ j, -9223372036854775808 ≤ Ax0_0 j ∧ Ax0_0 j ≤ 9223372036854775807) ∧ (∀ j, -9223372036854775808 ≤ Ax0_1 j ∧ Ax0_1 j ≤ 9223372036854775807) ∧ (∀ j, 0 ≤ Ax0_2 j ∧ Ax0_2 j ≤ 1048575) ∧ (∀ j, 0 ≤ Ax0_3 j ∧ Ax0_3 j ≤ 255) ∧ nx0 = (x0.n : Int) ∧ Ax0_0 = xArr x0 3 0 ∧ Ax0_1 = xArr x0 3 1 ∧ Ax0_2 = nLen Y0 ∧ Ax0_3 = nArr Y0 ∧ (∀ k : Nat, k ≤ x0.n → pSum (nLen Y0) k ≤ 2097150) ∧ True
def eJ0 (nx0 y1 y2 y3 y4 y5 y6 y7 y8 y9 : Int) (Ax0_0 Ax0_1 Ax0_2 Ax0_3 Z4 Z5 Z6 : Nat → Int) : Prop := (0 ≤ y1 ∧ y1 ≤ 1048575) ∧ (1 ≤ y2 ∧ y2 ≤ 2097152) ∧ (1 ≤ y3 ∧ y3 ≤ 2097152) ∧ (0 ≤ y4 ∧ y4 ≤ 1048575) ∧ (0 ≤ y5 ∧ y5 ≤ 1048575) ∧ (0 ≤ y6 ∧ y6 ≤ 255) ∧ (0 ≤ y7 ∧ y7 ≤ 16) ∧ (0 ≤ y8 ∧ y8 ≤ 255) ∧ (0 ≤ y9 ∧ y9 ≤ 255) ∧ (∀ j, 0 ≤ Z4 j ∧ Z4 j ≤ 255) ∧ (∀ j, 0 ≤ Z5 j ∧ Z5 j ≤ 16777216) ∧ (∀ j, 0 ≤ Z6 j ∧ Z6 j ≤ 255) ∧ True
def eJ1 (nx0 y1 y2 y3 y4 y5 y6 y7 y8 y9 : Int) (Ax0_0 Ax0_1 Ax0_2 Ax0_3 Z4 Z5 Z6 : Nat → Int) : Prop := (0 ≤ y1 ∧ y1 ≤ 1048575) ∧ (1 ≤ y2 ∧ y2 ≤ 2097152) ∧ (1 ≤ y3 ∧ y3 ≤ 2097152) ∧ (0 ≤ y4 ∧ y4 ≤ 1048575) ∧ (0 ≤ y5 ∧ y5 ≤ 1048575) ∧ (0 ≤ y6 ∧ y6 ≤ 255) ∧ (0 ≤ y7 ∧ y7 ≤ 16) ∧ (0 ≤ y8 ∧ y8 ≤ 255) ∧ (0 ≤ y9 ∧ y9 ≤ 255) ∧ (∀ j, 0 ≤ Z4 j ∧ Z4 j ≤ 255) ∧ (∀ j, 0 ≤ Z5 j ∧ Z5 j ≤ 16777216) ∧ (∀ j, 0 ≤ Z6 j ∧ Z6 j ≤ 255) ∧ y2 ≤ pSum Ax0_2 y1.toNat ∧ True
def eJ2 (nx0 y1 y2 y3 y4 y5 y6 y7 y8 y9 : Int) (Ax0_0 Ax0_1 Ax0_2 Ax0_3 Z4 Z5 Z6 : Nat → Int) : Prop := (0 ≤ y1 ∧ y1 ≤ 1048575) ∧ (1 ≤ y2 ∧ y2 ≤ 2097152) ∧ (1 ≤ y3 ∧ y3 ≤ 2097152) ∧ (0 ≤ y4 ∧ y4 ≤ 1048575) ∧ (0 ≤ y5 ∧ y5 ≤ 1048575) ∧ (0 ≤ y6 ∧ y6 ≤ 255) ∧ (0 ≤ y7 ∧ y7 ≤ 16) ∧ (0 ≤ y8 ∧ y8 ≤ 255) ∧ (0 ≤ y9 ∧ y9 ≤ 255) ∧ (∀ j, 0 ≤ Z4 j ∧ Z4 j ≤ 255) ∧ (∀ j, 0 ≤ Z5 j ∧ Z5 j ≤ 16777216) ∧ (∀ j, 0 ≤ Z6 j ∧ Z6 j ≤ 255) ∧ y3 ≤ pSum Ax0_2 y4.toNat ∧ (∀ j : Nat, (j : Int) < y7 → 4 ≤ Z5 j ∧ Z5 j ≤ y3) ∧ True
def eInv (x0 : Ext) (Y0 : Nat → Ext) : Nat → Env → Prop
  | 0, ρ => ∃ (nx0 y1 y2 y3 y4 y5 y6 y7 y8 y9 : Int) (Ax0_0 Ax0_1 Ax0_2 Ax0_3 Z4 Z5 Z6 : Nat → Int), ρ = (⟨[nx0, y1, y2, y3, y4, y5, y6, y7, y8, y9], [], [Ax0_0, Ax0_1, Ax0_2, Ax0_3, Z4, Z5, Z6], [], Iv (fun i j => match i, j with | 0, 0 => x0 | 1, j => Y0 j | _, _ => Ext.none)⟩ : Env) ∧ eBase x0 Y0 nx0 Ax0_0 Ax0_1 Ax0_2 Ax0_3 ∧ eJ0 nx0 y1 y2 y3 y4 y5 y6 y7 y8 y9 Ax0_0 Ax0_1 Ax0_2 Ax0_3 Z4 Z5 Z6
  | 1, ρ => ∃ (nx0 y1 y2 y3 y4 y5 y6 y7 y8 y9 : Int) (Ax0_0 Ax0_1 Ax0_2 Ax0_3 Z4 Z5 Z6 : Nat → Int), ρ = (⟨[nx0, y1, y2, y3, y4, y5, y6, y7, y8, y9], [], [Ax0_0, Ax0_1, Ax0_2, Ax0_3, Z4, Z5, Z6], [], Iv (fun i j => match i, j with | 0, 0 => x0 | 1, j => Y0 j | _, _ => Ext.none)⟩ : Env) ∧ eBase x0 Y0 nx0 Ax0_0 Ax0_1 Ax0_2 Ax0_3 ∧ eJ1 nx0 y1 y2 y3 y4 y5 y6 y7 y8 y9 Ax0_0 Ax0_1 Ax0_2 Ax0_3 Z4 Z5 Z6
  | 2, ρ => ∃ (nx0 y1 y2 y3 y4 y5 y6 y7 y8 y9 : Int) (Ax0_0 Ax0_1 Ax0_2 Ax0_3 Z4 Z5 Z6 : Nat → Int), ρ = (⟨[nx0, y1, y2, y3, y4, y5, y6, y7, y8, y9], [], [Ax0_0, Ax0_1, Ax0_2, Ax0_3, Z4, Z5, Z6], [], Iv (fun i j => match i, j with | 0, 0 => x0 | 1, j => Y0 j | _, _ => Ext.none)⟩ : Env) ∧ eBase x0 Y0 nx0 Ax0_0 Ax0_1 Ax0_2 Ax0_3 ∧ eJ2 nx0 y1 y2 y3 y4 y5 y6 y7 y8 y9 Ax0_0 Ax0_1 Ax0_2 Ax0_3 Z4 Z5 Z6
  | _, _ => False
def emu : Nat → Env → Nat := fun j ρ => (ρ.i.getD 0 0 - (match j with | 0 => ρ.i.getD 5 0 | 1 => ρ.i.getD 1 0 | _ => ρ.i.getD 4 0)).toNat
theorem evcS (x0 : Ext) (Y0 : Nat → Ext) (nx0 : Int) (Ax0_0 Ax0_1 Ax0_2 Ax0_3 : Nat → Int) (hB : eBase x0 Y0 nx0 Ax0_0 Ax0_1 Ax0_2 Ax0_3) :
    LT.holds (⟨[nx0, 0, 1, 1, 0, 0, 0, 0, 0, 0], [], [Ax0_0, Ax0_1, Ax0_2, Ax0_3, fun _ => 0, fun _ => 0, fun _ => 0], [], Iv (fun i j => match i, j with | 0, 0 => x0 | 1, j => Y0 j | _, _ => Ext.none)⟩ : Env) (fun v _ => retTrue (⟨[nx0, 0, 1, 1, 0, 0, 0, 0, 0, 0], [], [Ax0_0, Ax0_1, Ax0_2, Ax0_3, fun _ => 0, fun _ => 0, fun _ => 0], [], Iv (fun i j => match i, j with | 0, 0 => x0 | 1, j => Y0 j | _, _ => Ext.none)⟩ : Env) v) (fun j' todo ρ' => (ehs[j']?.map (·.todo)) = some todo ∧ eInv x0 Y0 j' ρ') (.jump 0 eT0 ⟨[(6, (.lit 0)), (5, (.lit 0))], [], []⟩) := by
  simp only [LT.holds, retTrue]
  refine ⟨ehT0, nx0, 0, 1, 1, 0, (_root_.Go.Sx.E.i (⟨[nx0, 0, 1, 1, 0, 0, 0, 0, 0, 0], [], [Ax0_0, Ax0_1, Ax0_2, Ax0_3, fun _ => 0, fun _ => 0, fun _ => 0], [], Iv (fun i j => match i, j with | 0, 0 => x0 | 1, j => Y0 j | _, _ => Ext.none)⟩ : Env) (.lit 0)), (_root_.Go.Sx.E.i (⟨[nx0, 0, 1, 1, 0, 0, 0, 0, 0, 0], [], [Ax0_0, Ax0_1, Ax0_2, Ax0_3, fun _ => 0, fun _ => 0, fun _ => 0], [], Iv (fun i j => match i, j with | 0, 0 => x0 | 1, j => Y0 j | _, _ => Ext.none)⟩ : Env) (.lit 0)), 0, 0, 0, Ax0_0, Ax0_1, Ax0_2, Ax0_3, fun _ => 0, fun _ => 0, fun _ => 0, (by kernel_rfl), hB, ?_⟩
  simp only [eJ0]
  refine ⟨?_, ?_, ?_, ?_, ?_, ?_, ?_, ?_, ?_, ?_, ?_, ?_, trivial⟩
  all_goals (try simp only [e0, e1, e3, e4, e5, e6, e7, e8, e9, e10, e11, e12, e13, e14, e15, e16, e17, e18, e19, e20, e21, e22, e23, e24, e25, e26, e27, e28, e29, e30, e31, e32, e33, e34, e35, e36, e37, e38, e39, e40, e41, e42, e43, e44, e45, e46, e47, e48, e49, e50, e51, e52, e53, e54, e55, e56, e57, e58, e59, e60, e61, e62, e63, e64, e65, e66, e67, e68, e69, e71, e72, e73, e74, e75, e76, e77, e78, e79, e80, e81, e82, e83, e84, e85, e86, e87, e88, e89, e90, e91, e92, e93, e94, e95, e96, e97, e98, e99, e100, e101, e102, e103, e104, e105, e106, e107, e108, e109, e110, e111, e112, e113, e114, e115, e116, e117, e118, e119, e120, e121, e122, e123, e124, e125, e126, e127, e128, e129, e130, e131, e132, e133, e134, e135, e136, e137, e138, e139, e140, e141, e142, e143, e144, e145, e146, e147, e148, e150, e151, e152, e153, e154, e155, e156, e157, e158, e159, e160, e161, e162, e163, e164, e165, e166, e167, e168, e169, e170, e171, e172, e173, e174, e175, e176, e177, e178, e179, e180, e181, e182, e183, e184, e185, e186, e187, e188, e189, e190, e191, e192, e193, e194, e195, e196, e197, e198, e199, e200, e201, e202, e203, e204, e205, e206, e207, e208, e209, e210, e211, e212, e213, e214, e215, e216, e217, e218, e219, e220, e221, e222, e223, e224, e225, e226, e227, e228, e229, e230, e231, e232, e233, e234, e235, e236, e237, e238, e239, e240, e241, e242, i_v, i_lit, i_add, i_sub, i_sel, a_av, a_tab, a_upd, List.getD_cons_zero, List.getD_cons_succ])
  all_goals first
    | omega
    | (intro j; omega)
end Go.Proofs.Ytflamojcdfmimaa.SaveWrites
