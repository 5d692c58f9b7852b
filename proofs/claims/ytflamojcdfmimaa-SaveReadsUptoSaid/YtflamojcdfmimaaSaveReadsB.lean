/- A part of the law SaveReads, which returns true for every input. A reader of whatever bytes answers, call by call in every order, what the document says, and stands where it says. Where what comes in is of bulk at most 1048576. No condition. -/
import Derived.Test.YtflamojcdfmimaaSaveReads0
namespace Go.Proofs.Ytflamojcdfmimaa.SaveReads
open Go.Sx Go.ChangeShapes Go.WideShapes Go.ChangeAt Go.RowKit
set_option linter.unusedVariables false
set_option linter.unusedSimpArgs false
set_option maxRecDepth 100000
def eV (x0 : Ext) (x1 : Ext) (Y1 : Nat → Ext) (mm nn y2 y3 y4 y5 y6 y7 y8 : Int) (Bx Cx Dx Fx Gx Z5 Z6 : Nat → Int) : Env := (⟨[mm, nn, y2, y3, y4, y5, y6, y7, y8], [], [Bx, Cx, Dx, Fx, Gx, Z5, Z6], [], Iv (fun i j => match i, j with | 0, 0 => x0 | 1, 0 => x1 | 2, j => Y1 j | _, _ => Ext.none)⟩ : Env)
theorem sm : (∀ (ρ : Env) (n : Nat), E.i ρ (.v n) = ρ.i.getD n 0) ∧ (∀ (ρ : Env) (z : Int), E.i ρ (.lit z) = z) ∧ (∀ (ρ : Env) (a b : E), E.i ρ (.add a b) = E.i ρ a + E.i ρ b) ∧ (∀ (ρ : Env) (a b : E), E.i ρ (.sub a b) = E.i ρ a - E.i ρ b) ∧ (∀ (ρ : Env) (a b : E), E.i ρ (.mul a b) = E.i ρ a * E.i ρ b) ∧ (∀ (ρ : Env) (a b : E), E.i ρ (.mod a b) = E.i ρ a % E.i ρ b) ∧ (∀ (ρ : Env) (a b : E), E.i ρ (.sel a b) = E.a ρ a (E.i ρ b).toNat) ∧ (∀ (ρ : Env) (c a b : E), E.i ρ (.ite c a b) = if E.b ρ c = true then E.i ρ a else E.i ρ b) ∧ (∀ (ρ : Env) (n : Nat), E.a ρ (.av n) = ρ.a.getD n (fun _ => 0)) ∧ (∀ (ρ : Env) (l : List Int) (j : Nat), E.a ρ (.tab l) j = l.getD j 0) ∧ (∀ (ρ : Env) (a i x : E) (j : Nat), E.a ρ (.upd a i x) j = if j = (E.i ρ i).toNat then E.i ρ x else E.a ρ a j) ∧ (∀ (ρ : Env) (a b : E), E.b ρ (.lt a b) = decide (E.i ρ a < E.i ρ b)) ∧ (∀ (ρ : Env) (a b : E), E.b ρ (.le a b) = decide (E.i ρ a ≤ E.i ρ b)) ∧ (∀ (ρ : Env) (a b : E), E.b ρ (.eq a b) = decide (E.i ρ a = E.i ρ b)) ∧ (∀ (ρ : Env) (a b : E), E.b ρ (.or a b) = (E.b ρ a || E.b ρ b)) ∧ (∀ (ρ : Env) (a b : E), E.b ρ (.and a b) = (E.b ρ a && E.b ρ b)) ∧ (∀ (ρ : Env) (a : E), E.b ρ (.not a) = !(E.b ρ a)) ∧ (∀ (ρ : Env) (z : Bool), E.b ρ (.blit z) = z) := by
  refine ⟨?_, ?_, ?_, ?_, ?_, ?_, ?_, ?_, ?_, ?_, ?_, ?_, ?_, ?_, ?_, ?_, ?_, ?_⟩ <;> intros <;> first | rfl | exact i_ite _ _ _ _ | simp [a_upd]
theorem sn : (∀ (x d : Int) (l : List Int), (x :: l).getD 0 d = x) ∧ (∀ (x d : Int) (l : List Int) (n : Nat), (x :: l).getD (n + 1) d = l.getD n d) ∧ (∀ (x d : Nat → Int) (l : List (Nat → Int)), (x :: l).getD 0 d = x) ∧ (∀ (x d : Nat → Int) (l : List (Nat → Int)) (n : Nat), (x :: l).getD (n + 1) d = l.getD n d) ∧ (∀ (d : Int) (n : Nat), ([] : List Int).getD n d = d) ∧ (∀ p q : Bool, ((p || q) = true) = (p = true ∨ q = true)) ∧ (∀ p q : Bool, ((p && q) = true) = (p = true ∧ q = true)) ∧ (∀ p : Bool, ((!p) = true) = (p = false)) ∧ (∀ p : Bool, ((!p) = false) = (p = true)) ∧ (∀ p q : Bool, ((p || q) = false) = (p = false ∧ q = false)) ∧ (∀ (p : Prop) [Decidable p], (decide p = true) = p) ∧ (∀ (p : Prop) [Decidable p], (decide p = false) = ¬ p) ∧ Int.toNat 0 = 0 ∧ Int.toNat 1 = 1 ∧ Int.toNat 2 = 2 := by
  refine ⟨fun _ _ _ => rfl, fun _ _ _ _ => rfl, fun _ _ _ => rfl, fun _ _ _ _ => rfl, fun _ _ => rfl, ?_, ?_, ?_, ?_, ?_, ?_, ?_, rfl, rfl, rfl⟩ <;> intros <;> simp
theorem aeq_shift {ρ : Env} {N L A P Q : E} (h0 : 0 ≤ P.i ρ) (h1 : P.i ρ + N.i ρ ≤ L.i ρ) (h2 : Q.i ρ = P.i ρ + 13) :
    (E.aeq false N (.blt (.tab []) (.lit 0) N (.blt (.tab []) (.lit 0) L A (.lit 13)) P) (.blt (.tab []) (.lit 0) N A Q) 0 0).b ρ = true := by
  rw [b_aeq, List.all_eq_true]
  intro j hj
  rw [List.mem_range] at hj
  simp only [Nat.zero_add, a_blt, i_lit, Int.toNat_zero, Nat.sub_zero, Bool.false_eq_true, if_false]
  rw [if_pos (by omega), if_pos (by omega), if_pos (by omega), beq_iff_eq]
  congr 1
  have : (13 : Int).toNat = 13 := rfl
  omega
def eHy : Hyp := ⟨[((.v 0), (14, 1048575)), (.v 0, (0, 9223372036854775807)), (.v 1, (0, 1048575))], [(0, (0, 255)), (1, (-9223372036854775808, 9223372036854775807)), (2, (-9223372036854775808, 9223372036854775807)), (3, (0, 1048575)), (4, (0, 255))], [(10, (0, 4294967295))], [], [], [(0, ⟨.v 0, [(some .u8, .av 0)], []⟩), (1, ⟨.v 1, [(some .i64, .av 1), (some .i64, .av 2)], [(2, .av 3, .av 4)]⟩)]⟩
def eLs : List SV := [.s (.xslc 0 (.lit 0) (.lit 0) (.v 0)), .s (.xslc 1 (.lit 0) (.lit 0) (.v 1))]
def e0 : E := .add (.v 0) (.lit (-13))
def e1 : E := .blt (.tab []) (.lit 0) e0 (.av 0) (.lit 13)
def e2 : E := .sel (.av 0) (.lit 0)
def e3 : E := .eq e2 (.lit 76)
def e4 : E := .not e3
def e5 : E := .sel (.av 0) (.lit 1)
def e6 : E := .eq e5 (.lit 65)
def e7 : E := .not e6
def e8 : E := .or e4 e7
def e9 : E := .sel (.av 0) (.lit 2)
def e10 : E := .eq e9 (.lit 78)
def e11 : E := .not e10
def e12 : E := .or e8 e11
def e13 : E := .sel (.av 0) (.lit 3)
def e14 : E := .eq e13 (.lit 84)
def e15 : E := .not e14
def e16 : E := .or e12 e15
def e17 : E := .sel (.av 0) (.lit 4)
def e18 : E := .eq e17 (.lit 1)
def e19 : E := .not e18
def e20 : E := .sel (.av 0) (.lit 8)
def e21 : E := .mul e20 (.lit 16777216)
def e22 : E := .sel (.av 0) (.lit 7)
def e23 : E := .mul e22 (.lit 65536)
def e24 : E := .add e21 e23
def e25 : E := .sel (.av 0) (.lit 6)
def e26 : E := .mul e25 (.lit 256)
def e27 : E := .add e24 e26
def e28 : E := .sel (.av 0) (.lit 5)
def e29 : E := .add e27 e28
def e30 : E := .eq e29 e0
def e31 : E := .not e30
def e32 : E := .sel (.av 0) (.lit 12)
def e33 : E := .mul e32 (.lit 16777216)
def e34 : E := .sel (.av 0) (.lit 11)
def e35 : E := .mul e34 (.lit 65536)
def e36 : E := .add e33 e35
def e37 : E := .sel (.av 0) (.lit 10)
def e38 : E := .mul e37 (.lit 256)
def e39 : E := .add e36 e38
def e40 : E := .sel (.av 0) (.lit 9)
def e41 : E := .add e39 e40
def e42 : E := .app 10 (.cons e0 (.cons e1 .nil))
def e43 : E := .eq e41 e42
def e44 : E := .not e43
def e45 : E := .sub e0 (.v 3)
def e46 : E := .sel (.av 1) (.v 2)
def e47 : E := .le e45 (.lit 0)
def e48 : E := .le (.v 3) e0
def e49 : E := .lt (.v 2) (.v 1)
def e50 : E := .lt (.v 3) e0
def e51 : E := .ite e50 (.lit 59) (.lit 0)
def e52 : E := .eq e51 (.lit 0)
def e53 : E := .not e52
def e54 : E := .sel (.av 2) (.v 2)
def e55 : E := .add (.v 2) (.lit 1)
def e56 : E := .add (.v 3) (.lit 13)
def e57 : E := .add (.v 3) (.lit 14)
def e58 : E := .add (.v 3) (.lit 1)
def e59 : E := .lt e56 (.v 0)
def e60 : E := .le e57 (.v 0)
def e61 : E := .le e58 e0
def e62 : E := .le (.lit 1) e45
def e63 : E := .lt e58 e0
def e64 : E := .ite e63 (.lit 59) (.lit 0)
def e65 : E := .sub e0 e58
def e66 : E := .le e65 (.lit 0)
def e67 : E := .ite e66 (.lit 0) (.lit 59)
def e68 : E := .eq e64 e67
def e69 : E := .not e68
def e70 : E := .sel (.av 0) e56
def e71 : E := .le e45 (.lit 1)
def e72 : E := .ite e47 (.lit 0) (.lit 59)
def e73 : E := .eq e51 e72
def e74 : E := .not e73
def e75 : E := .add (.v 3) (.lit 15)
def e76 : E := .add (.v 3) (.lit 2)
def e77 : E := .lt e57 (.v 0)
def e78 : E := .le e75 (.v 0)
def e79 : E := .le e76 e0
def e80 : E := .le (.lit 2) e45
def e81 : E := .lt e76 e0
def e82 : E := .ite e81 (.lit 59) (.lit 0)
def e83 : E := .sub e0 e76
def e84 : E := .le e83 (.lit 0)
def e85 : E := .ite e84 (.lit 0) (.lit 59)
def e86 : E := .eq e82 e85
def e87 : E := .not e86
def e88 : E := .sel (.av 0) e57
def e89 : E := .mul e88 (.lit 256)
def e90 : E := .le e45 (.lit 3)
def e91 : E := .add (.v 3) (.lit 16)
def e92 : E := .add (.v 3) (.lit 3)
def e93 : E := .add (.v 3) (.lit 17)
def e94 : E := .add (.v 3) (.lit 4)
def e95 : E := .lt e91 (.v 0)
def e96 : E := .lt e75 (.v 0)
def e97 : E := .lt e92 e0
def e98 : E := .le e93 (.v 0)
def e99 : E := .le e94 e0
def e100 : E := .le (.lit 4) e45
def e101 : E := .lt e94 e0
def e102 : E := .ite e101 (.lit 59) (.lit 0)
def e103 : E := .sub e0 e94
def e104 : E := .le e103 (.lit 0)
def e105 : E := .ite e104 (.lit 0) (.lit 59)
def e106 : E := .eq e102 e105
def e107 : E := .not e106
def e108 : E := .sel (.av 0) e91
def e109 : E := .mul e108 (.lit 16777216)
def e110 : E := .sel (.av 0) e75
def e111 : E := .mul e110 (.lit 65536)
def e112 : E := .add e109 e111
def e113 : E := .add e112 e89
def e114 : E := .add e113 e70
def e115 : E := .le e45 (.lit 7)
def e116 : E := .add (.v 3) (.lit 20)
def e117 : E := .add (.v 3) (.lit 19)
def e118 : E := .add (.v 3) (.lit 18)
def e119 : E := .add (.v 3) (.lit 7)
def e120 : E := .add (.v 3) (.lit 6)
def e121 : E := .add (.v 3) (.lit 5)
def e122 : E := .add (.v 3) (.lit 21)
def e123 : E := .add (.v 3) (.lit 8)
def e124 : E := .lt e116 (.v 0)
def e125 : E := .lt e117 (.v 0)
def e126 : E := .lt e118 (.v 0)
def e127 : E := .lt e93 (.v 0)
def e128 : E := .lt e119 e0
def e129 : E := .lt e120 e0
def e130 : E := .lt e121 e0
def e131 : E := .le e122 (.v 0)
def e132 : E := .le e123 e0
def e133 : E := .le (.lit 8) e45
def e134 : E := .lt e123 e0
def e135 : E := .ite e134 (.lit 59) (.lit 0)
def e136 : E := .sub e0 e123
def e137 : E := .le e136 (.lit 0)
def e138 : E := .ite e137 (.lit 0) (.lit 59)
def e139 : E := .eq e135 e138
def e140 : E := .not e139
def e141 : E := .sel (.av 0) e93
def e142 : E := .le (.lit 2) e70
def e143 : E := .le e70 (.lit 1)
def e144 : E := .eq e70 (.lit 0)
def e145 : E := .ite e144 (.lit 0) (.lit 1)
def e146 : E := .eq e145 e70
def e147 : E := .not e146
def e148 : E := .or e69 e147
def e149 : E := .lt e54 e114
def e150 : E := .add e45 (.lit (-4))
def e151 : E := .lt e150 e114
def e152 : E := .lt e103 e114
def e153 : E := .le e114 e54
def e154 : E := .add (.v 3) e109
def e155 : E := .add e154 e111
def e156 : E := .add e155 e89
def e157 : E := .add e156 e70
def e158 : E := .add e157 (.lit 17)
def e159 : E := .add e157 (.lit 4)
def e160 : E := .le e158 (.v 0)
def e161 : E := .le e94 e159
def e162 : E := .le e159 e0
def e163 : E := .le e114 e150
def e164 : E := .le e114 e103
def e165 : E := .lt e159 e0
def e166 : E := .ite e165 (.lit 59) (.lit 0)
def e167 : E := .sub e0 e159
def e168 : E := .le e167 (.lit 0)
def e169 : E := .ite e168 (.lit 0) (.lit 59)
def e170 : E := .eq e166 e169
def e171 : E := .not e170
def e172 : E := .blt (.tab []) (.lit 0) e114 e1 e94
def e173 : E := .blt (.tab []) (.lit 0) e114 (.av 0) e93
def e174 : E := .aeq false e114 e172 e173 0 0
def e175 : E := .not e174
def e176 : E := .or e171 e175
def e177 : E := .le (.lit 1) e114
def e178 : E := .le e159 e94
def e179 : E := .eq e114 (.lit 0)
def e180 : E := .eq e93 (.v 0)
def e181 : E := .le e45 (.lit 4)
def e182 : E := .mod e54 (.lit 256)
def e183 : E := .eq e70 e182
def e184 : E := .not e183
def e185 : E := .le e118 (.v 0)
def e186 : E := .le e121 e0
def e187 : E := .le (.lit 5) e45
def e188 : E := .mul e141 (.lit 16777216)
def e189 : E := .mul e108 (.lit 65536)
def e190 : E := .add e188 e189
def e191 : E := .mul e110 (.lit 256)
def e192 : E := .add e190 e191
def e193 : E := .add e192 e88
def e194 : E := .add e45 (.lit (-5))
def e195 : E := .sub e0 e121
def e196 : E := .lt e194 e193
def e197 : E := .lt e195 e193
def e198 : E := .add (.v 3) e188
def e199 : E := .add e198 e189
def e200 : E := .add e199 e191
def e201 : E := .add e200 e88
def e202 : E := .add e201 (.lit 5)
def e203 : E := .le e202 e0
def e204 : E := .le e193 e194
def e205 : E := .le e193 e195
def e206 : E := .upd (.tab []) (.lit 0) e0
def e207 : E := .upd e206 (.lit 1) e202
def e208 : E := .add (.v 4) (.lit (-1))
def e209 : E := .sel (.av 5) e208
def e210 : E := .sub e209 (.v 6)
def e211 : E := .sub (.v 7) (.v 6)
def e212 : E := .sel (.av 1) (.v 5)
def e213 : E := .le e210 (.lit 0)
def e214 : E := .le e211 (.lit 0)
def e215 : E := .eq (.v 7) e209
def e216 : E := .le (.v 6) (.v 7)
def e217 : E := .le (.v 7) e0
def e218 : E := .lt (.v 5) (.v 1)
def e219 : E := .eq e211 e210
def e220 : E := .not e219
def e221 : E := .le (.v 8) (.lit 0)
def e222 : E := .lt (.v 6) (.v 7)
def e223 : E := .ite e222 (.lit 59) (.lit 0)
def e224 : E := .ite e221 e223 (.lit 50)
def e225 : E := .le (.v 4) (.lit 1)
def e226 : E := .ite e225 (.lit 0) (.lit 50)
def e227 : E := .eq e224 e226
def e228 : E := .not e227
def e229 : E := .or e220 e228
def e230 : E := .sel (.av 2) (.v 5)
def e231 : E := .add (.v 5) (.lit 1)
def e232 : E := .add (.v 6) (.lit 13)
def e233 : E := .add (.v 6) (.lit 14)
def e234 : E := .add (.v 6) (.lit 1)
def e235 : E := .lt e232 (.v 0)
def e236 : E := .lt (.v 6) e0
def e237 : E := .le e233 (.v 0)
def e238 : E := .le e234 e0
def e239 : E := .le (.lit 1) e210
def e240 : E := .le (.lit 1) e211
def e241 : E := .sub (.v 7) e234
def e242 : E := .sub e209 e234
def e243 : E := .eq e241 e242
def e244 : E := .not e243
def e245 : E := .lt e234 (.v 7)
def e246 : E := .ite e245 (.lit 59) (.lit 0)
def e247 : E := .ite e221 e246 (.lit 50)
def e248 : E := .le e242 (.lit 0)
def e249 : E := .ite e248 (.lit 0) (.lit 59)
def e250 : E := .ite e225 e249 (.lit 50)
def e251 : E := .eq e247 e250
def e252 : E := .not e251
def e253 : E := .or e244 e252
def e254 : E := .sel (.av 0) e232
def e255 : E := .le e210 (.lit 1)
def e256 : E := .le e211 (.lit 1)
def e257 : E := .ite e213 (.lit 0) (.lit 59)
def e258 : E := .ite e225 e257 (.lit 50)
def e259 : E := .eq e224 e258
def e260 : E := .not e259
def e261 : E := .or e220 e260
def e262 : E := .add (.v 6) (.lit 15)
def e263 : E := .add (.v 6) (.lit 2)
def e264 : E := .lt e233 (.v 0)
def e265 : E := .lt e234 e0
def e266 : E := .le e262 (.v 0)
def e267 : E := .le e263 e0
def e268 : E := .le (.lit 2) e210
def e269 : E := .le (.lit 2) e211
def e270 : E := .sub (.v 7) e263
def e271 : E := .sub e209 e263
def e272 : E := .eq e270 e271
def e273 : E := .not e272
def e274 : E := .lt e263 (.v 7)
def e275 : E := .ite e274 (.lit 59) (.lit 0)
def e276 : E := .ite e221 e275 (.lit 50)
def e277 : E := .le e271 (.lit 0)
def e278 : E := .ite e277 (.lit 0) (.lit 59)
def e279 : E := .ite e225 e278 (.lit 50)
def e280 : E := .eq e276 e279
def e281 : E := .not e280
def e282 : E := .or e273 e281
def e283 : E := .sel (.av 0) e233
def e284 : E := .mul e283 (.lit 256)
def e285 : E := .le e210 (.lit 3)
def e286 : E := .le e211 (.lit 3)
def e287 : E := .add (.v 6) (.lit 16)
def e288 : E := .add (.v 6) (.lit 3)
def e289 : E := .add (.v 6) (.lit 17)
def e290 : E := .add (.v 6) (.lit 4)
def e291 : E := .lt e287 (.v 0)
def e292 : E := .lt e262 (.v 0)
def e293 : E := .lt e288 e0
def e294 : E := .lt e263 e0
def e295 : E := .le e289 (.v 0)
def e296 : E := .le e290 e0
def e297 : E := .le (.lit 4) e210
def e298 : E := .le (.lit 4) e211
def e299 : E := .sub (.v 7) e290
def e300 : E := .sub e209 e290
def e301 : E := .eq e299 e300
def e302 : E := .not e301
def e303 : E := .lt e290 (.v 7)
def e304 : E := .ite e303 (.lit 59) (.lit 0)
def e305 : E := .ite e221 e304 (.lit 50)
def e306 : E := .le e300 (.lit 0)
def e307 : E := .ite e306 (.lit 0) (.lit 59)
def e308 : E := .ite e225 e307 (.lit 50)
def e309 : E := .eq e305 e308
def e310 : E := .not e309
def e311 : E := .or e302 e310
def e312 : E := .sel (.av 0) e287
def e313 : E := .mul e312 (.lit 16777216)
def e314 : E := .sel (.av 0) e262
def e315 : E := .mul e314 (.lit 65536)
def e316 : E := .add e313 e315
def e317 : E := .add e316 e284
def e318 : E := .add e317 e254
def e319 : E := .le e210 (.lit 7)
def e320 : E := .le e211 (.lit 7)
def e321 : E := .add (.v 6) (.lit 20)
def e322 : E := .add (.v 6) (.lit 19)
def e323 : E := .add (.v 6) (.lit 18)
def e324 : E := .add (.v 6) (.lit 7)
def e325 : E := .add (.v 6) (.lit 6)
def e326 : E := .add (.v 6) (.lit 5)
def e327 : E := .add (.v 6) (.lit 21)
def e328 : E := .add (.v 6) (.lit 8)
def e329 : E := .lt e321 (.v 0)
def e330 : E := .lt e322 (.v 0)
def e331 : E := .lt e323 (.v 0)
def e332 : E := .lt e289 (.v 0)
def e333 : E := .lt e324 e0
def e334 : E := .lt e325 e0
def e335 : E := .lt e326 e0
def e336 : E := .lt e290 e0
def e337 : E := .le e327 (.v 0)
def e338 : E := .le e328 e0
def e339 : E := .le (.lit 8) e210
def e340 : E := .le (.lit 8) e211
def e341 : E := .sub (.v 7) e328
def e342 : E := .sub e209 e328
def e343 : E := .eq e341 e342
def e344 : E := .not e343
def e345 : E := .lt e328 (.v 7)
def e346 : E := .ite e345 (.lit 59) (.lit 0)
def e347 : E := .ite e221 e346 (.lit 50)
def e348 : E := .le e342 (.lit 0)
def e349 : E := .ite e348 (.lit 0) (.lit 59)
def e350 : E := .ite e225 e349 (.lit 50)
def e351 : E := .eq e347 e350
def e352 : E := .not e351
def e353 : E := .or e344 e352
def e354 : E := .sel (.av 0) e289
def e355 : E := .le (.lit 2) e254
def e356 : E := .ite e225 (.lit 59) (.lit 50)
def e357 : E := .eq e224 e356
def e358 : E := .not e357
def e359 : E := .or e220 e358
def e360 : E := .le e254 (.lit 1)
def e361 : E := .eq e254 (.lit 0)
def e362 : E := .ite e361 (.lit 0) (.lit 1)
def e363 : E := .eq e362 e254
def e364 : E := .not e363
def e365 : E := .or e253 e364
def e366 : E := .lt e230 e318
def e367 : E := .add e210 (.lit (-4))
def e368 : E := .lt e367 e318
def e369 : E := .lt e299 e318
def e370 : E := .le e318 e230
def e371 : E := .add (.v 6) e313
def e372 : E := .add e371 e315
def e373 : E := .add e372 e284
def e374 : E := .add e373 e254
def e375 : E := .add e374 (.lit 17)
def e376 : E := .add e374 (.lit 4)
def e377 : E := .le e375 (.v 0)
def e378 : E := .le e290 e376
def e379 : E := .le e376 e0
def e380 : E := .le e318 e367
def e381 : E := .le e318 e299
def e382 : E := .sub (.v 7) e376
def e383 : E := .sub e209 e376
def e384 : E := .eq e382 e383
def e385 : E := .not e384
def e386 : E := .lt e376 (.v 7)
def e387 : E := .ite e386 (.lit 59) (.lit 0)
def e388 : E := .ite e221 e387 (.lit 50)
def e389 : E := .le e383 (.lit 0)
def e390 : E := .ite e389 (.lit 0) (.lit 59)
def e391 : E := .ite e225 e390 (.lit 50)
def e392 : E := .eq e388 e391
def e393 : E := .not e392
def e394 : E := .or e385 e393
def e395 : E := .blt (.tab []) (.lit 0) e318 e1 e290
def e396 : E := .blt (.tab []) (.lit 0) e318 (.av 0) e289
def e397 : E := .aeq false e318 e395 e396 0 0
def e398 : E := .not e397
def e399 : E := .or e394 e398
def e400 : E := .le (.lit 1) e318
def e401 : E := .le e376 e290
def e402 : E := .eq e318 (.lit 0)
def e403 : E := .eq e289 (.v 0)
def e404 : E := .le e210 (.lit 4)
def e405 : E := .le e211 (.lit 4)
def e406 : E := .mod e230 (.lit 256)
def e407 : E := .eq e254 e406
def e408 : E := .not e407
def e409 : E := .le e323 (.v 0)
def e410 : E := .le e326 e0
def e411 : E := .le (.lit 5) e210
def e412 : E := .le (.lit 5) e211
def e413 : E := .mul e354 (.lit 16777216)
def e414 : E := .mul e312 (.lit 65536)
def e415 : E := .add e413 e414
def e416 : E := .mul e314 (.lit 256)
def e417 : E := .add e415 e416
def e418 : E := .add e417 e283
def e419 : E := .add e210 (.lit (-5))
def e420 : E := .sub (.v 7) e326
def e421 : E := .lt e419 e418
def e422 : E := .lt e420 e418
def e423 : E := .add (.v 6) e413
def e424 : E := .add e423 e414
def e425 : E := .add e424 e416
def e426 : E := .add e425 e283
def e427 : E := .add e426 (.lit 5)
def e428 : E := .le e427 e0
def e429 : E := .le e418 e419
def e430 : E := .le e418 e420
def e431 : E := .add (.v 4) (.lit 1)
def e432 : E := .add (.v 8) (.lit 1)
def e433 : E := .upd (.av 5) (.v 4) e427
def e434 : E := .upd (.av 6) (.v 8) (.v 7)
def e435 : E := .eq e223 e257
def e436 : E := .not e435
def e437 : E := .or e220 e436
def e438 : E := .lt (.v 6) e209
def e439 : E := .le e209 (.v 6)
def e440 : E := .le (.v 7) (.v 6)
def e441 : E := .add (.v 8) (.lit (-1))
def e442 : E := .sel (.av 6) e441
def e443 : E := .sub e442 (.v 6)
def e444 : E := .add (.v 4) (.lit (-2))
def e445 : E := .sel (.av 5) e444
def e446 : E := .sub e445 (.v 6)
def e447 : E := .eq e443 e446
def e448 : E := .not e447
def e449 : E := .le e441 (.lit 0)
def e450 : E := .lt (.v 6) e442
def e451 : E := .ite e450 (.lit 59) (.lit 0)
def e452 : E := .ite e449 e451 (.lit 50)
def e453 : E := .le e208 (.lit 1)
def e454 : E := .le e446 (.lit 0)
def e455 : E := .ite e454 (.lit 0) (.lit 59)
def e456 : E := .ite e453 e455 (.lit 50)
def e457 : E := .eq e452 e456
def e458 : E := .not e457
def e459 : E := .or e448 e458
def e460 : E := .and e219 e259
theorem nd : e0 = (.add (.v 0) (.lit (-13))) ∧ e1 = (.blt (.tab []) (.lit 0) e0 (.av 0) (.lit 13)) ∧ e2 = (.sel (.av 0) (.lit 0)) ∧ e3 = (.eq e2 (.lit 76)) ∧ e4 = (.not e3) ∧ e5 = (.sel (.av 0) (.lit 1)) ∧ e6 = (.eq e5 (.lit 65)) ∧ e7 = (.not e6) ∧ e8 = (.or e4 e7) ∧ e9 = (.sel (.av 0) (.lit 2)) ∧ e10 = (.eq e9 (.lit 78)) ∧ e11 = (.not e10) ∧ e12 = (.or e8 e11) ∧ e13 = (.sel (.av 0) (.lit 3)) ∧ e14 = (.eq e13 (.lit 84)) ∧ e15 = (.not e14) ∧ e16 = (.or e12 e15) ∧ e17 = (.sel (.av 0) (.lit 4)) ∧ e18 = (.eq e17 (.lit 1)) ∧ e19 = (.not e18) ∧ e20 = (.sel (.av 0) (.lit 8)) ∧ e21 = (.mul e20 (.lit 16777216)) ∧ e22 = (.sel (.av 0) (.lit 7)) ∧ e23 = (.mul e22 (.lit 65536)) ∧ e24 = (.add e21 e23) ∧ e25 = (.sel (.av 0) (.lit 6)) ∧ e26 = (.mul e25 (.lit 256)) ∧ e27 = (.add e24 e26) ∧ e28 = (.sel (.av 0) (.lit 5)) ∧ e29 = (.add e27 e28) ∧ e30 = (.eq e29 e0) ∧ e31 = (.not e30) ∧ e32 = (.sel (.av 0) (.lit 12)) ∧ e33 = (.mul e32 (.lit 16777216)) ∧ e34 = (.sel (.av 0) (.lit 11)) ∧ e35 = (.mul e34 (.lit 65536)) ∧ e36 = (.add e33 e35) ∧ e37 = (.sel (.av 0) (.lit 10)) ∧ e38 = (.mul e37 (.lit 256)) ∧ e39 = (.add e36 e38) ∧ e40 = (.sel (.av 0) (.lit 9)) ∧ e41 = (.add e39 e40) ∧ e42 = (.app 10 (.cons e0 (.cons e1 .nil))) ∧ e43 = (.eq e41 e42) ∧ e44 = (.not e43) ∧ e45 = (.sub e0 (.v 3)) ∧ e46 = (.sel (.av 1) (.v 2)) ∧ e47 = (.le e45 (.lit 0)) ∧ e48 = (.le (.v 3) e0) ∧ e49 = (.lt (.v 2) (.v 1)) ∧ e50 = (.lt (.v 3) e0) ∧ e51 = (.ite e50 (.lit 59) (.lit 0)) ∧ e52 = (.eq e51 (.lit 0)) ∧ e53 = (.not e52) ∧ e54 = (.sel (.av 2) (.v 2)) ∧ e55 = (.add (.v 2) (.lit 1)) ∧ e56 = (.add (.v 3) (.lit 13)) ∧ e57 = (.add (.v 3) (.lit 14)) ∧ e58 = (.add (.v 3) (.lit 1)) ∧ e59 = (.lt e56 (.v 0)) ∧ e60 = (.le e57 (.v 0)) ∧ e61 = (.le e58 e0) ∧ e62 = (.le (.lit 1) e45) ∧ e63 = (.lt e58 e0) ∧ e64 = (.ite e63 (.lit 59) (.lit 0)) ∧ e65 = (.sub e0 e58) ∧ e66 = (.le e65 (.lit 0)) ∧ e67 = (.ite e66 (.lit 0) (.lit 59)) ∧ e68 = (.eq e64 e67) ∧ e69 = (.not e68) ∧ e70 = (.sel (.av 0) e56) ∧ e71 = (.le e45 (.lit 1)) ∧ e72 = (.ite e47 (.lit 0) (.lit 59)) ∧ e73 = (.eq e51 e72) ∧ e74 = (.not e73) ∧ e75 = (.add (.v 3) (.lit 15)) ∧ e76 = (.add (.v 3) (.lit 2)) ∧ e77 = (.lt e57 (.v 0)) ∧ e78 = (.le e75 (.v 0)) ∧ e79 = (.le e76 e0) ∧ e80 = (.le (.lit 2) e45) ∧ e81 = (.lt e76 e0) ∧ e82 = (.ite e81 (.lit 59) (.lit 0)) ∧ e83 = (.sub e0 e76) ∧ e84 = (.le e83 (.lit 0)) ∧ e85 = (.ite e84 (.lit 0) (.lit 59)) ∧ e86 = (.eq e82 e85) ∧ e87 = (.not e86) ∧ e88 = (.sel (.av 0) e57) ∧ e89 = (.mul e88 (.lit 256)) ∧ e90 = (.le e45 (.lit 3)) ∧ e91 = (.add (.v 3) (.lit 16)) ∧ e92 = (.add (.v 3) (.lit 3)) ∧ e93 = (.add (.v 3) (.lit 17)) ∧ e94 = (.add (.v 3) (.lit 4)) ∧ e95 = (.lt e91 (.v 0)) ∧ e96 = (.lt e75 (.v 0)) ∧ e97 = (.lt e92 e0) ∧ e98 = (.le e93 (.v 0)) ∧ e99 = (.le e94 e0) ∧ e100 = (.le (.lit 4) e45) ∧ e101 = (.lt e94 e0) ∧ e102 = (.ite e101 (.lit 59) (.lit 0)) ∧ e103 = (.sub e0 e94) ∧ e104 = (.le e103 (.lit 0)) ∧ e105 = (.ite e104 (.lit 0) (.lit 59)) ∧ e106 = (.eq e102 e105) ∧ e107 = (.not e106) ∧ e108 = (.sel (.av 0) e91) ∧ e109 = (.mul e108 (.lit 16777216)) ∧ e110 = (.sel (.av 0) e75) ∧ e111 = (.mul e110 (.lit 65536)) ∧ e112 = (.add e109 e111) ∧ e113 = (.add e112 e89) ∧ e114 = (.add e113 e70) ∧ e115 = (.le e45 (.lit 7)) ∧ e116 = (.add (.v 3) (.lit 20)) ∧ e117 = (.add (.v 3) (.lit 19)) ∧ e118 = (.add (.v 3) (.lit 18)) ∧ e119 = (.add (.v 3) (.lit 7)) ∧ e120 = (.add (.v 3) (.lit 6)) ∧ e121 = (.add (.v 3) (.lit 5)) ∧ e122 = (.add (.v 3) (.lit 21)) ∧ e123 = (.add (.v 3) (.lit 8)) ∧ e124 = (.lt e116 (.v 0)) ∧ e125 = (.lt e117 (.v 0)) ∧ e126 = (.lt e118 (.v 0)) ∧ e127 = (.lt e93 (.v 0)) ∧ e128 = (.lt e119 e0) ∧ e129 = (.lt e120 e0) ∧ e130 = (.lt e121 e0) ∧ e131 = (.le e122 (.v 0)) ∧ e132 = (.le e123 e0) ∧ e133 = (.le (.lit 8) e45) ∧ e134 = (.lt e123 e0) ∧ e135 = (.ite e134 (.lit 59) (.lit 0)) ∧ e136 = (.sub e0 e123) ∧ e137 = (.le e136 (.lit 0)) ∧ e138 = (.ite e137 (.lit 0) (.lit 59)) ∧ e139 = (.eq e135 e138) ∧ e140 = (.not e139) ∧ e141 = (.sel (.av 0) e93) ∧ e142 = (.le (.lit 2) e70) ∧ e143 = (.le e70 (.lit 1)) ∧ e144 = (.eq e70 (.lit 0)) ∧ e145 = (.ite e144 (.lit 0) (.lit 1)) ∧ e146 = (.eq e145 e70) ∧ e147 = (.not e146) ∧ e148 = (.or e69 e147) ∧ e149 = (.lt e54 e114) ∧ e150 = (.add e45 (.lit (-4))) ∧ e151 = (.lt e150 e114) ∧ e152 = (.lt e103 e114) ∧ e153 = (.le e114 e54) ∧ e154 = (.add (.v 3) e109) ∧ e155 = (.add e154 e111) ∧ e156 = (.add e155 e89) ∧ e157 = (.add e156 e70) ∧ e158 = (.add e157 (.lit 17)) ∧ e159 = (.add e157 (.lit 4)) ∧ e160 = (.le e158 (.v 0)) ∧ e161 = (.le e94 e159) ∧ e162 = (.le e159 e0) ∧ e163 = (.le e114 e150) ∧ e164 = (.le e114 e103) ∧ e165 = (.lt e159 e0) ∧ e166 = (.ite e165 (.lit 59) (.lit 0)) ∧ e167 = (.sub e0 e159) ∧ e168 = (.le e167 (.lit 0)) ∧ e169 = (.ite e168 (.lit 0) (.lit 59)) ∧ e170 = (.eq e166 e169) ∧ e171 = (.not e170) ∧ e172 = (.blt (.tab []) (.lit 0) e114 e1 e94) ∧ e173 = (.blt (.tab []) (.lit 0) e114 (.av 0) e93) ∧ e175 = (.not e174) ∧ e176 = (.or e171 e175) ∧ e177 = (.le (.lit 1) e114) ∧ e178 = (.le e159 e94) ∧ e179 = (.eq e114 (.lit 0)) ∧ e180 = (.eq e93 (.v 0)) ∧ e181 = (.le e45 (.lit 4)) ∧ e182 = (.mod e54 (.lit 256)) ∧ e183 = (.eq e70 e182) ∧ e184 = (.not e183) ∧ e185 = (.le e118 (.v 0)) ∧ e186 = (.le e121 e0) ∧ e187 = (.le (.lit 5) e45) ∧ e188 = (.mul e141 (.lit 16777216)) ∧ e189 = (.mul e108 (.lit 65536)) ∧ e190 = (.add e188 e189) ∧ e191 = (.mul e110 (.lit 256)) ∧ e192 = (.add e190 e191) ∧ e193 = (.add e192 e88) ∧ e194 = (.add e45 (.lit (-5))) ∧ e195 = (.sub e0 e121) ∧ e196 = (.lt e194 e193) ∧ e197 = (.lt e195 e193) ∧ e198 = (.add (.v 3) e188) ∧ e199 = (.add e198 e189) ∧ e200 = (.add e199 e191) ∧ e201 = (.add e200 e88) ∧ e202 = (.add e201 (.lit 5)) ∧ e203 = (.le e202 e0) ∧ e204 = (.le e193 e194) ∧ e205 = (.le e193 e195) ∧ e206 = (.upd (.tab []) (.lit 0) e0) ∧ e207 = (.upd e206 (.lit 1) e202) ∧ e208 = (.add (.v 4) (.lit (-1))) ∧ e209 = (.sel (.av 5) e208) ∧ e210 = (.sub e209 (.v 6)) ∧ e211 = (.sub (.v 7) (.v 6)) ∧ e212 = (.sel (.av 1) (.v 5)) ∧ e213 = (.le e210 (.lit 0)) ∧ e214 = (.le e211 (.lit 0)) ∧ e215 = (.eq (.v 7) e209) ∧ e216 = (.le (.v 6) (.v 7)) ∧ e217 = (.le (.v 7) e0) ∧ e218 = (.lt (.v 5) (.v 1)) ∧ e219 = (.eq e211 e210) ∧ e220 = (.not e219) ∧ e221 = (.le (.v 8) (.lit 0)) ∧ e222 = (.lt (.v 6) (.v 7)) ∧ e223 = (.ite e222 (.lit 59) (.lit 0)) ∧ e224 = (.ite e221 e223 (.lit 50)) ∧ e225 = (.le (.v 4) (.lit 1)) ∧ e226 = (.ite e225 (.lit 0) (.lit 50)) ∧ e227 = (.eq e224 e226) ∧ e228 = (.not e227) ∧ e229 = (.or e220 e228) ∧ e230 = (.sel (.av 2) (.v 5)) ∧ e231 = (.add (.v 5) (.lit 1)) ∧ e232 = (.add (.v 6) (.lit 13)) ∧ e233 = (.add (.v 6) (.lit 14)) ∧ e234 = (.add (.v 6) (.lit 1)) ∧ e235 = (.lt e232 (.v 0)) ∧ e236 = (.lt (.v 6) e0) ∧ e237 = (.le e233 (.v 0)) ∧ e238 = (.le e234 e0) ∧ e239 = (.le (.lit 1) e210) ∧ e240 = (.le (.lit 1) e211) ∧ e241 = (.sub (.v 7) e234) ∧ e242 = (.sub e209 e234) ∧ e243 = (.eq e241 e242) ∧ e244 = (.not e243) ∧ e245 = (.lt e234 (.v 7)) ∧ e246 = (.ite e245 (.lit 59) (.lit 0)) ∧ e247 = (.ite e221 e246 (.lit 50)) ∧ e248 = (.le e242 (.lit 0)) ∧ e249 = (.ite e248 (.lit 0) (.lit 59)) ∧ e250 = (.ite e225 e249 (.lit 50)) ∧ e251 = (.eq e247 e250) ∧ e252 = (.not e251) ∧ e253 = (.or e244 e252) ∧ e254 = (.sel (.av 0) e232) ∧ e255 = (.le e210 (.lit 1)) ∧ e256 = (.le e211 (.lit 1)) ∧ e257 = (.ite e213 (.lit 0) (.lit 59)) ∧ e258 = (.ite e225 e257 (.lit 50)) ∧ e259 = (.eq e224 e258) ∧ e260 = (.not e259) ∧ e261 = (.or e220 e260) ∧ e262 = (.add (.v 6) (.lit 15)) ∧ e263 = (.add (.v 6) (.lit 2)) ∧ e264 = (.lt e233 (.v 0)) ∧ e265 = (.lt e234 e0) ∧ e266 = (.le e262 (.v 0)) ∧ e267 = (.le e263 e0) ∧ e268 = (.le (.lit 2) e210) ∧ e269 = (.le (.lit 2) e211) ∧ e270 = (.sub (.v 7) e263) ∧ e271 = (.sub e209 e263) ∧ e272 = (.eq e270 e271) ∧ e273 = (.not e272) ∧ e274 = (.lt e263 (.v 7)) ∧ e275 = (.ite e274 (.lit 59) (.lit 0)) ∧ e276 = (.ite e221 e275 (.lit 50)) ∧ e277 = (.le e271 (.lit 0)) ∧ e278 = (.ite e277 (.lit 0) (.lit 59)) ∧ e279 = (.ite e225 e278 (.lit 50)) ∧ e280 = (.eq e276 e279) ∧ e281 = (.not e280) ∧ e282 = (.or e273 e281) ∧ e283 = (.sel (.av 0) e233) ∧ e284 = (.mul e283 (.lit 256)) ∧ e285 = (.le e210 (.lit 3)) ∧ e286 = (.le e211 (.lit 3)) ∧ e287 = (.add (.v 6) (.lit 16)) ∧ e288 = (.add (.v 6) (.lit 3)) ∧ e289 = (.add (.v 6) (.lit 17)) ∧ e290 = (.add (.v 6) (.lit 4)) ∧ e291 = (.lt e287 (.v 0)) ∧ e292 = (.lt e262 (.v 0)) ∧ e293 = (.lt e288 e0) ∧ e294 = (.lt e263 e0) ∧ e295 = (.le e289 (.v 0)) ∧ e296 = (.le e290 e0) ∧ e297 = (.le (.lit 4) e210) ∧ e298 = (.le (.lit 4) e211) ∧ e299 = (.sub (.v 7) e290) ∧ e300 = (.sub e209 e290) ∧ e301 = (.eq e299 e300) ∧ e302 = (.not e301) ∧ e303 = (.lt e290 (.v 7)) ∧ e304 = (.ite e303 (.lit 59) (.lit 0)) ∧ e305 = (.ite e221 e304 (.lit 50)) ∧ e306 = (.le e300 (.lit 0)) ∧ e307 = (.ite e306 (.lit 0) (.lit 59)) ∧ e308 = (.ite e225 e307 (.lit 50)) ∧ e309 = (.eq e305 e308) ∧ e310 = (.not e309) ∧ e311 = (.or e302 e310) ∧ e312 = (.sel (.av 0) e287) ∧ e313 = (.mul e312 (.lit 16777216)) ∧ e314 = (.sel (.av 0) e262) ∧ e315 = (.mul e314 (.lit 65536)) ∧ e316 = (.add e313 e315) ∧ e317 = (.add e316 e284) ∧ e318 = (.add e317 e254) ∧ e319 = (.le e210 (.lit 7)) ∧ e320 = (.le e211 (.lit 7)) ∧ e321 = (.add (.v 6) (.lit 20)) ∧ e322 = (.add (.v 6) (.lit 19)) ∧ e323 = (.add (.v 6) (.lit 18)) ∧ e324 = (.add (.v 6) (.lit 7)) ∧ e325 = (.add (.v 6) (.lit 6)) ∧ e326 = (.add (.v 6) (.lit 5)) ∧ e327 = (.add (.v 6) (.lit 21)) ∧ e328 = (.add (.v 6) (.lit 8)) ∧ e329 = (.lt e321 (.v 0)) ∧ e330 = (.lt e322 (.v 0)) ∧ e331 = (.lt e323 (.v 0)) ∧ e332 = (.lt e289 (.v 0)) ∧ e333 = (.lt e324 e0) ∧ e334 = (.lt e325 e0) ∧ e335 = (.lt e326 e0) ∧ e336 = (.lt e290 e0) ∧ e337 = (.le e327 (.v 0)) ∧ e338 = (.le e328 e0) ∧ e339 = (.le (.lit 8) e210) ∧ e340 = (.le (.lit 8) e211) ∧ e341 = (.sub (.v 7) e328) ∧ e342 = (.sub e209 e328) ∧ e343 = (.eq e341 e342) ∧ e344 = (.not e343) ∧ e345 = (.lt e328 (.v 7)) ∧ e346 = (.ite e345 (.lit 59) (.lit 0)) ∧ e347 = (.ite e221 e346 (.lit 50)) ∧ e348 = (.le e342 (.lit 0)) ∧ e349 = (.ite e348 (.lit 0) (.lit 59)) ∧ e350 = (.ite e225 e349 (.lit 50)) ∧ e351 = (.eq e347 e350) ∧ e352 = (.not e351) ∧ e353 = (.or e344 e352) ∧ e354 = (.sel (.av 0) e289) ∧ e355 = (.le (.lit 2) e254) ∧ e356 = (.ite e225 (.lit 59) (.lit 50)) ∧ e357 = (.eq e224 e356) ∧ e358 = (.not e357) ∧ e359 = (.or e220 e358) ∧ e360 = (.le e254 (.lit 1)) ∧ e361 = (.eq e254 (.lit 0)) ∧ e362 = (.ite e361 (.lit 0) (.lit 1)) ∧ e363 = (.eq e362 e254) ∧ e364 = (.not e363) ∧ e365 = (.or e253 e364) ∧ e366 = (.lt e230 e318) ∧ e367 = (.add e210 (.lit (-4))) ∧ e368 = (.lt e367 e318) ∧ e369 = (.lt e299 e318) ∧ e370 = (.le e318 e230) ∧ e371 = (.add (.v 6) e313) ∧ e372 = (.add e371 e315) ∧ e373 = (.add e372 e284) ∧ e374 = (.add e373 e254) ∧ e375 = (.add e374 (.lit 17)) ∧ e376 = (.add e374 (.lit 4)) ∧ e377 = (.le e375 (.v 0)) ∧ e378 = (.le e290 e376) ∧ e379 = (.le e376 e0) ∧ e380 = (.le e318 e367) ∧ e381 = (.le e318 e299) ∧ e382 = (.sub (.v 7) e376) ∧ e383 = (.sub e209 e376) ∧ e384 = (.eq e382 e383) ∧ e385 = (.not e384) ∧ e386 = (.lt e376 (.v 7)) ∧ e387 = (.ite e386 (.lit 59) (.lit 0)) ∧ e388 = (.ite e221 e387 (.lit 50)) ∧ e389 = (.le e383 (.lit 0)) ∧ e390 = (.ite e389 (.lit 0) (.lit 59)) ∧ e391 = (.ite e225 e390 (.lit 50)) ∧ e392 = (.eq e388 e391) ∧ e393 = (.not e392) ∧ e394 = (.or e385 e393) ∧ e395 = (.blt (.tab []) (.lit 0) e318 e1 e290) ∧ e396 = (.blt (.tab []) (.lit 0) e318 (.av 0) e289) ∧ e398 = (.not e397) ∧ e399 = (.or e394 e398) ∧ e400 = (.le (.lit 1) e318) ∧ e401 = (.le e376 e290) ∧ e402 = (.eq e318 (.lit 0)) ∧ e403 = (.eq e289 (.v 0)) ∧ e404 = (.le e210 (.lit 4)) ∧ e405 = (.le e211 (.lit 4)) ∧ e406 = (.mod e230 (.lit 256)) ∧ e407 = (.eq e254 e406) ∧ e408 = (.not e407) ∧ e409 = (.le e323 (.v 0)) ∧ e410 = (.le e326 e0) ∧ e411 = (.le (.lit 5) e210) ∧ e412 = (.le (.lit 5) e211) ∧ e413 = (.mul e354 (.lit 16777216)) ∧ e414 = (.mul e312 (.lit 65536)) ∧ e415 = (.add e413 e414) ∧ e416 = (.mul e314 (.lit 256)) ∧ e417 = (.add e415 e416) ∧ e418 = (.add e417 e283) ∧ e419 = (.add e210 (.lit (-5))) ∧ e420 = (.sub (.v 7) e326) ∧ e421 = (.lt e419 e418) ∧ e422 = (.lt e420 e418) ∧ e423 = (.add (.v 6) e413) ∧ e424 = (.add e423 e414) ∧ e425 = (.add e424 e416) ∧ e426 = (.add e425 e283) ∧ e427 = (.add e426 (.lit 5)) ∧ e428 = (.le e427 e0) ∧ e429 = (.le e418 e419) ∧ e430 = (.le e418 e420) ∧ e431 = (.add (.v 4) (.lit 1)) ∧ e432 = (.add (.v 8) (.lit 1)) ∧ e433 = (.upd (.av 5) (.v 4) e427) ∧ e434 = (.upd (.av 6) (.v 8) (.v 7)) ∧ e435 = (.eq e223 e257) ∧ e436 = (.not e435) ∧ e437 = (.or e220 e436) ∧ e438 = (.lt (.v 6) e209) ∧ e439 = (.le e209 (.v 6)) ∧ e440 = (.le (.v 7) (.v 6)) ∧ e441 = (.add (.v 8) (.lit (-1))) ∧ e442 = (.sel (.av 6) e441) ∧ e443 = (.sub e442 (.v 6)) ∧ e444 = (.add (.v 4) (.lit (-2))) ∧ e445 = (.sel (.av 5) e444) ∧ e446 = (.sub e445 (.v 6)) ∧ e447 = (.eq e443 e446) ∧ e448 = (.not e447) ∧ e449 = (.le e441 (.lit 0)) ∧ e450 = (.lt (.v 6) e442) ∧ e451 = (.ite e450 (.lit 59) (.lit 0)) ∧ e452 = (.ite e449 e451 (.lit 50)) ∧ e453 = (.le e208 (.lit 1)) ∧ e454 = (.le e446 (.lit 0)) ∧ e455 = (.ite e454 (.lit 0) (.lit 59)) ∧ e456 = (.ite e453 e455 (.lit 50)) ∧ e457 = (.eq e452 e456) ∧ e458 = (.not e457) ∧ e459 = (.or e448 e458) ∧ e460 = (.and e219 e259) := ⟨rfl, rfl, rfl, rfl, rfl, rfl, rfl, rfl, rfl, rfl, rfl, rfl, rfl, rfl, rfl, rfl, rfl, rfl, rfl, rfl, rfl, rfl, rfl, rfl, rfl, rfl, rfl, rfl, rfl, rfl, rfl, rfl, rfl, rfl, rfl, rfl, rfl, rfl, rfl, rfl, rfl, rfl, rfl, rfl, rfl, rfl, rfl, rfl, rfl, rfl, rfl, rfl, rfl, rfl, rfl, rfl, rfl, rfl, rfl, rfl, rfl, rfl, rfl, rfl, rfl, rfl, rfl, rfl, rfl, rfl, rfl, rfl, rfl, rfl, rfl, rfl, rfl, rfl, rfl, rfl, rfl, rfl, rfl, rfl, rfl, rfl, rfl, rfl, rfl, rfl, rfl, rfl, rfl, rfl, rfl, rfl, rfl, rfl, rfl, rfl, rfl, rfl, rfl, rfl, rfl, rfl, rfl, rfl, rfl, rfl, rfl, rfl, rfl, rfl, rfl, rfl, rfl, rfl, rfl, rfl, rfl, rfl, rfl, rfl, rfl, rfl, rfl, rfl, rfl, rfl, rfl, rfl, rfl, rfl, rfl, rfl, rfl, rfl, rfl, rfl, rfl, rfl, rfl, rfl, rfl, rfl, rfl, rfl, rfl, rfl, rfl, rfl, rfl, rfl, rfl, rfl, rfl, rfl, rfl, rfl, rfl, rfl, rfl, rfl, rfl, rfl, rfl, rfl, rfl, rfl, rfl, rfl, rfl, rfl, rfl, rfl, rfl, rfl, rfl, rfl, rfl, rfl, rfl, rfl, rfl, rfl, rfl, rfl, rfl, rfl, rfl, rfl, rfl, rfl, rfl, rfl, rfl, rfl, rfl, rfl, rfl, rfl, rfl, rfl, rfl, rfl, rfl, rfl, rfl, rfl, rfl, rfl, rfl, rfl, rfl, rfl, rfl, rfl, rfl, rfl, rfl, rfl, rfl, rfl, rfl, rfl, rfl, rfl, rfl, rfl, rfl, rfl, rfl, rfl, rfl, rfl, rfl, rfl, rfl, rfl, rfl, rfl, rfl, rfl, rfl, rfl, rfl, rfl, rfl, rfl, rfl, rfl, rfl, rfl, rfl, rfl, rfl, rfl, rfl, rfl, rfl, rfl, rfl, rfl, rfl, rfl, rfl, rfl, rfl, rfl, rfl, rfl, rfl, rfl, rfl, rfl, rfl, rfl, rfl, rfl, rfl, rfl, rfl, rfl, rfl, rfl, rfl, rfl, rfl, rfl, rfl, rfl, rfl, rfl, rfl, rfl, rfl, rfl, rfl, rfl, rfl, rfl, rfl, rfl, rfl, rfl, rfl, rfl, rfl, rfl, rfl, rfl, rfl, rfl, rfl, rfl, rfl, rfl, rfl, rfl, rfl, rfl, rfl, rfl, rfl, rfl, rfl, rfl, rfl, rfl, rfl, rfl, rfl, rfl, rfl, rfl, rfl, rfl, rfl, rfl, rfl, rfl, rfl, rfl, rfl, rfl, rfl, rfl, rfl, rfl, rfl, rfl, rfl, rfl, rfl, rfl, rfl, rfl, rfl, rfl, rfl, rfl, rfl, rfl, rfl, rfl, rfl, rfl, rfl, rfl, rfl, rfl, rfl, rfl, rfl, rfl, rfl, rfl, rfl, rfl, rfl, rfl, rfl, rfl, rfl, rfl, rfl, rfl, rfl, rfl, rfl, rfl, rfl, rfl, rfl, rfl, rfl, rfl, rfl, rfl, rfl, rfl, rfl, rfl, rfl, rfl, rfl, rfl, rfl, rfl, rfl, rfl, rfl, rfl, rfl, rfl, rfl, rfl, rfl, rfl, rfl, rfl, rfl, rfl, rfl, rfl, rfl, rfl, rfl, rfl, rfl, rfl, rfl, rfl, rfl, rfl, rfl, rfl, rfl, rfl, rfl, rfl, rfl, rfl, rfl, rfl, rfl, rfl, rfl, rfl, rfl, rfl, rfl, rfl, rfl, rfl, rfl, rfl, rfl⟩
noncomputable def eT0 : List Item := todoS Try.prog G Gh [] 3000 0 5 eHy eLs [] 12
noncomputable def eh0 : Head := ⟨12, eT0, ⟨[((.v 0), (14, 1048575)), ((.v 0), (0, 9223372036854775807)), ((.v 1), (0, 1048575)), ((.v 2), (0, 1048575)), ((.v 3), (0, 1048575)), ((.v 4), (1, 17)), ((.v 5), (0, 1048575)), ((.v 6), (0, 1048575)), ((.v 7), (0, 1048575)), ((.v 8), (0, 16))], [(0, (0, 255)), (1, ((-9223372036854775808), 9223372036854775807)), (2, ((-9223372036854775808), 9223372036854775807)), (3, (0, 1048575)), (4, (0, 255)), (5, (0, 16777216)), (6, (0, 16777216))], [(10, (0, 4294967295))], [], [], [(0, ⟨(.v 0), [(some .u8, (.av 0))], []⟩), (1, ⟨(.v 1), [(some .i64, (.av 1)), (some .i64, (.av 2))], [(2, (.av 3), (.av 4))]⟩)]⟩, [⟨11, [], .s (.int .i64 (.v 2))⟩, ⟨10, [], .s (.ptr 3 (.lit 0))⟩, ⟨8, [], .s (.ptr 1 (.lit 0))⟩, ⟨1, [], .s (.xslc 1 (.lit 0) (.lit 0) (.v 1))⟩], [⟨5, [.run .u8 e0 e1 0], true, some 1, false⟩, ⟨80, [.one (.slc 0 (.lit 0) e0 (.op (.lit 0))), .one (.int .i64 (.v 3)), .one (.int .i64 e0), .run .i64 (.lit 16) (.tab []) 0, .one (.int .i64 (.lit 0))], true, none, false⟩, ⟨3, [.one (.int .i64 e0)], true, none, false⟩, ⟨53, [.one (.xslc 0 (.lit 0) (.lit 13) e0), .one (.int .i64 (.v 3)), .one (.slc 2 (.lit 0) (.lit 1) (.kn (.lit 1)))], true, none, false⟩]⟩
noncomputable def eT1 : List Item := eT0
noncomputable def eh1 : Head := ⟨12, eT1, ⟨[((.v 0), (14, 1048575)), ((.v 0), (0, 9223372036854775807)), ((.v 1), (0, 1048575)), ((.v 2), (0, 1048575)), ((.v 3), (0, 1048575)), ((.v 4), (1, 17)), ((.v 5), (0, 1048575)), ((.v 6), (0, 1048575)), ((.v 7), (0, 1048575)), ((.v 8), (0, 16))], [(0, (0, 255)), (1, ((-9223372036854775808), 9223372036854775807)), (2, ((-9223372036854775808), 9223372036854775807)), (3, (0, 1048575)), (4, (0, 255)), (5, (0, 16777216)), (6, (0, 16777216))], [(10, (0, 4294967295))], [], [], [(0, ⟨(.v 0), [(some .u8, (.av 0))], []⟩), (1, ⟨(.v 1), [(some .i64, (.av 1)), (some .i64, (.av 2))], [(2, (.av 3), (.av 4))]⟩)]⟩, [⟨11, [], .s (.int .i64 (.v 5))⟩, ⟨10, [], .s (.ptr 2 (.lit 0))⟩, ⟨8, [], .s (.ptr 1 (.lit 0))⟩, ⟨1, [], .s (.xslc 1 (.lit 0) (.lit 0) (.v 1))⟩], [⟨5, [.run .u8 e0 e1 0], true, some 1, false⟩, ⟨80, [.one (.slc 0 (.lit 0) e0 (.op (.lit 0))), .one (.int .i64 (.v 6)), .one (.int .i64 (.v 7)), .run .i64 (.lit 16) (.av 6) 0, .one (.int .i64 (.v 8))], true, none, false⟩, ⟨53, [.one (.xslc 0 (.lit 0) (.lit 13) e0), .one (.int .i64 (.v 6)), .one (.slc 3 (.lit 0) (.v 4) (.op (.lit 0)))], true, none, false⟩, ⟨3, [.run .i64 (.v 4) (.av 5) 0], true, some 1, false⟩]⟩
noncomputable def ehs : List Head := [eh0, eh1]
def eD : Dim := ⟨9, 0, 7, 2, 0, 5, 0⟩
theorem est : startL Try.prog G Gh eD ehs [] 3000 0 5 eHy eLs [] = some (.ite e16 (.ret (.s (.bool (.blit true))) [⟨5, [.run .u8 (.v 0) (.av 0) 0], true, none, true⟩]) (.ite e19 (.ret (.s (.bool (.blit true))) [⟨5, [.run .u8 (.v 0) (.av 0) 0], true, none, true⟩]) (.ite e31 (.ret (.s (.bool (.blit true))) [⟨5, [.run .u8 (.v 0) (.av 0) 0], true, none, true⟩]) (.ite e44 (.ret (.s (.bool (.blit true))) [⟨5, [.run .u8 (.v 0) (.av 0) 0], true, none, true⟩]) (.jump 0 eT0 ⟨[(3, (.lit 0)), (2, (.lit 0))], [], []⟩))))) := by kernel_rfl
theorem ehT0 : (ehs[0]?.map (·.todo)) = some eT0 := by kernel_rfl
theorem ehT1 : (ehs[1]?.map (·.todo)) = some eT1 := by kernel_rfl
def eBase (x0 : Ext) (x1 : Ext) (Y1 : Nat → Ext) (mm nn : Int) (Bx Cx Dx Fx Gx : Nat → Int) : Prop := (0 ≤ mm ∧ mm ≤ 9223372036854775807) ∧ (0 ≤ nn ∧ nn ≤ 1048575) ∧ (∀ j, 0 ≤ Bx j ∧ Bx j ≤ 255) ∧ (∀ j, -9223372036854775808 ≤ Cx j ∧ Cx j ≤ 9223372036854775807) ∧ (∀ j, -9223372036854775808 ≤ Dx j ∧ Dx j ≤ 9223372036854775807) ∧ (∀ j, 0 ≤ Fx j ∧ Fx j ≤ 1048575) ∧ (∀ j, 0 ≤ Gx j ∧ Gx j ≤ 255) ∧ mm = (x0.n : Int) ∧ nn = (x1.n : Int) ∧ Bx = xArr x0 1 0 ∧ Cx = xArr x1 3 0 ∧ Dx = xArr x1 3 1 ∧ Fx = nLen Y1 ∧ Gx = nArr Y1 ∧ (∀ k : Nat, k ≤ x1.n → pSum (nLen Y1) k ≤ 2097150) ∧ (14 ≤ (mm) ∧ (mm) ≤ 1048575) ∧ True
def eJ0 (mm nn y2 y3 y4 y5 y6 y7 y8 : Int) (Bx Cx Dx Fx Gx Z5 Z6 : Nat → Int) : Prop := (0 ≤ y2 ∧ y2 ≤ 1048575) ∧ (0 ≤ y3 ∧ y3 ≤ 1048575) ∧ (1 ≤ y4 ∧ y4 ≤ 17) ∧ (0 ≤ y5 ∧ y5 ≤ 1048575) ∧ (0 ≤ y6 ∧ y6 ≤ 1048575) ∧ (0 ≤ y7 ∧ y7 ≤ 1048575) ∧ (0 ≤ y8 ∧ y8 ≤ 16) ∧ (∀ j, 0 ≤ Z5 j ∧ Z5 j ≤ 16777216) ∧ (∀ j, 0 ≤ Z6 j ∧ Z6 j ≤ 16777216) ∧ y3 ≤ mm - 13 ∧ y2 ≤ nn ∧ True
def eJ1 (mm nn y2 y3 y4 y5 y6 y7 y8 : Int) (Bx Cx Dx Fx Gx Z5 Z6 : Nat → Int) : Prop := (0 ≤ y2 ∧ y2 ≤ 1048575) ∧ (0 ≤ y3 ∧ y3 ≤ 1048575) ∧ (1 ≤ y4 ∧ y4 ≤ 17) ∧ (0 ≤ y5 ∧ y5 ≤ 1048575) ∧ (0 ≤ y6 ∧ y6 ≤ 1048575) ∧ (0 ≤ y7 ∧ y7 ≤ 1048575) ∧ (0 ≤ y8 ∧ y8 ≤ 16) ∧ (∀ j, 0 ≤ Z5 j ∧ Z5 j ≤ 16777216) ∧ (∀ j, 0 ≤ Z6 j ∧ Z6 j ≤ 16777216) ∧ y4 = y8 + 1 ∧ y5 ≤ nn ∧ y6 ≤ y7 ∧ y7 ≤ mm - 13 ∧ y7 = Z5 y8.toNat ∧ (∀ j : Nat, (j : Int) < y8 → Z6 j = Z5 j ∧ Z5 (j + 1) ≤ Z5 j ∧ Z5 j ≤ mm - 13) ∧ True
def eInv (x0 : Ext) (x1 : Ext) (Y1 : Nat → Ext) : Nat → Env → Prop
  | 0, ρ => ∃ (mm nn y2 y3 y4 y5 y6 y7 y8 : Int) (Bx Cx Dx Fx Gx Z5 Z6 : Nat → Int), ρ = (⟨[mm, nn, y2, y3, y4, y5, y6, y7, y8], [], [Bx, Cx, Dx, Fx, Gx, Z5, Z6], [], Iv (fun i j => match i, j with | 0, 0 => x0 | 1, 0 => x1 | 2, j => Y1 j | _, _ => Ext.none)⟩ : Env) ∧ eBase x0 x1 Y1 mm nn Bx Cx Dx Fx Gx ∧ eJ0 mm nn y2 y3 y4 y5 y6 y7 y8 Bx Cx Dx Fx Gx Z5 Z6
  | 1, ρ => ∃ (mm nn y2 y3 y4 y5 y6 y7 y8 : Int) (Bx Cx Dx Fx Gx Z5 Z6 : Nat → Int), ρ = (⟨[mm, nn, y2, y3, y4, y5, y6, y7, y8], [], [Bx, Cx, Dx, Fx, Gx, Z5, Z6], [], Iv (fun i j => match i, j with | 0, 0 => x0 | 1, 0 => x1 | 2, j => Y1 j | _, _ => Ext.none)⟩ : Env) ∧ eBase x0 x1 Y1 mm nn Bx Cx Dx Fx Gx ∧ eJ1 mm nn y2 y3 y4 y5 y6 y7 y8 Bx Cx Dx Fx Gx Z5 Z6
  | _, _ => False
def emu : Nat → Env → Nat := fun j ρ => (ρ.i.getD 1 0 - (match j with | 0 => ρ.i.getD 2 0 | _ => ρ.i.getD 5 0)).toNat
theorem evcS (x0 : Ext) (x1 : Ext) (Y1 : Nat → Ext) (mm nn : Int) (Bx Cx Dx Fx Gx : Nat → Int) (hB : eBase x0 x1 Y1 mm nn Bx Cx Dx Fx Gx) :
    LT.holds (⟨[mm, nn, 0, 0, 1, 0, 0, 0, 0], [], [Bx, Cx, Dx, Fx, Gx, fun _ => 0, fun _ => 0], [], Iv (fun i j => match i, j with | 0, 0 => x0 | 1, 0 => x1 | 2, j => Y1 j | _, _ => Ext.none)⟩ : Env) (fun v _ => retTrue (⟨[mm, nn, 0, 0, 1, 0, 0, 0, 0], [], [Bx, Cx, Dx, Fx, Gx, fun _ => 0, fun _ => 0], [], Iv (fun i j => match i, j with | 0, 0 => x0 | 1, 0 => x1 | 2, j => Y1 j | _, _ => Ext.none)⟩ : Env) v) (fun j' todo ρ' => (ehs[j']?.map (·.todo)) = some todo ∧ eInv x0 x1 Y1 j' ρ') (.ite e16 (.ret (.s (.bool (.blit true))) [⟨5, [.run .u8 (.v 0) (.av 0) 0], true, none, true⟩]) (.ite e19 (.ret (.s (.bool (.blit true))) [⟨5, [.run .u8 (.v 0) (.av 0) 0], true, none, true⟩]) (.ite e31 (.ret (.s (.bool (.blit true))) [⟨5, [.run .u8 (.v 0) (.av 0) 0], true, none, true⟩]) (.ite e44 (.ret (.s (.bool (.blit true))) [⟨5, [.run .u8 (.v 0) (.av 0) 0], true, none, true⟩]) (.jump 0 eT0 ⟨[(3, (.lit 0)), (2, (.lit 0))], [], []⟩))))) := by
  simp only [LT.holds, retTrue]
  refine ⟨fun hc0 => ?_, fun hc0 => ?_⟩
  ·
    rfl
  ·
    refine ⟨fun hc2 => ?_, fun hc2 => ?_⟩
    ·
      rfl
    ·
      refine ⟨fun hc4 => ?_, fun hc4 => ?_⟩
      ·
        rfl
      ·
        refine ⟨fun hc6 => ?_, fun hc6 => ?_⟩
        ·
          rfl
        ·
          refine ⟨ehT0, mm, nn, (_root_.Go.Sx.E.i (⟨[mm, nn, 0, 0, 1, 0, 0, 0, 0], [], [Bx, Cx, Dx, Fx, Gx, fun _ => 0, fun _ => 0], [], Iv (fun i j => match i, j with | 0, 0 => x0 | 1, 0 => x1 | 2, j => Y1 j | _, _ => Ext.none)⟩ : Env) (.lit 0)), (_root_.Go.Sx.E.i (⟨[mm, nn, 0, 0, 1, 0, 0, 0, 0], [], [Bx, Cx, Dx, Fx, Gx, fun _ => 0, fun _ => 0], [], Iv (fun i j => match i, j with | 0, 0 => x0 | 1, 0 => x1 | 2, j => Y1 j | _, _ => Ext.none)⟩ : Env) (.lit 0)), 1, 0, 0, 0, 0, Bx, Cx, Dx, Fx, Gx, fun _ => 0, fun _ => 0, (by kernel_rfl), hB, ?_⟩
          ·
            simp only [eBase] at hB
            obtain ⟨b0, b1, c0, c1, c2, c3, c4, en0, en1, ea0, ea1, ea2, ea3, ea4, hs, hx0, _⟩ := hB
            simp only [eJ0]
            refine ⟨?_, ?_, ?_, ?_, ?_, ?_, ?_, ?_, ?_, ?_, ?_, trivial⟩
            all_goals (try simp only [nd, sm, sn])
            all_goals first
              | omega
              | (intro j; omega)
def eW0 (x0 x1 : Ext) (Y1 : Nat → Ext) (ρ : Env) (t : LT) : Prop := LT.holds ρ (fun v _ => retTrue ρ v) (fun j' todo ρ' => (ehs[j']?.map (·.todo)) = some todo ∧ eInv x0 x1 Y1 j' ρ' ∧ emu j' ρ' < emu 0 ρ) t
def eW1 (x0 x1 : Ext) (Y1 : Nat → Ext) (ρ : Env) (t : LT) : Prop := LT.holds ρ (fun v _ => retTrue ρ v) (fun j' todo ρ' => (ehs[j']?.map (·.todo)) = some todo ∧ eInv x0 x1 Y1 j' ρ' ∧ emu j' ρ' < emu 1 ρ) t
end Go.Proofs.Ytflamojcdfmimaa.SaveReads
