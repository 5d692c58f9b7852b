/- The law PlaneDots returns true for every input. Each dot of the plane is the one that the document says. It is run by symbols (SxA, SxB, SxC); what is left is arithmetic. No condition. -/
import Derived.Test.YtdhjmnjooekemaaRows
import Derived.Test.YtdhjmnjooekemaaSxC
import Derived.Test.YtdhjmnjooekemaaSpecs
namespace Go.Proofs.Ytdhjmnjooekemaa.PlaneDots
open Go.Sx Go.ChangeShapes Go.WideShapes Go.ChangeAt Go.RowKit
set_option linter.unusedVariables false
set_option linter.unusedSimpArgs false
set_option maxRecDepth 100000
noncomputable def G : Ctx := inl Try.prog (ctx [(21, specVideo 50), (23, dnSpec), (22, btSpec)]) 3000 12 8
noncomputable def Gh : HintCtx := inlH Try.prog (ctx [(21, specVideo 50), (23, dnSpec), (22, btSpec)]) 3000 12 8
def Pc1 : List Pc := [.arr .u8 64, .arr .u16 4, .arr .u16 4, .arr .i16 6, .num .i16, .num .i16, .num .u16]
def Pc2 : List Pc := [.num .i64, .num .i64, .num .i64, .num .i64]
theorem G_ok (xs : Nat → Nat → Ext) : CtxOK Try.prog (Iv xs) G := inl_ok (ctx_ok (fun p hp => by
  simp only [List.mem_cons, List.not_mem_nil, or_false] at hp
  rcases hp with rfl | rfl | rfl
  · exact specVideo_ok video_ok rfl
  · exact dnSpec_ok
  · exact btSpec_ok
 )) (by kernel_rfl) 3000 12 8
def eHy : Hyp := ⟨[(.v 0, (0, 9223372036854775807)), (.v 1, (0, 9223372036854775807)), (.v 2, (0, 9223372036854775807)), (.v 3, (-32768, 32767)), (.v 4, (-32768, 32767)), (.v 5, (0, 65535)), (.v 6, (-9223372036854775808, 9223372036854775807)), (.v 7, (-9223372036854775808, 9223372036854775807)), (.v 8, (-9223372036854775808, 9223372036854775807)), (.v 9, (-9223372036854775808, 9223372036854775807))], [(0, (0, 65535)), (1, (0, 255)), (2, (0, 65535)), (3, (0, 255)), (4, (0, 65535)), (5, (0, 65535)), (6, (-32768, 32767))], [], [(0, (0, 65535)), (1, (0, 255)), (2, (0, 32767))], [], [(0, ⟨.v 0, [(some .u16, .av 0)]⟩), (1, ⟨.v 1, [(some .u8, .av 1)]⟩), (2, ⟨.v 2, [(some .u16, .av 2)]⟩)]⟩
def eLs : List SV := [.agg [.one (.xslc 0 (.lit 0) (.lit 0) (.v 0)), .one (.xslc 1 (.lit 0) (.lit 0) (.v 1)), .one (.xslc 2 (.lit 0) (.lit 0) (.v 2))], .agg (pcSegs 3 0 3 Pc1), .agg (pcSegs 7 0 6 Pc2)]
def e0 : E := .app 0 (.cons (.v 0) (.cons (.av 0) .nil))
def e1 : E := .app 1 (.cons (.v 1) (.cons (.av 1) .nil))
def e2 : E := .app 2 (.cons (.v 2) (.cons (.av 2) .nil))
def e3 : E := .le (.v 10) (.lit 19)
def e4 : E := .le (.v 6) (.lit (-1))
def e5 : E := .sel (.av 3) (.lit 5)
def e6 : E := .mod e5 (.lit 8)
def e7 : E := .eq e6 (.lit 7)
def e8 : E := .sel (.av 3) (.lit 51)
def e9 : E := .div e8 (.lit 64)
def e10 : E := .mod e9 (.lit 2)
def e11 : E := .add e10 (.lit 1)
def e12 : E := .ite e7 e11 (.lit 0)
def e13 : E := .le e12 (.v 6)
def e14 : E := .or e4 e13
def e15 : E := .add (.v 7) (.v 10)
def e16 : E := .wrap .i64 e15
def e17 : E := .le e16 (.lit (-1))
def e18 : E := .or e14 e17
def e19 : E := .le (.lit 256) e16
def e20 : E := .or e18 e19
def e21 : E := .le (.v 9) (.lit (-1))
def e22 : E := .or e20 e21
def e23 : E := .le (.lit 256) (.v 9)
def e24 : E := .or e22 e23
def e25 : E := .not e24
def e26 : E := .sel (.av 6) (.lit 0)
def e27 : E := .sel (.av 3) (.lit 26)
def e28 : E := .mod e27 (.lit 2)
def e29 : E := .eq e28 (.lit 0)
def e30 : E := .sel (.av 3) (.lit 6)
def e31 : E := .pow2 (.v 6)
def e32 : E := .div e30 e31
def e33 : E := .mod e32 (.lit 2)
def e34 : E := .eq e33 (.lit 0)
def e35 : E := .div e30 (.lit 16)
def e36 : E := .add e35 (.lit 1)
def e37 : E := .mod e16 e36
def e38 : E := .sub e16 e37
def e39 : E := .ite e34 e16 e38
def e40 : E := .sub (.lit 255) e39
def e41 : E := .ite e29 e39 e40
def e42 : E := .add e41 (.v 3)
def e43 : E := .sel (.av 6) (.lit 4)
def e44 : E := .sub e42 e43
def e45 : E := .mul e26 e44
def e46 : E := .sel (.av 6) (.lit 1)
def e47 : E := .div e27 (.lit 2)
def e48 : E := .mod e47 (.lit 2)
def e49 : E := .eq e48 (.lit 0)
def e50 : E := .mod (.v 9) e36
def e51 : E := .sub (.v 9) e50
def e52 : E := .ite e34 (.v 9) e51
def e53 : E := .sub (.lit 255) e52
def e54 : E := .ite e49 e52 e53
def e55 : E := .add e54 (.v 4)
def e56 : E := .sel (.av 6) (.lit 5)
def e57 : E := .sub e55 e56
def e58 : E := .mul e46 e57
def e59 : E := .add e45 e58
def e60 : E := .div e59 (.lit 256)
def e61 : E := .add e60 e43
def e62 : E := .le (.lit 0) e61
def e63 : E := .le e61 (.lit 1023)
def e64 : E := .and e62 e63
def e65 : E := .sel (.av 6) (.lit 2)
def e66 : E := .mul e65 e44
def e67 : E := .sel (.av 6) (.lit 3)
def e68 : E := .mul e67 e57
def e69 : E := .add e66 e68
def e70 : E := .div e69 (.lit 256)
def e71 : E := .add e70 e56
def e72 : E := .le (.lit 0) e71
def e73 : E := .and e64 e72
def e74 : E := .le e71 (.lit 1023)
def e75 : E := .and e73 e74
def e76 : E := .div e27 (.lit 64)
def e77 : E := .eq e76 (.lit 2)
def e78 : E := .not e77
def e79 : E := .or e75 e78
def e80 : E := .not e79
def e81 : E := .eq (.v 6) (.lit 0)
def e82 : E := .div e71 (.lit 8)
def e83 : E := .mod e82 (.lit 128)
def e84 : E := .mul e83 (.lit 128)
def e85 : E := .div e61 (.lit 8)
def e86 : E := .mod e85 (.lit 128)
def e87 : E := .add e84 e86
def e88 : E := .sel e0 e87
def e89 : E := .mod e88 (.lit 256)
def e90 : E := .mul e89 (.lit 64)
def e91 : E := .mod e71 (.lit 8)
def e92 : E := .mul e91 (.lit 8)
def e93 : E := .add e90 e92
def e94 : E := .mod e61 (.lit 8)
def e95 : E := .add e93 e94
def e96 : E := .sel e0 e95
def e97 : E := .div e96 (.lit 256)
def e98 : E := .eq e76 (.lit 3)
def e99 : E := .add e92 e94
def e100 : E := .sel e0 e99
def e101 : E := .div e100 (.lit 256)
def e102 : E := .ite e98 e101 e97
def e103 : E := .ite e77 (.lit 0) e102
def e104 : E := .ite e75 e97 e103
def e105 : E := .mod e104 (.lit 128)
def e106 : E := .ite e81 e104 e105
def e107 : E := .eq e106 (.lit 0)
def e108 : E := .or e80 e107
def e109 : E := .not e108
def e110 : E := .and e25 e109
def e111 : E := .not e75
def e112 : E := .and e111 e77
def e113 : E := .le e76 (.lit 1)
def e114 : E := .or e75 e113
def e115 : E := .ite e114 e89 (.lit 0)
def e116 : E := .mul e115 (.lit 64)
def e117 : E := .add e116 e92
def e118 : E := .add e117 e94
def e119 : E := .sel e0 e118
def e120 : E := .div e119 (.lit 256)
def e121 : E := .ite e112 (.lit 0) e120
def e122 : E := .mod e121 (.lit 128)
def e123 : E := .ite e81 e121 e122
def e124 : E := .eq e123 (.lit 0)
def e125 : E := .or e112 e124
def e126 : E := .not e125
def e127 : E := .and e25 e126
def e128 : E := .iff e110 e127
def e129 : E := .div e104 (.lit 128)
def e130 : E := .ite e81 (.lit 0) e129
def e131 : E := .ite e108 (.lit 0) e130
def e132 : E := .ite e24 (.lit 0) e131
def e133 : E := .div e121 (.lit 128)
def e134 : E := .ite e81 (.lit 0) e133
def e135 : E := .ite e125 (.lit 0) e134
def e136 : E := .ite e24 (.lit 0) e135
def e137 : E := .eq e132 e136
def e138 : E := .and e128 e137
def e139 : E := .ite e108 (.lit 0) e106
def e140 : E := .ite e24 (.lit 0) e139
def e141 : E := .ite e125 (.lit 0) e123
def e142 : E := .ite e24 (.lit 0) e141
def e143 : E := .eq e140 e142
def e144 : E := .and e138 e143
def e145 : E := .sel (.av 3) (.lit 48)
def e146 : E := .mod e145 (.lit 2)
def e147 : E := .eq e146 (.lit 0)
def e148 : E := .not e147
def e149 : E := .and e81 e148
def e150 : E := .mod e104 (.lit 8)
def e151 : E := .mul e150 (.lit 4)
def e152 : E := .div e104 (.lit 8)
def e153 : E := .mod e152 (.lit 8)
def e154 : E := .mul e153 (.lit 128)
def e155 : E := .add e151 e154
def e156 : E := .div e104 (.lit 64)
def e157 : E := .mul e156 (.lit 8192)
def e158 : E := .add e155 e157
def e159 : E := .sel e2 e106
def e160 : E := .ite e149 e158 e159
def e161 : E := .ite e108 (.lit 0) e160
def e162 : E := .ite e24 (.lit 0) e161
def e163 : E := .mod e121 (.lit 8)
def e164 : E := .mul e163 (.lit 4)
def e165 : E := .div e121 (.lit 8)
def e166 : E := .mod e165 (.lit 8)
def e167 : E := .mul e166 (.lit 128)
def e168 : E := .add e164 e167
def e169 : E := .div e121 (.lit 64)
def e170 : E := .mul e169 (.lit 8192)
def e171 : E := .add e168 e170
def e172 : E := .sel e2 e123
def e173 : E := .ite e149 e171 e172
def e174 : E := .ite e125 (.lit 0) e173
def e175 : E := .ite e24 (.lit 0) e174
def e176 : E := .eq e162 e175
def e177 : E := .and e144 e176
def e178 : E := .not e177
def e179 : E := .add (.v 10) (.lit 1)
noncomputable def eT0 : List Item := todoS Try.prog G Gh [] 3000 0 7 eHy eLs [] 5
noncomputable def eh0 : Head := ⟨5, eT0, ⟨[((.v 0), (0, 9223372036854775807)), ((.v 1), (0, 9223372036854775807)), ((.v 2), (0, 9223372036854775807)), ((.v 3), ((-32768), 32767)), ((.v 4), ((-32768), 32767)), ((.v 5), (0, 65535)), ((.v 6), ((-9223372036854775808), 9223372036854775807)), ((.v 7), ((-9223372036854775808), 9223372036854775807)), ((.v 8), ((-9223372036854775808), 9223372036854775807)), ((.v 9), ((-9223372036854775808), 9223372036854775807)), ((.v 10), (0, 20))], [(0, (0, 65535)), (1, (0, 255)), (2, (0, 65535)), (3, (0, 255)), (4, (0, 65535)), (5, (0, 65535)), (6, ((-32768), 32767))], [], [(0, (0, 65535)), (1, (0, 255)), (2, (0, 32767))], [], [(0, ⟨(.v 0), [(some .u16, (.av 0))]⟩), (1, ⟨(.v 1), [(some .u8, (.av 1))]⟩), (2, ⟨(.v 2), [(some .u16, (.av 2))]⟩)]⟩, [⟨9, [], .s (.int .i64 (.v 10))⟩, ⟨8, [], .s (.ptr 5 (.lit 0))⟩, ⟨7, [], .s (.ptr 4 (.lit 0))⟩, ⟨5, [], .s (.ptr 2 (.lit 0))⟩, ⟨4, [], .s (.ptr 1 (.lit 0))⟩], [⟨39, [.one (.xslc 0 (.lit 0) (.lit 0) (.v 0)), .one (.xslc 1 (.lit 0) (.lit 0) (.v 1)), .one (.xslc 2 (.lit 0) (.lit 0) (.v 2))], true, none, false⟩, ⟨28, [.run .u8 (.lit 64) (.av 3) 0, .run .u16 (.lit 4) (.av 4) 0, .run .u16 (.lit 4) (.av 5) 0, .run .i16 (.lit 6) (.av 6) 0, .one (.int .i16 (.v 3)), .one (.int .i16 (.v 4)), .one (.int .u16 (.v 5))], true, none, false⟩, ⟨53, [.one (.int .i64 (.v 6)), .one (.int .i64 (.v 7)), .one (.int .i64 (.v 8)), .one (.int .i64 (.v 9))], true, none, false⟩, ⟨39, [.one (.xslc 0 (.lit 0) (.lit 0) (.v 0)), .one (.xslc 1 (.lit 0) (.lit 0) (.v 1)), .one (.xslc 2 (.lit 0) (.lit 0) (.v 2))], true, none, false⟩, ⟨50, [.run .u16 (.lit 32768) e0 0, .run .u8 (.lit 544) e1 0, .run .u16 (.lit 256) e2 0], true, none, false⟩, ⟨28, [.run .u8 (.lit 64) (.av 3) 0, .run .u16 (.lit 4) (.av 4) 0, .run .u16 (.lit 4) (.av 5) 0, .run .i16 (.lit 6) (.av 6) 0, .one (.int .i16 (.v 3)), .one (.int .i16 (.v 4)), .one (.int .u16 (.v 5))], true, none, false⟩]⟩
noncomputable def ehs : List Head := [eh0]
def eD : Dim := ⟨11, 0, 7, 10, 0, 7, 0⟩
theorem est : startL Try.prog G Gh eD ehs [] 3000 0 7 eHy eLs [] = some (.jump 0 eT0 ⟨[(10, (.lit 0))], [], []⟩) := by kernel_rfl
theorem esg0 : segL Try.prog G Gh eD ehs [] 3000 0 7 eh0 = some (.ite e3 (.ite e178 (.ret (.s (.bool (.blit false))) [⟨39, [.one (.xslc 0 (.lit 0) (.lit 0) (.v 0)), .one (.xslc 1 (.lit 0) (.lit 0) (.v 1)), .one (.xslc 2 (.lit 0) (.lit 0) (.v 2))], true, none, false⟩, ⟨28, [.run .u8 (.lit 64) (.av 3) 0, .run .u16 (.lit 4) (.av 4) 0, .run .u16 (.lit 4) (.av 5) 0, .run .i16 (.lit 6) (.av 6) 0, .one (.int .i16 (.v 3)), .one (.int .i16 (.v 4)), .one (.int .u16 (.v 5))], true, none, false⟩, ⟨53, [.one (.int .i64 (.v 6)), .one (.int .i64 (.v 7)), .one (.int .i64 (.v 8)), .one (.int .i64 (.v 9))], true, none, false⟩, ⟨39, [.one (.xslc 0 (.lit 0) (.lit 0) (.v 0)), .one (.xslc 1 (.lit 0) (.lit 0) (.v 1)), .one (.xslc 2 (.lit 0) (.lit 0) (.v 2))], true, none, false⟩, ⟨50, [.run .u16 (.lit 32768) e0 0, .run .u8 (.lit 544) e1 0, .run .u16 (.lit 256) e2 0], true, none, false⟩, ⟨28, [.run .u8 (.lit 64) (.av 3) 0, .run .u16 (.lit 4) (.av 4) 0, .run .u16 (.lit 4) (.av 5) 0, .run .i16 (.lit 6) (.av 6) 0, .one (.int .i16 (.v 3)), .one (.int .i16 (.v 4)), .one (.int .u16 (.v 5))], true, none, false⟩]) (.jump 0 eT0 ⟨[(10, e179)], [], []⟩)) (.ret (.s (.bool (.blit true))) [⟨39, [.one (.xslc 0 (.lit 0) (.lit 0) (.v 0)), .one (.xslc 1 (.lit 0) (.lit 0) (.v 1)), .one (.xslc 2 (.lit 0) (.lit 0) (.v 2))], true, none, false⟩, ⟨28, [.run .u8 (.lit 64) (.av 3) 0, .run .u16 (.lit 4) (.av 4) 0, .run .u16 (.lit 4) (.av 5) 0, .run .i16 (.lit 6) (.av 6) 0, .one (.int .i16 (.v 3)), .one (.int .i16 (.v 4)), .one (.int .u16 (.v 5))], true, none, false⟩, ⟨53, [.one (.int .i64 (.v 6)), .one (.int .i64 (.v 7)), .one (.int .i64 (.v 8)), .one (.int .i64 (.v 9))], true, none, false⟩, ⟨39, [.one (.xslc 0 (.lit 0) (.lit 0) (.v 0)), .one (.xslc 1 (.lit 0) (.lit 0) (.v 1)), .one (.xslc 2 (.lit 0) (.lit 0) (.v 2))], true, none, false⟩, ⟨50, [.run .u16 (.lit 32768) e0 0, .run .u8 (.lit 544) e1 0, .run .u16 (.lit 256) e2 0], true, none, false⟩, ⟨28, [.run .u8 (.lit 64) (.av 3) 0, .run .u16 (.lit 4) (.av 4) 0, .run .u16 (.lit 4) (.av 5) 0, .run .i16 (.lit 6) (.av 6) 0, .one (.int .i16 (.v 3)), .one (.int .i16 (.v 4)), .one (.int .u16 (.v 5))], true, none, false⟩])) := by kernel_rfl
def eBase (x0 : Ext) (x1 : Ext) (x2 : Ext) (nx0 nx1 nx2 n1_4 n1_5 n1_6 n2_0 n2_1 n2_2 n2_3 : Int) (Ax0 Ax1 Ax2 A3 A4 A5 A6 : Nat → Int) : Prop := (0 ≤ nx0 ∧ nx0 ≤ 9223372036854775807) ∧ (0 ≤ nx1 ∧ nx1 ≤ 9223372036854775807) ∧ (0 ≤ nx2 ∧ nx2 ≤ 9223372036854775807) ∧ (-32768 ≤ n1_4 ∧ n1_4 ≤ 32767) ∧ (-32768 ≤ n1_5 ∧ n1_5 ≤ 32767) ∧ (0 ≤ n1_6 ∧ n1_6 ≤ 65535) ∧ (-9223372036854775808 ≤ n2_0 ∧ n2_0 ≤ 9223372036854775807) ∧ (-9223372036854775808 ≤ n2_1 ∧ n2_1 ≤ 9223372036854775807) ∧ (-9223372036854775808 ≤ n2_2 ∧ n2_2 ≤ 9223372036854775807) ∧ (-9223372036854775808 ≤ n2_3 ∧ n2_3 ≤ 9223372036854775807) ∧ (∀ j, 0 ≤ Ax0 j ∧ Ax0 j ≤ 65535) ∧ (∀ j, 0 ≤ Ax1 j ∧ Ax1 j ≤ 255) ∧ (∀ j, 0 ≤ Ax2 j ∧ Ax2 j ≤ 65535) ∧ (∀ j, 0 ≤ A3 j ∧ A3 j ≤ 255) ∧ (∀ j, 0 ≤ A4 j ∧ A4 j ≤ 65535) ∧ (∀ j, 0 ≤ A5 j ∧ A5 j ≤ 65535) ∧ (∀ j, -32768 ≤ A6 j ∧ A6 j ≤ 32767) ∧ nx0 = (x0.n : Int) ∧ nx1 = (x1.n : Int) ∧ nx2 = (x2.n : Int) ∧ Ax0 = xArr x0 1 0 ∧ Ax1 = xArr x1 1 0 ∧ Ax2 = xArr x2 1 0 ∧ True
def eJ0 (nx0 nx1 nx2 n1_4 n1_5 n1_6 n2_0 n2_1 n2_2 n2_3 y10 : Int) (Ax0 Ax1 Ax2 A3 A4 A5 A6 : Nat → Int) : Prop := (0 ≤ y10 ∧ y10 ≤ 20) ∧ True
def eInv (x0 : Ext) (x1 : Ext) (x2 : Ext) : Nat → Env → Prop
  | 0, ρ => ∃ (nx0 nx1 nx2 n1_4 n1_5 n1_6 n2_0 n2_1 n2_2 n2_3 y10 : Int) (Ax0 Ax1 Ax2 A3 A4 A5 A6 : Nat → Int), ρ = (⟨[nx0, nx1, nx2, n1_4, n1_5, n1_6, n2_0, n2_1, n2_2, n2_3, y10], [], [Ax0, Ax1, Ax2, A3, A4, A5, A6], [], Iv (fun i j => match i, j with | 0, 0 => x0 | 1, 0 => x1 | 2, 0 => x2 | _, _ => Ext.none)⟩ : Env) ∧ eBase x0 x1 x2 nx0 nx1 nx2 n1_4 n1_5 n1_6 n2_0 n2_1 n2_2 n2_3 Ax0 Ax1 Ax2 A3 A4 A5 A6 ∧ eJ0 nx0 nx1 nx2 n1_4 n1_5 n1_6 n2_0 n2_1 n2_2 n2_3 y10 Ax0 Ax1 Ax2 A3 A4 A5 A6
  | _, _ => False
def emu : Nat → Env → Nat := fun _ ρ => (21 - ρ.i.getD 10 0).toNat
theorem evc0 (x0 : Ext) (x1 : Ext) (x2 : Ext) (nx0 nx1 nx2 n1_4 n1_5 n1_6 n2_0 n2_1 n2_2 n2_3 y10 : Int) (Ax0 Ax1 Ax2 A3 A4 A5 A6 : Nat → Int) (hB : eBase x0 x1 x2 nx0 nx1 nx2 n1_4 n1_5 n1_6 n2_0 n2_1 n2_2 n2_3 Ax0 Ax1 Ax2 A3 A4 A5 A6) (hJ : eJ0 nx0 nx1 nx2 n1_4 n1_5 n1_6 n2_0 n2_1 n2_2 n2_3 y10 Ax0 Ax1 Ax2 A3 A4 A5 A6) :
    LT.holds (⟨[nx0, nx1, nx2, n1_4, n1_5, n1_6, n2_0, n2_1, n2_2, n2_3, y10], [], [Ax0, Ax1, Ax2, A3, A4, A5, A6], [], Iv (fun i j => match i, j with | 0, 0 => x0 | 1, 0 => x1 | 2, 0 => x2 | _, _ => Ext.none)⟩ : Env) (fun v _ => retTrue (⟨[nx0, nx1, nx2, n1_4, n1_5, n1_6, n2_0, n2_1, n2_2, n2_3, y10], [], [Ax0, Ax1, Ax2, A3, A4, A5, A6], [], Iv (fun i j => match i, j with | 0, 0 => x0 | 1, 0 => x1 | 2, 0 => x2 | _, _ => Ext.none)⟩ : Env) v) (fun j' todo ρ' => (ehs[j']?.map (·.todo)) = some todo ∧ eInv x0 x1 x2 j' ρ' ∧ emu j' ρ' < emu 0 (⟨[nx0, nx1, nx2, n1_4, n1_5, n1_6, n2_0, n2_1, n2_2, n2_3, y10], [], [Ax0, Ax1, Ax2, A3, A4, A5, A6], [], Iv (fun i j => match i, j with | 0, 0 => x0 | 1, 0 => x1 | 2, 0 => x2 | _, _ => Ext.none)⟩ : Env)) (.ite e3 (.ite e178 (.ret (.s (.bool (.blit false))) [⟨39, [.one (.xslc 0 (.lit 0) (.lit 0) (.v 0)), .one (.xslc 1 (.lit 0) (.lit 0) (.v 1)), .one (.xslc 2 (.lit 0) (.lit 0) (.v 2))], true, none, false⟩, ⟨28, [.run .u8 (.lit 64) (.av 3) 0, .run .u16 (.lit 4) (.av 4) 0, .run .u16 (.lit 4) (.av 5) 0, .run .i16 (.lit 6) (.av 6) 0, .one (.int .i16 (.v 3)), .one (.int .i16 (.v 4)), .one (.int .u16 (.v 5))], true, none, false⟩, ⟨53, [.one (.int .i64 (.v 6)), .one (.int .i64 (.v 7)), .one (.int .i64 (.v 8)), .one (.int .i64 (.v 9))], true, none, false⟩, ⟨39, [.one (.xslc 0 (.lit 0) (.lit 0) (.v 0)), .one (.xslc 1 (.lit 0) (.lit 0) (.v 1)), .one (.xslc 2 (.lit 0) (.lit 0) (.v 2))], true, none, false⟩, ⟨50, [.run .u16 (.lit 32768) e0 0, .run .u8 (.lit 544) e1 0, .run .u16 (.lit 256) e2 0], true, none, false⟩, ⟨28, [.run .u8 (.lit 64) (.av 3) 0, .run .u16 (.lit 4) (.av 4) 0, .run .u16 (.lit 4) (.av 5) 0, .run .i16 (.lit 6) (.av 6) 0, .one (.int .i16 (.v 3)), .one (.int .i16 (.v 4)), .one (.int .u16 (.v 5))], true, none, false⟩]) (.jump 0 eT0 ⟨[(10, e179)], [], []⟩)) (.ret (.s (.bool (.blit true))) [⟨39, [.one (.xslc 0 (.lit 0) (.lit 0) (.v 0)), .one (.xslc 1 (.lit 0) (.lit 0) (.v 1)), .one (.xslc 2 (.lit 0) (.lit 0) (.v 2))], true, none, false⟩, ⟨28, [.run .u8 (.lit 64) (.av 3) 0, .run .u16 (.lit 4) (.av 4) 0, .run .u16 (.lit 4) (.av 5) 0, .run .i16 (.lit 6) (.av 6) 0, .one (.int .i16 (.v 3)), .one (.int .i16 (.v 4)), .one (.int .u16 (.v 5))], true, none, false⟩, ⟨53, [.one (.int .i64 (.v 6)), .one (.int .i64 (.v 7)), .one (.int .i64 (.v 8)), .one (.int .i64 (.v 9))], true, none, false⟩, ⟨39, [.one (.xslc 0 (.lit 0) (.lit 0) (.v 0)), .one (.xslc 1 (.lit 0) (.lit 0) (.v 1)), .one (.xslc 2 (.lit 0) (.lit 0) (.v 2))], true, none, false⟩, ⟨50, [.run .u16 (.lit 32768) e0 0, .run .u8 (.lit 544) e1 0, .run .u16 (.lit 256) e2 0], true, none, false⟩, ⟨28, [.run .u8 (.lit 64) (.av 3) 0, .run .u16 (.lit 4) (.av 4) 0, .run .u16 (.lit 4) (.av 5) 0, .run .i16 (.lit 6) (.av 6) 0, .one (.int .i16 (.v 3)), .one (.int .i16 (.v 4)), .one (.int .u16 (.v 5))], true, none, false⟩])) := by
  simp only [LT.holds, retTrue]
  refine ⟨fun hc0 => ?_, fun hc0 => ?_⟩
  ·
    refine ⟨fun hc1 => ?_, fun hc1 => ?_⟩
    ·
      exfalso
      have h : E.b (⟨[nx0, nx1, nx2, n1_4, n1_5, n1_6, n2_0, n2_1, n2_2, n2_3, y10], [], [Ax0, Ax1, Ax2, A3, A4, A5, A6], [], Iv (fun i j => match i, j with | 0, 0 => x0 | 1, 0 => x1 | 2, 0 => x2 | _, _ => Ext.none)⟩ : Env) e177 = true := by
        have hq : 0 ≤ A3 26 / 64 ∧ A3 26 / 64 ≤ 3 := by have := hB.2.2.2.2.2.2.2.2.2.2.2.2.2.1 26; omega
        clear hB hJ hc0 hc1
        simp only [e25, e27, e76, e77, e78, e79, e80, e81, e82, e83, e84, e85, e86, e87, e88, e89, e90, e91, e92, e93, e94, e95, e96, e97, e98, e99, e100, e101, e102, e103, e104, e105, e106, e107, e108, e109, e110, e111, e112, e113, e114, e115, e116, e117, e118, e119, e120, e121, e122, e123, e124, e125, e126, e127, e128, e129, e130, e131, e132, e133, e134, e135, e136, e137, e138, e139, e140, e141, e142, e143, e144, e145, e146, e147, e148, e149, e150, e151, e152, e153, e154, e155, e156, e157, e158, e159, e160, e161, e162, e163, e164, e165, e166, e167, e168, e169, e170, e171, e172, e173, e174, e175, e176, e177, e178, e179, i_v, b_bv, i_lit, b_blit, i_add, i_sub, i_mul, i_div, i_mod, i_tdiv, i_tmod, i_ite, b_ite, b_lt, b_le, b_eq, b_not, b_and, b_or, b_iff, i_sel, a_tab, i_pow2, List.getD_cons_zero, List.getD_cons_succ, decide_eq_true_eq, decide_eq_false_iff_not, Bool.and_eq_true, Bool.or_eq_true, Bool.not_eq_true', Bool.not_eq_false', Bool.and_eq_false_iff, Bool.or_eq_false_iff, Bool.not_not, ite_tt, ite_ff, iff_tt, iff_ff, a_av, a_ite, a_upd]
        rw [show Int.toNat 26 = 26 from rfl]
        generalize E.a _ e0 = F0
        generalize E.a _ e2 = F2
        generalize E.b _ e24 = c24
        generalize E.b _ e75 = c75
        generalize E.i _ e61 = px
        generalize E.i _ e71 = py
        generalize A3 26 / 64 = q at *
        have h1 : q ≤ 1 ↔ ¬ q = 2 ∧ ¬ q = 3 := by omega
        simp only [h1]
        clear h1
        cases c24 <;> cases c75 <;> by_cases h2 : q = 2 <;> by_cases h3 : q = 3 <;> simp_all
      rw [show (e178 : E) = .not e177 from rfl, b_not, h] at hc1
      cases hc1
    ·
      refine ⟨rfl, ⟨_, _, _, _, _, _, _, _, _, _, _, _, _, _, _, _, _, _, rfl, hB, ?_⟩, ?_⟩
      simp only [eJ0, and_true] at *
      first | omega | (simp only [e3, e4, e5, e6, e7, e8, e9, e10, e11, e12, e13, e14, e15, e16, e17, e18, e19, e20, e21, e22, e23, e24, e25, e26, e27, e28, e29, e30, e31, e32, e33, e34, e35, e36, e37, e38, e39, e40, e41, e42, e43, e44, e45, e46, e47, e48, e49, e50, e51, e52, e53, e54, e55, e56, e57, e58, e59, e60, e61, e62, e63, e64, e65, e66, e67, e68, e69, e70, e71, e72, e73, e74, e75, e76, e77, e78, e79, e80, e81, e82, e83, e84, e85, e86, e87, e88, e89, e90, e91, e92, e93, e94, e95, e96, e97, e98, e99, e100, e101, e102, e103, e104, e105, e106, e107, e108, e109, e110, e111, e112, e113, e114, e115, e116, e117, e118, e119, e120, e121, e122, e123, e124, e125, e126, e127, e128, e129, e130, e131, e132, e133, e134, e135, e136, e137, e138, e139, e140, e141, e142, e143, e144, e145, e146, e147, e148, e149, e150, e151, e152, e153, e154, e155, e156, e157, e158, e159, e160, e161, e162, e163, e164, e165, e166, e167, e168, e169, e170, e171, e172, e173, e174, e175, e176, e177, e178, e179, i_v, b_bv, i_lit, b_blit, i_add, i_sub, i_mul, i_div, i_mod, i_tdiv, i_tmod, i_ite, b_ite, b_lt, b_le, b_eq, b_not, b_and, b_or, b_iff, i_sel, a_tab, i_pow2, List.getD_cons_zero, List.getD_cons_succ, decide_eq_true_eq, decide_eq_false_iff_not, Bool.and_eq_true, Bool.or_eq_true, Bool.not_eq_true', Bool.not_eq_false', Bool.and_eq_false_iff, Bool.or_eq_false_iff, Bool.not_not, ite_tt, ite_ff, iff_tt, iff_ff, a_av, a_ite, a_upd] at *; omega)
      simp only [emu, eJ0, Env.app, setAll, List.map_cons, List.map_nil, List.set, List.getD_cons_zero, List.getD_cons_succ, e3, e4, e5, e6, e7, e8, e9, e10, e11, e12, e13, e14, e15, e16, e17, e18, e19, e20, e21, e22, e23, e24, e25, e26, e27, e28, e29, e30, e31, e32, e33, e34, e35, e36, e37, e38, e39, e40, e41, e42, e43, e44, e45, e46, e47, e48, e49, e50, e51, e52, e53, e54, e55, e56, e57, e58, e59, e60, e61, e62, e63, e64, e65, e66, e67, e68, e69, e70, e71, e72, e73, e74, e75, e76, e77, e78, e79, e80, e81, e82, e83, e84, e85, e86, e87, e88, e89, e90, e91, e92, e93, e94, e95, e96, e97, e98, e99, e100, e101, e102, e103, e104, e105, e106, e107, e108, e109, e110, e111, e112, e113, e114, e115, e116, e117, e118, e119, e120, e121, e122, e123, e124, e125, e126, e127, e128, e129, e130, e131, e132, e133, e134, e135, e136, e137, e138, e139, e140, e141, e142, e143, e144, e145, e146, e147, e148, e149, e150, e151, e152, e153, e154, e155, e156, e157, e158, e159, e160, e161, e162, e163, e164, e165, e166, e167, e168, e169, e170, e171, e172, e173, e174, e175, e176, e177, e178, e179, i_v, b_bv, i_lit, b_blit, i_add, i_sub, i_mul, i_div, i_mod, i_tdiv, i_tmod, i_ite, b_ite, b_lt, b_le, b_eq, b_not, b_and, b_or, b_iff, i_sel, a_tab, i_pow2, List.getD_cons_zero, List.getD_cons_succ, decide_eq_true_eq, decide_eq_false_iff_not, Bool.and_eq_true, Bool.or_eq_true, Bool.not_eq_true', Bool.not_eq_false', Bool.and_eq_false_iff, Bool.or_eq_false_iff, Bool.not_not, ite_tt, ite_ff, iff_tt, iff_ff, a_av, a_ite, a_upd] at *
      omega
  ·
    rfl
theorem evcS (x0 : Ext) (x1 : Ext) (x2 : Ext) (nx0 nx1 nx2 n1_4 n1_5 n1_6 n2_0 n2_1 n2_2 n2_3 : Int) (Ax0 Ax1 Ax2 A3 A4 A5 A6 : Nat → Int) (hB : eBase x0 x1 x2 nx0 nx1 nx2 n1_4 n1_5 n1_6 n2_0 n2_1 n2_2 n2_3 Ax0 Ax1 Ax2 A3 A4 A5 A6) :
    LT.holds (⟨[nx0, nx1, nx2, n1_4, n1_5, n1_6, n2_0, n2_1, n2_2, n2_3, 0], [], [Ax0, Ax1, Ax2, A3, A4, A5, A6], [], Iv (fun i j => match i, j with | 0, 0 => x0 | 1, 0 => x1 | 2, 0 => x2 | _, _ => Ext.none)⟩ : Env) (fun v _ => retTrue (⟨[nx0, nx1, nx2, n1_4, n1_5, n1_6, n2_0, n2_1, n2_2, n2_3, 0], [], [Ax0, Ax1, Ax2, A3, A4, A5, A6], [], Iv (fun i j => match i, j with | 0, 0 => x0 | 1, 0 => x1 | 2, 0 => x2 | _, _ => Ext.none)⟩ : Env) v) (fun j' todo ρ' => (ehs[j']?.map (·.todo)) = some todo ∧ eInv x0 x1 x2 j' ρ') (.jump 0 eT0 ⟨[(10, (.lit 0))], [], []⟩) := by
  simp only [LT.holds, retTrue]
  refine ⟨rfl, _, _, _, _, _, _, _, _, _, _, _, _, _, _, _, _, _, _, rfl, hB, ?_⟩
  simp only [eJ0, and_true] at *
  first | omega | (simp only [e3, e4, e5, e6, e7, e8, e9, e10, e11, e12, e13, e14, e15, e16, e17, e18, e19, e20, e21, e22, e23, e24, e25, e26, e27, e28, e29, e30, e31, e32, e33, e34, e35, e36, e37, e38, e39, e40, e41, e42, e43, e44, e45, e46, e47, e48, e49, e50, e51, e52, e53, e54, e55, e56, e57, e58, e59, e60, e61, e62, e63, e64, e65, e66, e67, e68, e69, e70, e71, e72, e73, e74, e75, e76, e77, e78, e79, e80, e81, e82, e83, e84, e85, e86, e87, e88, e89, e90, e91, e92, e93, e94, e95, e96, e97, e98, e99, e100, e101, e102, e103, e104, e105, e106, e107, e108, e109, e110, e111, e112, e113, e114, e115, e116, e117, e118, e119, e120, e121, e122, e123, e124, e125, e126, e127, e128, e129, e130, e131, e132, e133, e134, e135, e136, e137, e138, e139, e140, e141, e142, e143, e144, e145, e146, e147, e148, e149, e150, e151, e152, e153, e154, e155, e156, e157, e158, e159, e160, e161, e162, e163, e164, e165, e166, e167, e168, e169, e170, e171, e172, e173, e174, e175, e176, e177, e178, e179, i_v, b_bv, i_lit, b_blit, i_add, i_sub, i_mul, i_div, i_mod, i_tdiv, i_tmod, i_ite, b_ite, b_lt, b_le, b_eq, b_not, b_and, b_or, b_iff, i_sel, a_tab, i_pow2, List.getD_cons_zero, List.getD_cons_succ, decide_eq_true_eq, decide_eq_false_iff_not, Bool.and_eq_true, Bool.or_eq_true, Bool.not_eq_true', Bool.not_eq_false', Bool.and_eq_false_iff, Bool.or_eq_false_iff, Bool.not_not, ite_tt, ite_ff, iff_tt, iff_ff, a_av, a_ite, a_upd] at *; omega)
theorem ecalls (x0 : Ext) (x1 : Ext) (x2 : Ext) (c1 : List Value) (l1 : c1.length = pcTotal Pc1) (f1 : PcFit c1 0 Pc1) (c2 : List Value) (l2 : c2.length = pcTotal Pc2) (f2 : PcFit c2 0 Pc2) (w : World) (g0 : XFit x0 w [some .u16]) (g1 : XFit x1 w [some .u8]) (g2 : XFit x2 w [some .u16]) :
    Calls Try.prog 7 #[.agg #[x0.v, x1.v, x2.v], .agg c1.toArray, .agg c2.toArray] w fun r w' => r = .returned (.bool true) ∧ Below w.heap.size w w' := by
  have hc1 : cellsOf (⟨[(x0.n : Int), (x1.n : Int), (x2.n : Int), intV (c1.getD 78 Go.undef), intV (c1.getD 79 Go.undef), intV (c1.getD 80 Go.undef), intV (c2.getD 0 Go.undef), intV (c2.getD 1 Go.undef), intV (c2.getD 2 Go.undef), intV (c2.getD 3 Go.undef), 0], [], [xArr x0 1 0, xArr x1 1 0, xArr x2 1 0, arrOf c1 0 64, arrOf c1 64 4, arrOf c1 68 4, arrOf c1 72 6], [], Iv (fun i j => match i, j with | 0, 0 => x0 | 1, 0 => x1 | 2, 0 => x2 | _, _ => Ext.none)⟩ : Env) Loc.id (pcSegs 3 0 3 Pc1) = c1 := by
    rw [pc_cells Pc1 0 3 0 3 f1 (by intro j hj; rcases j with _ | _ | _ | _ | j <;> first | rfl | (simp [Pc1, pcA, pcB, pcI] at hj; omega)) (by intro j hj; simp [Pc1, pcA, pcB, pcI] at hj) (by intro j hj; rcases j with _ | _ | _ | j <;> first | rfl | (simp [Pc1, pcA, pcB, pcI] at hj; omega)), List.drop_zero, ← l1, List.take_length]
  have hc2 : cellsOf (⟨[(x0.n : Int), (x1.n : Int), (x2.n : Int), intV (c1.getD 78 Go.undef), intV (c1.getD 79 Go.undef), intV (c1.getD 80 Go.undef), intV (c2.getD 0 Go.undef), intV (c2.getD 1 Go.undef), intV (c2.getD 2 Go.undef), intV (c2.getD 3 Go.undef), 0], [], [xArr x0 1 0, xArr x1 1 0, xArr x2 1 0, arrOf c1 0 64, arrOf c1 64 4, arrOf c1 68 4, arrOf c1 72 6], [], Iv (fun i j => match i, j with | 0, 0 => x0 | 1, 0 => x1 | 2, 0 => x2 | _, _ => Ext.none)⟩ : Env) Loc.id (pcSegs 7 0 6 Pc2) = c2 := by
    rw [pc_cells Pc2 0 7 0 6 f2 (by intro j hj; simp [Pc2, pcA, pcB, pcI] at hj) (by intro j hj; simp [Pc2, pcA, pcB, pcI] at hj) (by intro j hj; rcases j with _ | _ | _ | _ | j <;> first | rfl | (simp [Pc2, pcA, pcB, pcI] at hj; omega)), List.drop_zero, ← l2, List.take_length]
  have hx0 : SV.conc (⟨[(x0.n : Int), (x1.n : Int), (x2.n : Int), intV (c1.getD 78 Go.undef), intV (c1.getD 79 Go.undef), intV (c1.getD 80 Go.undef), intV (c2.getD 0 Go.undef), intV (c2.getD 1 Go.undef), intV (c2.getD 2 Go.undef), intV (c2.getD 3 Go.undef), 0], [], [xArr x0 1 0, xArr x1 1 0, xArr x2 1 0, arrOf c1 0 64, arrOf c1 64 4, arrOf c1 68 4, arrOf c1 72 6], [], Iv (fun i j => match i, j with | 0, 0 => x0 | 1, 0 => x1 | 2, 0 => x2 | _, _ => Ext.none)⟩ : Env) Loc.id (.s (.xslc 0 (.lit 0) (.lit 0) (.v 0))) = x0.v := conc_ext g0 rfl rfl
  have hx1 : SV.conc (⟨[(x0.n : Int), (x1.n : Int), (x2.n : Int), intV (c1.getD 78 Go.undef), intV (c1.getD 79 Go.undef), intV (c1.getD 80 Go.undef), intV (c2.getD 0 Go.undef), intV (c2.getD 1 Go.undef), intV (c2.getD 2 Go.undef), intV (c2.getD 3 Go.undef), 0], [], [xArr x0 1 0, xArr x1 1 0, xArr x2 1 0, arrOf c1 0 64, arrOf c1 64 4, arrOf c1 68 4, arrOf c1 72 6], [], Iv (fun i j => match i, j with | 0, 0 => x0 | 1, 0 => x1 | 2, 0 => x2 | _, _ => Ext.none)⟩ : Env) Loc.id (.s (.xslc 1 (.lit 0) (.lit 0) (.v 1))) = x1.v := conc_ext g1 rfl rfl
  have hx2 : SV.conc (⟨[(x0.n : Int), (x1.n : Int), (x2.n : Int), intV (c1.getD 78 Go.undef), intV (c1.getD 79 Go.undef), intV (c1.getD 80 Go.undef), intV (c2.getD 0 Go.undef), intV (c2.getD 1 Go.undef), intV (c2.getD 2 Go.undef), intV (c2.getD 3 Go.undef), 0], [], [xArr x0 1 0, xArr x1 1 0, xArr x2 1 0, arrOf c1 0 64, arrOf c1 64 4, arrOf c1 68 4, arrOf c1 72 6], [], Iv (fun i j => match i, j with | 0, 0 => x0 | 1, 0 => x1 | 2, 0 => x2 | _, _ => Ext.none)⟩ : Env) Loc.id (.s (.xslc 2 (.lit 0) (.lit 0) (.v 2))) = x2.v := conc_ext g2 rfl rfl
  have hargs : (eLs.map (SV.conc (⟨[(x0.n : Int), (x1.n : Int), (x2.n : Int), intV (c1.getD 78 Go.undef), intV (c1.getD 79 Go.undef), intV (c1.getD 80 Go.undef), intV (c2.getD 0 Go.undef), intV (c2.getD 1 Go.undef), intV (c2.getD 2 Go.undef), intV (c2.getD 3 Go.undef), 0], [], [xArr x0 1 0, xArr x1 1 0, xArr x2 1 0, arrOf c1 0 64, arrOf c1 64 4, arrOf c1 68 4, arrOf c1 72 6], [], Iv (fun i j => match i, j with | 0, 0 => x0 | 1, 0 => x1 | 2, 0 => x2 | _, _ => Ext.none)⟩ : Env) Loc.id)).toArray = #[.agg #[x0.v, x1.v, x2.v], .agg c1.toArray, .agg c2.toArray] := by
    refine congrArg List.toArray ?_
    exact (cons_eq (rows_eq hx0 hx1 hx2) (cons_eq (congrArg (fun l => Value.agg (List.toArray l)) hc1) (cons_eq (congrArg (fun l => Value.agg (List.toArray l)) hc2) rfl)))
  rw [← hargs]
  have hok : Hyp.ok eHy (⟨[(x0.n : Int), (x1.n : Int), (x2.n : Int), intV (c1.getD 78 Go.undef), intV (c1.getD 79 Go.undef), intV (c1.getD 80 Go.undef), intV (c2.getD 0 Go.undef), intV (c2.getD 1 Go.undef), intV (c2.getD 2 Go.undef), intV (c2.getD 3 Go.undef), 0], [], [xArr x0 1 0, xArr x1 1 0, xArr x2 1 0, arrOf c1 0 64, arrOf c1 64 4, arrOf c1 68 4, arrOf c1 72 6], [], Iv (fun i j => match i, j with | 0, 0 => x0 | 1, 0 => x1 | 2, 0 => x2 | _, _ => Ext.none)⟩ : Env) := by
    refine ⟨?_, ?_, ?_, by simp [eHy], ?_, by simp [eHy]⟩
    · intro p hp
      simp only [eHy, List.mem_cons, List.not_mem_nil, or_false] at hp
      rcases hp with rfl | rfl | rfl
      · exact xi_ok g0 rfl rfl rfl
      · exact xi_ok g1 rfl rfl rfl
      · exact xi_ok g2 rfl rfl rfl
    · intro p hp
      simp only [eHy, List.mem_cons, List.not_mem_nil, or_false] at hp
      rcases hp with rfl | rfl | rfl | rfl | rfl | rfl | rfl | rfl | rfl | rfl
      · exact xlen_rng g0
      · exact xlen_rng g1
      · exact xlen_rng g2
      · exact num_rng (f1.tail.tail.tail.tail)
      · exact num_rng (f1.tail.tail.tail.tail.tail)
      · exact num_rng (f1.tail.tail.tail.tail.tail.tail)
      · exact num_rng (f2)
      · exact num_rng (f2.tail)
      · exact num_rng (f2.tail.tail)
      · exact num_rng (f2.tail.tail.tail)
    · intro p hp
      simp only [eHy, List.mem_cons, List.not_mem_nil, or_false] at hp
      rcases hp with rfl | rfl | rfl | rfl | rfl | rfl | rfl
      · exact xArr_rng g0
      · exact xArr_rng g1
      · exact xArr_rng g2
      · exact arrOf_rng (f1)
      · exact arrOf_rng (f1.tail)
      · exact arrOf_rng (f1.tail.tail)
      · exact arrOf_rng (f1.tail.tail.tail)
    · intro p hp is bs xs j
      simp only [eHy, List.mem_cons, List.not_mem_nil, or_false] at hp
      rcases hp with rfl | rfl | rfl <;> exact vidF_rng _ _ _ (by decide) j
  refine law_loops (D := eD) (hs := ehs) (ρ := (⟨[(x0.n : Int), (x1.n : Int), (x2.n : Int), intV (c1.getD 78 Go.undef), intV (c1.getD 79 Go.undef), intV (c1.getD 80 Go.undef), intV (c2.getD 0 Go.undef), intV (c2.getD 1 Go.undef), intV (c2.getD 2 Go.undef), intV (c2.getD 3 Go.undef), 0], [], [xArr x0 1 0, xArr x1 1 0, xArr x2 1 0, arrOf c1 0 64, arrOf c1 64 4, arrOf c1 68 4, arrOf c1 72 6], [], Iv (fun i j => match i, j with | 0, 0 => x0 | 1, 0 => x1 | 2, 0 => x2 | _, _ => Ext.none)⟩ : Env)) (G_ok _) (by kernel_rfl) rfl (eInv x0 x1 x2 ) emu est rfl ⟨rfl, rfl, rfl⟩ hok (evcS x0 x1 x2 ((x0.n : Int)) ((x1.n : Int)) ((x2.n : Int)) (intV (c1.getD 78 Go.undef)) (intV (c1.getD 79 Go.undef)) (intV (c1.getD 80 Go.undef)) (intV (c2.getD 0 Go.undef)) (intV (c2.getD 1 Go.undef)) (intV (c2.getD 2 Go.undef)) (intV (c2.getD 3 Go.undef)) (xArr x0 1 0) (xArr x1 1 0) (xArr x2 1 0) (arrOf c1 0 64) (arrOf c1 64 4) (arrOf c1 68 4) (arrOf c1 72 6) ⟨xlen_rng g0, xlen_rng g1, xlen_rng g2, num_rng (f1.tail.tail.tail.tail), num_rng (f1.tail.tail.tail.tail.tail), num_rng (f1.tail.tail.tail.tail.tail.tail), num_rng (f2), num_rng (f2.tail), num_rng (f2.tail.tail), num_rng (f2.tail.tail.tail), xArr_rng g0, xArr_rng g1, xArr_rng g2, arrOf_rng (f1), arrOf_rng (f1.tail), arrOf_rng (f1.tail.tail), arrOf_rng (f1.tail.tail.tail), rfl, rfl, rfl, rfl, rfl, rfl, trivial⟩) ?_ w (fun i j => by rcases i with _ | _ | _ | i <;> rcases j with _ | j <;> first | exact Ext.none_ok _ | exact g0.ok | exact g1.ok | exact g2.ok)
  intro j h ρ hj hI hz hInv
  rcases j with _ | j
  · simp only [ehs, List.getElem?_cons_zero, List.getElem?_cons_succ, Option.some.injEq] at hj; subst hj
    obtain ⟨nx0, nx1, nx2, n1_4, n1_5, n1_6, n2_0, n2_1, n2_2, n2_3, y10, Ax0, Ax1, Ax2, A3, A4, A5, A6, rfl, hB, hJ⟩ := hInv
    refine ⟨?_, _, esg0, evc0 x0 x1 x2 nx0 nx1 nx2 n1_4 n1_5 n1_6 n2_0 n2_1 n2_2 n2_3 y10 Ax0 Ax1 Ax2 A3 A4 A5 A6 hB hJ⟩
    have hB2 := hB; have hJ2 := hJ
    simp only [eBase] at hB2; simp only [eJ0] at hJ2
    obtain ⟨hb0, hb1, hb2, hb3, hb4, hb5, hb6, hb7, hb8, hb9, hb10, hb11, hb12, hb13, hb14, hb15, hb16, hn0, hn1, hn2, ha0, ha1, ha2, _⟩ := hB2
    obtain ⟨hl0, _⟩ := hJ2
    refine ⟨?_, ?_, ?_, by simp [eh0], ?_, by simp [eh0]⟩
    · intro p hp
      simp only [eh0, List.mem_cons, List.not_mem_nil, or_false] at hp
      rcases hp with rfl | rfl | rfl
      · exact xi_ok g0 rfl hn0 ha0
      · exact xi_ok g1 rfl hn1 ha1
      · exact xi_ok g2 rfl hn2 ha2
    · intro p hp
      simp only [eh0, List.mem_cons, List.not_mem_nil, or_false] at hp
      rcases hp with rfl | rfl | rfl | rfl | rfl | rfl | rfl | rfl | rfl | rfl | rfl
      · exact hb0
      · exact hb1
      · exact hb2
      · exact hb3
      · exact hb4
      · exact hb5
      · exact hb6
      · exact hb7
      · exact hb8
      · exact hb9
      · exact hl0
    · intro p hp
      simp only [eh0, List.mem_cons, List.not_mem_nil, or_false] at hp
      rcases hp with rfl | rfl | rfl | rfl | rfl | rfl | rfl
      · exact hb10
      · exact hb11
      · exact hb12
      · exact hb13
      · exact hb14
      · exact hb15
      · exact hb16
    · intro p hp is bs xs j
      simp only [eh0, List.mem_cons, List.not_mem_nil, or_false] at hp
      rcases hp with rfl | rfl | rfl <;> exact vidF_rng _ _ _ (by decide) j
  · simp [ehs] at hj
theorem own : ownKnob Try.prog.godebug = none := by kernel_rfl
theorem lifted (os : Os) (started : os.Started) (H : Type) (enc : TypeId × Value → H) :
    ReturnsInHanded {} Try.checked os 7 .any (Rows.planeDotsSpec.pre6 enc Try.prog Try.f7 Rows.planeDotsRow.domain false) (Rows.planeDotsSpec.post enc Try.prog Try.f7 false true false false) := by
  refine returnsInHanded_of_change (C := Try.checked) own started (by kernel_rfl) Try.func7
    (ChangeSpec.witness6 (enc := enc) (C := Try.checked) false ⟨#[], #[.agg #[.slice none 0 0, .slice none 0 0, .slice none 0 0], .agg #[.int .u8 0, .int .u8 0, .int .u8 0, .int .u8 0, .int .u8 0, .int .u8 0, .int .u8 0, .int .u8 0, .int .u8 0, .int .u8 0, .int .u8 0, .int .u8 0, .int .u8 0, .int .u8 0, .int .u8 0, .int .u8 0, .int .u8 0, .int .u8 0, .int .u8 0, .int .u8 0, .int .u8 0, .int .u8 0, .int .u8 0, .int .u8 0, .int .u8 0, .int .u8 0, .int .u8 0, .int .u8 0, .int .u8 0, .int .u8 0, .int .u8 0, .int .u8 0, .int .u8 0, .int .u8 0, .int .u8 0, .int .u8 0, .int .u8 0, .int .u8 0, .int .u8 0, .int .u8 0, .int .u8 0, .int .u8 0, .int .u8 0, .int .u8 0, .int .u8 0, .int .u8 0, .int .u8 0, .int .u8 0, .int .u8 0, .int .u8 0, .int .u8 0, .int .u8 0, .int .u8 0, .int .u8 0, .int .u8 0, .int .u8 0, .int .u8 0, .int .u8 0, .int .u8 0, .int .u8 0, .int .u8 0, .int .u8 0, .int .u8 0, .int .u8 0, .int .u16 0, .int .u16 0, .int .u16 0, .int .u16 0, .int .u16 0, .int .u16 0, .int .u16 0, .int .u16 0, .int .i16 0, .int .i16 0, .int .i16 0, .int .i16 0, .int .i16 0, .int .i16 0, .int .i16 0, .int .i16 0, .int .u16 0], .agg #[.int .i64 0, .int .i64 0, .int .i64 0, .int .i64 0]], []⟩ 8 (by kernel_rfl) (by kernel_rfl) (by kernel_rfl) (by kernel_rfl)) ?_
  intro W base args ds gs before hval0 hW hcnd _
  have hval : ∀ (j : Nat) t v, Try.f7.params[j]? = some t → args[j]? = some v → Value.okWide Try.prog W .any base t v := hval0
  have hW' := hW
  obtain ⟨p, q, hA0, hV, rfl, hfz, hnd⟩ := hW
  have hA1 : DataW.TrodAll enc Try.prog W 0 (fun _ => true) true Try.f7.params.toList args.toList ds p := hA0
  rw [Try.params7] at hA1 hval
  obtain ⟨v0, vs0, d0, ds0, p0, q0, hargs, rfl, rfl, h0, r0⟩ := trodAll_cons hA1
  obtain ⟨v1, vs1, d1, ds1, p1, q1, rfl, rfl, rfl, h1, r1⟩ := trodAll_cons r0
  obtain ⟨v2, vs2, d2, ds2, p2, q2, rfl, rfl, rfl, h2, r2⟩ := trodAll_cons r1
  obtain ⟨rfl, rfl, rfl⟩ := trodAll_nil r2
  obtain rfl : args = #[v0, v1, v2] := by cases args; simp_all
  obtain ⟨x0, x1, x2, rfl, g0, g1, g2⟩ := open_rows 4 Try.underlying39 (by kernel_rfl) ⟨rfl, rfl, rfl⟩ Try.underlying36 Try.underlying37 Try.underlying36 ⟨by kernel_rfl, by kernel_rfl, by kernel_rfl⟩ ⟨by kernel_rfl, by kernel_rfl, by kernel_rfl⟩ ⟨by kernel_rfl, by kernel_rfl, by kernel_rfl⟩ (hval 0 39 v0 rfl rfl) h0
  obtain ⟨c1, rfl, l1, f1⟩ := open_pc Pc1 8 (by kernel_rfl) (by kernel_rfl) (by kernel_rfl) (hval 1 28 v1 rfl rfl) h1
  obtain ⟨c2, rfl, l2, f2⟩ := open_pc Pc2 8 (by kernel_rfl) (by kernel_rfl) (by kernel_rfl) (hval 2 53 v2 rfl rfl) h2
  obtain ⟨rfl, rfl⟩ := trodVars_none hV

  refine (ecalls x0 x1 x2 c1 l1 f1 c2 l2 f2 W g0 g1 g2).mono fun e W' ⟨he, hb⟩ => ⟨_, he, ?_⟩
  exact law_post (by kernel_rfl) (by kernel_rfl) rfl (by kernel_rfl) Try.underlying4 rfl hW' hb
theorem over : Rows.planeDotsRow.holds Try.pinned (OpenSpec.ofChange Rows.planeDotsSpec) :=
  OpenClaim.holds_of_wide 7 Try.f7 rfl rfl rfl rfl rfl rfl rfl ⟨rfl, rfl, rfl, rfl, rfl⟩ rfl rfl rfl rfl rfl (by kernel_rfl) Try.func7 (by kernel_rfl)
    (of_decide_eq_true (by kernel_rfl)) (by unfold Func.isWrapper; first | (rw [if_pos (by decide +kernel)]; kernel_rfl) | (rw [if_neg (by decide +kernel)]; exact ⟨rfl, rfl⟩))
    (fun os started H enc _ => lifted os started H enc)
theorem proved : Rows.PlaneDotsSaid := over
#print axioms proved
end Go.Proofs.Ytdhjmnjooekemaa.PlaneDots
