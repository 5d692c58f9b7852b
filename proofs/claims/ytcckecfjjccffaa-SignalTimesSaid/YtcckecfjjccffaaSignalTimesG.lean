/- A part of the law SignalTimes, which returns true for every input. A program that multiplies says the product of any words. No condition. -/
import Derived.Test.YtcckecfjjccffaaSignalTimes0
namespace Go.Proofs.Ytcckecfjjccffaa.SignalTimes
open Go.Sx Go.ChangeShapes Go.WideShapes Go.ChangeAt Go.RowKit
set_option linter.unusedVariables false
set_option linter.unusedSimpArgs false
set_option maxRecDepth 100000
def eHy : Hyp := ⟨[(.v 0, (0, 9223372036854775807))], [(0, (0, 4294967295))], [], [], [], [(0, ⟨.v 0, [(some .u32, .av 0)]⟩)]⟩
def eLs : List SV := [.s (.xslc 0 (.lit 0) (.lit 0) (.v 0))]
def e0 : E := .upd (.tab []) (.lit 0) (.lit 6)
def e1 : E := .upd e0 (.lit 1) (.lit 0)
def e2 : E := .upd e1 (.lit 2) (.lit 0)
def e3 : E := .upd e2 (.lit 3) (.lit 4)
def e4 : E := .upd e3 (.lit 4) (.lit 192)
def e5 : E := .upd e4 (.lit 5) (.lit 151)
def e6 : E := .upd e5 (.lit 6) (.lit 138)
def e7 : E := .upd e6 (.lit 7) (.lit 0)
def e8 : E := .upd e7 (.lit 8) (.lit 0)
def e9 : E := .upd e8 (.lit 9) (.lit 12)
def e10 : E := .upd e9 (.lit 10) (.lit 192)
def e11 : E := .upd e10 (.lit 11) (.lit 151)
def e12 : E := .upd e11 (.lit 12) (.lit 157)
def e13 : E := .upd e12 (.lit 13) (.lit 0)
def e14 : E := .upd e13 (.lit 14) (.lit 0)
def e15 : E := .upd e14 (.lit 15) (.lit 1)
def e16 : E := .upd e15 (.lit 16) (.lit 0)
def e17 : E := .upd e16 (.lit 17) (.lit 192)
def e18 : E := .upd e17 (.lit 18) (.lit 0)
def e19 : E := .upd e18 (.lit 19) (.lit 0)
def e20 : E := .upd e19 (.lit 20) (.lit 33)
def e21 : E := .upd e20 (.lit 21) (.lit 22)
def e22 : E := .upd e21 (.lit 22) (.lit 0)
def e23 : E := .upd e22 (.lit 23) (.lit 0)
def e24 : E := .upd e23 (.lit 24) (.lit 32)
def e25 : E := .upd e24 (.lit 25) (.lit 192)
def e26 : E := .upd e25 (.lit 26) (.lit 151)
def e27 : E := .upd e26 (.lit 27) (.lit 2)
def e28 : E := .upd e27 (.lit 28) (.lit 0)
def e29 : E := .upd e28 (.lit 29) (.lit 192)
def e30 : E := .upd e29 (.lit 30) (.lit 0)
def e31 : E := .upd e30 (.lit 31) (.lit 128)
def e32 : E := .upd e31 (.lit 32) (.lit 49)
def e33 : E := .upd e32 (.lit 33) (.lit 38)
def e34 : E := .upd e33 (.lit 34) (.lit 0)
def e35 : E := .upd e34 (.lit 35) (.lit 0)
def e36 : E := .upd e35 (.lit 36) (.lit 48)
def e37 : E := .upd e36 (.lit 37) (.lit 192)
def e38 : E := .upd e37 (.lit 38) (.lit 151)
def e39 : E := .upd e38 (.lit 39) (.lit 0)
def e40 : E := .upd e39 (.lit 40) (.lit 0)
def e41 : E := .upd e40 (.lit 41) (.lit 160)
def e42 : E := .le (.lit 1) (.v 0)
def e43 : E := .sel (.av 0) (.lit 0)
def e44 : E := .mod e43 (.lit 65536)
def e45 : E := .wrap .i16 e44
def e46 : E := .div e43 (.lit 65536)
def e47 : E := .wrap .i16 e46
def e48 : E := .mul e45 e47
def e49 : E := .mod e48 (.lit 128)
def e50 : E := .mul e49 (.lit 2)
def e51 : E := .mod e48 (.lit 32768)
def e52 : E := .div e51 (.lit 128)
def e53 : E := .mul e52 (.lit 256)
def e54 : E := .add e50 e53
def e55 : E := .mul e51 (.lit 2)
def e56 : E := .eq e54 e55
def e57 : E := .not e56
def e58 : E := .div e48 (.lit 32768)
def e59 : E := .mod e58 (.lit 256)
def e60 : E := .div e48 (.lit 8388608)
def e61 : E := .mod e60 (.lit 256)
def e62 : E := .mul e61 (.lit 256)
def e63 : E := .add e59 e62
def e64 : E := .mod e58 (.lit 65536)
def e65 : E := .eq e63 e64
def e66 : E := .not e65
def e67 : E := .or e57 e66
def e68 : E := .div e48 (.lit 1073741824)
def e69 : E := .mod e68 (.lit 2)
def e70 : E := .eq e69 (.lit 0)
def e71 : E := .ite e70 (.lit 0) (.lit 2)
def e72 : E := .ite e70 (.lit 0) (.lit 1)
def e73 : E := .add e71 e72
def e74 : E := .eq e64 (.lit 0)
def e75 : E := .ite e74 (.lit 8) (.lit 0)
def e76 : E := .add e73 e75
def e77 : E := .div e48 (.lit 16384)
def e78 : E := .mod e77 (.lit 2)
def e79 : E := .eq e78 (.lit 0)
def e80 : E := .ite e79 (.lit 0) (.lit 2)
def e81 : E := .ite e79 (.lit 0) (.lit 1)
def e82 : E := .add e80 e81
def e83 : E := .eq e51 (.lit 0)
def e84 : E := .ite e83 (.lit 8) (.lit 0)
def e85 : E := .add e82 e84
def e86 : E := .lt (.v 1) (.v 0)
def e87 : E := .le (.v 1) (.lit 49)
def e88 : E := .and e86 e87
def e89 : E := .sel (.av 0) (.v 1)
def e90 : E := .mod e89 (.lit 65536)
def e91 : E := .wrap .i16 e90
def e92 : E := .div e89 (.lit 65536)
def e93 : E := .wrap .i16 e92
def e94 : E := .mul e91 e93
def e95 : E := .mod e94 (.lit 128)
def e96 : E := .mul e95 (.lit 2)
def e97 : E := .mod e94 (.lit 32768)
def e98 : E := .div e97 (.lit 128)
def e99 : E := .mul e98 (.lit 256)
def e100 : E := .add e96 e99
def e101 : E := .mul e97 (.lit 2)
def e102 : E := .eq e100 e101
def e103 : E := .not e102
def e104 : E := .div e94 (.lit 32768)
def e105 : E := .mod e104 (.lit 256)
def e106 : E := .div e94 (.lit 8388608)
def e107 : E := .mod e106 (.lit 256)
def e108 : E := .mul e107 (.lit 256)
def e109 : E := .add e105 e108
def e110 : E := .mod e104 (.lit 65536)
def e111 : E := .eq e109 e110
def e112 : E := .not e111
def e113 : E := .or e103 e112
def e114 : E := .div (.v 9) (.lit 32)
def e115 : E := .mod e114 (.lit 2)
def e116 : E := .mul e115 (.lit 32)
def e117 : E := .div (.v 9) (.lit 2)
def e118 : E := .mod e117 (.lit 2)
def e119 : E := .mul e118 (.lit 2)
def e120 : E := .add e116 e119
def e121 : E := .le e120 (.lit 31)
def e122 : E := .div e94 (.lit 1073741824)
def e123 : E := .mod e122 (.lit 2)
def e124 : E := .eq e123 (.lit 0)
def e125 : E := .ite e124 (.lit 0) (.lit 2)
def e126 : E := .add e116 e125
def e127 : E := .ite e121 e126 e120
def e128 : E := .div e127 (.lit 2)
def e129 : E := .mul e128 (.lit 2)
def e130 : E := .ite e124 (.lit 0) (.lit 1)
def e131 : E := .add e129 e130
def e132 : E := .div e131 (.lit 16)
def e133 : E := .mul e132 (.lit 16)
def e134 : E := .mod e131 (.lit 8)
def e135 : E := .add e133 e134
def e136 : E := .eq e110 (.lit 0)
def e137 : E := .ite e136 (.lit 8) (.lit 0)
def e138 : E := .add e135 e137
def e139 : E := .div e138 (.lit 8)
def e140 : E := .mul e139 (.lit 8)
def e141 : E := .add e131 e137
def e142 : E := .mod e141 (.lit 4)
def e143 : E := .add e140 e142
def e144 : E := .div e143 (.lit 64)
def e145 : E := .mul e144 (.lit 64)
def e146 : E := .mod e143 (.lit 16)
def e147 : E := .add e145 e146
def e148 : E := .div (.v 10) (.lit 32)
def e149 : E := .mod e148 (.lit 2)
def e150 : E := .mul e149 (.lit 32)
def e151 : E := .div (.v 10) (.lit 2)
def e152 : E := .mod e151 (.lit 2)
def e153 : E := .mul e152 (.lit 2)
def e154 : E := .add e150 e153
def e155 : E := .le e154 (.lit 31)
def e156 : E := .div e94 (.lit 16384)
def e157 : E := .mod e156 (.lit 2)
def e158 : E := .eq e157 (.lit 0)
def e159 : E := .ite e158 (.lit 0) (.lit 2)
def e160 : E := .add e150 e159
def e161 : E := .ite e155 e160 e154
def e162 : E := .div e161 (.lit 2)
def e163 : E := .mul e162 (.lit 2)
def e164 : E := .ite e158 (.lit 0) (.lit 1)
def e165 : E := .add e163 e164
def e166 : E := .div e165 (.lit 16)
def e167 : E := .mul e166 (.lit 16)
def e168 : E := .mod e165 (.lit 8)
def e169 : E := .add e167 e168
def e170 : E := .eq e97 (.lit 0)
def e171 : E := .ite e170 (.lit 8) (.lit 0)
def e172 : E := .add e169 e171
def e173 : E := .div e172 (.lit 8)
def e174 : E := .mul e173 (.lit 8)
def e175 : E := .add e165 e171
def e176 : E := .mod e175 (.lit 4)
def e177 : E := .add e174 e176
def e178 : E := .div e177 (.lit 64)
def e179 : E := .mul e178 (.lit 64)
def e180 : E := .mod e177 (.lit 16)
def e181 : E := .add e179 e180
def e182 : E := .add (.v 1) (.lit 1)
noncomputable def eT0 : List Item := todoS Try.prog G Gh [] 3000 1 4 eHy eLs [] 7
noncomputable def eh0 : Head := ⟨7, eT0, ⟨[((.v 0), (0, 9223372036854775807)), ((.v 1), (0, 50)), ((.v 2), (0, 65535)), ((.v 3), (0, 65535)), ((.v 4), (0, 65535)), ((.v 5), (0, 65535)), ((.v 6), (0, 65535)), ((.v 7), (0, 65535)), ((.v 8), (0, 65535)), ((.v 9), (0, 255)), ((.v 10), (0, 255))], [(0, (0, 4294967295))], [], [], [], [(0, ⟨(.v 0), [(some .u32, (.av 0))]⟩)]⟩, [⟨7, [], .s (.int .i64 (.v 1))⟩, ⟨4, [], .s (.ptr 4 (.lit 0))⟩, ⟨0, [], .s (.xslc 0 (.lit 0) (.lit 0) (.v 0))⟩], [⟨23, [.run .u32 (.lit 14) (.tab [6, 9945092, 138, 9945100, 157, 12582913, 2162688, 22, 9945120, 12582914, 3244032, 38, 9945136, 10485760]) 0], true, none, false⟩, ⟨32, [.one (.slc 0 (.lit 0) (.lit 14) (.kn (.lit 14))), .one (.nilSlc), .one (.int .u8 (.lit 0))], true, none, false⟩, ⟨5, [.run .u8 (.lit 8192) e41 0], true, none, false⟩, ⟨5, [.run .u8 (.lit 8192) e41 0], true, some 1, false⟩, ⟨81, [.one (.int .u16 (.lit 12)), .one (.int .u16 (.v 2)), .one (.int .u16 (.v 3)), .one (.int .u16 (.lit 0)), .one (.int .u16 (.lit 0)), .one (.int .u16 (.lit 0)), .one (.int .u16 (.lit 0)), .one (.int .u16 (.v 4)), .one (.int .u16 (.v 5)), .one (.int .u16 (.v 6)), .one (.int .u16 (.v 7)), .one (.int .u16 (.v 8)), .one (.int .u16 (.lit 0)), .one (.int .u8 (.v 9)), .one (.int .u8 (.v 10)), .one (.int .u8 (.lit 0)), .run .u16 (.lit 4) (.tab []) 0, .run .u16 (.lit 256) (.tab []) 0, .one (.slc 3 (.lit 0) (.lit 8192) (.op (.lit 0)))], true, none, false⟩, ⟨75, [.one (.int .u16 (.lit 0)), .one (.int .u16 (.lit 0)), .one (.int .u16 (.lit 0)), .one (.int .u16 (.lit 0)), .one (.int .u16 (.lit 0)), .one (.int .u16 (.lit 0)), .one (.int .u16 (.lit 0)), .one (.int .u16 (.lit 0)), .one (.int .u16 (.lit 0)), .one (.int .u16 (.lit 0)), .one (.int .u16 (.lit 0)), .one (.int .u16 (.lit 0)), .one (.int .u16 (.lit 0)), .one (.int .u8 (.lit 0)), .one (.int .u8 (.lit 0)), .one (.int .i64 (.lit 0)), .run .i64 (.lit 4) (.tab []) 0, .run .i64 (.lit 256) (.tab []) 0, .one (.slc 2 (.lit 0) (.lit 8192) (.kn (.lit 8192)))], true, none, false⟩]⟩
noncomputable def ehs : List Head := [eh0]
def eD : Dim := ⟨11, 0, 1, 1, 0, 1, 0⟩
theorem est : startL Try.prog G Gh eD ehs [] 3000 1 4 eHy eLs [] = some (.ite e42 (.ite e67 (.ret (.s (.bool (.blit false))) [⟨23, [.run .u32 (.lit 14) (.tab [6, 9945092, 138, 9945100, 157, 12582913, 2162688, 22, 9945120, 12582914, 3244032, 38, 9945136, 10485760]) 0], true, none, false⟩, ⟨32, [.one (.slc 0 (.lit 0) (.lit 14) (.kn (.lit 14))), .one (.nilSlc), .one (.int .u8 (.lit 0))], true, none, false⟩, ⟨5, [.run .u8 (.lit 8192) e41 0], true, none, false⟩, ⟨5, [.run .u8 (.lit 8192) e41 0], true, some 1, false⟩, ⟨81, [.one (.int .u16 (.lit 12)), .one (.int .u16 e64), .one (.int .u16 e55), .one (.int .u16 (.lit 0)), .one (.int .u16 (.lit 0)), .one (.int .u16 (.lit 0)), .one (.int .u16 (.lit 0)), .one (.int .u16 e44), .one (.int .u16 e46), .one (.int .u16 e64), .one (.int .u16 e55), .one (.int .u16 e55), .one (.int .u16 (.lit 0)), .one (.int .u8 e76), .one (.int .u8 e85), .one (.int .u8 (.lit 0)), .run .u16 (.lit 4) (.tab []) 0, .run .u16 (.lit 256) (.tab []) 0, .one (.slc 3 (.lit 0) (.lit 8192) (.op (.lit 0)))], true, none, false⟩, ⟨75, [.one (.int .u16 (.lit 0)), .one (.int .u16 (.lit 0)), .one (.int .u16 (.lit 0)), .one (.int .u16 (.lit 0)), .one (.int .u16 (.lit 0)), .one (.int .u16 (.lit 0)), .one (.int .u16 (.lit 0)), .one (.int .u16 (.lit 0)), .one (.int .u16 (.lit 0)), .one (.int .u16 (.lit 0)), .one (.int .u16 (.lit 0)), .one (.int .u16 (.lit 0)), .one (.int .u16 (.lit 0)), .one (.int .u8 (.lit 0)), .one (.int .u8 (.lit 0)), .one (.int .i64 (.lit 0)), .run .i64 (.lit 4) (.tab []) 0, .run .i64 (.lit 256) (.tab []) 0, .one (.slc 2 (.lit 0) (.lit 8192) (.kn (.lit 8192)))], true, none, false⟩]) (.jump 0 eT0 ⟨[(10, e85), (9, e76), (8, e55), (7, e55), (6, e64), (5, e46), (4, e44), (3, e55), (2, e64), (1, (.lit 1))], [], []⟩)) (.ret (.s (.bool (.blit true))) [⟨23, [.run .u32 (.lit 14) (.tab [6, 9945092, 138, 9945100, 157, 12582913, 2162688, 22, 9945120, 12582914, 3244032, 38, 9945136, 10485760]) 0], true, none, false⟩, ⟨32, [.one (.slc 0 (.lit 0) (.lit 14) (.kn (.lit 14))), .one (.nilSlc), .one (.int .u8 (.lit 0))], true, none, false⟩, ⟨5, [.run .u8 (.lit 8192) e41 0], true, none, false⟩, ⟨5, [.run .u8 (.lit 8192) e41 0], true, some 1, false⟩, ⟨81, [.one (.int .u16 (.lit 0)), .one (.int .u16 (.lit 0)), .one (.int .u16 (.lit 0)), .one (.int .u16 (.lit 0)), .one (.int .u16 (.lit 0)), .one (.int .u16 (.lit 0)), .one (.int .u16 (.lit 0)), .one (.int .u16 (.lit 0)), .one (.int .u16 (.lit 0)), .one (.int .u16 (.lit 0)), .one (.int .u16 (.lit 0)), .one (.int .u16 (.lit 0)), .one (.int .u16 (.lit 0)), .one (.int .u8 (.lit 0)), .one (.int .u8 (.lit 0)), .one (.int .u8 (.lit 0)), .run .u16 (.lit 4) (.tab []) 0, .run .u16 (.lit 256) (.tab []) 0, .one (.slc 3 (.lit 0) (.lit 8192) (.op (.lit 0)))], true, none, false⟩, ⟨75, [.one (.int .u16 (.lit 0)), .one (.int .u16 (.lit 0)), .one (.int .u16 (.lit 0)), .one (.int .u16 (.lit 0)), .one (.int .u16 (.lit 0)), .one (.int .u16 (.lit 0)), .one (.int .u16 (.lit 0)), .one (.int .u16 (.lit 0)), .one (.int .u16 (.lit 0)), .one (.int .u16 (.lit 0)), .one (.int .u16 (.lit 0)), .one (.int .u16 (.lit 0)), .one (.int .u16 (.lit 0)), .one (.int .u8 (.lit 0)), .one (.int .u8 (.lit 0)), .one (.int .i64 (.lit 0)), .run .i64 (.lit 4) (.tab []) 0, .run .i64 (.lit 256) (.tab []) 0, .one (.slc 2 (.lit 0) (.lit 8192) (.kn (.lit 8192)))], true, none, false⟩])) := by kernel_rfl
theorem esg0 : (segL Try.prog G Gh eD ehs [] 3000 0 4 eh0).map LT.bare = some (.ite e88 (.need e86 (.need e86 (.need e86 (.need e86 (.need e86 (.need e86 (.ite e113 (.ret (.s (.bool (.blit false))) []) (.jump 0 eT0 ⟨[(10, e181), (9, e147), (8, e101), (7, e101), (6, e110), (5, e92), (4, e90), (3, e101), (2, e110), (1, e182)], [], []⟩)))))))) (.ret (.s (.bool (.blit true))) [])) := by kernel_rfl
theorem ehT0 : (ehs[0]?.map (·.todo)) = some eT0 := by kernel_rfl
def eBase (x0 : Ext) (nx0 : Int) (Ax0 : Nat → Int) : Prop := (0 ≤ nx0 ∧ nx0 ≤ 9223372036854775807) ∧ (∀ j, 0 ≤ Ax0 j ∧ Ax0 j ≤ 4294967295) ∧ nx0 = (x0.n : Int) ∧ Ax0 = xArr x0 1 0 ∧ True
def eJ0 (nx0 y1 y2 y3 y4 y5 y6 y7 y8 y9 y10 : Int) (Ax0 : Nat → Int) : Prop := (0 ≤ y1 ∧ y1 ≤ 50) ∧ (0 ≤ y2 ∧ y2 ≤ 65535) ∧ (0 ≤ y3 ∧ y3 ≤ 65535) ∧ (0 ≤ y4 ∧ y4 ≤ 65535) ∧ (0 ≤ y5 ∧ y5 ≤ 65535) ∧ (0 ≤ y6 ∧ y6 ≤ 65535) ∧ (0 ≤ y7 ∧ y7 ≤ 65535) ∧ (0 ≤ y8 ∧ y8 ≤ 65535) ∧ (0 ≤ y9 ∧ y9 ≤ 255) ∧ (0 ≤ y10 ∧ y10 ≤ 255) ∧ True
def eInv (x0 : Ext) : Nat → Env → Prop
  | 0, ρ => ∃ (nx0 y1 y2 y3 y4 y5 y6 y7 y8 y9 y10 : Int) (Ax0 : Nat → Int), ρ = (⟨[nx0, y1, y2, y3, y4, y5, y6, y7, y8, y9, y10], [], [Ax0], [], Iv (fun i j => match i, j with | 0, 0 => x0 | _, _ => Ext.none)⟩ : Env) ∧ eBase x0 nx0 Ax0 ∧ eJ0 nx0 y1 y2 y3 y4 y5 y6 y7 y8 y9 y10 Ax0
  | _, _ => False
def emu : Nat → Env → Nat := fun j ρ => (100 - ρ.i.getD 1 0).toNat
set_option maxHeartbeats 20000000 in
theorem evc0 (x0 : Ext) (nx0 y1 y2 y3 y4 y5 y6 y7 y8 y9 y10 : Int) (Ax0 : Nat → Int) (hB : eBase x0 nx0 Ax0) (hJ : eJ0 nx0 y1 y2 y3 y4 y5 y6 y7 y8 y9 y10 Ax0) (hH : Hyp.ok eh0.H (⟨[nx0, y1, y2, y3, y4, y5, y6, y7, y8, y9, y10], [], [Ax0], [], Iv (fun i j => match i, j with | 0, 0 => x0 | _, _ => Ext.none)⟩ : Env)) :
    LT.holds (⟨[nx0, y1, y2, y3, y4, y5, y6, y7, y8, y9, y10], [], [Ax0], [], Iv (fun i j => match i, j with | 0, 0 => x0 | _, _ => Ext.none)⟩ : Env) (fun v _ => retTrue (⟨[nx0, y1, y2, y3, y4, y5, y6, y7, y8, y9, y10], [], [Ax0], [], Iv (fun i j => match i, j with | 0, 0 => x0 | _, _ => Ext.none)⟩ : Env) v) (fun j' todo ρ' => (ehs[j']?.map (·.todo)) = some todo ∧ eInv x0 j' ρ' ∧ emu j' ρ' < emu 0 (⟨[nx0, y1, y2, y3, y4, y5, y6, y7, y8, y9, y10], [], [Ax0], [], Iv (fun i j => match i, j with | 0, 0 => x0 | _, _ => Ext.none)⟩ : Env)) (.ite e88 (.need e86 (.need e86 (.need e86 (.need e86 (.need e86 (.need e86 (.ite e113 (.ret (.s (.bool (.blit false))) []) (.jump 0 eT0 ⟨[(10, e181), (9, e147), (8, e101), (7, e101), (6, e110), (5, e92), (4, e90), (3, e101), (2, e110), (1, e182)], [], []⟩)))))))) (.ret (.s (.bool (.blit true))) [])) := by
  simp only [LT.holds, retTrue]
  refine ⟨fun hc0 => ?_, fun hc0 => ?_⟩
  ·
    refine ⟨?_, fun hc1 => ?_⟩
    ·
      simp only [eBase] at hB
      obtain ⟨b0, b1, bn, _, _⟩ := hB
      simp only [eJ0] at hJ
      obtain ⟨l1, l2, l3, l4, l5, l6, l7, l8, l9, l10, _⟩ := hJ
      simp only [e0, e1, e2, e3, e4, e5, e6, e7, e8, e9, e10, e11, e12, e13, e14, e15, e16, e17, e18, e19, e20, e21, e22, e23, e24, e25, e26, e27, e28, e29, e30, e31, e32, e33, e34, e35, e36, e37, e38, e39, e40, e41, e42, e43, e44, e45, e46, e47, e48, e49, e50, e51, e52, e53, e54, e55, e56, e57, e58, e59, e60, e61, e62, e63, e64, e65, e66, e67, e68, e69, e70, e71, e72, e73, e74, e75, e76, e77, e78, e79, e80, e81, e82, e83, e84, e85, e86, e87, e88, e89, e90, e91, e92, e93, e94, e95, e96, e97, e98, e99, e100, e101, e102, e103, e104, e105, e106, e107, e108, e109, e110, e111, e112, e113, e114, e115, e116, e117, e118, e119, e120, e121, e122, e123, e124, e125, e126, e127, e128, e129, e130, e131, e132, e133, e134, e135, e136, e137, e138, e139, e140, e141, e142, e143, e144, e145, e146, e147, e148, e149, e150, e151, e152, e153, e154, e155, e156, e157, e158, e159, e160, e161, e162, e163, e164, e165, e166, e167, e168, e169, e170, e171, e172, e173, e174, e175, e176, e177, e178, e179, e180, e181, e182, i_v, b_bv, i_lit, b_blit, i_add, i_sub, i_mul, i_div, i_mod, i_tdiv, i_tmod, i_ite, b_ite, b_lt, b_le, b_eq, b_not, b_and, b_or, b_iff, i_sel, a_tab, i_pow2, List.getD_cons_zero, List.getD_cons_succ, decide_eq_true_eq, decide_eq_false_iff_not, Bool.and_eq_true, Bool.or_eq_true, Bool.not_eq_true', Bool.not_eq_false', Bool.and_eq_false_iff, Bool.or_eq_false_iff, Bool.not_not, ite_tt, ite_ff, iff_tt, iff_ff, a_av, a_ite, a_upd] at hc0 ⊢
      omega
    ·
      refine ⟨?_, fun hc2 => ?_⟩
      ·
        simp only [eBase] at hB
        obtain ⟨b0, b1, bn, _, _⟩ := hB
        simp only [eJ0] at hJ
        obtain ⟨l1, l2, l3, l4, l5, l6, l7, l8, l9, l10, _⟩ := hJ
        simp only [e0, e1, e2, e3, e4, e5, e6, e7, e8, e9, e10, e11, e12, e13, e14, e15, e16, e17, e18, e19, e20, e21, e22, e23, e24, e25, e26, e27, e28, e29, e30, e31, e32, e33, e34, e35, e36, e37, e38, e39, e40, e41, e42, e43, e44, e45, e46, e47, e48, e49, e50, e51, e52, e53, e54, e55, e56, e57, e58, e59, e60, e61, e62, e63, e64, e65, e66, e67, e68, e69, e70, e71, e72, e73, e74, e75, e76, e77, e78, e79, e80, e81, e82, e83, e84, e85, e86, e87, e88, e89, e90, e91, e92, e93, e94, e95, e96, e97, e98, e99, e100, e101, e102, e103, e104, e105, e106, e107, e108, e109, e110, e111, e112, e113, e114, e115, e116, e117, e118, e119, e120, e121, e122, e123, e124, e125, e126, e127, e128, e129, e130, e131, e132, e133, e134, e135, e136, e137, e138, e139, e140, e141, e142, e143, e144, e145, e146, e147, e148, e149, e150, e151, e152, e153, e154, e155, e156, e157, e158, e159, e160, e161, e162, e163, e164, e165, e166, e167, e168, e169, e170, e171, e172, e173, e174, e175, e176, e177, e178, e179, e180, e181, e182, i_v, b_bv, i_lit, b_blit, i_add, i_sub, i_mul, i_div, i_mod, i_tdiv, i_tmod, i_ite, b_ite, b_lt, b_le, b_eq, b_not, b_and, b_or, b_iff, i_sel, a_tab, i_pow2, List.getD_cons_zero, List.getD_cons_succ, decide_eq_true_eq, decide_eq_false_iff_not, Bool.and_eq_true, Bool.or_eq_true, Bool.not_eq_true', Bool.not_eq_false', Bool.and_eq_false_iff, Bool.or_eq_false_iff, Bool.not_not, ite_tt, ite_ff, iff_tt, iff_ff, a_av, a_ite, a_upd] at hc0 ⊢
        omega
      ·
        refine ⟨?_, fun hc3 => ?_⟩
        ·
          simp only [eBase] at hB
          obtain ⟨b0, b1, bn, _, _⟩ := hB
          simp only [eJ0] at hJ
          obtain ⟨l1, l2, l3, l4, l5, l6, l7, l8, l9, l10, _⟩ := hJ
          simp only [e0, e1, e2, e3, e4, e5, e6, e7, e8, e9, e10, e11, e12, e13, e14, e15, e16, e17, e18, e19, e20, e21, e22, e23, e24, e25, e26, e27, e28, e29, e30, e31, e32, e33, e34, e35, e36, e37, e38, e39, e40, e41, e42, e43, e44, e45, e46, e47, e48, e49, e50, e51, e52, e53, e54, e55, e56, e57, e58, e59, e60, e61, e62, e63, e64, e65, e66, e67, e68, e69, e70, e71, e72, e73, e74, e75, e76, e77, e78, e79, e80, e81, e82, e83, e84, e85, e86, e87, e88, e89, e90, e91, e92, e93, e94, e95, e96, e97, e98, e99, e100, e101, e102, e103, e104, e105, e106, e107, e108, e109, e110, e111, e112, e113, e114, e115, e116, e117, e118, e119, e120, e121, e122, e123, e124, e125, e126, e127, e128, e129, e130, e131, e132, e133, e134, e135, e136, e137, e138, e139, e140, e141, e142, e143, e144, e145, e146, e147, e148, e149, e150, e151, e152, e153, e154, e155, e156, e157, e158, e159, e160, e161, e162, e163, e164, e165, e166, e167, e168, e169, e170, e171, e172, e173, e174, e175, e176, e177, e178, e179, e180, e181, e182, i_v, b_bv, i_lit, b_blit, i_add, i_sub, i_mul, i_div, i_mod, i_tdiv, i_tmod, i_ite, b_ite, b_lt, b_le, b_eq, b_not, b_and, b_or, b_iff, i_sel, a_tab, i_pow2, List.getD_cons_zero, List.getD_cons_succ, decide_eq_true_eq, decide_eq_false_iff_not, Bool.and_eq_true, Bool.or_eq_true, Bool.not_eq_true', Bool.not_eq_false', Bool.and_eq_false_iff, Bool.or_eq_false_iff, Bool.not_not, ite_tt, ite_ff, iff_tt, iff_ff, a_av, a_ite, a_upd] at hc0 ⊢
          omega
        ·
          refine ⟨?_, fun hc4 => ?_⟩
          ·
            simp only [eBase] at hB
            obtain ⟨b0, b1, bn, _, _⟩ := hB
            simp only [eJ0] at hJ
            obtain ⟨l1, l2, l3, l4, l5, l6, l7, l8, l9, l10, _⟩ := hJ
            simp only [e0, e1, e2, e3, e4, e5, e6, e7, e8, e9, e10, e11, e12, e13, e14, e15, e16, e17, e18, e19, e20, e21, e22, e23, e24, e25, e26, e27, e28, e29, e30, e31, e32, e33, e34, e35, e36, e37, e38, e39, e40, e41, e42, e43, e44, e45, e46, e47, e48, e49, e50, e51, e52, e53, e54, e55, e56, e57, e58, e59, e60, e61, e62, e63, e64, e65, e66, e67, e68, e69, e70, e71, e72, e73, e74, e75, e76, e77, e78, e79, e80, e81, e82, e83, e84, e85, e86, e87, e88, e89, e90, e91, e92, e93, e94, e95, e96, e97, e98, e99, e100, e101, e102, e103, e104, e105, e106, e107, e108, e109, e110, e111, e112, e113, e114, e115, e116, e117, e118, e119, e120, e121, e122, e123, e124, e125, e126, e127, e128, e129, e130, e131, e132, e133, e134, e135, e136, e137, e138, e139, e140, e141, e142, e143, e144, e145, e146, e147, e148, e149, e150, e151, e152, e153, e154, e155, e156, e157, e158, e159, e160, e161, e162, e163, e164, e165, e166, e167, e168, e169, e170, e171, e172, e173, e174, e175, e176, e177, e178, e179, e180, e181, e182, i_v, b_bv, i_lit, b_blit, i_add, i_sub, i_mul, i_div, i_mod, i_tdiv, i_tmod, i_ite, b_ite, b_lt, b_le, b_eq, b_not, b_and, b_or, b_iff, i_sel, a_tab, i_pow2, List.getD_cons_zero, List.getD_cons_succ, decide_eq_true_eq, decide_eq_false_iff_not, Bool.and_eq_true, Bool.or_eq_true, Bool.not_eq_true', Bool.not_eq_false', Bool.and_eq_false_iff, Bool.or_eq_false_iff, Bool.not_not, ite_tt, ite_ff, iff_tt, iff_ff, a_av, a_ite, a_upd] at hc0 ⊢
            omega
          ·
            refine ⟨?_, fun hc5 => ?_⟩
            ·
              simp only [eBase] at hB
              obtain ⟨b0, b1, bn, _, _⟩ := hB
              simp only [eJ0] at hJ
              obtain ⟨l1, l2, l3, l4, l5, l6, l7, l8, l9, l10, _⟩ := hJ
              simp only [e0, e1, e2, e3, e4, e5, e6, e7, e8, e9, e10, e11, e12, e13, e14, e15, e16, e17, e18, e19, e20, e21, e22, e23, e24, e25, e26, e27, e28, e29, e30, e31, e32, e33, e34, e35, e36, e37, e38, e39, e40, e41, e42, e43, e44, e45, e46, e47, e48, e49, e50, e51, e52, e53, e54, e55, e56, e57, e58, e59, e60, e61, e62, e63, e64, e65, e66, e67, e68, e69, e70, e71, e72, e73, e74, e75, e76, e77, e78, e79, e80, e81, e82, e83, e84, e85, e86, e87, e88, e89, e90, e91, e92, e93, e94, e95, e96, e97, e98, e99, e100, e101, e102, e103, e104, e105, e106, e107, e108, e109, e110, e111, e112, e113, e114, e115, e116, e117, e118, e119, e120, e121, e122, e123, e124, e125, e126, e127, e128, e129, e130, e131, e132, e133, e134, e135, e136, e137, e138, e139, e140, e141, e142, e143, e144, e145, e146, e147, e148, e149, e150, e151, e152, e153, e154, e155, e156, e157, e158, e159, e160, e161, e162, e163, e164, e165, e166, e167, e168, e169, e170, e171, e172, e173, e174, e175, e176, e177, e178, e179, e180, e181, e182, i_v, b_bv, i_lit, b_blit, i_add, i_sub, i_mul, i_div, i_mod, i_tdiv, i_tmod, i_ite, b_ite, b_lt, b_le, b_eq, b_not, b_and, b_or, b_iff, i_sel, a_tab, i_pow2, List.getD_cons_zero, List.getD_cons_succ, decide_eq_true_eq, decide_eq_false_iff_not, Bool.and_eq_true, Bool.or_eq_true, Bool.not_eq_true', Bool.not_eq_false', Bool.and_eq_false_iff, Bool.or_eq_false_iff, Bool.not_not, ite_tt, ite_ff, iff_tt, iff_ff, a_av, a_ite, a_upd] at hc0 ⊢
              omega
            ·
              refine ⟨?_, fun hc6 => ?_⟩
              ·
                simp only [eBase] at hB
                obtain ⟨b0, b1, bn, _, _⟩ := hB
                simp only [eJ0] at hJ
                obtain ⟨l1, l2, l3, l4, l5, l6, l7, l8, l9, l10, _⟩ := hJ
                simp only [e0, e1, e2, e3, e4, e5, e6, e7, e8, e9, e10, e11, e12, e13, e14, e15, e16, e17, e18, e19, e20, e21, e22, e23, e24, e25, e26, e27, e28, e29, e30, e31, e32, e33, e34, e35, e36, e37, e38, e39, e40, e41, e42, e43, e44, e45, e46, e47, e48, e49, e50, e51, e52, e53, e54, e55, e56, e57, e58, e59, e60, e61, e62, e63, e64, e65, e66, e67, e68, e69, e70, e71, e72, e73, e74, e75, e76, e77, e78, e79, e80, e81, e82, e83, e84, e85, e86, e87, e88, e89, e90, e91, e92, e93, e94, e95, e96, e97, e98, e99, e100, e101, e102, e103, e104, e105, e106, e107, e108, e109, e110, e111, e112, e113, e114, e115, e116, e117, e118, e119, e120, e121, e122, e123, e124, e125, e126, e127, e128, e129, e130, e131, e132, e133, e134, e135, e136, e137, e138, e139, e140, e141, e142, e143, e144, e145, e146, e147, e148, e149, e150, e151, e152, e153, e154, e155, e156, e157, e158, e159, e160, e161, e162, e163, e164, e165, e166, e167, e168, e169, e170, e171, e172, e173, e174, e175, e176, e177, e178, e179, e180, e181, e182, i_v, b_bv, i_lit, b_blit, i_add, i_sub, i_mul, i_div, i_mod, i_tdiv, i_tmod, i_ite, b_ite, b_lt, b_le, b_eq, b_not, b_and, b_or, b_iff, i_sel, a_tab, i_pow2, List.getD_cons_zero, List.getD_cons_succ, decide_eq_true_eq, decide_eq_false_iff_not, Bool.and_eq_true, Bool.or_eq_true, Bool.not_eq_true', Bool.not_eq_false', Bool.and_eq_false_iff, Bool.or_eq_false_iff, Bool.not_not, ite_tt, ite_ff, iff_tt, iff_ff, a_av, a_ite, a_upd] at hc0 ⊢
                omega
              ·
                refine ⟨fun hc7 => ?_, fun hc7 => ?_⟩
                ·
                  first
                    | rfl
                    | (exfalso
                       simp only [e0, e1, e2, e3, e4, e5, e6, e7, e8, e9, e10, e11, e12, e13, e14, e15, e16, e17, e18, e19, e20, e21, e22, e23, e24, e25, e26, e27, e28, e29, e30, e31, e32, e33, e34, e35, e36, e37, e38, e39, e40, e41, e42, e43, e44, e45, e46, e47, e48, e49, e50, e51, e52, e53, e54, e55, e56, e57, e58, e59, e60, e61, e62, e63, e64, e65, e66, e67, e68, e69, e70, e71, e72, e73, e74, e75, e76, e77, e78, e79, e80, e81, e82, e83, e84, e85, e86, e87, e88, e89, e90, e91, e92, e93, e94, e95, e96, e97, e98, e99, e100, e101, e102, e103, e104, e105, e106, e107, e108, e109, e110, e111, e112, e113, e114, e115, e116, e117, e118, e119, e120, e121, e122, e123, e124, e125, e126, e127, e128, e129, e130, e131, e132, e133, e134, e135, e136, e137, e138, e139, e140, e141, e142, e143, e144, e145, e146, e147, e148, e149, e150, e151, e152, e153, e154, e155, e156, e157, e158, e159, e160, e161, e162, e163, e164, e165, e166, e167, e168, e169, e170, e171, e172, e173, e174, e175, e176, e177, e178, e179, e180, e181, e182, i_v, b_bv, i_lit, b_blit, i_add, i_sub, i_mul, i_div, i_mod, i_tdiv, i_tmod, i_ite, b_ite, b_lt, b_le, b_eq, b_not, b_and, b_or, b_iff, i_sel, a_tab, i_pow2, List.getD_cons_zero, List.getD_cons_succ, decide_eq_true_eq, decide_eq_false_iff_not, Bool.and_eq_true, Bool.or_eq_true, Bool.not_eq_true', Bool.not_eq_false', Bool.and_eq_false_iff, Bool.or_eq_false_iff, Bool.not_not, ite_tt, ite_ff, iff_tt, iff_ff, a_av, a_ite, a_upd] at hc7
                       rcases hc7 with h | h <;> replace h := of_decide_eq_false h <;> omega)
                ·
                  refine ⟨ehT0, ⟨nx0, (_root_.Go.Sx.E.i (⟨[nx0, y1, y2, y3, y4, y5, y6, y7, y8, y9, y10], [], [Ax0], [], Iv (fun i j => match i, j with | 0, 0 => x0 | _, _ => Ext.none)⟩ : Env) e182), (_root_.Go.Sx.E.i (⟨[nx0, y1, y2, y3, y4, y5, y6, y7, y8, y9, y10], [], [Ax0], [], Iv (fun i j => match i, j with | 0, 0 => x0 | _, _ => Ext.none)⟩ : Env) e110), (_root_.Go.Sx.E.i (⟨[nx0, y1, y2, y3, y4, y5, y6, y7, y8, y9, y10], [], [Ax0], [], Iv (fun i j => match i, j with | 0, 0 => x0 | _, _ => Ext.none)⟩ : Env) e101), (_root_.Go.Sx.E.i (⟨[nx0, y1, y2, y3, y4, y5, y6, y7, y8, y9, y10], [], [Ax0], [], Iv (fun i j => match i, j with | 0, 0 => x0 | _, _ => Ext.none)⟩ : Env) e90), (_root_.Go.Sx.E.i (⟨[nx0, y1, y2, y3, y4, y5, y6, y7, y8, y9, y10], [], [Ax0], [], Iv (fun i j => match i, j with | 0, 0 => x0 | _, _ => Ext.none)⟩ : Env) e92), (_root_.Go.Sx.E.i (⟨[nx0, y1, y2, y3, y4, y5, y6, y7, y8, y9, y10], [], [Ax0], [], Iv (fun i j => match i, j with | 0, 0 => x0 | _, _ => Ext.none)⟩ : Env) e110), (_root_.Go.Sx.E.i (⟨[nx0, y1, y2, y3, y4, y5, y6, y7, y8, y9, y10], [], [Ax0], [], Iv (fun i j => match i, j with | 0, 0 => x0 | _, _ => Ext.none)⟩ : Env) e101), (_root_.Go.Sx.E.i (⟨[nx0, y1, y2, y3, y4, y5, y6, y7, y8, y9, y10], [], [Ax0], [], Iv (fun i j => match i, j with | 0, 0 => x0 | _, _ => Ext.none)⟩ : Env) e101), (_root_.Go.Sx.E.i (⟨[nx0, y1, y2, y3, y4, y5, y6, y7, y8, y9, y10], [], [Ax0], [], Iv (fun i j => match i, j with | 0, 0 => x0 | _, _ => Ext.none)⟩ : Env) e147), (_root_.Go.Sx.E.i (⟨[nx0, y1, y2, y3, y4, y5, y6, y7, y8, y9, y10], [], [Ax0], [], Iv (fun i j => match i, j with | 0, 0 => x0 | _, _ => Ext.none)⟩ : Env) e181), Ax0, (by kernel_rfl), hB, ?_⟩, ?_⟩
                  ·
                    simp only [eBase] at hB
                    obtain ⟨b0, b1, bn, _, _⟩ := hB
                    simp only [eJ0] at hJ
                    obtain ⟨l1, l2, l3, l4, l5, l6, l7, l8, l9, l10, _⟩ := hJ
                    simp only [e0, e1, e2, e3, e4, e5, e6, e7, e8, e9, e10, e11, e12, e13, e14, e15, e16, e17, e18, e19, e20, e21, e22, e23, e24, e25, e26, e27, e28, e29, e30, e31, e32, e33, e34, e35, e36, e37, e38, e39, e40, e41, e42, e43, e44, e45, e46, e47, e48, e49, e50, e51, e52, e53, e54, e55, e56, e57, e58, e59, e60, e61, e62, e63, e64, e65, e66, e67, e68, e69, e70, e71, e72, e73, e74, e75, e76, e77, e78, e79, e80, e81, e82, e83, e84, e85, e86, e87, e88, e89, e90, e91, e92, e93, e94, e95, e96, e97, e98, e99, e100, e101, e102, e103, e104, e105, e106, e107, e108, e109, e110, e111, e112, e113, e114, e115, e116, e117, e118, e119, e120, e121, e122, e123, e124, e125, e126, e127, e128, e129, e130, e131, e132, e133, e134, e135, e136, e137, e138, e139, e140, e141, e142, e143, e144, e145, e146, e147, e148, e149, e150, e151, e152, e153, e154, e155, e156, e157, e158, e159, e160, e161, e162, e163, e164, e165, e166, e167, e168, e169, e170, e171, e172, e173, e174, e175, e176, e177, e178, e179, e180, e181, e182, i_v, b_bv, i_lit, b_blit, i_add, i_sub, i_mul, i_div, i_mod, i_tdiv, i_tmod, i_ite, b_ite, b_lt, b_le, b_eq, b_not, b_and, b_or, b_iff, i_sel, a_tab, i_pow2, List.getD_cons_zero, List.getD_cons_succ, decide_eq_true_eq, decide_eq_false_iff_not, Bool.and_eq_true, Bool.or_eq_true, Bool.not_eq_true', Bool.not_eq_false', Bool.and_eq_false_iff, Bool.or_eq_false_iff, Bool.not_not, ite_tt, ite_ff, iff_tt, iff_ff, a_av, a_ite, a_upd] at hc0
                    unfold eJ0
                    refine ⟨?_, (rng_at hH (by kernel_rfl)), (rng_at hH (by kernel_rfl)), (rng_at hH (by kernel_rfl)), (rng_at hH (by kernel_rfl)), (rng_at hH (by kernel_rfl)), (rng_at hH (by kernel_rfl)), (rng_at hH (by kernel_rfl)), (rng_at hH (by kernel_rfl)), (rng_at hH (by kernel_rfl)), trivial⟩
                    simp only [e0, e1, e2, e3, e4, e5, e6, e7, e8, e9, e10, e11, e12, e13, e14, e15, e16, e17, e18, e19, e20, e21, e22, e23, e24, e25, e26, e27, e28, e29, e30, e31, e32, e33, e34, e35, e36, e37, e38, e39, e40, e41, e42, e43, e44, e45, e46, e47, e48, e49, e50, e51, e52, e53, e54, e55, e56, e57, e58, e59, e60, e61, e62, e63, e64, e65, e66, e67, e68, e69, e70, e71, e72, e73, e74, e75, e76, e77, e78, e79, e80, e81, e82, e83, e84, e85, e86, e87, e88, e89, e90, e91, e92, e93, e94, e95, e96, e97, e98, e99, e100, e101, e102, e103, e104, e105, e106, e107, e108, e109, e110, e111, e112, e113, e114, e115, e116, e117, e118, e119, e120, e121, e122, e123, e124, e125, e126, e127, e128, e129, e130, e131, e132, e133, e134, e135, e136, e137, e138, e139, e140, e141, e142, e143, e144, e145, e146, e147, e148, e149, e150, e151, e152, e153, e154, e155, e156, e157, e158, e159, e160, e161, e162, e163, e164, e165, e166, e167, e168, e169, e170, e171, e172, e173, e174, e175, e176, e177, e178, e179, e180, e181, e182, i_v, b_bv, i_lit, b_blit, i_add, i_sub, i_mul, i_div, i_mod, i_tdiv, i_tmod, i_ite, b_ite, b_lt, b_le, b_eq, b_not, b_and, b_or, b_iff, i_sel, a_tab, i_pow2, List.getD_cons_zero, List.getD_cons_succ, decide_eq_true_eq, decide_eq_false_iff_not, Bool.and_eq_true, Bool.or_eq_true, Bool.not_eq_true', Bool.not_eq_false', Bool.and_eq_false_iff, Bool.or_eq_false_iff, Bool.not_not, ite_tt, ite_ff, iff_tt, iff_ff, a_av, a_ite, a_upd]
                    omega
                  simp only [eBase] at hB
                  obtain ⟨b0, b1, bn, _, _⟩ := hB
                  simp only [eJ0] at hJ
                  obtain ⟨l1, l2, l3, l4, l5, l6, l7, l8, l9, l10, _⟩ := hJ
                  simp only [e0, e1, e2, e3, e4, e5, e6, e7, e8, e9, e10, e11, e12, e13, e14, e15, e16, e17, e18, e19, e20, e21, e22, e23, e24, e25, e26, e27, e28, e29, e30, e31, e32, e33, e34, e35, e36, e37, e38, e39, e40, e41, e42, e43, e44, e45, e46, e47, e48, e49, e50, e51, e52, e53, e54, e55, e56, e57, e58, e59, e60, e61, e62, e63, e64, e65, e66, e67, e68, e69, e70, e71, e72, e73, e74, e75, e76, e77, e78, e79, e80, e81, e82, e83, e84, e85, e86, e87, e88, e89, e90, e91, e92, e93, e94, e95, e96, e97, e98, e99, e100, e101, e102, e103, e104, e105, e106, e107, e108, e109, e110, e111, e112, e113, e114, e115, e116, e117, e118, e119, e120, e121, e122, e123, e124, e125, e126, e127, e128, e129, e130, e131, e132, e133, e134, e135, e136, e137, e138, e139, e140, e141, e142, e143, e144, e145, e146, e147, e148, e149, e150, e151, e152, e153, e154, e155, e156, e157, e158, e159, e160, e161, e162, e163, e164, e165, e166, e167, e168, e169, e170, e171, e172, e173, e174, e175, e176, e177, e178, e179, e180, e181, e182, i_v, b_bv, i_lit, b_blit, i_add, i_sub, i_mul, i_div, i_mod, i_tdiv, i_tmod, i_ite, b_ite, b_lt, b_le, b_eq, b_not, b_and, b_or, b_iff, i_sel, a_tab, i_pow2, List.getD_cons_zero, List.getD_cons_succ, decide_eq_true_eq, decide_eq_false_iff_not, Bool.and_eq_true, Bool.or_eq_true, Bool.not_eq_true', Bool.not_eq_false', Bool.and_eq_false_iff, Bool.or_eq_false_iff, Bool.not_not, ite_tt, ite_ff, iff_tt, iff_ff, a_av, a_ite, a_upd] at hc0
                  simp only [emu, Env.app, setAll, List.map_cons, List.map_nil, List.set, List.getD_cons_zero, List.getD_cons_succ, e0, e1, e2, e3, e4, e5, e6, e7, e8, e9, e10, e11, e12, e13, e14, e15, e16, e17, e18, e19, e20, e21, e22, e23, e24, e25, e26, e27, e28, e29, e30, e31, e32, e33, e34, e35, e36, e37, e38, e39, e40, e41, e42, e43, e44, e45, e46, e47, e48, e49, e50, e51, e52, e53, e54, e55, e56, e57, e58, e59, e60, e61, e62, e63, e64, e65, e66, e67, e68, e69, e70, e71, e72, e73, e74, e75, e76, e77, e78, e79, e80, e81, e82, e83, e84, e85, e86, e87, e88, e89, e90, e91, e92, e93, e94, e95, e96, e97, e98, e99, e100, e101, e102, e103, e104, e105, e106, e107, e108, e109, e110, e111, e112, e113, e114, e115, e116, e117, e118, e119, e120, e121, e122, e123, e124, e125, e126, e127, e128, e129, e130, e131, e132, e133, e134, e135, e136, e137, e138, e139, e140, e141, e142, e143, e144, e145, e146, e147, e148, e149, e150, e151, e152, e153, e154, e155, e156, e157, e158, e159, e160, e161, e162, e163, e164, e165, e166, e167, e168, e169, e170, e171, e172, e173, e174, e175, e176, e177, e178, e179, e180, e181, e182, i_v, b_bv, i_lit, b_blit, i_add, i_sub, i_mul, i_div, i_mod, i_tdiv, i_tmod, i_ite, b_ite, b_lt, b_le, b_eq, b_not, b_and, b_or, b_iff, i_sel, a_tab, i_pow2, List.getD_cons_zero, List.getD_cons_succ, decide_eq_true_eq, decide_eq_false_iff_not, Bool.and_eq_true, Bool.or_eq_true, Bool.not_eq_true', Bool.not_eq_false', Bool.and_eq_false_iff, Bool.or_eq_false_iff, Bool.not_not, ite_tt, ite_ff, iff_tt, iff_ff, a_av, a_ite, a_upd]
                  omega
  ·
    first
      | rfl
      | (exfalso
         simp only [e0, e1, e2, e3, e4, e5, e6, e7, e8, e9, e10, e11, e12, e13, e14, e15, e16, e17, e18, e19, e20, e21, e22, e23, e24, e25, e26, e27, e28, e29, e30, e31, e32, e33, e34, e35, e36, e37, e38, e39, e40, e41, e42, e43, e44, e45, e46, e47, e48, e49, e50, e51, e52, e53, e54, e55, e56, e57, e58, e59, e60, e61, e62, e63, e64, e65, e66, e67, e68, e69, e70, e71, e72, e73, e74, e75, e76, e77, e78, e79, e80, e81, e82, e83, e84, e85, e86, e87, e88, e89, e90, e91, e92, e93, e94, e95, e96, e97, e98, e99, e100, e101, e102, e103, e104, e105, e106, e107, e108, e109, e110, e111, e112, e113, e114, e115, e116, e117, e118, e119, e120, e121, e122, e123, e124, e125, e126, e127, e128, e129, e130, e131, e132, e133, e134, e135, e136, e137, e138, e139, e140, e141, e142, e143, e144, e145, e146, e147, e148, e149, e150, e151, e152, e153, e154, e155, e156, e157, e158, e159, e160, e161, e162, e163, e164, e165, e166, e167, e168, e169, e170, e171, e172, e173, e174, e175, e176, e177, e178, e179, e180, e181, e182, i_v, b_bv, i_lit, b_blit, i_add, i_sub, i_mul, i_div, i_mod, i_tdiv, i_tmod, i_ite, b_ite, b_lt, b_le, b_eq, b_not, b_and, b_or, b_iff, i_sel, a_tab, i_pow2, List.getD_cons_zero, List.getD_cons_succ, decide_eq_true_eq, decide_eq_false_iff_not, Bool.and_eq_true, Bool.or_eq_true, Bool.not_eq_true', Bool.not_eq_false', Bool.and_eq_false_iff, Bool.or_eq_false_iff, Bool.not_not, ite_tt, ite_ff, iff_tt, iff_ff, a_av, a_ite, a_upd] at hc0
         rcases hc0 with h | h <;> replace h := of_decide_eq_false h <;> omega)
set_option maxHeartbeats 20000000 in
theorem evcS (x0 : Ext) (nx0 : Int) (Ax0 : Nat → Int) (hB : eBase x0 nx0 Ax0) :
    LT.holds (⟨[nx0, 0, 0, 0, 0, 0, 0, 0, 0, 0, 0], [], [Ax0], [], Iv (fun i j => match i, j with | 0, 0 => x0 | _, _ => Ext.none)⟩ : Env) (fun v _ => retTrue (⟨[nx0, 0, 0, 0, 0, 0, 0, 0, 0, 0, 0], [], [Ax0], [], Iv (fun i j => match i, j with | 0, 0 => x0 | _, _ => Ext.none)⟩ : Env) v) (fun j' todo ρ' => (ehs[j']?.map (·.todo)) = some todo ∧ eInv x0 j' ρ') (.ite e42 (.ite e67 (.ret (.s (.bool (.blit false))) [⟨23, [.run .u32 (.lit 14) (.tab [6, 9945092, 138, 9945100, 157, 12582913, 2162688, 22, 9945120, 12582914, 3244032, 38, 9945136, 10485760]) 0], true, none, false⟩, ⟨32, [.one (.slc 0 (.lit 0) (.lit 14) (.kn (.lit 14))), .one (.nilSlc), .one (.int .u8 (.lit 0))], true, none, false⟩, ⟨5, [.run .u8 (.lit 8192) e41 0], true, none, false⟩, ⟨5, [.run .u8 (.lit 8192) e41 0], true, some 1, false⟩, ⟨81, [.one (.int .u16 (.lit 12)), .one (.int .u16 e64), .one (.int .u16 e55), .one (.int .u16 (.lit 0)), .one (.int .u16 (.lit 0)), .one (.int .u16 (.lit 0)), .one (.int .u16 (.lit 0)), .one (.int .u16 e44), .one (.int .u16 e46), .one (.int .u16 e64), .one (.int .u16 e55), .one (.int .u16 e55), .one (.int .u16 (.lit 0)), .one (.int .u8 e76), .one (.int .u8 e85), .one (.int .u8 (.lit 0)), .run .u16 (.lit 4) (.tab []) 0, .run .u16 (.lit 256) (.tab []) 0, .one (.slc 3 (.lit 0) (.lit 8192) (.op (.lit 0)))], true, none, false⟩, ⟨75, [.one (.int .u16 (.lit 0)), .one (.int .u16 (.lit 0)), .one (.int .u16 (.lit 0)), .one (.int .u16 (.lit 0)), .one (.int .u16 (.lit 0)), .one (.int .u16 (.lit 0)), .one (.int .u16 (.lit 0)), .one (.int .u16 (.lit 0)), .one (.int .u16 (.lit 0)), .one (.int .u16 (.lit 0)), .one (.int .u16 (.lit 0)), .one (.int .u16 (.lit 0)), .one (.int .u16 (.lit 0)), .one (.int .u8 (.lit 0)), .one (.int .u8 (.lit 0)), .one (.int .i64 (.lit 0)), .run .i64 (.lit 4) (.tab []) 0, .run .i64 (.lit 256) (.tab []) 0, .one (.slc 2 (.lit 0) (.lit 8192) (.kn (.lit 8192)))], true, none, false⟩]) (.jump 0 eT0 ⟨[(10, e85), (9, e76), (8, e55), (7, e55), (6, e64), (5, e46), (4, e44), (3, e55), (2, e64), (1, (.lit 1))], [], []⟩)) (.ret (.s (.bool (.blit true))) [⟨23, [.run .u32 (.lit 14) (.tab [6, 9945092, 138, 9945100, 157, 12582913, 2162688, 22, 9945120, 12582914, 3244032, 38, 9945136, 10485760]) 0], true, none, false⟩, ⟨32, [.one (.slc 0 (.lit 0) (.lit 14) (.kn (.lit 14))), .one (.nilSlc), .one (.int .u8 (.lit 0))], true, none, false⟩, ⟨5, [.run .u8 (.lit 8192) e41 0], true, none, false⟩, ⟨5, [.run .u8 (.lit 8192) e41 0], true, some 1, false⟩, ⟨81, [.one (.int .u16 (.lit 0)), .one (.int .u16 (.lit 0)), .one (.int .u16 (.lit 0)), .one (.int .u16 (.lit 0)), .one (.int .u16 (.lit 0)), .one (.int .u16 (.lit 0)), .one (.int .u16 (.lit 0)), .one (.int .u16 (.lit 0)), .one (.int .u16 (.lit 0)), .one (.int .u16 (.lit 0)), .one (.int .u16 (.lit 0)), .one (.int .u16 (.lit 0)), .one (.int .u16 (.lit 0)), .one (.int .u8 (.lit 0)), .one (.int .u8 (.lit 0)), .one (.int .u8 (.lit 0)), .run .u16 (.lit 4) (.tab []) 0, .run .u16 (.lit 256) (.tab []) 0, .one (.slc 3 (.lit 0) (.lit 8192) (.op (.lit 0)))], true, none, false⟩, ⟨75, [.one (.int .u16 (.lit 0)), .one (.int .u16 (.lit 0)), .one (.int .u16 (.lit 0)), .one (.int .u16 (.lit 0)), .one (.int .u16 (.lit 0)), .one (.int .u16 (.lit 0)), .one (.int .u16 (.lit 0)), .one (.int .u16 (.lit 0)), .one (.int .u16 (.lit 0)), .one (.int .u16 (.lit 0)), .one (.int .u16 (.lit 0)), .one (.int .u16 (.lit 0)), .one (.int .u16 (.lit 0)), .one (.int .u8 (.lit 0)), .one (.int .u8 (.lit 0)), .one (.int .i64 (.lit 0)), .run .i64 (.lit 4) (.tab []) 0, .run .i64 (.lit 256) (.tab []) 0, .one (.slc 2 (.lit 0) (.lit 8192) (.kn (.lit 8192)))], true, none, false⟩])) := by
  simp only [LT.holds, retTrue]
  refine ⟨fun hc0 => ?_, fun hc0 => ?_⟩
  ·
    refine ⟨fun hc1 => ?_, fun hc1 => ?_⟩
    ·
      first
        | rfl
        | (exfalso
           simp only [e0, e1, e2, e3, e4, e5, e6, e7, e8, e9, e10, e11, e12, e13, e14, e15, e16, e17, e18, e19, e20, e21, e22, e23, e24, e25, e26, e27, e28, e29, e30, e31, e32, e33, e34, e35, e36, e37, e38, e39, e40, e41, e42, e43, e44, e45, e46, e47, e48, e49, e50, e51, e52, e53, e54, e55, e56, e57, e58, e59, e60, e61, e62, e63, e64, e65, e66, e67, e68, e69, e70, e71, e72, e73, e74, e75, e76, e77, e78, e79, e80, e81, e82, e83, e84, e85, e86, e87, e88, e89, e90, e91, e92, e93, e94, e95, e96, e97, e98, e99, e100, e101, e102, e103, e104, e105, e106, e107, e108, e109, e110, e111, e112, e113, e114, e115, e116, e117, e118, e119, e120, e121, e122, e123, e124, e125, e126, e127, e128, e129, e130, e131, e132, e133, e134, e135, e136, e137, e138, e139, e140, e141, e142, e143, e144, e145, e146, e147, e148, e149, e150, e151, e152, e153, e154, e155, e156, e157, e158, e159, e160, e161, e162, e163, e164, e165, e166, e167, e168, e169, e170, e171, e172, e173, e174, e175, e176, e177, e178, e179, e180, e181, e182, i_v, b_bv, i_lit, b_blit, i_add, i_sub, i_mul, i_div, i_mod, i_tdiv, i_tmod, i_ite, b_ite, b_lt, b_le, b_eq, b_not, b_and, b_or, b_iff, i_sel, a_tab, i_pow2, List.getD_cons_zero, List.getD_cons_succ, decide_eq_true_eq, decide_eq_false_iff_not, Bool.and_eq_true, Bool.or_eq_true, Bool.not_eq_true', Bool.not_eq_false', Bool.and_eq_false_iff, Bool.or_eq_false_iff, Bool.not_not, ite_tt, ite_ff, iff_tt, iff_ff, a_av, a_ite, a_upd] at hc1
           rcases hc1 with h | h <;> replace h := of_decide_eq_false h <;> omega)
    ·
      refine ⟨ehT0, nx0, (_root_.Go.Sx.E.i (⟨[nx0, 0, 0, 0, 0, 0, 0, 0, 0, 0, 0], [], [Ax0], [], Iv (fun i j => match i, j with | 0, 0 => x0 | _, _ => Ext.none)⟩ : Env) (.lit 1)), (_root_.Go.Sx.E.i (⟨[nx0, 0, 0, 0, 0, 0, 0, 0, 0, 0, 0], [], [Ax0], [], Iv (fun i j => match i, j with | 0, 0 => x0 | _, _ => Ext.none)⟩ : Env) e64), (_root_.Go.Sx.E.i (⟨[nx0, 0, 0, 0, 0, 0, 0, 0, 0, 0, 0], [], [Ax0], [], Iv (fun i j => match i, j with | 0, 0 => x0 | _, _ => Ext.none)⟩ : Env) e55), (_root_.Go.Sx.E.i (⟨[nx0, 0, 0, 0, 0, 0, 0, 0, 0, 0, 0], [], [Ax0], [], Iv (fun i j => match i, j with | 0, 0 => x0 | _, _ => Ext.none)⟩ : Env) e44), (_root_.Go.Sx.E.i (⟨[nx0, 0, 0, 0, 0, 0, 0, 0, 0, 0, 0], [], [Ax0], [], Iv (fun i j => match i, j with | 0, 0 => x0 | _, _ => Ext.none)⟩ : Env) e46), (_root_.Go.Sx.E.i (⟨[nx0, 0, 0, 0, 0, 0, 0, 0, 0, 0, 0], [], [Ax0], [], Iv (fun i j => match i, j with | 0, 0 => x0 | _, _ => Ext.none)⟩ : Env) e64), (_root_.Go.Sx.E.i (⟨[nx0, 0, 0, 0, 0, 0, 0, 0, 0, 0, 0], [], [Ax0], [], Iv (fun i j => match i, j with | 0, 0 => x0 | _, _ => Ext.none)⟩ : Env) e55), (_root_.Go.Sx.E.i (⟨[nx0, 0, 0, 0, 0, 0, 0, 0, 0, 0, 0], [], [Ax0], [], Iv (fun i j => match i, j with | 0, 0 => x0 | _, _ => Ext.none)⟩ : Env) e55), (_root_.Go.Sx.E.i (⟨[nx0, 0, 0, 0, 0, 0, 0, 0, 0, 0, 0], [], [Ax0], [], Iv (fun i j => match i, j with | 0, 0 => x0 | _, _ => Ext.none)⟩ : Env) e76), (_root_.Go.Sx.E.i (⟨[nx0, 0, 0, 0, 0, 0, 0, 0, 0, 0, 0], [], [Ax0], [], Iv (fun i j => match i, j with | 0, 0 => x0 | _, _ => Ext.none)⟩ : Env) e85), Ax0, (by kernel_rfl), hB, ?_⟩
      ·
        simp only [eBase] at hB
        obtain ⟨b0, b1, bn, _, _⟩ := hB
        have h0 := b1 (Int.toNat 0)
        unfold eJ0
        simp only [e0, e1, e2, e3, e4, e5, e6, e7, e8, e9, e10, e11, e12, e13, e14, e15, e16, e17, e18, e19, e20, e21, e22, e23, e24, e25, e26, e27, e28, e29, e30, e31, e32, e33, e34, e35, e36, e37, e38, e39, e40, e41, e42, e43, e44, e45, e46, e47, e48, e49, e50, e51, e52, e53, e54, e55, e56, e57, e58, e59, e60, e61, e62, e63, e64, e65, e66, e67, e68, e69, e70, e71, e72, e73, e74, e75, e76, e77, e78, e79, e80, e81, e82, e83, e84, e85, e86, e87, e88, e89, e90, e91, e92, e93, e94, e95, e96, e97, e98, e99, e100, e101, e102, e103, e104, e105, e106, e107, e108, e109, e110, e111, e112, e113, e114, e115, e116, e117, e118, e119, e120, e121, e122, e123, e124, e125, e126, e127, e128, e129, e130, e131, e132, e133, e134, e135, e136, e137, e138, e139, e140, e141, e142, e143, e144, e145, e146, e147, e148, e149, e150, e151, e152, e153, e154, e155, e156, e157, e158, e159, e160, e161, e162, e163, e164, e165, e166, e167, e168, e169, e170, e171, e172, e173, e174, e175, e176, e177, e178, e179, e180, e181, e182, i_v, b_bv, i_lit, b_blit, i_add, i_sub, i_mul, i_div, i_mod, i_tdiv, i_tmod, i_ite, b_ite, b_lt, b_le, b_eq, b_not, b_and, b_or, b_iff, i_sel, a_tab, i_pow2, List.getD_cons_zero, List.getD_cons_succ, decide_eq_true_eq, decide_eq_false_iff_not, Bool.and_eq_true, Bool.or_eq_true, Bool.not_eq_true', Bool.not_eq_false', Bool.and_eq_false_iff, Bool.or_eq_false_iff, Bool.not_not, ite_tt, ite_ff, iff_tt, iff_ff, a_av, a_ite, a_upd]
        refine ⟨?_, ?_, ?_, ?_, ?_, ?_, ?_, ?_, ?_, ?_, trivial⟩
        all_goals first
          | omega
          | ((repeat' split) <;> omega)
  ·
    first
      | rfl
      | (exfalso
         simp only [e0, e1, e2, e3, e4, e5, e6, e7, e8, e9, e10, e11, e12, e13, e14, e15, e16, e17, e18, e19, e20, e21, e22, e23, e24, e25, e26, e27, e28, e29, e30, e31, e32, e33, e34, e35, e36, e37, e38, e39, e40, e41, e42, e43, e44, e45, e46, e47, e48, e49, e50, e51, e52, e53, e54, e55, e56, e57, e58, e59, e60, e61, e62, e63, e64, e65, e66, e67, e68, e69, e70, e71, e72, e73, e74, e75, e76, e77, e78, e79, e80, e81, e82, e83, e84, e85, e86, e87, e88, e89, e90, e91, e92, e93, e94, e95, e96, e97, e98, e99, e100, e101, e102, e103, e104, e105, e106, e107, e108, e109, e110, e111, e112, e113, e114, e115, e116, e117, e118, e119, e120, e121, e122, e123, e124, e125, e126, e127, e128, e129, e130, e131, e132, e133, e134, e135, e136, e137, e138, e139, e140, e141, e142, e143, e144, e145, e146, e147, e148, e149, e150, e151, e152, e153, e154, e155, e156, e157, e158, e159, e160, e161, e162, e163, e164, e165, e166, e167, e168, e169, e170, e171, e172, e173, e174, e175, e176, e177, e178, e179, e180, e181, e182, i_v, b_bv, i_lit, b_blit, i_add, i_sub, i_mul, i_div, i_mod, i_tdiv, i_tmod, i_ite, b_ite, b_lt, b_le, b_eq, b_not, b_and, b_or, b_iff, i_sel, a_tab, i_pow2, List.getD_cons_zero, List.getD_cons_succ, decide_eq_true_eq, decide_eq_false_iff_not, Bool.and_eq_true, Bool.or_eq_true, Bool.not_eq_true', Bool.not_eq_false', Bool.and_eq_false_iff, Bool.or_eq_false_iff, Bool.not_not, ite_tt, ite_ff, iff_tt, iff_ff, a_av, a_ite, a_upd] at hc0
         rcases hc0 with h | h <;> replace h := of_decide_eq_false h <;> omega)
theorem ecalls (x0 : Ext) (w : World) (g0 : XFit x0 w [some .u32]) :
    Calls Try.prog 4 #[x0.v] w fun r w' => r = .returned (.bool true) ∧ Below w.heap.size w w' := by
  have hx0 : SV.conc (⟨[(x0.n : Int), 0, 0, 0, 0, 0, 0, 0, 0, 0, 0], [], [xArr x0 1 0], [], Iv (fun i j => match i, j with | 0, 0 => x0 | _, _ => Ext.none)⟩ : Env) Loc.id (.s (.xslc 0 (.lit 0) (.lit 0) (.v 0))) = x0.v := conc_ext g0 rfl rfl
  have hargs : (eLs.map (SV.conc (⟨[(x0.n : Int), 0, 0, 0, 0, 0, 0, 0, 0, 0, 0], [], [xArr x0 1 0], [], Iv (fun i j => match i, j with | 0, 0 => x0 | _, _ => Ext.none)⟩ : Env) Loc.id)).toArray = #[x0.v] := by
    refine congrArg List.toArray ?_
    exact (cons_eq hx0 rfl)
  rw [← hargs]
  have hok : Hyp.ok eHy (⟨[(x0.n : Int), 0, 0, 0, 0, 0, 0, 0, 0, 0, 0], [], [xArr x0 1 0], [], Iv (fun i j => match i, j with | 0, 0 => x0 | _, _ => Ext.none)⟩ : Env) := by
    refine ⟨?_, ?_, ?_, by simp [eHy], ?_, by simp [eHy]⟩
    · intro p hp
      simp only [eHy, List.mem_cons, List.not_mem_nil, or_false] at hp
      rcases hp with rfl
      · exact xi_ok g0 rfl rfl rfl
    · intro p hp
      simp only [eHy, List.mem_cons, List.not_mem_nil, or_false] at hp
      rcases hp with rfl
      · exact xlen_rng g0
    · intro p hp
      simp only [eHy, List.mem_cons, List.not_mem_nil, or_false] at hp
      rcases hp with rfl
      · exact xArr_rng g0
    · simp [eHy]
  refine law_loops2 (u := 0) (D := eD) (hs := ehs) (ρ := (⟨[(x0.n : Int), 0, 0, 0, 0, 0, 0, 0, 0, 0, 0], [], [xArr x0 1 0], [], Iv (fun i j => match i, j with | 0, 0 => x0 | _, _ => Ext.none)⟩ : Env)) (G_ok _) (by kernel_rfl) rfl (eInv x0 ) emu est rfl ⟨rfl, rfl, rfl⟩ hok (evcS x0 ((x0.n : Int)) (xArr x0 1 0) ⟨xlen_rng g0, xArr_rng g0, rfl, rfl, trivial⟩) ?_ w (fun i j => by rcases i with _ | i <;> rcases j with _ | j <;> first | exact Ext.none_ok _ | exact g0.ok)
  intro j h ρ hj hI hz hInv
  rcases j with _ | j
  · simp only [ehs, List.getElem?_cons_zero, List.getElem?_cons_succ, Option.some.injEq] at hj; subst hj
    obtain ⟨nx0, y1, y2, y3, y4, y5, y6, y7, y8, y9, y10, Ax0, rfl, hB, hJ⟩ := hInv
    have hok2 : Hyp.ok eh0.H (⟨[nx0, y1, y2, y3, y4, y5, y6, y7, y8, y9, y10], [], [Ax0], [], Iv (fun i j => match i, j with | 0, 0 => x0 | _, _ => Ext.none)⟩ : Env) := by
      have hB2 := hB; have hJ2 := hJ
      simp only [eBase] at hB2; simp only [eJ0] at hJ2
      obtain ⟨hb0, hb1, hn0, ha0_0, _⟩ := hB2
      obtain ⟨hl0, hl1, hl2, hl3, hl4, hl5, hl6, hl7, hl8, hl9, _⟩ := hJ2
      refine ⟨?_, ?_, ?_, by simp [eh0], ?_, by simp [eh0]⟩
      · intro p hp
        simp only [eh0, List.mem_cons, List.not_mem_nil, or_false] at hp
        rcases hp with rfl
        · exact xi_ok g0 rfl hn0 ha0_0
      · intro p hp
        simp only [eh0, List.mem_cons, List.not_mem_nil, or_false] at hp
        rcases hp with rfl | rfl | rfl | rfl | rfl | rfl | rfl | rfl | rfl | rfl | rfl
        · exact hb0
        · exact hl0
        · exact hl1
        · exact hl2
        · exact hl3
        · exact hl4
        · exact hl5
        · exact hl6
        · exact hl7
        · exact hl8
        · exact hl9
      · intro p hp
        simp only [eh0, List.mem_cons, List.not_mem_nil, or_false] at hp
        rcases hp with rfl
        · exact hb1
      · simp [eh0]
    exact ⟨hok2, LT.of_bare esg0 (evc0 x0 nx0 y1 y2 y3 y4 y5 y6 y7 y8 y9 y10 Ax0 hB hJ hok2)⟩
  · simp [ehs] at hj
end Go.Proofs.Ytcckecfjjccffaa.SignalTimes
