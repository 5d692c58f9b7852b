/- A part of the law VramScripts, which returns true for every input. The ports, in whatever order they are written and read, saving and loading between, do to the memories what the document says, and read what it says. No condition. -/
import Derived.Test.YtjegnoknenahpaaVramScripts0
namespace Go.Proofs.Ytjegnoknenahpaa.VramScripts
open Go.Sx Go.ChangeShapes Go.WideShapes Go.ChangeAt Go.RowKit
set_option linter.unusedVariables false
set_option linter.unusedSimpArgs false
set_option maxRecDepth 100000
def eV (x0 : Ext) (nx0 y1 y2 y3 y4 y5 y6 y7 y8 y9 : Int) (z0 : Bool) (Ax0_0 Ax0_1 Ax0_2 Z3 Z4 Z5 : Nat → Int) : Env := (⟨[nx0, y1, y2, y3, y4, y5, y6, y7, y8, y9], [z0], [Ax0_0, Ax0_1, Ax0_2, Z3, Z4, Z5], [], Iv (fun i j => match i, j with | 0, 0 => x0 | _, _ => Ext.none)⟩ : Env)
theorem m0 {α : Type} {P : α → Prop} : ∀ p ∈ ([] : List α), P p := fun _ h => by cases h
theorem m1 {α : Type} {P : α → Prop} {a : α} {l : List α} (h : P a) (t : ∀ p ∈ l, P p) : ∀ p ∈ a :: l, P p := List.forall_mem_cons.2 ⟨h, t⟩
def eHy : Hyp := ⟨[(.v 0, (0, 9223372036854775807))], [(0, (-9223372036854775808, 9223372036854775807)), (1, (0, 255)), (2, (0, 255))], [(10, (0, 4294967295))], [(50, (0, 255))], [], [(0, ⟨.v 0, [(some .i64, .av 0), (some .u8, .av 1), (some .u8, .av 2)], []⟩)]⟩
def eLs : List SV := [.s (.xslc 0 (.lit 0) (.lit 0) (.v 0))]
def e0 : E := .sel (.av 0) (.v 1)
def e1 : E := .sel (.av 1) (.v 1)
def e2 : E := .mod (.v 5) (.lit 2)
def e3 : E := .lt (.v 1) (.v 0)
def e4 : E := .add (.v 5) (.lit 1)
def e5 : E := .mod e4 (.lit 512)
def e6 : E := .add (.v 1) (.lit 1)
def e7 : E := .div (.v 5) (.lit 2)
def e8 : E := .sel (.av 2) (.v 1)
def e9 : E := .mod e8 (.lit 128)
def e10 : E := .mul e9 (.lit 256)
def e11 : E := .add (.v 2) e10
def e12 : E := .upd (.av 4) e7 e11
def e13 : E := .div (.v 3) (.lit 256)
def e14 : E := .mul e13 (.lit 512)
def e15 : E := .mul e8 (.lit 2)
def e16 : E := .add e14 e15
def e17 : E := .mul e13 (.lit 256)
def e18 : E := .add e17 e8
def e19 : E := .mod (.v 3) (.lit 256)
def e20 : E := .mul e19 (.lit 2)
def e21 : E := .mod e8 (.lit 2)
def e22 : E := .mul e21 (.lit 512)
def e23 : E := .add e20 e22
def e24 : E := .mul e21 (.lit 256)
def e25 : E := .add e19 e24
def e26 : E := .le (.lit 128) e8
def e27 : E := .mod (.v 4) (.lit 2)
def e28 : E := .eq e27 (.lit 0)
def e29 : E := .ite e28 e8 (.v 7)
def e30 : E := .add (.v 4) (.lit 1)
def e31 : E := .mod e30 (.lit 1024)
def e32 : E := .mod (.v 4) (.lit 32)
def e33 : E := .add e32 (.lit 512)
def e34 : E := .upd (.av 5) e33 e8
def e35 : E := .add (.v 4) (.lit (-1))
def e36 : E := .upd (.av 5) e35 (.v 7)
def e37 : E := .upd e36 (.v 4) e8
def e38 : E := .div (.v 6) (.lit 4)
def e39 : E := .mod e38 (.lit 4)
def e40 : E := .div (.v 8) (.lit 256)
def e41 : E := .mod e40 (.lit 128)
def e42 : E := .mul e41 (.lit 256)
def e43 : E := .add e42 e8
def e44 : E := .sel (.av 3) e43
def e45 : E := .mul e40 (.lit 256)
def e46 : E := .add e45 e8
def e47 : E := .div e8 (.lit 256)
def e48 : E := .mul e47 (.lit 256)
def e49 : E := .add e48 e45
def e50 : E := .mod e8 (.lit 32)
def e51 : E := .mul e50 (.lit 8)
def e52 : E := .add e49 e51
def e53 : E := .div e8 (.lit 32)
def e54 : E := .add e52 e53
def e55 : E := .mod e54 (.lit 32768)
def e56 : E := .sel (.av 3) e55
def e57 : E := .div e46 (.lit 512)
def e58 : E := .mul e57 (.lit 512)
def e59 : E := .mod e8 (.lit 64)
def e60 : E := .mul e59 (.lit 8)
def e61 : E := .add e58 e60
def e62 : E := .div e8 (.lit 64)
def e63 : E := .mul e40 (.lit 4)
def e64 : E := .add e62 e63
def e65 : E := .mod e64 (.lit 8)
def e66 : E := .add e61 e65
def e67 : E := .mod e66 (.lit 32768)
def e68 : E := .sel (.av 3) e67
def e69 : E := .div e46 (.lit 1024)
def e70 : E := .mul e69 (.lit 1024)
def e71 : E := .mul e9 (.lit 8)
def e72 : E := .add e70 e71
def e73 : E := .div e8 (.lit 128)
def e74 : E := .mul e40 (.lit 2)
def e75 : E := .add e73 e74
def e76 : E := .mod e75 (.lit 8)
def e77 : E := .add e72 e76
def e78 : E := .mod e77 (.lit 32768)
def e79 : E := .sel (.av 3) e78
def e80 : E := .mod (.v 8) (.lit 256)
def e81 : E := .mul e8 (.lit 256)
def e82 : E := .add e80 e81
def e83 : E := .mod e82 (.lit 32768)
def e84 : E := .sel (.av 3) e83
def e85 : E := .mod (.v 8) (.lit 32)
def e86 : E := .mul e85 (.lit 8)
def e87 : E := .add e81 e86
def e88 : E := .div (.v 8) (.lit 32)
def e89 : E := .mod e88 (.lit 8)
def e90 : E := .add e87 e89
def e91 : E := .mod e90 (.lit 32768)
def e92 : E := .sel (.av 3) e91
def e93 : E := .div e8 (.lit 2)
def e94 : E := .mul e93 (.lit 512)
def e95 : E := .mod (.v 8) (.lit 64)
def e96 : E := .mul e95 (.lit 8)
def e97 : E := .add e94 e96
def e98 : E := .div (.v 8) (.lit 64)
def e99 : E := .mod e98 (.lit 4)
def e100 : E := .mul e8 (.lit 4)
def e101 : E := .add e99 e100
def e102 : E := .mod e101 (.lit 8)
def e103 : E := .add e97 e102
def e104 : E := .mod e103 (.lit 32768)
def e105 : E := .sel (.av 3) e104
def e106 : E := .div e8 (.lit 4)
def e107 : E := .mul e106 (.lit 1024)
def e108 : E := .mod (.v 8) (.lit 128)
def e109 : E := .mul e108 (.lit 8)
def e110 : E := .add e107 e109
def e111 : E := .div (.v 8) (.lit 128)
def e112 : E := .mod e111 (.lit 2)
def e113 : E := .add e112 e15
def e114 : E := .mod e113 (.lit 8)
def e115 : E := .add e110 e114
def e116 : E := .mod e115 (.lit 32768)
def e117 : E := .sel (.av 3) e116
def e118 : E := .mod (.v 8) (.lit 32768)
def e119 : E := .sel (.av 3) e118
def e120 : E := .div e119 (.lit 256)
def e121 : E := .mul e120 (.lit 256)
def e122 : E := .add e121 e8
def e123 : E := .upd (.av 3) e118 e122
def e124 : E := .mod (.v 6) (.lit 4)
def e125 : E := .eq e124 (.lit 0)
def e126 : E := .eq e124 (.lit 1)
def e127 : E := .ite e126 (.lit 32) (.lit 128)
def e128 : E := .ite e125 (.lit 1) e127
def e129 : E := .add (.v 8) e128
def e130 : E := .mod e129 (.lit 65536)
def e131 : E := .add e45 e86
def e132 : E := .add e131 e89
def e133 : E := .mod e132 (.lit 32768)
def e134 : E := .sel (.av 3) e133
def e135 : E := .div e134 (.lit 256)
def e136 : E := .mul e135 (.lit 256)
def e137 : E := .add e136 e8
def e138 : E := .upd (.av 3) e133 e137
def e139 : E := .div (.v 8) (.lit 512)
def e140 : E := .mul e139 (.lit 512)
def e141 : E := .add e140 e96
def e142 : E := .mod e98 (.lit 8)
def e143 : E := .add e141 e142
def e144 : E := .mod e143 (.lit 32768)
def e145 : E := .sel (.av 3) e144
def e146 : E := .div e145 (.lit 256)
def e147 : E := .mul e146 (.lit 256)
def e148 : E := .add e147 e8
def e149 : E := .upd (.av 3) e144 e148
def e150 : E := .div (.v 8) (.lit 1024)
def e151 : E := .mul e150 (.lit 1024)
def e152 : E := .add e151 e109
def e153 : E := .mod e111 (.lit 8)
def e154 : E := .add e152 e153
def e155 : E := .mod e154 (.lit 32768)
def e156 : E := .sel (.av 3) e155
def e157 : E := .div e156 (.lit 256)
def e158 : E := .mul e157 (.lit 256)
def e159 : E := .add e158 e8
def e160 : E := .upd (.av 3) e155 e159
def e161 : E := .mod e119 (.lit 256)
def e162 : E := .add e161 e81
def e163 : E := .upd (.av 3) e118 e162
def e164 : E := .mod e134 (.lit 256)
def e165 : E := .add e164 e81
def e166 : E := .upd (.av 3) e133 e165
def e167 : E := .mod e145 (.lit 256)
def e168 : E := .add e167 e81
def e169 : E := .upd (.av 3) e144 e168
def e170 : E := .mod e156 (.lit 256)
def e171 : E := .add e170 e81
def e172 : E := .upd (.av 3) e155 e171
def e173 : E := .mul (.v 3) (.lit 2)
def e174 : E := .mul e8 (.lit 257)
def e175 : E := .upd (.av 3) e1 e174
noncomputable def eT0 : List Item := seekS Try.prog 7 7
noncomputable def eh0 : Head := ⟨7, eT0, ⟨[((.v 0), (0, 9223372036854775807)), ((.v 1), (0, 9223372036854775807)), ((.v 2), (0, 255)), ((.v 3), (0, 511)), ((.v 4), (0, 1023)), ((.v 5), (0, 511)), ((.v 6), (0, 255)), ((.v 7), (0, 255)), ((.v 8), (0, 65535)), ((.v 9), (0, 65535))], [(0, ((-9223372036854775808), 9223372036854775807)), (1, (0, 255)), (2, (0, 255)), (3, (0, 65535)), (4, (0, 32767)), (5, (0, 255))], [(10, (0, 4294967295))], [(50, (0, 255))], [], [(0, ⟨(.v 0), [(some .i64, (.av 0)), (some .u8, (.av 1)), (some .u8, (.av 2))], []⟩)]⟩, [⟨21, [], .s (.int .i64 (.v 1))⟩, ⟨20, [], .s (.int .i64 (.v 0))⟩, ⟨19, [], .s (.xslc 0 (.lit 0) (.lit 0) (.v 0))⟩, ⟨4, [], .s (.ptr 1 (.lit 0))⟩, ⟨3, [], .s (.ptr 0 (.lit 0))⟩], [⟨75, [.run .u16 (.lit 32768) (.av 3) 0, .run .u8 (.lit 544) (.av 5) 0, .run .u16 (.lit 256) (.av 4) 0, .one (.int .u16 (.v 3)), .one (.bool (.bv 0)), .one (.int .u16 (.v 4)), .one (.int .u8 (.v 7)), .one (.int .u8 (.v 6)), .one (.int .u16 (.v 8)), .one (.int .u16 (.v 9)), .one (.int .u16 (.v 5)), .one (.int .u8 (.v 2))], true, none, false⟩, ⟨43, [.run .u16 (.lit 32768) (.av 3) 0, .run .u8 (.lit 544) (.av 5) 0, .run .u16 (.lit 256) (.av 4) 0, .one (.int .i64 (.v 3)), .one (.bool (.bv 0)), .one (.int .i64 (.v 4)), .one (.int .u8 (.v 7)), .one (.int .u8 (.v 6)), .one (.int .i64 (.v 8)), .one (.int .u16 (.v 9)), .one (.int .i64 (.v 5)), .one (.int .u8 (.v 2))], true, none, false⟩]⟩
noncomputable def ehs : List Head := [eh0]
def eD : Dim := ⟨10, 1, 6, 1, 0, 3, 0⟩
theorem est : startL Try.prog G Gh eD ehs [] 3000 0 7 eHy eLs [] = some (.jump 0 eT0 ⟨[(2, (.lit 0)), (5, (.lit 0)), (9, (.lit 0)), (8, (.lit 0)), (6, (.lit 0)), (7, (.lit 0)), (4, (.lit 0)), (3, (.lit 0)), (1, (.lit 0))], [(0, (.blit false))], [(4, (.tab [])), (5, (.tab [])), (3, (.tab []))]⟩) := by kernel_rfl
theorem ehT0 : (ehs[0]?.map (·.todo)) = some eT0 := by kernel_rfl
def eBase (x0 : Ext) (nx0 : Int) (Ax0_0 Ax0_1 Ax0_2 : Nat → Int) : Prop := (0 ≤ nx0 ∧ nx0 ≤ 9223372036854775807) ∧ (∀ j, -9223372036854775808 ≤ Ax0_0 j ∧ Ax0_0 j ≤ 9223372036854775807) ∧ (∀ j, 0 ≤ Ax0_1 j ∧ Ax0_1 j ≤ 255) ∧ (∀ j, 0 ≤ Ax0_2 j ∧ Ax0_2 j ≤ 255) ∧ nx0 = (x0.n : Int) ∧ Ax0_0 = xArr x0 3 0 ∧ Ax0_1 = xArr x0 3 1 ∧ Ax0_2 = xArr x0 3 2 ∧ True
def eJ0 (nx0 y1 y2 y3 y4 y5 y6 y7 y8 y9 : Int) (z0 : Bool) (Ax0_0 Ax0_1 Ax0_2 Z3 Z4 Z5 : Nat → Int) : Prop := (0 ≤ y1 ∧ y1 ≤ 9223372036854775807) ∧ (0 ≤ y2 ∧ y2 ≤ 255) ∧ (0 ≤ y3 ∧ y3 ≤ 511) ∧ (0 ≤ y4 ∧ y4 ≤ 1023) ∧ (0 ≤ y5 ∧ y5 ≤ 511) ∧ (0 ≤ y6 ∧ y6 ≤ 255) ∧ (0 ≤ y7 ∧ y7 ≤ 255) ∧ (0 ≤ y8 ∧ y8 ≤ 65535) ∧ (0 ≤ y9 ∧ y9 ≤ 65535) ∧ (∀ j, 0 ≤ Z3 j ∧ Z3 j ≤ 65535) ∧ (∀ j, 0 ≤ Z4 j ∧ Z4 j ≤ 32767) ∧ (∀ j, 0 ≤ Z5 j ∧ Z5 j ≤ 255) ∧ y1 ≤ nx0 ∧ True
def eInv (x0 : Ext) : Nat → Env → Prop
  | 0, ρ => ∃ (nx0 y1 y2 y3 y4 y5 y6 y7 y8 y9 : Int) (z0 : Bool) (Ax0_0 Ax0_1 Ax0_2 Z3 Z4 Z5 : Nat → Int), ρ = (eV x0 nx0 y1 y2 y3 y4 y5 y6 y7 y8 y9 z0 Ax0_0 Ax0_1 Ax0_2 Z3 Z4 Z5) ∧ eBase x0 nx0 Ax0_0 Ax0_1 Ax0_2 ∧ eJ0 nx0 y1 y2 y3 y4 y5 y6 y7 y8 y9 z0 Ax0_0 Ax0_1 Ax0_2 Z3 Z4 Z5
  | _, _ => False
def emu : Nat → Env → Nat := fun j ρ => (ρ.i.getD 0 0 - ρ.i.getD 1 0).toNat
theorem evcS (x0 : Ext) (nx0 : Int) (Ax0_0 Ax0_1 Ax0_2 : Nat → Int) (hB : eBase x0 nx0 Ax0_0 Ax0_1 Ax0_2) :
    LT.holds (⟨[nx0, 0, 0, 0, 0, 0, 0, 0, 0, 0], [false], [Ax0_0, Ax0_1, Ax0_2, fun _ => 0, fun _ => 0, fun _ => 0], [], Iv (fun i j => match i, j with | 0, 0 => x0 | _, _ => Ext.none)⟩ : Env) (fun v _ => retTrue (⟨[nx0, 0, 0, 0, 0, 0, 0, 0, 0, 0], [false], [Ax0_0, Ax0_1, Ax0_2, fun _ => 0, fun _ => 0, fun _ => 0], [], Iv (fun i j => match i, j with | 0, 0 => x0 | _, _ => Ext.none)⟩ : Env) v) (fun j' todo ρ' => (ehs[j']?.map (·.todo)) = some todo ∧ eInv x0 j' ρ') (.jump 0 eT0 ⟨[(2, (.lit 0)), (5, (.lit 0)), (9, (.lit 0)), (8, (.lit 0)), (6, (.lit 0)), (7, (.lit 0)), (4, (.lit 0)), (3, (.lit 0)), (1, (.lit 0))], [(0, (.blit false))], [(4, (.tab [])), (5, (.tab [])), (3, (.tab []))]⟩) := by
  simp only [LT.holds, retTrue]
  refine ⟨ehT0, nx0, (_root_.Go.Sx.E.i (⟨[nx0, 0, 0, 0, 0, 0, 0, 0, 0, 0], [false], [Ax0_0, Ax0_1, Ax0_2, fun _ => 0, fun _ => 0, fun _ => 0], [], Iv (fun i j => match i, j with | 0, 0 => x0 | _, _ => Ext.none)⟩ : Env) (.lit 0)), (_root_.Go.Sx.E.i (⟨[nx0, 0, 0, 0, 0, 0, 0, 0, 0, 0], [false], [Ax0_0, Ax0_1, Ax0_2, fun _ => 0, fun _ => 0, fun _ => 0], [], Iv (fun i j => match i, j with | 0, 0 => x0 | _, _ => Ext.none)⟩ : Env) (.lit 0)), (_root_.Go.Sx.E.i (⟨[nx0, 0, 0, 0, 0, 0, 0, 0, 0, 0], [false], [Ax0_0, Ax0_1, Ax0_2, fun _ => 0, fun _ => 0, fun _ => 0], [], Iv (fun i j => match i, j with | 0, 0 => x0 | _, _ => Ext.none)⟩ : Env) (.lit 0)), (_root_.Go.Sx.E.i (⟨[nx0, 0, 0, 0, 0, 0, 0, 0, 0, 0], [false], [Ax0_0, Ax0_1, Ax0_2, fun _ => 0, fun _ => 0, fun _ => 0], [], Iv (fun i j => match i, j with | 0, 0 => x0 | _, _ => Ext.none)⟩ : Env) (.lit 0)), (_root_.Go.Sx.E.i (⟨[nx0, 0, 0, 0, 0, 0, 0, 0, 0, 0], [false], [Ax0_0, Ax0_1, Ax0_2, fun _ => 0, fun _ => 0, fun _ => 0], [], Iv (fun i j => match i, j with | 0, 0 => x0 | _, _ => Ext.none)⟩ : Env) (.lit 0)), (_root_.Go.Sx.E.i (⟨[nx0, 0, 0, 0, 0, 0, 0, 0, 0, 0], [false], [Ax0_0, Ax0_1, Ax0_2, fun _ => 0, fun _ => 0, fun _ => 0], [], Iv (fun i j => match i, j with | 0, 0 => x0 | _, _ => Ext.none)⟩ : Env) (.lit 0)), (_root_.Go.Sx.E.i (⟨[nx0, 0, 0, 0, 0, 0, 0, 0, 0, 0], [false], [Ax0_0, Ax0_1, Ax0_2, fun _ => 0, fun _ => 0, fun _ => 0], [], Iv (fun i j => match i, j with | 0, 0 => x0 | _, _ => Ext.none)⟩ : Env) (.lit 0)), (_root_.Go.Sx.E.i (⟨[nx0, 0, 0, 0, 0, 0, 0, 0, 0, 0], [false], [Ax0_0, Ax0_1, Ax0_2, fun _ => 0, fun _ => 0, fun _ => 0], [], Iv (fun i j => match i, j with | 0, 0 => x0 | _, _ => Ext.none)⟩ : Env) (.lit 0)), (_root_.Go.Sx.E.i (⟨[nx0, 0, 0, 0, 0, 0, 0, 0, 0, 0], [false], [Ax0_0, Ax0_1, Ax0_2, fun _ => 0, fun _ => 0, fun _ => 0], [], Iv (fun i j => match i, j with | 0, 0 => x0 | _, _ => Ext.none)⟩ : Env) (.lit 0)), (_root_.Go.Sx.E.b (⟨[nx0, 0, 0, 0, 0, 0, 0, 0, 0, 0], [false], [Ax0_0, Ax0_1, Ax0_2, fun _ => 0, fun _ => 0, fun _ => 0], [], Iv (fun i j => match i, j with | 0, 0 => x0 | _, _ => Ext.none)⟩ : Env) (.blit false)), Ax0_0, Ax0_1, Ax0_2, (_root_.Go.Sx.E.a (⟨[nx0, 0, 0, 0, 0, 0, 0, 0, 0, 0], [false], [Ax0_0, Ax0_1, Ax0_2, fun _ => 0, fun _ => 0, fun _ => 0], [], Iv (fun i j => match i, j with | 0, 0 => x0 | _, _ => Ext.none)⟩ : Env) (.tab [])), (_root_.Go.Sx.E.a (⟨[nx0, 0, 0, 0, 0, 0, 0, 0, 0, 0], [false], [Ax0_0, Ax0_1, Ax0_2, fun _ => 0, fun _ => 0, fun _ => 0], [], Iv (fun i j => match i, j with | 0, 0 => x0 | _, _ => Ext.none)⟩ : Env) (.tab [])), (_root_.Go.Sx.E.a (⟨[nx0, 0, 0, 0, 0, 0, 0, 0, 0, 0], [false], [Ax0_0, Ax0_1, Ax0_2, fun _ => 0, fun _ => 0, fun _ => 0], [], Iv (fun i j => match i, j with | 0, 0 => x0 | _, _ => Ext.none)⟩ : Env) (.tab [])), (by kernel_rfl), hB, ?_⟩
  ·
    simp only [eBase] at hB
    obtain ⟨b0, _⟩ := hB
    simp only [eJ0]
    refine ⟨?_, ?_, ?_, ?_, ?_, ?_, ?_, ?_, ?_, ?_, ?_, ?_, ?_, trivial⟩
    all_goals (try simp only [e0, e1, e2, e3, e4, e5, e6, e7, e8, e9, e10, e11, e12, e13, e14, e15, e16, e17, e18, e19, e20, e21, e22, e23, e24, e25, e26, e27, e28, e29, e30, e31, e32, e33, e34, e35, e36, e37, e38, e39, e40, e41, e42, e43, e44, e45, e46, e47, e48, e49, e50, e51, e52, e53, e54, e55, e56, e57, e58, e59, e60, e61, e62, e63, e64, e65, e66, e67, e68, e69, e70, e71, e72, e73, e74, e75, e76, e77, e78, e79, e80, e81, e82, e83, e84, e85, e86, e87, e88, e89, e90, e91, e92, e93, e94, e95, e96, e97, e98, e99, e100, e101, e102, e103, e104, e105, e106, e107, e108, e109, e110, e111, e112, e113, e114, e115, e116, e117, e118, e119, e120, e121, e122, e123, e124, e125, e126, e127, e128, e129, e130, e131, e132, e133, e134, e135, e136, e137, e138, e139, e140, e141, e142, e143, e144, e145, e146, e147, e148, e149, e150, e151, e152, e153, e154, e155, e156, e157, e158, e159, e160, e161, e162, e163, e164, e165, e166, e167, e168, e169, e170, e171, e172, e173, e174, e175, i_v, b_bv, i_lit, b_blit, i_add, i_sub, i_mul, i_div, i_mod, i_tdiv, i_tmod, i_ite, b_ite, b_lt, b_le, b_eq, b_not, b_and, b_or, b_iff, i_sel, a_tab, i_pow2, List.getD_cons_zero, List.getD_cons_succ, decide_eq_true_eq, decide_eq_false_iff_not, Bool.and_eq_true, Bool.or_eq_true, Bool.not_eq_true', Bool.not_eq_false', Bool.and_eq_false_iff, Bool.or_eq_false_iff, Bool.not_not, ite_tt, ite_ff, iff_tt, iff_ff, a_av, a_ite, a_upd])
    all_goals first
      | omega
      | (intro j; omega)
      | (intro j; simp)
def eW (x0 : Ext) (ρ : Env) (t : LT) : Prop := LT.holds ρ (fun v _ => retTrue ρ v) (fun j' todo ρ' => (ehs[j']?.map (·.todo)) = some todo ∧ eInv x0 j' ρ' ∧ emu j' ρ' < emu 0 ρ) t
end Go.Proofs.Ytjegnoknenahpaa.VramScripts
