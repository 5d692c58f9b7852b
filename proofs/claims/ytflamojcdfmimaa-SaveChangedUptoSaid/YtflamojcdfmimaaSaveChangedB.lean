/- A part of the law SaveChanged, which returns true for every input. Saved bytes of which any one byte is changed, or some are left out at the end, or more stand behind, are refused. Where what comes in is of bulk at most 1048576. No condition. -/
import Derived.Test.YtflamojcdfmimaaSaveChanged0
namespace Go.Proofs.Ytflamojcdfmimaa.SaveChanged
open Go.Sx Go.ChangeShapes Go.WideShapes Go.ChangeAt Go.RowKit
set_option linter.unusedVariables false
set_option linter.unusedSimpArgs false
set_option maxRecDepth 100000
def eV (x0 : Ext) (Y0 : Nat → Ext) (x2 : Ext) (n u r s q a b c d f g h : Int) (A B C F K L M N : Nat → Int) : Env := (⟨[n, u, r, s, q, a, b, c, d, f, g, h], [], [A, B, C, F, K, L, M, N], [], Iv (fun i j => match i, j with | 0, 0 => x0 | 1, j => Y0 j | 2, 0 => x2 | _, _ => Ext.none)⟩ : Env)
theorem m0 {α : Type} {P : α → Prop} : ∀ p ∈ ([] : List α), P p := fun _ h => by cases h
theorem m1 {α : Type} {P : α → Prop} {a : α} {l : List α} (h : P a) (t : ∀ p ∈ l, P p) : ∀ p ∈ a :: l, P p := List.forall_mem_cons.2 ⟨h, t⟩
theorem sm : (∀ (ρ : Env) (n : Nat), E.i ρ (.v n) = ρ.i.getD n 0) ∧ (∀ (ρ : Env) (z : Int), E.i ρ (.lit z) = z) ∧ (∀ (ρ : Env) (a b : E), E.i ρ (.add a b) = E.i ρ a + E.i ρ b) ∧ (∀ (ρ : Env) (a b : E), E.i ρ (.sub a b) = E.i ρ a - E.i ρ b) ∧ (∀ (ρ : Env) (a b : E), E.i ρ (.mul a b) = E.i ρ a * E.i ρ b) ∧ (∀ (ρ : Env) (a b : E), E.i ρ (.mod a b) = E.i ρ a % E.i ρ b) ∧ (∀ (ρ : Env) (a b : E), E.i ρ (.sel a b) = E.a ρ a (E.i ρ b).toNat) ∧ (∀ (ρ : Env) (c a b : E), E.i ρ (.ite c a b) = if E.b ρ c = true then E.i ρ a else E.i ρ b) ∧ (∀ (ρ : Env) (n : Nat), E.a ρ (.av n) = ρ.a.getD n (fun _ => 0)) ∧ (∀ (ρ : Env) (l : List Int) (j : Nat), E.a ρ (.tab l) j = l.getD j 0) ∧ (∀ (ρ : Env) (a i x : E) (j : Nat), E.a ρ (.upd a i x) j = if j = (E.i ρ i).toNat then E.i ρ x else E.a ρ a j) ∧ (∀ (ρ : Env) (a b : E), E.b ρ (.lt a b) = decide (E.i ρ a < E.i ρ b)) ∧ (∀ (ρ : Env) (a b : E), E.b ρ (.le a b) = decide (E.i ρ a ≤ E.i ρ b)) ∧ (∀ (ρ : Env) (a b : E), E.b ρ (.eq a b) = decide (E.i ρ a = E.i ρ b)) ∧ (∀ (ρ : Env) (a b : E), E.b ρ (.or a b) = (E.b ρ a || E.b ρ b)) ∧ (∀ (ρ : Env) (a b : E), E.b ρ (.and a b) = (E.b ρ a && E.b ρ b)) ∧ (∀ (ρ : Env) (a : E), E.b ρ (.not a) = !(E.b ρ a)) ∧ (∀ (ρ : Env) (z : Bool), E.b ρ (.blit z) = z) := by
  refine ⟨?_, ?_, ?_, ?_, ?_, ?_, ?_, ?_, ?_, ?_, ?_, ?_, ?_, ?_, ?_, ?_, ?_, ?_⟩ <;> intros <;> first | rfl | exact i_ite _ _ _ _ | simp [a_upd]
theorem sn : (∀ (x d : Int) (l : List Int), (x :: l).getD 0 d = x) ∧ (∀ (x d : Int) (l : List Int) (n : Nat), (x :: l).getD (n + 1) d = l.getD n d) ∧ (∀ (x d : Nat → Int) (l : List (Nat → Int)), (x :: l).getD 0 d = x) ∧ (∀ (x d : Nat → Int) (l : List (Nat → Int)) (n : Nat), (x :: l).getD (n + 1) d = l.getD n d) ∧ (∀ (d : Int) (n : Nat), ([] : List Int).getD n d = d) ∧ (∀ p q : Bool, ((p || q) = true) = (p = true ∨ q = true)) ∧ (∀ p q : Bool, ((p && q) = true) = (p = true ∧ q = true)) ∧ (∀ p : Bool, ((!p) = true) = (p = false)) ∧ (∀ p : Bool, ((!p) = false) = (p = true)) ∧ (∀ p q : Bool, ((p || q) = false) = (p = false ∧ q = false)) ∧ (∀ (p : Prop) [Decidable p], (decide p = true) = p) ∧ (∀ (p : Prop) [Decidable p], (decide p = false) = ¬ p) ∧ Int.toNat 0 = 0 ∧ Int.toNat 1 = 1 ∧ Int.toNat 2 = 2 := by
  refine ⟨fun _ _ _ => rfl, fun _ _ _ _ => rfl, fun _ _ _ => rfl, fun _ _ _ _ => rfl, fun _ _ => rfl, ?_, ?_, ?_, ?_, ?_, ?_, ?_, rfl, rfl, rfl⟩ <;> intros <;> simp
theorem sxx : (∀ (ρ : Env) (o : BinOp) (k : IntKind) (a b : E), E.i ρ (.bits o k a b) = bitsInt o k (E.i ρ a) (E.i ρ b)) ∧ (∀ (ρ : Env) (a b : E), E.i ρ (.div a b) = E.i ρ a / E.i ρ b) ∧ (∀ (ρ : Env) (A i n B j : E) (k : Nat), E.a ρ (.blt A i n B j) k = if (E.i ρ i).toNat ≤ k ∧ k < (E.i ρ i).toNat + (E.i ρ n).toNat then E.a ρ B (k - (E.i ρ i).toNat + (E.i ρ j).toNat) else E.a ρ A k) ∧ (3 : Int).toNat = 3 ∧ (4 : Int).toNat = 4 ∧ (5 : Int).toNat = 5 ∧ (6 : Int).toNat = 6 ∧ (7 : Int).toNat = 7 ∧ (8 : Int).toNat = 8 ∧ (9 : Int).toNat = 9 ∧ (10 : Int).toNat = 10 ∧ (11 : Int).toNat = 11 ∧ (12 : Int).toNat = 12 ∧ (13 : Int).toNat = 13 :=
  ⟨fun _ _ _ _ _ => rfl, fun _ _ _ => rfl, fun _ _ _ _ _ _ _ => rfl, rfl, rfl, rfl, rfl, rfl, rfl, rfl, rfl, rfl, rfl, rfl⟩
def shf (Z : Nat → Int) : Nat → Int := fun k => Z (k + 13)
theorem step_inj (s t c : Int) (hs : 0 ≤ s ∧ s ≤ 4294967295) (ht : 0 ≤ t ∧ t ≤ 4294967295) (h : (s * 31 + c + 7) % 4294967296 = (t * 31 + c + 7) % 4294967296) : s = t := by omega
theorem sum_cut (n : Nat) (Z W : Nat → Int) (h : ∀ k, k < n → W k = Z (k + 13)) : sumF n W = sumF n (shf Z) := sumF_congr n (fun j hj => h j hj)
theorem sum_ne (at_ : Nat) (Z : Nat → Int) (x : Int) (hx : 0 ≤ x ∧ x ≤ 255) (hz : 0 ≤ Z (at_ + 13) ∧ Z (at_ + 13) ≤ 255) (hne : x ≠ Z (at_ + 13)) :
    ∀ n : Nat, at_ < n → sumF n (shf fun j => if j = at_ + 13 then x else Z j) ≠ sumF n (shf Z) := by
  intro n
  induction n with
  | zero => intro h; omega
  | succ n ih =>
    intro hn
    have r1 := sumF_rng n (shf fun j => if j = at_ + 13 then x else Z j)
    have r2 := sumF_rng n (shf Z)
    rw [sumF_succ, sumF_succ]
    have far : ∀ j, j ≠ at_ → shf (fun j => if j = at_ + 13 then x else Z j) j = shf Z j := fun j hj => by
      show (if j + 13 = at_ + 13 then x else Z (j + 13)) = Z (j + 13)
      rw [if_neg (by omega)]
    by_cases hk : n = at_
    · subst hk
      have e : sumF n (shf fun j => if j = n + 13 then x else Z j) = sumF n (shf Z) := sumF_congr n fun j hj => far j (by omega)
      rw [e]
      have e2 : shf (fun j => if j = n + 13 then x else Z j) n = x := by
        show (if n + 13 = n + 13 then x else Z (n + 13)) = x
        rw [if_pos rfl]
      have e3 : shf Z n = Z (n + 13) := rfl
      rw [e2, e3]
      omega
    · have := ih (by omega)
      rw [far n hk]
      intro h
      exact this (step_inj _ _ _ r1 r2 h)
theorem xor_ne (a b : Int) (ha : 0 ≤ a ∧ a ≤ 255) (hb : 1 ≤ b ∧ b ≤ 255) : bitsInt .xor .u8 a b ≠ a ∧ 0 ≤ bitsInt .xor .u8 a b ∧ bitsInt .xor .u8 a b ≤ 255 := by
  obtain ⟨x, rfl⟩ := Int.eq_ofNat_of_zero_le ha.1
  obtain ⟨y, rfl⟩ := Int.eq_ofNat_of_zero_le (show 0 ≤ b by omega)
  have hx : x < 256 := by omega
  have hy : y < 256 := by omega
  have e : bitsInt .xor .u8 (x : Int) (y : Int) = ((BitVec.ofNat 8 x ^^^ BitVec.ofNat 8 y).toNat : Int) := by
    have h := (BitVec.ofNat 8 x ^^^ BitVec.ofNat 8 y).isLt
    show IntKind.wrap .u8 (((BitVec.ofInt 8 (x : Int) ^^^ BitVec.ofInt 8 (y : Int)).toNat : Nat) : Int) = _
    rw [BitVec.ofInt_natCast, BitVec.ofInt_natCast]
    generalize (BitVec.ofNat 8 x ^^^ BitVec.ofNat 8 y).toNat = q at *
    have h2 : q < 256 := h
    show (q : Int) % 256 = q
    omega
  rw [e]
  have h := (BitVec.ofNat 8 x ^^^ BitVec.ofNat 8 y).isLt
  refine ⟨fun hh => ?_, by omega, by omega⟩
  have h2 : (BitVec.ofNat 8 x ^^^ BitVec.ofNat 8 y).toNat = x := by omega
  have h3 : BitVec.ofNat 8 x ^^^ BitVec.ofNat 8 y = BitVec.ofNat 8 x := BitVec.eq_of_toNat_eq (by rw [h2, BitVec.toNat_ofNat]; omega)
  have h4 : BitVec.ofNat 8 y = 0#8 := by
    have := congrArg (fun t => BitVec.ofNat 8 x ^^^ t) h3
    simp only [← BitVec.xor_assoc, BitVec.xor_self, BitVec.zero_xor] at this
    exact this
  have h5 := congrArg BitVec.toNat h4
  rw [BitVec.toNat_ofNat, BitVec.toNat_ofNat] at h5
  omega
theorem app_sum {ρ : Env} (hfi : ρ.I.fi = Ifi) (n A : E) : E.i ρ (.app 10 (.cons n (.cons A .nil))) = sumF (n.i ρ).toNat (A.a ρ) := by rw [i_app, hfi]; rfl
def wf (n : Int) (Z : Nat → Int) : Prop := Z 0 = 76 ∧ Z 1 = 65 ∧ Z 2 = 78 ∧ Z 3 = 84 ∧ Z 4 = 1 ∧ Z 8 * 16777216 + Z 7 * 65536 + Z 6 * 256 + Z 5 = n - 13 ∧ Z 12 * 16777216 + Z 11 * 65536 + Z 10 * 256 + Z 9 = sumF (n - 13).toNat (shf Z)
def eHy : Hyp := ⟨[((.v 4), (0, 1048575)), (.v 0, (0, 1048575)), (.v 1, (-9223372036854775808, 9223372036854775807)), (.v 2, (0, 255)), (.v 3, (-9223372036854775808, 9223372036854775807)), (.v 4, (0, 9223372036854775807))], [(0, (-9223372036854775808, 9223372036854775807)), (1, (-9223372036854775808, 9223372036854775807)), (2, (0, 1048575)), (3, (0, 255)), (4, (0, 255))], [(10, (0, 4294967295))], [], [], [(0, ⟨.v 0, [(some .i64, .av 0), (some .i64, .av 1)], [(1, .av 2, .av 3)]⟩), (2, ⟨.v 4, [(some .u8, .av 4)], []⟩)]⟩
def eLs : List SV := [.s (.xslc 0 (.lit 0) (.lit 0) (.v 0)), .agg [.one (.int .i64 (.v 1)), .one (.int .u8 (.v 2)), .one (.int .i64 (.v 3)), .one (.xslc 2 (.lit 0) (.lit 0) (.v 4))]]
def e0 : E := .upd (.tab []) (.lit 0) (.lit 76)
def e1 : E := .upd e0 (.lit 1) (.lit 65)
def e2 : E := .upd e1 (.lit 2) (.lit 78)
def e3 : E := .upd e2 (.lit 3) (.lit 84)
def e4 : E := .upd e3 (.lit 4) (.lit 1)
def e5 : E := .upd e4 (.lit 5) (.lit 8)
def e6 : E := .upd e5 (.lit 6) (.lit 0)
def e7 : E := .upd e6 (.lit 7) (.lit 0)
def e8 : E := .upd e7 (.lit 8) (.lit 0)
def e9 : E := .upd (.tab []) (.lit 0) (.lit 7)
def e10 : E := .upd e9 (.lit 1) (.lit 9)
def e11 : E := .upd e10 (.lit 2) (.lit 2)
def e12 : E := .upd e11 (.lit 3) (.lit 0)
def e13 : E := .upd e12 (.lit 4) (.lit 0)
def e14 : E := .upd e13 (.lit 5) (.lit 0)
def e15 : E := .upd e14 (.lit 6) (.lit 2)
def e16 : E := .upd e15 (.lit 7) (.lit 1)
def e17 : E := .app 10 (.cons (.lit 8) (.cons e16 .nil))
def e18 : E := .mod e17 (.lit 256)
def e19 : E := .upd e8 (.lit 9) e18
def e20 : E := .div e17 (.lit 256)
def e21 : E := .mod e20 (.lit 256)
def e22 : E := .upd e19 (.lit 10) e21
def e23 : E := .div e17 (.lit 65536)
def e24 : E := .mod e23 (.lit 256)
def e25 : E := .upd e22 (.lit 11) e24
def e26 : E := .div e17 (.lit 16777216)
def e27 : E := .upd e25 (.lit 12) e26
def e28 : E := .blt e27 (.lit 13) (.lit 8) e16 (.lit 0)
def e29 : E := .lt (.v 8) (.v 0)
def e30 : E := .add (.v 8) (.lit 1)
def e31 : E := .upd e4 (.lit 5) (.lit 0)
def e32 : E := .upd e31 (.lit 6) (.lit 0)
def e33 : E := .upd e32 (.lit 7) (.lit 0)
def e34 : E := .upd e33 (.lit 8) (.lit 0)
def e35 : E := .app 10 (.cons (.lit 0) (.cons (.tab []) .nil))
def e36 : E := .mod e35 (.lit 256)
def e37 : E := .upd e34 (.lit 9) e36
def e38 : E := .div e35 (.lit 256)
def e39 : E := .mod e38 (.lit 256)
def e40 : E := .upd e37 (.lit 10) e39
def e41 : E := .div e35 (.lit 65536)
def e42 : E := .mod e41 (.lit 256)
def e43 : E := .upd e40 (.lit 11) e42
def e44 : E := .div e35 (.lit 16777216)
def e45 : E := .upd e43 (.lit 12) e44
def e46 : E := .sel (.av 0) (.v 8)
def e47 : E := .sel (.av 1) (.v 8)
def e48 : E := .mod e47 (.lit 256)
def e49 : E := .upd (.tab []) (.lit 0) e48
def e50 : E := .div e47 (.lit 256)
def e51 : E := .mod e50 (.lit 256)
def e52 : E := .upd e49 (.lit 1) e51
def e53 : E := .div e47 (.lit 65536)
def e54 : E := .mod e53 (.lit 256)
def e55 : E := .upd e52 (.lit 2) e54
def e56 : E := .div e47 (.lit 16777216)
def e57 : E := .mod e56 (.lit 256)
def e58 : E := .upd e55 (.lit 3) e57
def e59 : E := .div e47 (.lit 4294967296)
def e60 : E := .mod e59 (.lit 256)
def e61 : E := .upd e58 (.lit 4) e60
def e62 : E := .div e47 (.lit 1099511627776)
def e63 : E := .mod e62 (.lit 256)
def e64 : E := .upd e61 (.lit 5) e63
def e65 : E := .div e47 (.lit 281474976710656)
def e66 : E := .mod e65 (.lit 256)
def e67 : E := .upd e64 (.lit 6) e66
def e68 : E := .div e47 (.lit 72057594037927936)
def e69 : E := .mod e68 (.lit 256)
def e70 : E := .upd e67 (.lit 7) e69
def e71 : E := .mod e47 (.lit 2)
def e72 : E := .upd (.tab []) (.lit 0) e71
def e73 : E := .sel (.av 2) (.v 8)
def e74 : E := .add e73 (.lit 4)
def e75 : E := .mod e73 (.lit 256)
def e76 : E := .upd (.tab []) (.lit 0) e75
def e77 : E := .div e73 (.lit 256)
def e78 : E := .mod e77 (.lit 256)
def e79 : E := .upd e76 (.lit 1) e78
def e80 : E := .div e73 (.lit 65536)
def e81 : E := .upd e79 (.lit 2) e80
def e82 : E := .upd e81 (.lit 3) (.lit 0)
def e83 : E := .mul (.v 8) (.lit 18446744073709551616)
def e84 : E := .blt (.tab []) (.lit 0) e73 (.av 3) e83
def e85 : E := .blt e82 (.lit 4) e73 e84 (.lit 0)
def e86 : E := .upd e49 (.lit 1) (.lit 0)
def e87 : E := .upd e86 (.lit 2) (.lit 0)
def e88 : E := .upd e87 (.lit 3) (.lit 0)
def e89 : E := .upd e88 (.lit 4) (.lit 0)
def e90 : E := .upd (.tab []) (.lit 0) (.lit 5)
def e91 : E := .lt (.v 5) (.v 0)
def e92 : E := .add (.v 5) (.lit 1)
def e93 : E := .app 10 (.cons (.v 6) (.cons (.av 5) .nil))
def e94 : E := .mod (.v 6) (.lit 256)
def e95 : E := .upd e4 (.lit 5) e94
def e96 : E := .div (.v 6) (.lit 256)
def e97 : E := .mod e96 (.lit 256)
def e98 : E := .upd e95 (.lit 6) e97
def e99 : E := .div (.v 6) (.lit 65536)
def e100 : E := .upd e98 (.lit 7) e99
def e101 : E := .upd e100 (.lit 8) (.lit 0)
def e102 : E := .mod e93 (.lit 256)
def e103 : E := .upd e101 (.lit 9) e102
def e104 : E := .div e93 (.lit 256)
def e105 : E := .mod e104 (.lit 256)
def e106 : E := .upd e103 (.lit 10) e105
def e107 : E := .div e93 (.lit 65536)
def e108 : E := .mod e107 (.lit 256)
def e109 : E := .upd e106 (.lit 11) e108
def e110 : E := .div e93 (.lit 16777216)
def e111 : E := .upd e109 (.lit 12) e110
def e112 : E := .blt e111 (.lit 13) (.v 6) (.av 5) (.lit 0)
def e113 : E := .blt (.tab []) (.lit 0) (.v 6) e112 (.lit 13)
def e114 : E := .app 10 (.cons (.v 6) (.cons e113 .nil))
def e115 : E := .eq e93 e114
def e116 : E := .not e115
def e117 : E := .add (.v 6) (.lit 13)
def e118 : E := .sel (.av 0) (.v 5)
def e119 : E := .add (.v 6) (.lit 1)
def e120 : E := .sel (.av 1) (.v 5)
def e121 : E := .mod e120 (.lit 256)
def e122 : E := .upd (.av 5) (.v 6) e121
def e123 : E := .add (.v 6) (.lit 2)
def e124 : E := .div e120 (.lit 256)
def e125 : E := .mod e124 (.lit 256)
def e126 : E := .upd e122 e119 e125
def e127 : E := .add (.v 6) (.lit 4)
def e128 : E := .div e120 (.lit 65536)
def e129 : E := .mod e128 (.lit 256)
def e130 : E := .upd e126 e123 e129
def e131 : E := .add (.v 6) (.lit 3)
def e132 : E := .div e120 (.lit 16777216)
def e133 : E := .mod e132 (.lit 256)
def e134 : E := .upd e130 e131 e133
def e135 : E := .add (.v 6) (.lit 8)
def e136 : E := .div e120 (.lit 4294967296)
def e137 : E := .mod e136 (.lit 256)
def e138 : E := .upd e134 e127 e137
def e139 : E := .add (.v 6) (.lit 5)
def e140 : E := .div e120 (.lit 1099511627776)
def e141 : E := .mod e140 (.lit 256)
def e142 : E := .upd e138 e139 e141
def e143 : E := .add (.v 6) (.lit 6)
def e144 : E := .div e120 (.lit 281474976710656)
def e145 : E := .mod e144 (.lit 256)
def e146 : E := .upd e142 e143 e145
def e147 : E := .add (.v 6) (.lit 7)
def e148 : E := .div e120 (.lit 72057594037927936)
def e149 : E := .mod e148 (.lit 256)
def e150 : E := .upd e146 e147 e149
def e151 : E := .mod e120 (.lit 2)
def e152 : E := .upd (.av 5) (.v 6) e151
def e153 : E := .sel (.av 2) (.v 5)
def e154 : E := .add (.v 6) e153
def e155 : E := .add e154 (.lit 4)
def e156 : E := .add e153 (.lit 4)
def e157 : E := .mod e153 (.lit 256)
def e158 : E := .upd (.tab []) (.lit 0) e157
def e159 : E := .div e153 (.lit 256)
def e160 : E := .mod e159 (.lit 256)
def e161 : E := .upd e158 (.lit 1) e160
def e162 : E := .div e153 (.lit 65536)
def e163 : E := .upd e161 (.lit 2) e162
def e164 : E := .upd e163 (.lit 3) (.lit 0)
def e165 : E := .mul (.v 5) (.lit 18446744073709551616)
def e166 : E := .blt (.tab []) (.lit 0) e153 (.av 3) e165
def e167 : E := .blt e164 (.lit 4) e153 e166 (.lit 0)
def e168 : E := .blt (.av 5) (.v 6) e156 e167 (.lit 0)
def e169 : E := .add (.v 7) (.lit 1)
def e170 : E := .upd e122 e119 (.lit 0)
def e171 : E := .upd e170 e123 (.lit 0)
def e172 : E := .upd e171 e131 (.lit 0)
def e173 : E := .upd e172 e127 (.lit 0)
def e174 : E := .upd (.av 6) (.v 7) e139
def e175 : E := .add (.v 7) (.lit (-1))
def e176 : E := .sel (.av 6) e175
def e177 : E := .add e176 (.lit (-4))
def e178 : E := .le (.lit 0) e177
def e179 : E := .le e177 (.lit (-1))
def e180 : E := .le e176 (.v 6)
def e181 : E := .or e179 e180
def e182 : E := .sub (.v 6) e176
def e183 : E := .mod e182 (.lit 256)
def e184 : E := .upd (.av 5) e177 e183
def e185 : E := .add e176 (.lit (-3))
def e186 : E := .div e182 (.lit 256)
def e187 : E := .mod e186 (.lit 256)
def e188 : E := .upd e184 e185 e187
def e189 : E := .add e176 (.lit (-2))
def e190 : E := .div e182 (.lit 65536)
def e191 : E := .mod e190 (.lit 256)
def e192 : E := .upd e188 e189 e191
def e193 : E := .add e176 (.lit (-1))
def e194 : E := .div e182 (.lit 16777216)
def e195 : E := .mod e194 (.lit 256)
def e196 : E := .upd e192 e193 e195
def e197 : E := .lt (.v 1) (.v 10)
def e198 : E := .sel (.av 7) (.v 1)
def e199 : E := .bits .xor .u8 e198 (.v 2)
def e200 : E := .eq e199 (.lit 76)
def e201 : E := .not e200
def e202 : E := .sel (.av 7) (.lit 1)
def e203 : E := .eq e202 (.lit 65)
def e204 : E := .not e203
def e205 : E := .or e201 e204
def e206 : E := .sel (.av 7) (.lit 2)
def e207 : E := .eq e206 (.lit 78)
def e208 : E := .not e207
def e209 : E := .or e205 e208
def e210 : E := .sel (.av 7) (.lit 3)
def e211 : E := .eq e210 (.lit 84)
def e212 : E := .not e211
def e213 : E := .or e209 e212
def e214 : E := .sel (.av 7) (.lit 4)
def e215 : E := .eq e214 (.lit 1)
def e216 : E := .not e215
def e217 : E := .sel (.av 7) (.lit 8)
def e218 : E := .mul e217 (.lit 16777216)
def e219 : E := .sel (.av 7) (.lit 7)
def e220 : E := .mul e219 (.lit 65536)
def e221 : E := .add e218 e220
def e222 : E := .sel (.av 7) (.lit 6)
def e223 : E := .mul e222 (.lit 256)
def e224 : E := .add e221 e223
def e225 : E := .sel (.av 7) (.lit 5)
def e226 : E := .add e224 e225
def e227 : E := .add (.v 10) (.lit (-13))
def e228 : E := .eq e226 e227
def e229 : E := .not e228
def e230 : E := .sel (.av 7) (.lit 12)
def e231 : E := .mul e230 (.lit 16777216)
def e232 : E := .sel (.av 7) (.lit 11)
def e233 : E := .mul e232 (.lit 65536)
def e234 : E := .add e231 e233
def e235 : E := .sel (.av 7) (.lit 10)
def e236 : E := .mul e235 (.lit 256)
def e237 : E := .add e234 e236
def e238 : E := .sel (.av 7) (.lit 9)
def e239 : E := .add e237 e238
def e240 : E := .upd (.av 7) (.v 1) e199
def e241 : E := .blt (.tab []) (.lit 0) e227 e240 (.lit 13)
def e242 : E := .app 10 (.cons e227 (.cons e241 .nil))
def e243 : E := .eq e239 e242
def e244 : E := .not e243
def e245 : E := .eq e199 (.lit 65)
def e246 : E := .not e245
def e247 : E := .sel (.av 7) (.lit 0)
def e248 : E := .eq e247 (.lit 76)
def e249 : E := .not e248
def e250 : E := .or e246 e249
def e251 : E := .or e250 e208
def e252 : E := .or e251 e212
def e253 : E := .eq e199 (.lit 78)
def e254 : E := .not e253
def e255 : E := .or e254 e249
def e256 : E := .or e255 e204
def e257 : E := .or e256 e212
def e258 : E := .eq e199 (.lit 84)
def e259 : E := .not e258
def e260 : E := .or e259 e249
def e261 : E := .or e260 e204
def e262 : E := .or e261 e208
def e263 : E := .or e249 e204
def e264 : E := .or e263 e208
def e265 : E := .or e264 e212
def e266 : E := .eq e199 (.lit 1)
def e267 : E := .not e266
def e268 : E := .add e224 e199
def e269 : E := .eq e268 e227
def e270 : E := .not e269
def e271 : E := .mul e199 (.lit 256)
def e272 : E := .add e221 e271
def e273 : E := .add e272 e225
def e274 : E := .eq e273 e227
def e275 : E := .not e274
def e276 : E := .mul e199 (.lit 65536)
def e277 : E := .add e218 e276
def e278 : E := .add e277 e223
def e279 : E := .add e278 e225
def e280 : E := .eq e279 e227
def e281 : E := .not e280
def e282 : E := .mul e199 (.lit 16777216)
def e283 : E := .add e282 e220
def e284 : E := .add e283 e223
def e285 : E := .add e284 e225
def e286 : E := .eq e285 e227
def e287 : E := .not e286
def e288 : E := .add e237 e199
def e289 : E := .eq e288 e242
def e290 : E := .not e289
def e291 : E := .add e234 e271
def e292 : E := .add e291 e238
def e293 : E := .eq e292 e242
def e294 : E := .not e293
def e295 : E := .add e231 e276
def e296 : E := .add e295 e236
def e297 : E := .add e296 e238
def e298 : E := .eq e297 e242
def e299 : E := .not e298
def e300 : E := .add e282 e233
def e301 : E := .add e300 e236
def e302 : E := .add e301 e238
def e303 : E := .eq e302 e242
def e304 : E := .not e303
def e305 : E := .eq e226 (.lit 0)
def e306 : E := .not e305
def e307 : E := .eq e239 e35
def e308 : E := .not e307
def e309 : E := .eq e268 (.lit 0)
def e310 : E := .not e309
def e311 : E := .eq e273 (.lit 0)
def e312 : E := .not e311
def e313 : E := .eq e279 (.lit 0)
def e314 : E := .not e313
def e315 : E := .eq e285 (.lit 0)
def e316 : E := .not e315
def e317 : E := .eq e288 e35
def e318 : E := .not e317
def e319 : E := .eq e292 e35
def e320 : E := .not e319
def e321 : E := .eq e297 e35
def e322 : E := .not e321
def e323 : E := .eq e302 e35
def e324 : E := .not e323
def e325 : E := .le (.v 3) (.v 10)
def e326 : E := .sub (.v 10) (.v 3)
def e327 : E := .le e326 (.v 10)
def e328 : E := .add e326 (.lit (-13))
def e329 : E := .eq e226 e328
def e330 : E := .not e329
def e331 : E := .blt (.tab []) (.lit 0) e328 (.av 7) (.lit 13)
def e332 : E := .app 10 (.cons e328 (.cons e331 .nil))
def e333 : E := .eq e239 e332
def e334 : E := .not e333
def e335 : E := .add (.v 10) (.v 4)
def e336 : E := .blt (.av 7) (.v 10) (.v 4) (.av 4) (.lit 0)
def e337 : E := .add e335 (.lit (-13))
def e338 : E := .eq e226 e337
def e339 : E := .not e338
def e340 : E := .blt (.tab []) (.lit 0) e337 e336 (.lit 13)
def e341 : E := .app 10 (.cons e337 (.cons e340 .nil))
def e342 : E := .eq e239 e341
def e343 : E := .not e342
theorem nd : e0 = (.upd (.tab []) (.lit 0) (.lit 76)) ∧ e1 = (.upd e0 (.lit 1) (.lit 65)) ∧ e2 = (.upd e1 (.lit 2) (.lit 78)) ∧ e3 = (.upd e2 (.lit 3) (.lit 84)) ∧ e4 = (.upd e3 (.lit 4) (.lit 1)) ∧ e5 = (.upd e4 (.lit 5) (.lit 8)) ∧ e6 = (.upd e5 (.lit 6) (.lit 0)) ∧ e7 = (.upd e6 (.lit 7) (.lit 0)) ∧ e8 = (.upd e7 (.lit 8) (.lit 0)) ∧ e9 = (.upd (.tab []) (.lit 0) (.lit 7)) ∧ e10 = (.upd e9 (.lit 1) (.lit 9)) ∧ e11 = (.upd e10 (.lit 2) (.lit 2)) ∧ e12 = (.upd e11 (.lit 3) (.lit 0)) ∧ e13 = (.upd e12 (.lit 4) (.lit 0)) ∧ e14 = (.upd e13 (.lit 5) (.lit 0)) ∧ e15 = (.upd e14 (.lit 6) (.lit 2)) ∧ e16 = (.upd e15 (.lit 7) (.lit 1)) ∧ e18 = (.mod e17 (.lit 256)) ∧ e19 = (.upd e8 (.lit 9) e18) ∧ e20 = (.div e17 (.lit 256)) ∧ e21 = (.mod e20 (.lit 256)) ∧ e22 = (.upd e19 (.lit 10) e21) ∧ e23 = (.div e17 (.lit 65536)) ∧ e24 = (.mod e23 (.lit 256)) ∧ e25 = (.upd e22 (.lit 11) e24) ∧ e26 = (.div e17 (.lit 16777216)) ∧ e27 = (.upd e25 (.lit 12) e26) ∧ e28 = (.blt e27 (.lit 13) (.lit 8) e16 (.lit 0)) ∧ e29 = (.lt (.v 8) (.v 0)) ∧ e30 = (.add (.v 8) (.lit 1)) ∧ e31 = (.upd e4 (.lit 5) (.lit 0)) ∧ e32 = (.upd e31 (.lit 6) (.lit 0)) ∧ e33 = (.upd e32 (.lit 7) (.lit 0)) ∧ e34 = (.upd e33 (.lit 8) (.lit 0)) ∧ e36 = (.mod e35 (.lit 256)) ∧ e37 = (.upd e34 (.lit 9) e36) ∧ e38 = (.div e35 (.lit 256)) ∧ e39 = (.mod e38 (.lit 256)) ∧ e40 = (.upd e37 (.lit 10) e39) ∧ e41 = (.div e35 (.lit 65536)) ∧ e42 = (.mod e41 (.lit 256)) ∧ e43 = (.upd e40 (.lit 11) e42) ∧ e44 = (.div e35 (.lit 16777216)) ∧ e45 = (.upd e43 (.lit 12) e44) ∧ e46 = (.sel (.av 0) (.v 8)) ∧ e47 = (.sel (.av 1) (.v 8)) ∧ e48 = (.mod e47 (.lit 256)) ∧ e49 = (.upd (.tab []) (.lit 0) e48) ∧ e50 = (.div e47 (.lit 256)) ∧ e51 = (.mod e50 (.lit 256)) ∧ e52 = (.upd e49 (.lit 1) e51) ∧ e53 = (.div e47 (.lit 65536)) ∧ e54 = (.mod e53 (.lit 256)) ∧ e55 = (.upd e52 (.lit 2) e54) ∧ e56 = (.div e47 (.lit 16777216)) ∧ e57 = (.mod e56 (.lit 256)) ∧ e58 = (.upd e55 (.lit 3) e57) ∧ e59 = (.div e47 (.lit 4294967296)) ∧ e60 = (.mod e59 (.lit 256)) ∧ e61 = (.upd e58 (.lit 4) e60) ∧ e62 = (.div e47 (.lit 1099511627776)) ∧ e63 = (.mod e62 (.lit 256)) ∧ e64 = (.upd e61 (.lit 5) e63) ∧ e65 = (.div e47 (.lit 281474976710656)) ∧ e66 = (.mod e65 (.lit 256)) ∧ e67 = (.upd e64 (.lit 6) e66) ∧ e68 = (.div e47 (.lit 72057594037927936)) ∧ e69 = (.mod e68 (.lit 256)) ∧ e70 = (.upd e67 (.lit 7) e69) ∧ e71 = (.mod e47 (.lit 2)) ∧ e72 = (.upd (.tab []) (.lit 0) e71) ∧ e73 = (.sel (.av 2) (.v 8)) ∧ e74 = (.add e73 (.lit 4)) ∧ e75 = (.mod e73 (.lit 256)) ∧ e76 = (.upd (.tab []) (.lit 0) e75) ∧ e77 = (.div e73 (.lit 256)) ∧ e78 = (.mod e77 (.lit 256)) ∧ e79 = (.upd e76 (.lit 1) e78) ∧ e80 = (.div e73 (.lit 65536)) ∧ e81 = (.upd e79 (.lit 2) e80) ∧ e82 = (.upd e81 (.lit 3) (.lit 0)) ∧ e83 = (.mul (.v 8) (.lit 18446744073709551616)) ∧ e84 = (.blt (.tab []) (.lit 0) e73 (.av 3) e83) ∧ e85 = (.blt e82 (.lit 4) e73 e84 (.lit 0)) ∧ e86 = (.upd e49 (.lit 1) (.lit 0)) ∧ e87 = (.upd e86 (.lit 2) (.lit 0)) ∧ e88 = (.upd e87 (.lit 3) (.lit 0)) ∧ e89 = (.upd e88 (.lit 4) (.lit 0)) ∧ e90 = (.upd (.tab []) (.lit 0) (.lit 5)) ∧ e91 = (.lt (.v 5) (.v 0)) ∧ e92 = (.add (.v 5) (.lit 1)) ∧ e94 = (.mod (.v 6) (.lit 256)) ∧ e95 = (.upd e4 (.lit 5) e94) ∧ e96 = (.div (.v 6) (.lit 256)) ∧ e97 = (.mod e96 (.lit 256)) ∧ e98 = (.upd e95 (.lit 6) e97) ∧ e99 = (.div (.v 6) (.lit 65536)) ∧ e100 = (.upd e98 (.lit 7) e99) ∧ e101 = (.upd e100 (.lit 8) (.lit 0)) ∧ e102 = (.mod e93 (.lit 256)) ∧ e103 = (.upd e101 (.lit 9) e102) ∧ e104 = (.div e93 (.lit 256)) ∧ e105 = (.mod e104 (.lit 256)) ∧ e106 = (.upd e103 (.lit 10) e105) ∧ e107 = (.div e93 (.lit 65536)) ∧ e108 = (.mod e107 (.lit 256)) ∧ e109 = (.upd e106 (.lit 11) e108) ∧ e110 = (.div e93 (.lit 16777216)) ∧ e111 = (.upd e109 (.lit 12) e110) ∧ e112 = (.blt e111 (.lit 13) (.v 6) (.av 5) (.lit 0)) ∧ e113 = (.blt (.tab []) (.lit 0) (.v 6) e112 (.lit 13)) ∧ e115 = (.eq e93 e114) ∧ e116 = (.not e115) ∧ e117 = (.add (.v 6) (.lit 13)) ∧ e118 = (.sel (.av 0) (.v 5)) ∧ e119 = (.add (.v 6) (.lit 1)) ∧ e120 = (.sel (.av 1) (.v 5)) ∧ e121 = (.mod e120 (.lit 256)) ∧ e122 = (.upd (.av 5) (.v 6) e121) ∧ e123 = (.add (.v 6) (.lit 2)) ∧ e124 = (.div e120 (.lit 256)) ∧ e125 = (.mod e124 (.lit 256)) ∧ e126 = (.upd e122 e119 e125) ∧ e127 = (.add (.v 6) (.lit 4)) ∧ e128 = (.div e120 (.lit 65536)) ∧ e129 = (.mod e128 (.lit 256)) ∧ e130 = (.upd e126 e123 e129) ∧ e131 = (.add (.v 6) (.lit 3)) ∧ e132 = (.div e120 (.lit 16777216)) ∧ e133 = (.mod e132 (.lit 256)) ∧ e134 = (.upd e130 e131 e133) ∧ e135 = (.add (.v 6) (.lit 8)) ∧ e136 = (.div e120 (.lit 4294967296)) ∧ e137 = (.mod e136 (.lit 256)) ∧ e138 = (.upd e134 e127 e137) ∧ e139 = (.add (.v 6) (.lit 5)) ∧ e140 = (.div e120 (.lit 1099511627776)) ∧ e141 = (.mod e140 (.lit 256)) ∧ e142 = (.upd e138 e139 e141) ∧ e143 = (.add (.v 6) (.lit 6)) ∧ e144 = (.div e120 (.lit 281474976710656)) ∧ e145 = (.mod e144 (.lit 256)) ∧ e146 = (.upd e142 e143 e145) ∧ e147 = (.add (.v 6) (.lit 7)) ∧ e148 = (.div e120 (.lit 72057594037927936)) ∧ e149 = (.mod e148 (.lit 256)) ∧ e150 = (.upd e146 e147 e149) ∧ e151 = (.mod e120 (.lit 2)) ∧ e152 = (.upd (.av 5) (.v 6) e151) ∧ e153 = (.sel (.av 2) (.v 5)) ∧ e154 = (.add (.v 6) e153) ∧ e155 = (.add e154 (.lit 4)) ∧ e156 = (.add e153 (.lit 4)) ∧ e157 = (.mod e153 (.lit 256)) ∧ e158 = (.upd (.tab []) (.lit 0) e157) ∧ e159 = (.div e153 (.lit 256)) ∧ e160 = (.mod e159 (.lit 256)) ∧ e161 = (.upd e158 (.lit 1) e160) ∧ e162 = (.div e153 (.lit 65536)) ∧ e163 = (.upd e161 (.lit 2) e162) ∧ e164 = (.upd e163 (.lit 3) (.lit 0)) ∧ e165 = (.mul (.v 5) (.lit 18446744073709551616)) ∧ e166 = (.blt (.tab []) (.lit 0) e153 (.av 3) e165) ∧ e167 = (.blt e164 (.lit 4) e153 e166 (.lit 0)) ∧ e168 = (.blt (.av 5) (.v 6) e156 e167 (.lit 0)) ∧ e169 = (.add (.v 7) (.lit 1)) ∧ e170 = (.upd e122 e119 (.lit 0)) ∧ e171 = (.upd e170 e123 (.lit 0)) ∧ e172 = (.upd e171 e131 (.lit 0)) ∧ e173 = (.upd e172 e127 (.lit 0)) ∧ e174 = (.upd (.av 6) (.v 7) e139) ∧ e175 = (.add (.v 7) (.lit (-1))) ∧ e176 = (.sel (.av 6) e175) ∧ e177 = (.add e176 (.lit (-4))) ∧ e178 = (.le (.lit 0) e177) ∧ e179 = (.le e177 (.lit (-1))) ∧ e180 = (.le e176 (.v 6)) ∧ e181 = (.or e179 e180) ∧ e182 = (.sub (.v 6) e176) ∧ e183 = (.mod e182 (.lit 256)) ∧ e184 = (.upd (.av 5) e177 e183) ∧ e185 = (.add e176 (.lit (-3))) ∧ e186 = (.div e182 (.lit 256)) ∧ e187 = (.mod e186 (.lit 256)) ∧ e188 = (.upd e184 e185 e187) ∧ e189 = (.add e176 (.lit (-2))) ∧ e190 = (.div e182 (.lit 65536)) ∧ e191 = (.mod e190 (.lit 256)) ∧ e192 = (.upd e188 e189 e191) ∧ e193 = (.add e176 (.lit (-1))) ∧ e194 = (.div e182 (.lit 16777216)) ∧ e195 = (.mod e194 (.lit 256)) ∧ e196 = (.upd e192 e193 e195) ∧ e197 = (.lt (.v 1) (.v 10)) ∧ e198 = (.sel (.av 7) (.v 1)) ∧ e199 = (.bits .xor .u8 e198 (.v 2)) ∧ e200 = (.eq e199 (.lit 76)) ∧ e201 = (.not e200) ∧ e202 = (.sel (.av 7) (.lit 1)) ∧ e203 = (.eq e202 (.lit 65)) ∧ e204 = (.not e203) ∧ e205 = (.or e201 e204) ∧ e206 = (.sel (.av 7) (.lit 2)) ∧ e207 = (.eq e206 (.lit 78)) ∧ e208 = (.not e207) ∧ e209 = (.or e205 e208) ∧ e210 = (.sel (.av 7) (.lit 3)) ∧ e211 = (.eq e210 (.lit 84)) ∧ e212 = (.not e211) ∧ e213 = (.or e209 e212) ∧ e214 = (.sel (.av 7) (.lit 4)) ∧ e215 = (.eq e214 (.lit 1)) ∧ e216 = (.not e215) ∧ e217 = (.sel (.av 7) (.lit 8)) ∧ e218 = (.mul e217 (.lit 16777216)) ∧ e219 = (.sel (.av 7) (.lit 7)) ∧ e220 = (.mul e219 (.lit 65536)) ∧ e221 = (.add e218 e220) ∧ e222 = (.sel (.av 7) (.lit 6)) ∧ e223 = (.mul e222 (.lit 256)) ∧ e224 = (.add e221 e223) ∧ e225 = (.sel (.av 7) (.lit 5)) ∧ e226 = (.add e224 e225) ∧ e227 = (.add (.v 10) (.lit (-13))) ∧ e228 = (.eq e226 e227) ∧ e229 = (.not e228) ∧ e230 = (.sel (.av 7) (.lit 12)) ∧ e231 = (.mul e230 (.lit 16777216)) ∧ e232 = (.sel (.av 7) (.lit 11)) ∧ e233 = (.mul e232 (.lit 65536)) ∧ e234 = (.add e231 e233) ∧ e235 = (.sel (.av 7) (.lit 10)) ∧ e236 = (.mul e235 (.lit 256)) ∧ e237 = (.add e234 e236) ∧ e238 = (.sel (.av 7) (.lit 9)) ∧ e239 = (.add e237 e238) ∧ e240 = (.upd (.av 7) (.v 1) e199) ∧ e241 = (.blt (.tab []) (.lit 0) e227 e240 (.lit 13)) ∧ e243 = (.eq e239 e242) ∧ e244 = (.not e243) ∧ e245 = (.eq e199 (.lit 65)) ∧ e246 = (.not e245) ∧ e247 = (.sel (.av 7) (.lit 0)) ∧ e248 = (.eq e247 (.lit 76)) ∧ e249 = (.not e248) ∧ e250 = (.or e246 e249) ∧ e251 = (.or e250 e208) ∧ e252 = (.or e251 e212) ∧ e253 = (.eq e199 (.lit 78)) ∧ e254 = (.not e253) ∧ e255 = (.or e254 e249) ∧ e256 = (.or e255 e204) ∧ e257 = (.or e256 e212) ∧ e258 = (.eq e199 (.lit 84)) ∧ e259 = (.not e258) ∧ e260 = (.or e259 e249) ∧ e261 = (.or e260 e204) ∧ e262 = (.or e261 e208) ∧ e263 = (.or e249 e204) ∧ e264 = (.or e263 e208) ∧ e265 = (.or e264 e212) ∧ e266 = (.eq e199 (.lit 1)) ∧ e267 = (.not e266) ∧ e268 = (.add e224 e199) ∧ e269 = (.eq e268 e227) ∧ e270 = (.not e269) ∧ e271 = (.mul e199 (.lit 256)) ∧ e272 = (.add e221 e271) ∧ e273 = (.add e272 e225) ∧ e274 = (.eq e273 e227) ∧ e275 = (.not e274) ∧ e276 = (.mul e199 (.lit 65536)) ∧ e277 = (.add e218 e276) ∧ e278 = (.add e277 e223) ∧ e279 = (.add e278 e225) ∧ e280 = (.eq e279 e227) ∧ e281 = (.not e280) ∧ e282 = (.mul e199 (.lit 16777216)) ∧ e283 = (.add e282 e220) ∧ e284 = (.add e283 e223) ∧ e285 = (.add e284 e225) ∧ e286 = (.eq e285 e227) ∧ e287 = (.not e286) ∧ e288 = (.add e237 e199) ∧ e289 = (.eq e288 e242) ∧ e290 = (.not e289) ∧ e291 = (.add e234 e271) ∧ e292 = (.add e291 e238) ∧ e293 = (.eq e292 e242) ∧ e294 = (.not e293) ∧ e295 = (.add e231 e276) ∧ e296 = (.add e295 e236) ∧ e297 = (.add e296 e238) ∧ e298 = (.eq e297 e242) ∧ e299 = (.not e298) ∧ e300 = (.add e282 e233) ∧ e301 = (.add e300 e236) ∧ e302 = (.add e301 e238) ∧ e303 = (.eq e302 e242) ∧ e304 = (.not e303) ∧ e305 = (.eq e226 (.lit 0)) ∧ e306 = (.not e305) ∧ e307 = (.eq e239 e35) ∧ e308 = (.not e307) ∧ e309 = (.eq e268 (.lit 0)) ∧ e310 = (.not e309) ∧ e311 = (.eq e273 (.lit 0)) ∧ e312 = (.not e311) ∧ e313 = (.eq e279 (.lit 0)) ∧ e314 = (.not e313) ∧ e315 = (.eq e285 (.lit 0)) ∧ e316 = (.not e315) ∧ e317 = (.eq e288 e35) ∧ e318 = (.not e317) ∧ e319 = (.eq e292 e35) ∧ e320 = (.not e319) ∧ e321 = (.eq e297 e35) ∧ e322 = (.not e321) ∧ e323 = (.eq e302 e35) ∧ e324 = (.not e323) ∧ e325 = (.le (.v 3) (.v 10)) ∧ e326 = (.sub (.v 10) (.v 3)) ∧ e327 = (.le e326 (.v 10)) ∧ e328 = (.add e326 (.lit (-13))) ∧ e329 = (.eq e226 e328) ∧ e330 = (.not e329) ∧ e331 = (.blt (.tab []) (.lit 0) e328 (.av 7) (.lit 13)) ∧ e333 = (.eq e239 e332) ∧ e334 = (.not e333) ∧ e335 = (.add (.v 10) (.v 4)) ∧ e336 = (.blt (.av 7) (.v 10) (.v 4) (.av 4) (.lit 0)) ∧ e337 = (.add e335 (.lit (-13))) ∧ e338 = (.eq e226 e337) ∧ e339 = (.not e338) ∧ e340 = (.blt (.tab []) (.lit 0) e337 e336 (.lit 13)) ∧ e342 = (.eq e239 e341) ∧ e343 = (.not e342) := ⟨rfl, rfl, rfl, rfl, rfl, rfl, rfl, rfl, rfl, rfl, rfl, rfl, rfl, rfl, rfl, rfl, rfl, rfl, rfl, rfl, rfl, rfl, rfl, rfl, rfl, rfl, rfl, rfl, rfl, rfl, rfl, rfl, rfl, rfl, rfl, rfl, rfl, rfl, rfl, rfl, rfl, rfl, rfl, rfl, rfl, rfl, rfl, rfl, rfl, rfl, rfl, rfl, rfl, rfl, rfl, rfl, rfl, rfl, rfl, rfl, rfl, rfl, rfl, rfl, rfl, rfl, rfl, rfl, rfl, rfl, rfl, rfl, rfl, rfl, rfl, rfl, rfl, rfl, rfl, rfl, rfl, rfl, rfl, rfl, rfl, rfl, rfl, rfl, rfl, rfl, rfl, rfl, rfl, rfl, rfl, rfl, rfl, rfl, rfl, rfl, rfl, rfl, rfl, rfl, rfl, rfl, rfl, rfl, rfl, rfl, rfl, rfl, rfl, rfl, rfl, rfl, rfl, rfl, rfl, rfl, rfl, rfl, rfl, rfl, rfl, rfl, rfl, rfl, rfl, rfl, rfl, rfl, rfl, rfl, rfl, rfl, rfl, rfl, rfl, rfl, rfl, rfl, rfl, rfl, rfl, rfl, rfl, rfl, rfl, rfl, rfl, rfl, rfl, rfl, rfl, rfl, rfl, rfl, rfl, rfl, rfl, rfl, rfl, rfl, rfl, rfl, rfl, rfl, rfl, rfl, rfl, rfl, rfl, rfl, rfl, rfl, rfl, rfl, rfl, rfl, rfl, rfl, rfl, rfl, rfl, rfl, rfl, rfl, rfl, rfl, rfl, rfl, rfl, rfl, rfl, rfl, rfl, rfl, rfl, rfl, rfl, rfl, rfl, rfl, rfl, rfl, rfl, rfl, rfl, rfl, rfl, rfl, rfl, rfl, rfl, rfl, rfl, rfl, rfl, rfl, rfl, rfl, rfl, rfl, rfl, rfl, rfl, rfl, rfl, rfl, rfl, rfl, rfl, rfl, rfl, rfl, rfl, rfl, rfl, rfl, rfl, rfl, rfl, rfl, rfl, rfl, rfl, rfl, rfl, rfl, rfl, rfl, rfl, rfl, rfl, rfl, rfl, rfl, rfl, rfl, rfl, rfl, rfl, rfl, rfl, rfl, rfl, rfl, rfl, rfl, rfl, rfl, rfl, rfl, rfl, rfl, rfl, rfl, rfl, rfl, rfl, rfl, rfl, rfl, rfl, rfl, rfl, rfl, rfl, rfl, rfl, rfl, rfl, rfl, rfl, rfl, rfl, rfl, rfl, rfl, rfl, rfl, rfl, rfl, rfl, rfl, rfl, rfl, rfl, rfl, rfl, rfl, rfl, rfl, rfl, rfl, rfl, rfl, rfl, rfl, rfl, rfl, rfl, rfl, rfl, rfl, rfl, rfl, rfl, rfl, rfl, rfl, rfl, rfl, rfl, rfl, rfl⟩
noncomputable def eT0 : List Item := seekS Try.prog 4 8
noncomputable def eh0 : Head := ⟨8, eT0, ⟨[((.v 4), (0, 1048575)), ((.v 0), (0, 1048575)), ((.v 1), ((-9223372036854775808), 9223372036854775807)), ((.v 2), (0, 255)), ((.v 3), ((-9223372036854775808), 9223372036854775807)), ((.v 4), (0, 9223372036854775807)), ((.v 5), (0, 1048575)), ((.v 6), (1, 2097152)), ((.v 7), (0, 16)), ((.v 8), (0, 1048575)), ((.v 9), (0, 255)), ((.v 10), (13, 2097165)), ((.v 11), (0, 255))], [(0, ((-9223372036854775808), 9223372036854775807)), (1, ((-9223372036854775808), 9223372036854775807)), (2, (0, 1048575)), (3, (0, 255)), (4, (0, 255)), (5, (0, 255)), (6, (0, 16777216)), (7, (0, 255))], [(10, (0, 4294967295))], [], [], [(0, ⟨(.v 0), [(some .i64, (.av 0)), (some .i64, (.av 1))], [(1, (.av 2), (.av 3))]⟩), (2, ⟨(.v 4), [(some .u8, (.av 4))], []⟩)]⟩, [⟨12, [], .s (.int .i64 (.v 8))⟩, ⟨11, [], .s (.ptr 1 (.lit 0))⟩, ⟨9, [], .s (.slc 0 (.lit 0) (.lit 21) (.op (.lit 0)))⟩, ⟨8, [], .s (.xslc 2 (.lit 0) (.lit 0) (.v 4))⟩, ⟨7, [], .s (.int .i64 (.v 3))⟩, ⟨6, [], .s (.int .u8 (.v 2))⟩, ⟨5, [], .s (.int .i64 (.v 1))⟩, ⟨0, [], .s (.xslc 0 (.lit 0) (.lit 0) (.v 0))⟩], [⟨5, [.run .u8 (.lit 21) e28 0], true, some 1, false⟩, ⟨69, [.one (.nilSlc), .run .i64 (.lit 16) (.tab []) 0, .one (.int .i64 (.lit 0)), .one (.int .i64 (.v 9))], true, none, false⟩]⟩
noncomputable def eT1 : List Item := eT0
noncomputable def eh1 : Head := ⟨8, eT1, ⟨[((.v 4), (0, 1048575)), ((.v 0), (0, 1048575)), ((.v 1), ((-9223372036854775808), 9223372036854775807)), ((.v 2), (0, 255)), ((.v 3), ((-9223372036854775808), 9223372036854775807)), ((.v 4), (0, 9223372036854775807)), ((.v 5), (0, 1048575)), ((.v 6), (1, 2097152)), ((.v 7), (0, 16)), ((.v 8), (0, 1048575)), ((.v 9), (0, 255)), ((.v 10), (13, 2097165)), ((.v 11), (0, 255))], [(0, ((-9223372036854775808), 9223372036854775807)), (1, ((-9223372036854775808), 9223372036854775807)), (2, (0, 1048575)), (3, (0, 255)), (4, (0, 255)), (5, (0, 255)), (6, (0, 16777216)), (7, (0, 255))], [(10, (0, 4294967295))], [], [], [(0, ⟨(.v 0), [(some .i64, (.av 0)), (some .i64, (.av 1))], [(1, (.av 2), (.av 3))]⟩), (2, ⟨(.v 4), [(some .u8, (.av 4))], []⟩)]⟩, [⟨12, [], .s (.int .i64 (.v 5))⟩, ⟨11, [], .s (.ptr 1 (.lit 0))⟩, ⟨9, [], .s (.slc 0 (.lit 0) (.lit 21) (.op (.lit 0)))⟩, ⟨8, [], .s (.xslc 2 (.lit 0) (.lit 0) (.v 4))⟩, ⟨7, [], .s (.int .i64 (.v 3))⟩, ⟨6, [], .s (.int .u8 (.v 2))⟩, ⟨5, [], .s (.int .i64 (.v 1))⟩, ⟨0, [], .s (.xslc 0 (.lit 0) (.lit 0) (.v 0))⟩], [⟨5, [.run .u8 (.lit 21) e28 0], true, some 1, false⟩, ⟨69, [.one (.slc 2 (.lit 0) (.v 6) (.op (.lit 0))), .run .i64 (.lit 16) (.av 6) 0, .one (.int .i64 (.v 7)), .one (.int .i64 (.v 11))], true, none, false⟩, ⟨5, [.run .u8 (.v 6) (.av 5) 0], true, some 1, false⟩]⟩
noncomputable def eT2 : List Item := seekS Try.prog 4 17
noncomputable def eh2 : Head := ⟨17, eT2, ⟨[((.v 4), (0, 1048575)), ((.v 0), (0, 1048575)), ((.v 1), ((-9223372036854775808), 9223372036854775807)), ((.v 2), (0, 255)), ((.v 3), ((-9223372036854775808), 9223372036854775807)), ((.v 4), (0, 9223372036854775807)), ((.v 5), (0, 1048575)), ((.v 6), (1, 2097152)), ((.v 7), (0, 16)), ((.v 8), (0, 1048575)), ((.v 9), (0, 255)), ((.v 10), (13, 2097165)), ((.v 11), (0, 255))], [(0, ((-9223372036854775808), 9223372036854775807)), (1, ((-9223372036854775808), 9223372036854775807)), (2, (0, 1048575)), (3, (0, 255)), (4, (0, 255)), (5, (0, 255)), (6, (0, 16777216)), (7, (0, 255))], [(10, (0, 4294967295))], [], [], [(0, ⟨(.v 0), [(some .i64, (.av 0)), (some .i64, (.av 1))], [(1, (.av 2), (.av 3))]⟩), (2, ⟨(.v 4), [(some .u8, (.av 4))], []⟩)]⟩, [⟨9, [], .s (.slc 0 (.lit 0) (.v 10) (.op (.lit 0)))⟩, ⟨8, [], .s (.xslc 2 (.lit 0) (.lit 0) (.v 4))⟩, ⟨7, [], .s (.int .i64 (.v 3))⟩, ⟨6, [], .s (.int .u8 (.v 2))⟩, ⟨5, [], .s (.int .i64 (.v 1))⟩], [⟨5, [.run .u8 (.v 10) (.av 7) 0], true, some 1, false⟩]⟩
noncomputable def eT3 : List Item := seekS Try.prog 4 23
noncomputable def eh3 : Head := ⟨23, eT3, ⟨[((.v 4), (0, 1048575)), ((.v 0), (0, 1048575)), ((.v 1), ((-9223372036854775808), 9223372036854775807)), ((.v 2), (0, 255)), ((.v 3), ((-9223372036854775808), 9223372036854775807)), ((.v 4), (0, 9223372036854775807)), ((.v 5), (0, 1048575)), ((.v 6), (1, 2097152)), ((.v 7), (0, 16)), ((.v 8), (0, 1048575)), ((.v 9), (0, 255)), ((.v 10), (13, 2097165)), ((.v 11), (0, 255))], [(0, ((-9223372036854775808), 9223372036854775807)), (1, ((-9223372036854775808), 9223372036854775807)), (2, (0, 1048575)), (3, (0, 255)), (4, (0, 255)), (5, (0, 255)), (6, (0, 16777216)), (7, (0, 255))], [(10, (0, 4294967295))], [], [], [(0, ⟨(.v 0), [(some .i64, (.av 0)), (some .i64, (.av 1))], [(1, (.av 2), (.av 3))]⟩), (2, ⟨(.v 4), [(some .u8, (.av 4))], []⟩)]⟩, [⟨9, [], .s (.slc 0 (.lit 0) (.v 10) (.op (.lit 0)))⟩, ⟨8, [], .s (.xslc 2 (.lit 0) (.lit 0) (.v 4))⟩, ⟨7, [], .s (.int .i64 (.v 3))⟩], [⟨5, [.run .u8 (.v 10) (.av 7) 0], true, some 1, false⟩]⟩
noncomputable def eT4 : List Item := seekS Try.prog 4 27
noncomputable def eh4 : Head := ⟨27, eT4, ⟨[((.v 4), (0, 1048575)), ((.v 0), (0, 1048575)), ((.v 1), ((-9223372036854775808), 9223372036854775807)), ((.v 2), (0, 255)), ((.v 3), ((-9223372036854775808), 9223372036854775807)), ((.v 4), (0, 9223372036854775807)), ((.v 5), (0, 1048575)), ((.v 6), (1, 2097152)), ((.v 7), (0, 16)), ((.v 8), (0, 1048575)), ((.v 9), (0, 255)), ((.v 10), (13, 2097165)), ((.v 11), (0, 255))], [(0, ((-9223372036854775808), 9223372036854775807)), (1, ((-9223372036854775808), 9223372036854775807)), (2, (0, 1048575)), (3, (0, 255)), (4, (0, 255)), (5, (0, 255)), (6, (0, 16777216)), (7, (0, 255))], [(10, (0, 4294967295))], [], [], [(0, ⟨(.v 0), [(some .i64, (.av 0)), (some .i64, (.av 1))], [(1, (.av 2), (.av 3))]⟩), (2, ⟨(.v 4), [(some .u8, (.av 4))], []⟩)]⟩, [⟨9, [], .s (.slc 0 (.lit 0) (.v 10) (.op (.lit 0)))⟩, ⟨8, [], .s (.xslc 2 (.lit 0) (.lit 0) (.v 4))⟩], [⟨5, [.run .u8 (.v 10) (.av 7) 0], true, some 1, false⟩]⟩
noncomputable def ehs : List Head := [eh0, eh1, eh2, eh3, eh4]
def eD : Dim := ⟨12, 0, 8, 5, 0, 5, 0⟩
theorem est : startL Try.prog G Gh eD ehs [17, 23, 27] 3000 0 4 eHy eLs [] = some (.jump 0 eT0 ⟨[(9, (.lit 0)), (8, (.lit 0))], [], []⟩) := by kernel_rfl
theorem ehT0 : (ehs[0]?.map (·.todo)) = some eT0 := by kernel_rfl
theorem ehT1 : (ehs[1]?.map (·.todo)) = some eT1 := by kernel_rfl
theorem ehT2 : (ehs[2]?.map (·.todo)) = some eT2 := by kernel_rfl
theorem ehT3 : (ehs[3]?.map (·.todo)) = some eT3 := by kernel_rfl
theorem ehT4 : (ehs[4]?.map (·.todo)) = some eT4 := by kernel_rfl
def eBase (x0 : Ext) (Y0 : Nat → Ext) (x2 : Ext) (n u r s q : Int) (A B C F K : Nat → Int) : Prop := (0 ≤ n ∧ n ≤ 1048575) ∧ (-9223372036854775808 ≤ u ∧ u ≤ 9223372036854775807) ∧ (0 ≤ r ∧ r ≤ 255) ∧ (-9223372036854775808 ≤ s ∧ s ≤ 9223372036854775807) ∧ (0 ≤ q ∧ q ≤ 9223372036854775807) ∧ (∀ j, -9223372036854775808 ≤ A j ∧ A j ≤ 9223372036854775807) ∧ (∀ j, -9223372036854775808 ≤ B j ∧ B j ≤ 9223372036854775807) ∧ (∀ j, 0 ≤ C j ∧ C j ≤ 1048575) ∧ (∀ j, 0 ≤ F j ∧ F j ≤ 255) ∧ (∀ j, 0 ≤ K j ∧ K j ≤ 255) ∧ n = (x0.n : Int) ∧ q = (x2.n : Int) ∧ A = xArr x0 3 0 ∧ B = xArr x0 3 1 ∧ C = nLen Y0 ∧ F = nArr Y0 ∧ K = xArr x2 1 0 ∧ (∀ k : Nat, k ≤ x0.n → pSum (nLen Y0) k ≤ 2097150) ∧ (0 ≤ (q) ∧ (q) ≤ 1048575) ∧ True
def eJ0 (n u r s q a b c d f g h : Int) (A B C F K L M N : Nat → Int) : Prop := (0 ≤ a ∧ a ≤ 1048575) ∧ (1 ≤ b ∧ b ≤ 2097152) ∧ (0 ≤ c ∧ c ≤ 16) ∧ (0 ≤ d ∧ d ≤ 1048575) ∧ (0 ≤ f ∧ f ≤ 255) ∧ (13 ≤ g ∧ g ≤ 2097165) ∧ (0 ≤ h ∧ h ≤ 255) ∧ (∀ j, 0 ≤ L j ∧ L j ≤ 255) ∧ (∀ j, 0 ≤ M j ∧ M j ≤ 16777216) ∧ (∀ j, 0 ≤ N j ∧ N j ≤ 255) ∧ True
def eJ1 (n u r s q a b c d f g h : Int) (A B C F K L M N : Nat → Int) : Prop := (0 ≤ a ∧ a ≤ 1048575) ∧ (1 ≤ b ∧ b ≤ 2097152) ∧ (0 ≤ c ∧ c ≤ 16) ∧ (0 ≤ d ∧ d ≤ 1048575) ∧ (0 ≤ f ∧ f ≤ 255) ∧ (13 ≤ g ∧ g ≤ 2097165) ∧ (0 ≤ h ∧ h ≤ 255) ∧ (∀ j, 0 ≤ L j ∧ L j ≤ 255) ∧ (∀ j, 0 ≤ M j ∧ M j ≤ 16777216) ∧ (∀ j, 0 ≤ N j ∧ N j ≤ 255) ∧ b ≤ pSum C a.toNat ∧ (∀ j : Nat, (j : Int) < c → 4 ≤ M j ∧ M j ≤ b) ∧ True
def eJ2 (n u r s q a b c d f g h : Int) (A B C F K L M N : Nat → Int) : Prop := (0 ≤ a ∧ a ≤ 1048575) ∧ (1 ≤ b ∧ b ≤ 2097152) ∧ (0 ≤ c ∧ c ≤ 16) ∧ (0 ≤ d ∧ d ≤ 1048575) ∧ (0 ≤ f ∧ f ≤ 255) ∧ (13 ≤ g ∧ g ≤ 2097165) ∧ (0 ≤ h ∧ h ≤ 255) ∧ (∀ j, 0 ≤ L j ∧ L j ≤ 255) ∧ (∀ j, 0 ≤ M j ∧ M j ≤ 16777216) ∧ (∀ j, 0 ≤ N j ∧ N j ≤ 255) ∧ wf g N ∧ True
def eJ3 (n u r s q a b c d f g h : Int) (A B C F K L M N : Nat → Int) : Prop := (0 ≤ a ∧ a ≤ 1048575) ∧ (1 ≤ b ∧ b ≤ 2097152) ∧ (0 ≤ c ∧ c ≤ 16) ∧ (0 ≤ d ∧ d ≤ 1048575) ∧ (0 ≤ f ∧ f ≤ 255) ∧ (13 ≤ g ∧ g ≤ 2097165) ∧ (0 ≤ h ∧ h ≤ 255) ∧ (∀ j, 0 ≤ L j ∧ L j ≤ 255) ∧ (∀ j, 0 ≤ M j ∧ M j ≤ 16777216) ∧ (∀ j, 0 ≤ N j ∧ N j ≤ 255) ∧ wf g N ∧ True
def eJ4 (n u r s q a b c d f g h : Int) (A B C F K L M N : Nat → Int) : Prop := (0 ≤ a ∧ a ≤ 1048575) ∧ (1 ≤ b ∧ b ≤ 2097152) ∧ (0 ≤ c ∧ c ≤ 16) ∧ (0 ≤ d ∧ d ≤ 1048575) ∧ (0 ≤ f ∧ f ≤ 255) ∧ (13 ≤ g ∧ g ≤ 2097165) ∧ (0 ≤ h ∧ h ≤ 255) ∧ (∀ j, 0 ≤ L j ∧ L j ≤ 255) ∧ (∀ j, 0 ≤ M j ∧ M j ≤ 16777216) ∧ (∀ j, 0 ≤ N j ∧ N j ≤ 255) ∧ wf g N ∧ True
def eInv (x0 : Ext) (Y0 : Nat → Ext) (x2 : Ext) : Nat → Env → Prop
  | 0, ρ => ∃ (n u r s q a b c d f g h : Int) (A B C F K L M N : Nat → Int), ρ = (eV x0 Y0 x2 n u r s q a b c d f g h A B C F K L M N) ∧ eBase x0 Y0 x2 n u r s q A B C F K ∧ eJ0 n u r s q a b c d f g h A B C F K L M N
  | 1, ρ => ∃ (n u r s q a b c d f g h : Int) (A B C F K L M N : Nat → Int), ρ = (eV x0 Y0 x2 n u r s q a b c d f g h A B C F K L M N) ∧ eBase x0 Y0 x2 n u r s q A B C F K ∧ eJ1 n u r s q a b c d f g h A B C F K L M N
  | 2, ρ => ∃ (n u r s q a b c d f g h : Int) (A B C F K L M N : Nat → Int), ρ = (eV x0 Y0 x2 n u r s q a b c d f g h A B C F K L M N) ∧ eBase x0 Y0 x2 n u r s q A B C F K ∧ eJ2 n u r s q a b c d f g h A B C F K L M N
  | 3, ρ => ∃ (n u r s q a b c d f g h : Int) (A B C F K L M N : Nat → Int), ρ = (eV x0 Y0 x2 n u r s q a b c d f g h A B C F K L M N) ∧ eBase x0 Y0 x2 n u r s q A B C F K ∧ eJ3 n u r s q a b c d f g h A B C F K L M N
  | 4, ρ => ∃ (n u r s q a b c d f g h : Int) (A B C F K L M N : Nat → Int), ρ = (eV x0 Y0 x2 n u r s q a b c d f g h A B C F K L M N) ∧ eBase x0 Y0 x2 n u r s q A B C F K ∧ eJ4 n u r s q a b c d f g h A B C F K L M N
  | _, _ => False
def emu : Nat → Env → Nat := fun j ρ => match j with | 0 => (ρ.i.getD 0 0 - ρ.i.getD 8 0).toNat + 3 | 1 => (ρ.i.getD 0 0 - ρ.i.getD 5 0).toNat + 3 | 2 => 2 | 3 => 1 | _ => 0
theorem evcS (x0 : Ext) (Y0 : Nat → Ext) (x2 : Ext) (n u r s q : Int) (A B C F K : Nat → Int) (hB : eBase x0 Y0 x2 n u r s q A B C F K) :
    LT.holds (⟨[n, u, r, s, q, 0, 1, 0, 0, 0, 13, 0], [], [A, B, C, F, K, fun _ => 0, fun _ => 0, fun _ => 0], [], Iv (fun i j => match i, j with | 0, 0 => x0 | 1, j => Y0 j | 2, 0 => x2 | _, _ => Ext.none)⟩ : Env) (fun v _ => retTrue (⟨[n, u, r, s, q, 0, 1, 0, 0, 0, 13, 0], [], [A, B, C, F, K, fun _ => 0, fun _ => 0, fun _ => 0], [], Iv (fun i j => match i, j with | 0, 0 => x0 | 1, j => Y0 j | 2, 0 => x2 | _, _ => Ext.none)⟩ : Env) v) (fun j' todo ρ' => (ehs[j']?.map (·.todo)) = some todo ∧ eInv x0 Y0 x2 j' ρ') (.jump 0 eT0 ⟨[(9, (.lit 0)), (8, (.lit 0))], [], []⟩) := by
  simp only [LT.holds, retTrue]
  refine ⟨ehT0, n, u, r, s, q, 0, 1, 0, (_root_.Go.Sx.E.i (⟨[n, u, r, s, q, 0, 1, 0, 0, 0, 13, 0], [], [A, B, C, F, K, fun _ => 0, fun _ => 0, fun _ => 0], [], Iv (fun i j => match i, j with | 0, 0 => x0 | 1, j => Y0 j | 2, 0 => x2 | _, _ => Ext.none)⟩ : Env) (.lit 0)), (_root_.Go.Sx.E.i (⟨[n, u, r, s, q, 0, 1, 0, 0, 0, 13, 0], [], [A, B, C, F, K, fun _ => 0, fun _ => 0, fun _ => 0], [], Iv (fun i j => match i, j with | 0, 0 => x0 | 1, j => Y0 j | 2, 0 => x2 | _, _ => Ext.none)⟩ : Env) (.lit 0)), 13, 0, A, B, C, F, K, fun _ => 0, fun _ => 0, fun _ => 0, (by kernel_rfl), hB, ?_⟩
  simp only [eJ0]
  refine ⟨?_, ?_, ?_, ?_, ?_, ?_, ?_, ?_, ?_, ?_, trivial⟩
  all_goals (try simp only [e0, e1, e2, e3, e4, e5, e6, e7, e8, e9, e10, e11, e12, e13, e14, e15, e16, e18, e19, e20, e21, e22, e23, e24, e25, e26, e27, e28, e29, e30, e31, e32, e33, e34, e36, e37, e38, e39, e40, e41, e42, e43, e44, e45, e46, e47, e48, e49, e50, e51, e52, e53, e54, e55, e56, e57, e58, e59, e60, e61, e62, e63, e64, e65, e66, e67, e68, e69, e70, e71, e72, e73, e74, e75, e76, e77, e78, e79, e80, e81, e82, e83, e84, e85, e86, e87, e88, e89, e90, e91, e92, e94, e95, e96, e97, e98, e99, e100, e101, e102, e103, e104, e105, e106, e107, e108, e109, e110, e111, e112, e113, e115, e116, e117, e118, e119, e120, e121, e122, e123, e124, e125, e126, e127, e128, e129, e130, e131, e132, e133, e134, e135, e136, e137, e138, e139, e140, e141, e142, e143, e144, e145, e146, e147, e148, e149, e150, e151, e152, e153, e154, e155, e156, e157, e158, e159, e160, e161, e162, e163, e164, e165, e166, e167, e168, e169, e170, e171, e172, e173, e174, e175, e176, e177, e178, e179, e180, e181, e182, e183, e184, e185, e186, e187, e188, e189, e190, e191, e192, e193, e194, e195, e196, e197, e198, e199, e200, e201, e202, e203, e204, e205, e206, e207, e208, e209, e210, e211, e212, e213, e214, e215, e216, e217, e218, e219, e220, e221, e222, e223, e224, e225, e226, e227, e228, e229, e230, e231, e232, e233, e234, e235, e236, e237, e238, e239, e240, e241, e243, e244, e245, e246, e247, e248, e249, e250, e251, e252, e253, e254, e255, e256, e257, e258, e259, e260, e261, e262, e263, e264, e265, e266, e267, e268, e269, e270, e271, e272, e273, e274, e275, e276, e277, e278, e279, e280, e281, e282, e283, e284, e285, e286, e287, e288, e289, e290, e291, e292, e293, e294, e295, e296, e297, e298, e299, e300, e301, e302, e303, e304, e305, e306, e307, e308, e309, e310, e311, e312, e313, e314, e315, e316, e317, e318, e319, e320, e321, e322, e323, e324, e325, e326, e327, e328, e329, e330, e331, e333, e334, e335, e336, e337, e338, e339, e340, e342, e343, i_v, i_lit, i_add, i_sub, i_sel, a_av, a_tab, a_upd, b_le, decide_eq_true_eq, List.getD_cons_zero, List.getD_cons_succ])
  all_goals first
    | omega
    | (intro j; omega)
def eW0 (x0 : Ext) (Y0 : Nat → Ext) (x2 : Ext) (ρ : Env) (t : LT) : Prop := LT.holds ρ (fun v _ => retTrue ρ v) (fun j' todo ρ' => (ehs[j']?.map (·.todo)) = some todo ∧ eInv x0 Y0 x2 j' ρ' ∧ emu j' ρ' < emu 0 ρ) t
def eW1 (x0 : Ext) (Y0 : Nat → Ext) (x2 : Ext) (ρ : Env) (t : LT) : Prop := LT.holds ρ (fun v _ => retTrue ρ v) (fun j' todo ρ' => (ehs[j']?.map (·.todo)) = some todo ∧ eInv x0 Y0 x2 j' ρ' ∧ emu j' ρ' < emu 1 ρ) t
def eW2 (x0 : Ext) (Y0 : Nat → Ext) (x2 : Ext) (ρ : Env) (t : LT) : Prop := LT.holds ρ (fun v _ => retTrue ρ v) (fun j' todo ρ' => (ehs[j']?.map (·.todo)) = some todo ∧ eInv x0 Y0 x2 j' ρ' ∧ emu j' ρ' < emu 2 ρ) t
def eW3 (x0 : Ext) (Y0 : Nat → Ext) (x2 : Ext) (ρ : Env) (t : LT) : Prop := LT.holds ρ (fun v _ => retTrue ρ v) (fun j' todo ρ' => (ehs[j']?.map (·.todo)) = some todo ∧ eInv x0 Y0 x2 j' ρ' ∧ emu j' ρ' < emu 3 ρ) t
def eW4 (x0 : Ext) (Y0 : Nat → Ext) (x2 : Ext) (ρ : Env) (t : LT) : Prop := LT.holds ρ (fun v _ => retTrue ρ v) (fun j' todo ρ' => (ehs[j']?.map (·.todo)) = some todo ∧ eInv x0 Y0 x2 j' ρ' ∧ emu j' ρ' < emu 4 ρ) t
end Go.Proofs.Ytflamojcdfmimaa.SaveChanged
