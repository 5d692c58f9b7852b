/- A part of the law VramRows, which returns true for every input. Words that are written one behind the other are read in the same order from the same address. No condition. -/
import Derived.Test.YtjegnoknenahpaaVramRows0
namespace Go.Proofs.Ytjegnoknenahpaa.VramRows
open Go.Sx Go.ChangeShapes Go.WideShapes Go.ChangeAt Go.RowKit
set_option linter.unusedVariables false
set_option linter.unusedSimpArgs false
set_option maxRecDepth 100000
namespace E10
def sx (y : Int) : Int := if y ≤ 1 then y else y + 1
def sl (y : Int) : Int := if y = 1 then 0 else y
def tu (u : Int) : Int := (u / 256 * 256 + u % 32 * 8 + u / 32 % 8) % 32768
theorem kA (a : Int) : (a / 256 * 256 + a % 32 * 8 + a / 32 % 8) % 32768 = a / 256 % 128 * 256 + a % 32 * 8 + a / 32 % 8 := by omega
theorem kB (a : Int) : a % 32768 = a / 256 % 128 * 256 + a / 32 % 8 * 32 + a % 32 := by omega
theorem kC (a1 a2 : Int) : (a1 / 256 * 256 + a1 % 32 * 8 + a1 / 32 % 8) % 32768 = (a2 / 256 * 256 + a2 % 32 * 8 + a2 / 32 % 8) % 32768 ↔ a1 % 32768 = a2 % 32768 := by
  rw [kA, kA, kB a1, kB a2]
  have := Int.emod_nonneg a1 (show (32:Int) ≠ 0 by decide); have := Int.emod_lt_of_pos a1 (show (0:Int) < 32 by decide)
  have := Int.emod_nonneg a2 (show (32:Int) ≠ 0 by decide); have := Int.emod_lt_of_pos a2 (show (0:Int) < 32 by decide)
  have := Int.emod_nonneg (a1/32) (show (8:Int) ≠ 0 by decide); have := Int.emod_lt_of_pos (a1/32) (show (0:Int) < 8 by decide)
  have := Int.emod_nonneg (a2/32) (show (8:Int) ≠ 0 by decide); have := Int.emod_lt_of_pos (a2/32) (show (0:Int) < 8 by decide)
  generalize a1 / 256 % 128 = P at *
  generalize a2 / 256 % 128 = R at *
  generalize a1 % 32 = l at *
  generalize a2 % 32 = m at *
  generalize a1 / 32 % 8 = h at *
  generalize a2 / 32 % 8 = i at *
  constructor <;> intro hh <;> omega
theorem tuC (a1 a2 : Int) : tu a1 = tu a2 ↔ a1 % 32768 = a2 % 32768 := kC a1 a2
theorem tuR (u : Int) : 0 ≤ tu u ∧ tu u < 32768 := by unfold tu; omega
theorem tuN {a i j : Int} (h : tu ((a + i * 1) % 65536) = tu ((a + j * 1) % 65536)) (hi : 0 ≤ i ∧ i < 256) (hj : 0 ≤ j ∧ j < 256) : i = j := by
  have := (tuC _ _).1 h; omega
theorem tuI {a i j : Int} (hne : i ≠ j) (hi : 0 ≤ i ∧ i < 256) (hj : 0 ≤ j ∧ j < 256) : (tu ((a + i * 1) % 65536)).toNat ≠ (tu ((a + j * 1) % 65536)).toNat := by
  intro h
  have h1 := tuR ((a + i * 1) % 65536); have h2 := tuR ((a + j * 1) % 65536)
  exact hne (tuN (a := a) (by omega) hi hj)
def eHy : Hyp := ⟨[(.v 0, (0, 255)), (.v 1, (0, 65535)), (.v 2, (0, 9223372036854775807)), ((.mod (.v 0) (.lit 4)), (0, 0)), ((.mod (.div (.v 0) (.lit 4)) (.lit 4)), (1, 1))], [(0, (0, 65535))], [], [], [], [(0, ⟨.v 2, [(some .u16, .av 0)]⟩)]⟩
def eLs : List SV := [.s (.int .u8 (.v 0)), .s (.int .u16 (.v 1)), .s (.xslc 0 (.lit 0) (.lit 0) (.v 2))]
def e0 : E := .mod (.v 0) (.lit 4)
def e1 : E := .div (.v 0) (.lit 4)
def e2 : E := .mod e1 (.lit 4)
def e3 : E := .le (.v 2) (.lit 256)
def e4 : E := .ite e3 (.v 2) (.lit 256)
def e5 : E := .mod (.v 0) (.lit 128)
def e6 : E := .add e5 (.lit 128)
def e7 : E := .mod (.v 1) (.lit 256)
def e8 : E := .div (.v 1) (.lit 256)
def e9 : E := .mul e8 (.lit 256)
def e10 : E := .add e7 e9
def e11 : E := .lt (.v 3) e4
def e12 : E := .lt (.v 3) (.v 2)
def e13 : E := .add (.v 4) (.lit 1)
def e14 : E := .mod e13 (.lit 65536)
def e15 : E := .add (.v 3) (.lit 1)
def e16 : E := .div (.v 4) (.lit 256)
def e17 : E := .mul e16 (.lit 256)
def e18 : E := .mod (.v 4) (.lit 32)
def e19 : E := .mul e18 (.lit 8)
def e20 : E := .add e17 e19
def e21 : E := .div (.v 4) (.lit 32)
def e22 : E := .mod e21 (.lit 8)
def e23 : E := .add e20 e22
def e24 : E := .mod e23 (.lit 32768)
def e25 : E := .sel (.av 0) (.v 3)
def e26 : E := .mod e25 (.lit 256)
def e27 : E := .div e25 (.lit 256)
def e28 : E := .mul e27 (.lit 256)
def e29 : E := .add e26 e28
def e30 : E := .upd (.av 1) e24 e29
def e31 : E := .mod (.v 1) (.lit 32)
def e32 : E := .mul e31 (.lit 8)
def e33 : E := .add e9 e32
def e34 : E := .div (.v 1) (.lit 32)
def e35 : E := .mod e34 (.lit 8)
def e36 : E := .add e33 e35
def e37 : E := .mod e36 (.lit 32768)
def e38 : E := .sel (.av 1) e37
def e39 : E := .lt (.v 6) e4
def e40 : E := .lt (.v 6) (.v 2)
def e41 : E := .eq (.v 6) (.lit 1)
def e42 : E := .div (.v 7) (.lit 256)
def e43 : E := .mul e42 (.lit 256)
def e44 : E := .mod (.v 7) (.lit 32)
def e45 : E := .mul e44 (.lit 8)
def e46 : E := .add e43 e45
def e47 : E := .div (.v 7) (.lit 32)
def e48 : E := .mod e47 (.lit 8)
def e49 : E := .add e46 e48
def e50 : E := .mod e49 (.lit 32768)
def e51 : E := .sel (.av 2) e50
def e52 : E := .ite e41 e51 (.v 5)
def e53 : E := .mod e52 (.lit 256)
def e54 : E := .div e52 (.lit 256)
def e55 : E := .mul e54 (.lit 256)
def e56 : E := .add e53 e55
def e57 : E := .sel (.av 0) (.v 6)
def e58 : E := .eq e56 e57
def e59 : E := .not e58
def e60 : E := .add (.v 7) (.lit 1)
def e61 : E := .mod e60 (.lit 65536)
def e62 : E := .ite e41 e61 (.v 7)
def e63 : E := .add e62 (.lit 1)
def e64 : E := .mod e63 (.lit 65536)
def e65 : E := .div e62 (.lit 256)
def e66 : E := .mul e65 (.lit 256)
def e67 : E := .mod e62 (.lit 32)
def e68 : E := .mul e67 (.lit 8)
def e69 : E := .add e66 e68
def e70 : E := .div e62 (.lit 32)
def e71 : E := .mod e70 (.lit 8)
def e72 : E := .add e69 e71
def e73 : E := .mod e72 (.lit 32768)
def e74 : E := .sel (.av 2) e73
def e75 : E := .add (.v 6) (.lit 1)
noncomputable def eT0 : List Item := todoS Try.prog G Gh [] 3000 0 4 eHy eLs [] 10
noncomputable def eh0 : Head := ⟨10, eT0, ⟨[((.v 0), (0, 255)), ((.v 1), (0, 65535)), ((.v 2), (0, 9223372036854775807)), (e0, (0, 0)), (e2, (1, 1)), ((.v 3), (0, 256)), ((.v 4), (0, 65535)), ((.v 5), (0, 65535)), ((.v 6), (0, 256)), ((.v 7), (0, 65535))], [(0, (0, 65535)), (1, (0, 65535)), (2, (0, 65535))], [], [], [], [(0, ⟨(.v 2), [(some .u16, (.av 0))]⟩)]⟩, [⟨8, [], .s (.int .i64 (.v 3))⟩, ⟨2, [], .s (.xslc 0 (.lit 0) (.lit 0) e4)⟩, ⟨7, [], .s (.ptr 0 (.lit 0))⟩, ⟨1, [], .s (.int .u16 (.v 1))⟩], [⟨75, [.run .u16 (.lit 32768) (.av 1) 0, .run .u8 (.lit 544) (.tab []) 0, .run .u16 (.lit 256) (.tab []) 0, .one (.int .u16 (.lit 0)), .one (.bool (.blit false)), .one (.int .u16 (.lit 0)), .one (.int .u8 (.lit 0)), .one (.int .u8 e6), .one (.int .u16 (.v 4)), .one (.int .u16 (.lit 0)), .one (.int .u16 (.lit 0)), .one (.int .u8 (.lit 0))], true, none, false⟩]⟩
noncomputable def eT1 : List Item := todoH Try.prog G Gh [] 3000 0 4 eh0 17
noncomputable def eh1 : Head := ⟨17, eT1, ⟨[((.v 0), (0, 255)), ((.v 1), (0, 65535)), ((.v 2), (0, 9223372036854775807)), (e0, (0, 0)), (e2, (1, 1)), ((.v 3), (0, 256)), ((.v 4), (0, 65535)), ((.v 5), (0, 65535)), ((.v 6), (0, 256)), ((.v 7), (0, 65535))], [(0, (0, 65535)), (1, (0, 65535)), (2, (0, 65535))], [], [], [], [(0, ⟨(.v 2), [(some .u16, (.av 0))]⟩)]⟩, [⟨9, [], .s (.int .i64 (.v 6))⟩, ⟨2, [], .s (.xslc 0 (.lit 0) (.lit 0) e4)⟩, ⟨7, [], .s (.ptr 0 (.lit 0))⟩], [⟨75, [.run .u16 (.lit 32768) (.av 2) 0, .run .u8 (.lit 544) (.tab []) 0, .run .u16 (.lit 256) (.tab []) 0, .one (.int .u16 (.lit 0)), .one (.bool (.blit false)), .one (.int .u16 (.lit 0)), .one (.int .u8 (.lit 0)), .one (.int .u8 e6), .one (.int .u16 (.v 7)), .one (.int .u16 (.v 5)), .one (.int .u16 (.lit 0)), .one (.int .u8 (.lit 0))], true, none, false⟩]⟩
noncomputable def ehs : List Head := [eh0, eh1]
def eD : Dim := ⟨8, 0, 3, 3, 0, 1, 0⟩
theorem est : startL Try.prog G Gh eD ehs [] 3000 0 4 eHy eLs [] = some (.jump 0 eT0 ⟨[(4, e10), (3, (.lit 0))], [], [(1, (.tab []))]⟩) := by kernel_rfl
theorem esg0 : segL Try.prog G Gh eD ehs [] 3000 0 4 eh0 = some (.ite e11 (.need e11 (.need e12 (.need e12 (.need e11 (.need e12 (.need e12 (.jump 0 eT0 ⟨[(4, e14), (3, e15)], [], [(1, e30)]⟩))))))) (.jump 1 eT1 ⟨[(5, e38), (7, e10), (6, (.lit 0))], [], [(2, (.av 1))]⟩)) := by kernel_rfl
theorem esg1 : segL Try.prog G Gh eD ehs [] 3000 0 4 eh1 = some (.ite e39 (.need e39 (.need e40 (.need e40 (.ite e59 (.ret (.s (.bool (.blit false))) [⟨75, [.run .u16 (.lit 32768) (.av 2) 0, .run .u8 (.lit 544) (.tab []) 0, .run .u16 (.lit 256) (.tab []) 0, .one (.int .u16 (.lit 0)), .one (.bool (.blit false)), .one (.int .u16 (.lit 0)), .one (.int .u8 (.lit 0)), .one (.int .u8 e6), .one (.int .u16 e64), .one (.int .u16 e74), .one (.int .u16 (.lit 0)), .one (.int .u8 (.lit 0))], true, none, false⟩]) (.jump 1 eT1 ⟨[(5, e74), (7, e64), (6, e75)], [], [(2, (.av 2))]⟩))))) (.ret (.s (.bool (.blit true))) [⟨75, [.run .u16 (.lit 32768) (.av 2) 0, .run .u8 (.lit 544) (.tab []) 0, .run .u16 (.lit 256) (.tab []) 0, .one (.int .u16 (.lit 0)), .one (.bool (.blit false)), .one (.int .u16 (.lit 0)), .one (.int .u8 (.lit 0)), .one (.int .u8 e6), .one (.int .u16 (.v 7)), .one (.int .u16 (.v 5)), .one (.int .u16 (.lit 0)), .one (.int .u8 (.lit 0))], true, none, false⟩])) := by kernel_rfl
theorem ehT0 : (ehs[0]?.map (·.todo)) = some eT0 := by kernel_rfl
theorem ehT1 : (ehs[1]?.map (·.todo)) = some eT1 := by kernel_rfl
def eBase (x0 : Ext) (a0 a1 nx0 : Int) (Ax0 : Nat → Int) : Prop := (0 ≤ a0 ∧ a0 ≤ 255) ∧ (0 ≤ a1 ∧ a1 ≤ 65535) ∧ (0 ≤ nx0 ∧ nx0 ≤ 9223372036854775807) ∧ (∀ j, 0 ≤ Ax0 j ∧ Ax0 j ≤ 65535) ∧ nx0 = (x0.n : Int) ∧ Ax0 = xArr x0 1 0 ∧ (a0) % 4 = 0 ∧ (a0) / 4 % 4 = 1 ∧ True
def eJ0 (a0 a1 nx0 y3 y4 y5 y6 y7 : Int) (Ax0 Z1 Z2 : Nat → Int) : Prop := (0 ≤ y3 ∧ y3 ≤ 256) ∧ (0 ≤ y4 ∧ y4 ≤ 65535) ∧ (0 ≤ y5 ∧ y5 ≤ 65535) ∧ (0 ≤ y6 ∧ y6 ≤ 256) ∧ (0 ≤ y7 ∧ y7 ≤ 65535) ∧ (∀ j, 0 ≤ Z1 j ∧ Z1 j ≤ 65535) ∧ (∀ j, 0 ≤ Z2 j ∧ Z2 j ≤ 65535) ∧ y4 = (a1 + y3 * 1) % 65536 ∧ (∀ j : Nat, (j : Int) < y3 → Z1 (tu ((a1 + j * 1) % 65536)).toNat = Ax0 j) ∧ True
def eJ1 (a0 a1 nx0 y3 y4 y5 y6 y7 : Int) (Ax0 Z1 Z2 : Nat → Int) : Prop := (0 ≤ y3 ∧ y3 ≤ 256) ∧ (0 ≤ y4 ∧ y4 ≤ 65535) ∧ (0 ≤ y5 ∧ y5 ≤ 65535) ∧ (0 ≤ y6 ∧ y6 ≤ 256) ∧ (0 ≤ y7 ∧ y7 ≤ 65535) ∧ (∀ j, 0 ≤ Z1 j ∧ Z1 j ≤ 65535) ∧ (∀ j, 0 ≤ Z2 j ∧ Z2 j ≤ 65535) ∧ y7 = (a1 + sx y6 * 1) % 65536 ∧ y5 = Z2 (tu ((a1 + sl y6 * 1) % 65536)).toNat ∧ (∀ j : Nat, (j : Int) < 256 → (j : Int) < nx0 → Z2 (tu ((a1 + j * 1) % 65536)).toNat = Ax0 j) ∧ True
def eInv (x0 : Ext) : Nat → Env → Prop
  | 0, ρ => ∃ (a0 a1 nx0 y3 y4 y5 y6 y7 : Int) (Ax0 Z1 Z2 : Nat → Int), ρ = (⟨[a0, a1, nx0, y3, y4, y5, y6, y7], [], [Ax0, Z1, Z2], [], Iv (fun i j => match i, j with | 0, 0 => x0 | _, _ => Ext.none)⟩ : Env) ∧ eBase x0 a0 a1 nx0 Ax0 ∧ eJ0 a0 a1 nx0 y3 y4 y5 y6 y7 Ax0 Z1 Z2
  | 1, ρ => ∃ (a0 a1 nx0 y3 y4 y5 y6 y7 : Int) (Ax0 Z1 Z2 : Nat → Int), ρ = (⟨[a0, a1, nx0, y3, y4, y5, y6, y7], [], [Ax0, Z1, Z2], [], Iv (fun i j => match i, j with | 0, 0 => x0 | _, _ => Ext.none)⟩ : Env) ∧ eBase x0 a0 a1 nx0 Ax0 ∧ eJ1 a0 a1 nx0 y3 y4 y5 y6 y7 Ax0 Z1 Z2
  | _, _ => False
def emu : Nat → Env → Nat := fun j ρ => match j with | 0 => 1000 + (300 - ρ.i.getD 3 0).toNat | _ => (300 - ρ.i.getD 6 0).toNat
theorem evc0 (x0 : Ext) (a0 a1 nx0 y3 y4 y5 y6 y7 : Int) (Ax0 Z1 Z2 : Nat → Int) (hB : eBase x0 a0 a1 nx0 Ax0) (hJ : eJ0 a0 a1 nx0 y3 y4 y5 y6 y7 Ax0 Z1 Z2) :
    LT.holds (⟨[a0, a1, nx0, y3, y4, y5, y6, y7], [], [Ax0, Z1, Z2], [], Iv (fun i j => match i, j with | 0, 0 => x0 | _, _ => Ext.none)⟩ : Env) (fun v _ => retTrue (⟨[a0, a1, nx0, y3, y4, y5, y6, y7], [], [Ax0, Z1, Z2], [], Iv (fun i j => match i, j with | 0, 0 => x0 | _, _ => Ext.none)⟩ : Env) v) (fun j' todo ρ' => (ehs[j']?.map (·.todo)) = some todo ∧ eInv x0 j' ρ' ∧ emu j' ρ' < emu 0 (⟨[a0, a1, nx0, y3, y4, y5, y6, y7], [], [Ax0, Z1, Z2], [], Iv (fun i j => match i, j with | 0, 0 => x0 | _, _ => Ext.none)⟩ : Env)) (.ite e11 (.need e11 (.need e12 (.need e12 (.need e11 (.need e12 (.need e12 (.jump 0 eT0 ⟨[(4, e14), (3, e15)], [], [(1, e30)]⟩))))))) (.jump 1 eT1 ⟨[(5, e38), (7, e10), (6, (.lit 0))], [], [(2, (.av 1))]⟩)) := by
  simp only [LT.holds, retTrue]
  refine ⟨fun hc0 => ?_, fun hc0 => ?_⟩
  ·
    refine ⟨?_, fun hc1 => ?_⟩
    ·
      simp only [eBase] at hB
      obtain ⟨b0, b1, b2, bA, bn, bx, c1, c2, _⟩ := hB
      simp only [eJ0] at hJ
      obtain ⟨l3, l4, l5, l6, l7, mZ1, mZ2, i0, i1, _⟩ := hJ
      simp only [e3, e4, e11, e12, i_v, b_bv, i_lit, b_blit, i_add, i_sub, i_mul, i_div, i_mod, i_tdiv, i_tmod, i_ite, b_ite, b_lt, b_le, b_eq, b_not, b_and, b_or, b_iff, i_sel, a_tab, i_pow2, List.getD_cons_zero, List.getD_cons_succ, decide_eq_true_eq, decide_eq_false_iff_not, Bool.and_eq_true, Bool.or_eq_true, Bool.not_eq_true', Bool.not_eq_false', Bool.and_eq_false_iff, Bool.or_eq_false_iff, Bool.not_not, ite_tt, ite_ff, iff_tt, iff_ff, a_av, a_ite, a_upd] at hc0 ⊢
      split at hc0 <;> first | omega | (split <;> omega)
    ·
      refine ⟨?_, fun hc2 => ?_⟩
      ·
        simp only [eBase] at hB
        obtain ⟨b0, b1, b2, bA, bn, bx, c1, c2, _⟩ := hB
        simp only [eJ0] at hJ
        obtain ⟨l3, l4, l5, l6, l7, mZ1, mZ2, i0, i1, _⟩ := hJ
        simp only [e3, e4, e11, e12, i_v, b_bv, i_lit, b_blit, i_add, i_sub, i_mul, i_div, i_mod, i_tdiv, i_tmod, i_ite, b_ite, b_lt, b_le, b_eq, b_not, b_and, b_or, b_iff, i_sel, a_tab, i_pow2, List.getD_cons_zero, List.getD_cons_succ, decide_eq_true_eq, decide_eq_false_iff_not, Bool.and_eq_true, Bool.or_eq_true, Bool.not_eq_true', Bool.not_eq_false', Bool.and_eq_false_iff, Bool.or_eq_false_iff, Bool.not_not, ite_tt, ite_ff, iff_tt, iff_ff, a_av, a_ite, a_upd] at hc0 ⊢
        split at hc0 <;> first | omega | (split <;> omega)
      ·
        refine ⟨?_, fun hc3 => ?_⟩
        ·
          simp only [eBase] at hB
          obtain ⟨b0, b1, b2, bA, bn, bx, c1, c2, _⟩ := hB
          simp only [eJ0] at hJ
          obtain ⟨l3, l4, l5, l6, l7, mZ1, mZ2, i0, i1, _⟩ := hJ
          simp only [e3, e4, e11, e12, i_v, b_bv, i_lit, b_blit, i_add, i_sub, i_mul, i_div, i_mod, i_tdiv, i_tmod, i_ite, b_ite, b_lt, b_le, b_eq, b_not, b_and, b_or, b_iff, i_sel, a_tab, i_pow2, List.getD_cons_zero, List.getD_cons_succ, decide_eq_true_eq, decide_eq_false_iff_not, Bool.and_eq_true, Bool.or_eq_true, Bool.not_eq_true', Bool.not_eq_false', Bool.and_eq_false_iff, Bool.or_eq_false_iff, Bool.not_not, ite_tt, ite_ff, iff_tt, iff_ff, a_av, a_ite, a_upd] at hc0 ⊢
          split at hc0 <;> first | omega | (split <;> omega)
        ·
          refine ⟨?_, fun hc4 => ?_⟩
          ·
            simp only [eBase] at hB
            obtain ⟨b0, b1, b2, bA, bn, bx, c1, c2, _⟩ := hB
            simp only [eJ0] at hJ
            obtain ⟨l3, l4, l5, l6, l7, mZ1, mZ2, i0, i1, _⟩ := hJ
            simp only [e3, e4, e11, e12, i_v, b_bv, i_lit, b_blit, i_add, i_sub, i_mul, i_div, i_mod, i_tdiv, i_tmod, i_ite, b_ite, b_lt, b_le, b_eq, b_not, b_and, b_or, b_iff, i_sel, a_tab, i_pow2, List.getD_cons_zero, List.getD_cons_succ, decide_eq_true_eq, decide_eq_false_iff_not, Bool.and_eq_true, Bool.or_eq_true, Bool.not_eq_true', Bool.not_eq_false', Bool.and_eq_false_iff, Bool.or_eq_false_iff, Bool.not_not, ite_tt, ite_ff, iff_tt, iff_ff, a_av, a_ite, a_upd] at hc0 ⊢
            split at hc0 <;> first | omega | (split <;> omega)
          ·
            refine ⟨?_, fun hc5 => ?_⟩
            ·
              simp only [eBase] at hB
              obtain ⟨b0, b1, b2, bA, bn, bx, c1, c2, _⟩ := hB
              simp only [eJ0] at hJ
              obtain ⟨l3, l4, l5, l6, l7, mZ1, mZ2, i0, i1, _⟩ := hJ
              simp only [e3, e4, e11, e12, i_v, b_bv, i_lit, b_blit, i_add, i_sub, i_mul, i_div, i_mod, i_tdiv, i_tmod, i_ite, b_ite, b_lt, b_le, b_eq, b_not, b_and, b_or, b_iff, i_sel, a_tab, i_pow2, List.getD_cons_zero, List.getD_cons_succ, decide_eq_true_eq, decide_eq_false_iff_not, Bool.and_eq_true, Bool.or_eq_true, Bool.not_eq_true', Bool.not_eq_false', Bool.and_eq_false_iff, Bool.or_eq_false_iff, Bool.not_not, ite_tt, ite_ff, iff_tt, iff_ff, a_av, a_ite, a_upd] at hc0 ⊢
              split at hc0 <;> first | omega | (split <;> omega)
            ·
              refine ⟨?_, fun hc6 => ?_⟩
              ·
                simp only [eBase] at hB
                obtain ⟨b0, b1, b2, bA, bn, bx, c1, c2, _⟩ := hB
                simp only [eJ0] at hJ
                obtain ⟨l3, l4, l5, l6, l7, mZ1, mZ2, i0, i1, _⟩ := hJ
                simp only [e3, e4, e11, e12, i_v, b_bv, i_lit, b_blit, i_add, i_sub, i_mul, i_div, i_mod, i_tdiv, i_tmod, i_ite, b_ite, b_lt, b_le, b_eq, b_not, b_and, b_or, b_iff, i_sel, a_tab, i_pow2, List.getD_cons_zero, List.getD_cons_succ, decide_eq_true_eq, decide_eq_false_iff_not, Bool.and_eq_true, Bool.or_eq_true, Bool.not_eq_true', Bool.not_eq_false', Bool.and_eq_false_iff, Bool.or_eq_false_iff, Bool.not_not, ite_tt, ite_ff, iff_tt, iff_ff, a_av, a_ite, a_upd] at hc0 ⊢
                split at hc0 <;> first | omega | (split <;> omega)
              ·
                refine ⟨ehT0, ⟨_, _, _, _, _, _, _, _, _, _, _, rfl, hB, ?_⟩, ?_⟩
                ·
                  simp only [eBase] at hB
                  obtain ⟨b0, b1, b2, bA, bn, bx, c1, c2, _⟩ := hB
                  simp only [eJ0] at hJ
                  obtain ⟨l3, l4, l5, l6, l7, mZ1, mZ2, i0, i1, _⟩ := hJ
                  simp only [eJ0]
                  simp only [e0, e1, e2, e3, e4, e5, e6, e7, e8, e9, e10, e11, e12, e13, e14, e15, e16, e17, e18, e19, e20, e21, e22, e23, e24, e25, e26, e27, e28, e29, e30, e31, e32, e33, e34, e35, e36, e37, e38, e39, e40, e41, e42, e43, e44, e45, e46, e47, e48, e49, e50, e51, e52, e53, e54, e55, e56, e57, e58, e59, e60, e61, e62, e63, e64, e65, e66, e67, e68, e69, e70, e71, e72, e73, e74, e75, i_v, b_bv, i_lit, b_blit, i_add, i_sub, i_mul, i_div, i_mod, i_tdiv, i_tmod, i_ite, b_ite, b_lt, b_le, b_eq, b_not, b_and, b_or, b_iff, i_sel, a_tab, i_pow2, List.getD_cons_zero, List.getD_cons_succ, decide_eq_true_eq, decide_eq_false_iff_not, Bool.and_eq_true, Bool.or_eq_true, Bool.not_eq_true', Bool.not_eq_false', Bool.and_eq_false_iff, Bool.or_eq_false_iff, Bool.not_not, ite_tt, ite_ff, iff_tt, iff_ff, a_av, a_ite, a_upd] at hc0 ⊢
                  have hlt : y3 < 256 ∧ y3 < nx0 := by split at hc0 <;> omega
                  refine ⟨by omega, by omega, l5, l6, l7, fun j => ?_, mZ2, by omega, fun j hj => ?_, trivial⟩
                  · have := mZ1 j; have := bA y3.toNat; split <;> omega
                  · by_cases e : (j : Int) = y3
                    · rw [if_pos (by rw [e, ← i0]; rfl)]
                      have e2 : y3.toNat = j := by omega
                      rw [e2]; have := bA j; omega
                    · rw [if_neg (fun h => tuI (a := a1) e (by omega) (by omega) (by rw [← i0]; exact h))]
                      exact i1 j (by omega)
                simp only [eBase] at hB
                obtain ⟨b0, b1, b2, bA, bn, bx, c1, c2, _⟩ := hB
                simp only [eJ0] at hJ
                obtain ⟨l3, l4, l5, l6, l7, mZ1, mZ2, i0, i1, _⟩ := hJ
                simp only [emu, Env.app, setAll, List.map_cons, List.map_nil, List.set, List.getD_cons_zero, List.getD_cons_succ, e0, e1, e2, e3, e4, e5, e6, e7, e8, e9, e10, e11, e12, e13, e14, e15, e16, e17, e18, e19, e20, e21, e22, e23, e24, e25, e26, e27, e28, e29, e30, e31, e32, e33, e34, e35, e36, e37, e38, e39, e40, e41, e42, e43, e44, e45, e46, e47, e48, e49, e50, e51, e52, e53, e54, e55, e56, e57, e58, e59, e60, e61, e62, e63, e64, e65, e66, e67, e68, e69, e70, e71, e72, e73, e74, e75, i_v, b_bv, i_lit, b_blit, i_add, i_sub, i_mul, i_div, i_mod, i_tdiv, i_tmod, i_ite, b_ite, b_lt, b_le, b_eq, b_not, b_and, b_or, b_iff, i_sel, a_tab, i_pow2, List.getD_cons_zero, List.getD_cons_succ, decide_eq_true_eq, decide_eq_false_iff_not, Bool.and_eq_true, Bool.or_eq_true, Bool.not_eq_true', Bool.not_eq_false', Bool.and_eq_false_iff, Bool.or_eq_false_iff, Bool.not_not, ite_tt, ite_ff, iff_tt, iff_ff, a_av, a_ite, a_upd] at hc0 ⊢
                split at hc0 <;> omega
  ·
    refine ⟨ehT1, ⟨_, _, _, _, _, _, _, _, _, _, _, rfl, hB, ?_⟩, ?_⟩
    ·
      simp only [eBase] at hB
      obtain ⟨b0, b1, b2, bA, bn, bx, c1, c2, _⟩ := hB
      simp only [eJ0] at hJ
      obtain ⟨l3, l4, l5, l6, l7, mZ1, mZ2, i0, i1, _⟩ := hJ
      simp only [eJ1]
      simp only [e0, e1, e2, e3, e4, e5, e6, e7, e8, e9, e10, e11, e12, e13, e14, e15, e16, e17, e18, e19, e20, e21, e22, e23, e24, e25, e26, e27, e28, e29, e30, e31, e32, e33, e34, e35, e36, e37, e38, e39, e40, e41, e42, e43, e44, e45, e46, e47, e48, e49, e50, e51, e52, e53, e54, e55, e56, e57, e58, e59, e60, e61, e62, e63, e64, e65, e66, e67, e68, e69, e70, e71, e72, e73, e74, e75, i_v, b_bv, i_lit, b_blit, i_add, i_sub, i_mul, i_div, i_mod, i_tdiv, i_tmod, i_ite, b_ite, b_lt, b_le, b_eq, b_not, b_and, b_or, b_iff, i_sel, a_tab, i_pow2, List.getD_cons_zero, List.getD_cons_succ, decide_eq_true_eq, decide_eq_false_iff_not, Bool.and_eq_true, Bool.or_eq_true, Bool.not_eq_true', Bool.not_eq_false', Bool.and_eq_false_iff, Bool.or_eq_false_iff, Bool.not_not, ite_tt, ite_ff, iff_tt, iff_ff, a_av, a_ite, a_upd] at hc0 ⊢
      have hlt : 256 ≤ y3 ∨ nx0 ≤ y3 := by split at hc0 <;> omega
      have ha : a1 % 256 + a1 / 256 * 256 = a1 := by omega
      have hb : a1 / 32 % 8 + a1 / 256 * 8 = a1 / 32 := by omega
      refine ⟨l3, l4, mZ1 _, by omega, by omega, mZ1, mZ1, ?_, ?_, fun j h1 h2 => i1 j (by omega), trivial⟩
      · rw [show sx 0 = 0 from rfl]; omega
      · rw [show sl 0 = 0 from rfl, show (a1 + 0 * 1) % 65536 = a1 by omega]; exact congrArg (fun z : Int => Z1 z.toNat) (by unfold tu; first | omega | (simp only [ha, hb]; done))
    simp only [eBase] at hB
    obtain ⟨b0, b1, b2, bA, bn, bx, c1, c2, _⟩ := hB
    simp only [eJ0] at hJ
    obtain ⟨l3, l4, l5, l6, l7, mZ1, mZ2, i0, i1, _⟩ := hJ
    simp only [emu, Env.app, setAll, List.map_cons, List.map_nil, List.set, List.getD_cons_zero, List.getD_cons_succ, e0, e1, e2, e3, e4, e5, e6, e7, e8, e9, e10, e11, e12, e13, e14, e15, e16, e17, e18, e19, e20, e21, e22, e23, e24, e25, e26, e27, e28, e29, e30, e31, e32, e33, e34, e35, e36, e37, e38, e39, e40, e41, e42, e43, e44, e45, e46, e47, e48, e49, e50, e51, e52, e53, e54, e55, e56, e57, e58, e59, e60, e61, e62, e63, e64, e65, e66, e67, e68, e69, e70, e71, e72, e73, e74, e75, i_v, b_bv, i_lit, b_blit, i_add, i_sub, i_mul, i_div, i_mod, i_tdiv, i_tmod, i_ite, b_ite, b_lt, b_le, b_eq, b_not, b_and, b_or, b_iff, i_sel, a_tab, i_pow2, List.getD_cons_zero, List.getD_cons_succ, decide_eq_true_eq, decide_eq_false_iff_not, Bool.and_eq_true, Bool.or_eq_true, Bool.not_eq_true', Bool.not_eq_false', Bool.and_eq_false_iff, Bool.or_eq_false_iff, Bool.not_not, ite_tt, ite_ff, iff_tt, iff_ff, a_av, a_ite, a_upd] at hc0 ⊢
    omega
theorem evc1 (x0 : Ext) (a0 a1 nx0 y3 y4 y5 y6 y7 : Int) (Ax0 Z1 Z2 : Nat → Int) (hB : eBase x0 a0 a1 nx0 Ax0) (hJ : eJ1 a0 a1 nx0 y3 y4 y5 y6 y7 Ax0 Z1 Z2) :
    LT.holds (⟨[a0, a1, nx0, y3, y4, y5, y6, y7], [], [Ax0, Z1, Z2], [], Iv (fun i j => match i, j with | 0, 0 => x0 | _, _ => Ext.none)⟩ : Env) (fun v _ => retTrue (⟨[a0, a1, nx0, y3, y4, y5, y6, y7], [], [Ax0, Z1, Z2], [], Iv (fun i j => match i, j with | 0, 0 => x0 | _, _ => Ext.none)⟩ : Env) v) (fun j' todo ρ' => (ehs[j']?.map (·.todo)) = some todo ∧ eInv x0 j' ρ' ∧ emu j' ρ' < emu 1 (⟨[a0, a1, nx0, y3, y4, y5, y6, y7], [], [Ax0, Z1, Z2], [], Iv (fun i j => match i, j with | 0, 0 => x0 | _, _ => Ext.none)⟩ : Env)) (.ite e39 (.need e39 (.need e40 (.need e40 (.ite e59 (.ret (.s (.bool (.blit false))) [⟨75, [.run .u16 (.lit 32768) (.av 2) 0, .run .u8 (.lit 544) (.tab []) 0, .run .u16 (.lit 256) (.tab []) 0, .one (.int .u16 (.lit 0)), .one (.bool (.blit false)), .one (.int .u16 (.lit 0)), .one (.int .u8 (.lit 0)), .one (.int .u8 e6), .one (.int .u16 e64), .one (.int .u16 e74), .one (.int .u16 (.lit 0)), .one (.int .u8 (.lit 0))], true, none, false⟩]) (.jump 1 eT1 ⟨[(5, e74), (7, e64), (6, e75)], [], [(2, (.av 2))]⟩))))) (.ret (.s (.bool (.blit true))) [⟨75, [.run .u16 (.lit 32768) (.av 2) 0, .run .u8 (.lit 544) (.tab []) 0, .run .u16 (.lit 256) (.tab []) 0, .one (.int .u16 (.lit 0)), .one (.bool (.blit false)), .one (.int .u16 (.lit 0)), .one (.int .u8 (.lit 0)), .one (.int .u8 e6), .one (.int .u16 (.v 7)), .one (.int .u16 (.v 5)), .one (.int .u16 (.lit 0)), .one (.int .u8 (.lit 0))], true, none, false⟩])) := by
  simp only [LT.holds, retTrue]
  refine ⟨fun hc0 => ?_, fun hc0 => ?_⟩
  ·
    refine ⟨?_, fun hc1 => ?_⟩
    ·
      simp only [eBase] at hB
      obtain ⟨b0, b1, b2, bA, bn, bx, c1, c2, _⟩ := hB
      simp only [eJ1] at hJ
      obtain ⟨l3, l4, l5, l6, l7, mZ1, mZ2, i0, i1, i2, _⟩ := hJ
      simp only [e3, e4, e39, e40, i_v, b_bv, i_lit, b_blit, i_add, i_sub, i_mul, i_div, i_mod, i_tdiv, i_tmod, i_ite, b_ite, b_lt, b_le, b_eq, b_not, b_and, b_or, b_iff, i_sel, a_tab, i_pow2, List.getD_cons_zero, List.getD_cons_succ, decide_eq_true_eq, decide_eq_false_iff_not, Bool.and_eq_true, Bool.or_eq_true, Bool.not_eq_true', Bool.not_eq_false', Bool.and_eq_false_iff, Bool.or_eq_false_iff, Bool.not_not, ite_tt, ite_ff, iff_tt, iff_ff, a_av, a_ite, a_upd] at hc0 ⊢
      split at hc0 <;> first | omega | (split <;> omega)
    ·
      refine ⟨?_, fun hc2 => ?_⟩
      ·
        simp only [eBase] at hB
        obtain ⟨b0, b1, b2, bA, bn, bx, c1, c2, _⟩ := hB
        simp only [eJ1] at hJ
        obtain ⟨l3, l4, l5, l6, l7, mZ1, mZ2, i0, i1, i2, _⟩ := hJ
        simp only [e3, e4, e39, e40, i_v, b_bv, i_lit, b_blit, i_add, i_sub, i_mul, i_div, i_mod, i_tdiv, i_tmod, i_ite, b_ite, b_lt, b_le, b_eq, b_not, b_and, b_or, b_iff, i_sel, a_tab, i_pow2, List.getD_cons_zero, List.getD_cons_succ, decide_eq_true_eq, decide_eq_false_iff_not, Bool.and_eq_true, Bool.or_eq_true, Bool.not_eq_true', Bool.not_eq_false', Bool.and_eq_false_iff, Bool.or_eq_false_iff, Bool.not_not, ite_tt, ite_ff, iff_tt, iff_ff, a_av, a_ite, a_upd] at hc0 ⊢
        split at hc0 <;> first | omega | (split <;> omega)
      ·
        refine ⟨?_, fun hc3 => ?_⟩
        ·
          simp only [eBase] at hB
          obtain ⟨b0, b1, b2, bA, bn, bx, c1, c2, _⟩ := hB
          simp only [eJ1] at hJ
          obtain ⟨l3, l4, l5, l6, l7, mZ1, mZ2, i0, i1, i2, _⟩ := hJ
          simp only [e3, e4, e39, e40, i_v, b_bv, i_lit, b_blit, i_add, i_sub, i_mul, i_div, i_mod, i_tdiv, i_tmod, i_ite, b_ite, b_lt, b_le, b_eq, b_not, b_and, b_or, b_iff, i_sel, a_tab, i_pow2, List.getD_cons_zero, List.getD_cons_succ, decide_eq_true_eq, decide_eq_false_iff_not, Bool.and_eq_true, Bool.or_eq_true, Bool.not_eq_true', Bool.not_eq_false', Bool.and_eq_false_iff, Bool.or_eq_false_iff, Bool.not_not, ite_tt, ite_ff, iff_tt, iff_ff, a_av, a_ite, a_upd] at hc0 ⊢
          split at hc0 <;> first | omega | (split <;> omega)
        ·
          refine ⟨fun hc4 => ?_, fun hc4 => ?_⟩
          ·
            simp only [eBase] at hB
            obtain ⟨b0, b1, b2, bA, bn, bx, c1, c2, _⟩ := hB
            simp only [eJ1] at hJ
            obtain ⟨l3, l4, l5, l6, l7, mZ1, mZ2, i0, i1, i2, _⟩ := hJ
            simp only [e0, e1, e2, e3, e4, e5, e6, e7, e8, e9, e10, e11, e12, e13, e14, e15, e16, e17, e18, e19, e20, e21, e22, e23, e24, e25, e26, e27, e28, e29, e30, e31, e32, e33, e34, e35, e36, e37, e38, e39, e40, e41, e42, e43, e44, e45, e46, e47, e48, e49, e50, e51, e52, e53, e54, e55, e56, e57, e58, e59, e60, e61, e62, e63, e64, e65, e66, e67, e68, e69, e70, e71, e72, e73, e74, e75, i_v, b_bv, i_lit, b_blit, i_add, i_sub, i_mul, i_div, i_mod, i_tdiv, i_tmod, i_ite, b_ite, b_lt, b_le, b_eq, b_not, b_and, b_or, b_iff, i_sel, a_tab, i_pow2, List.getD_cons_zero, List.getD_cons_succ, decide_eq_true_eq, decide_eq_false_iff_not, Bool.and_eq_true, Bool.or_eq_true, Bool.not_eq_true', Bool.not_eq_false', Bool.and_eq_false_iff, Bool.or_eq_false_iff, Bool.not_not, ite_tt, ite_ff, iff_tt, iff_ff, a_av, a_ite, a_upd] at hc0 hc4
            have hL : (if y6 = 1 then Z2 (tu y7).toNat else y5) = Ax0 y6.toNat := by
              have h6 : ((y6.toNat : Nat) : Int) = y6 := by omega
              have h9 := i2 y6.toNat (by rw [h6]; split at hc0 <;> omega) (by rw [h6]; split at hc0 <;> omega)
              rw [h6] at h9
              split
              · rename_i e1; rw [← h9, i0, e1]; rfl
              · rename_i e1; rw [← h9, i1, sl, if_neg e1]
            have hL2 : (if y6 = 1 then Z2 (tu y7).toNat else y5) % 256 + (if y6 = 1 then Z2 (tu y7).toNat else y5) / 256 * 256 = Ax0 y6.toNat := by
              rw [hL]; have := bA y6.toNat; omega
            exact absurd hL2 hc4
          ·
            refine ⟨ehT1, ⟨_, _, _, _, _, _, _, _, _, _, _, rfl, hB, ?_⟩, ?_⟩
            ·
              simp only [eBase] at hB
              obtain ⟨b0, b1, b2, bA, bn, bx, c1, c2, _⟩ := hB
              simp only [eJ1] at hJ
              obtain ⟨l3, l4, l5, l6, l7, mZ1, mZ2, i0, i1, i2, _⟩ := hJ
              simp only [eJ1]
              simp only [e0, e1, e2, e3, e4, e5, e6, e7, e8, e9, e10, e11, e12, e13, e14, e15, e16, e17, e18, e19, e20, e21, e22, e23, e24, e25, e26, e27, e28, e29, e30, e31, e32, e33, e34, e35, e36, e37, e38, e39, e40, e41, e42, e43, e44, e45, e46, e47, e48, e49, e50, e51, e52, e53, e54, e55, e56, e57, e58, e59, e60, e61, e62, e63, e64, e65, e66, e67, e68, e69, e70, e71, e72, e73, e74, e75, i_v, b_bv, i_lit, b_blit, i_add, i_sub, i_mul, i_div, i_mod, i_tdiv, i_tmod, i_ite, b_ite, b_lt, b_le, b_eq, b_not, b_and, b_or, b_iff, i_sel, a_tab, i_pow2, List.getD_cons_zero, List.getD_cons_succ, decide_eq_true_eq, decide_eq_false_iff_not, Bool.and_eq_true, Bool.or_eq_true, Bool.not_eq_true', Bool.not_eq_false', Bool.and_eq_false_iff, Bool.or_eq_false_iff, Bool.not_not, ite_tt, ite_ff, iff_tt, iff_ff, a_av, a_ite, a_upd] at hc0 ⊢
              have hlt : y6 < 256 ∧ y6 < nx0 := by split at hc0 <;> omega
              have j0 : y6 ≤ 1 → y7 = (a1 + y6 * 1) % 65536 := fun h => by rw [i0, sx, if_pos h]
              have j1 : ¬ y6 ≤ 1 → y7 = (a1 + (y6 + 1) * 1) % 65536 := fun h => by rw [i0, sx, if_neg h]
              have hw : (if y6 = 1 then (y7 + 1) % 65536 else y7) = (a1 + sl (y6 + 1) * 1) % 65536 := by
                unfold sl
                by_cases q : y6 ≤ 1
                · have := j0 q; split <;> split <;> omega
                · have := j1 q; split <;> split <;> omega
              refine ⟨l3, l4, mZ2 _, by omega, by omega, mZ1, mZ2, ?_, ?_, i2, trivial⟩
              · rw [show (if y6 = 1 then (y7 + 1) % 65536 else y7) = _ from hw]; unfold sl sx; split <;> split <;> omega
              · rw [← hw]; rfl
            simp only [eBase] at hB
            obtain ⟨b0, b1, b2, bA, bn, bx, c1, c2, _⟩ := hB
            simp only [eJ1] at hJ
            obtain ⟨l3, l4, l5, l6, l7, mZ1, mZ2, i0, i1, i2, _⟩ := hJ
            simp only [emu, Env.app, setAll, List.map_cons, List.map_nil, List.set, List.getD_cons_zero, List.getD_cons_succ, e0, e1, e2, e3, e4, e5, e6, e7, e8, e9, e10, e11, e12, e13, e14, e15, e16, e17, e18, e19, e20, e21, e22, e23, e24, e25, e26, e27, e28, e29, e30, e31, e32, e33, e34, e35, e36, e37, e38, e39, e40, e41, e42, e43, e44, e45, e46, e47, e48, e49, e50, e51, e52, e53, e54, e55, e56, e57, e58, e59, e60, e61, e62, e63, e64, e65, e66, e67, e68, e69, e70, e71, e72, e73, e74, e75, i_v, b_bv, i_lit, b_blit, i_add, i_sub, i_mul, i_div, i_mod, i_tdiv, i_tmod, i_ite, b_ite, b_lt, b_le, b_eq, b_not, b_and, b_or, b_iff, i_sel, a_tab, i_pow2, List.getD_cons_zero, List.getD_cons_succ, decide_eq_true_eq, decide_eq_false_iff_not, Bool.and_eq_true, Bool.or_eq_true, Bool.not_eq_true', Bool.not_eq_false', Bool.and_eq_false_iff, Bool.or_eq_false_iff, Bool.not_not, ite_tt, ite_ff, iff_tt, iff_ff, a_av, a_ite, a_upd] at hc0 ⊢
            split at hc0 <;> omega
  ·
    rfl
theorem evcS (x0 : Ext) (a0 a1 nx0 : Int) (Ax0 : Nat → Int) (hB : eBase x0 a0 a1 nx0 Ax0) :
    LT.holds (⟨[a0, a1, nx0, 0, 0, 0, 0, 0], [], [Ax0, fun _ => 0, fun _ => 0], [], Iv (fun i j => match i, j with | 0, 0 => x0 | _, _ => Ext.none)⟩ : Env) (fun v _ => retTrue (⟨[a0, a1, nx0, 0, 0, 0, 0, 0], [], [Ax0, fun _ => 0, fun _ => 0], [], Iv (fun i j => match i, j with | 0, 0 => x0 | _, _ => Ext.none)⟩ : Env) v) (fun j' todo ρ' => (ehs[j']?.map (·.todo)) = some todo ∧ eInv x0 j' ρ') (.jump 0 eT0 ⟨[(4, e10), (3, (.lit 0))], [], [(1, (.tab []))]⟩) := by
  simp only [LT.holds, retTrue]
  refine ⟨ehT0, _, _, _, _, _, _, _, _, _, _, _, rfl, hB, ?_⟩
  ·
    simp only [eBase] at hB
    obtain ⟨b0, b1, b2, bA, bn, bx, c1, c2, _⟩ := hB
    simp only [eJ0]
    simp only [e0, e1, e2, e3, e4, e5, e6, e7, e8, e9, e10, e11, e12, e13, e14, e15, e16, e17, e18, e19, e20, e21, e22, e23, e24, e25, e26, e27, e28, e29, e30, e31, e32, e33, e34, e35, e36, e37, e38, e39, e40, e41, e42, e43, e44, e45, e46, e47, e48, e49, e50, e51, e52, e53, e54, e55, e56, e57, e58, e59, e60, e61, e62, e63, e64, e65, e66, e67, e68, e69, e70, e71, e72, e73, e74, e75, i_v, b_bv, i_lit, b_blit, i_add, i_sub, i_mul, i_div, i_mod, i_tdiv, i_tmod, i_ite, b_ite, b_lt, b_le, b_eq, b_not, b_and, b_or, b_iff, i_sel, a_tab, i_pow2, List.getD_cons_zero, List.getD_cons_succ, decide_eq_true_eq, decide_eq_false_iff_not, Bool.and_eq_true, Bool.or_eq_true, Bool.not_eq_true', Bool.not_eq_false', Bool.and_eq_false_iff, Bool.or_eq_false_iff, Bool.not_not, ite_tt, ite_ff, iff_tt, iff_ff, a_av, a_ite, a_upd]
    exact ⟨by omega, by omega, by omega, by omega, by omega, fun j => by simp, fun j => by omega, by omega, fun j h => by omega, trivial⟩
theorem ecalls (a0 : Int) (w0 : (Lit.int .u8 a0).wf = true) (a1 : Int) (w1 : (Lit.int .u16 a1).wf = true) (x0 : Ext) (hex0 : (a0) % 4 = 0) (hex1 : (a0) / 4 % 4 = 1) (w : World) (g0 : XFit x0 w [some .u16]) :
    Calls Try.prog 4 #[.int .u8 a0, .int .u16 a1, x0.v] w fun r w' => r = .returned (.bool true) ∧ Below w.heap.size w w' := by
  have hx0 : SV.conc (⟨[a0, a1, (x0.n : Int), 0, 0, 0, 0, 0], [], [xArr x0 1 0, fun _ => 0, fun _ => 0], [], Iv (fun i j => match i, j with | 0, 0 => x0 | _, _ => Ext.none)⟩ : Env) Loc.id (.s (.xslc 0 (.lit 0) (.lit 0) (.v 2))) = x0.v := conc_ext g0 rfl rfl
  have hargs : (eLs.map (SV.conc (⟨[a0, a1, (x0.n : Int), 0, 0, 0, 0, 0], [], [xArr x0 1 0, fun _ => 0, fun _ => 0], [], Iv (fun i j => match i, j with | 0, 0 => x0 | _, _ => Ext.none)⟩ : Env) Loc.id)).toArray = #[.int .u8 a0, .int .u16 a1, x0.v] := by
    refine congrArg List.toArray ?_
    exact (cons_eq rfl (cons_eq rfl (cons_eq hx0 rfl)))
  rw [← hargs]
  have hok : Hyp.ok eHy (⟨[a0, a1, (x0.n : Int), 0, 0, 0, 0, 0], [], [xArr x0 1 0, fun _ => 0, fun _ => 0], [], Iv (fun i j => match i, j with | 0, 0 => x0 | _, _ => Ext.none)⟩ : Env) := by
    refine ⟨?_, ?_, ?_, by simp [eHy], ?_, by simp [eHy]⟩
    · intro p hp
      simp only [eHy, List.mem_cons, List.not_mem_nil, or_false] at hp
      rcases hp with rfl
      · exact xi_ok g0 rfl rfl rfl
    · intro p hp
      simp only [eHy, List.mem_cons, List.not_mem_nil, or_false] at hp
      rcases hp with rfl | rfl | rfl | rfl | rfl
      · exact bounds_u8 w0
      · exact bounds_u16 w1
      · exact xlen_rng g0
      · exact (by have hx := hex0; first | exact ⟨Int.le_of_eq hx.symm, Int.le_of_eq hx⟩ | exact hx)
      · exact (by have hx := hex1; first | exact ⟨Int.le_of_eq hx.symm, Int.le_of_eq hx⟩ | exact hx)
    · intro p hp
      simp only [eHy, List.mem_cons, List.not_mem_nil, or_false] at hp
      rcases hp with rfl
      · exact xArr_rng g0
    · simp [eHy]
  refine law_loops (D := eD) (hs := ehs) (ρ := (⟨[a0, a1, (x0.n : Int), 0, 0, 0, 0, 0], [], [xArr x0 1 0, fun _ => 0, fun _ => 0], [], Iv (fun i j => match i, j with | 0, 0 => x0 | _, _ => Ext.none)⟩ : Env)) (G_ok _) (by kernel_rfl) rfl (eInv x0 ) emu est rfl ⟨rfl, rfl, rfl⟩ hok (evcS x0 (a0) (a1) ((x0.n : Int)) (xArr x0 1 0) ⟨bounds_u8 w0, bounds_u16 w1, xlen_rng g0, xArr_rng g0, rfl, rfl, hex0, hex1, trivial⟩) ?_ w (fun i j => by rcases i with _ | i <;> rcases j with _ | j <;> first | exact Ext.none_ok _ | exact g0.ok)
  intro j h ρ hj hI hz hInv
  rcases j with _ | _ | j
  · simp only [ehs, List.getElem?_cons_zero, List.getElem?_cons_succ, Option.some.injEq] at hj; subst hj
    obtain ⟨a0, a1, nx0, y3, y4, y5, y6, y7, Ax0, Z1, Z2, rfl, hB, hJ⟩ := hInv
    refine ⟨?_, _, esg0, evc0 x0 a0 a1 nx0 y3 y4 y5 y6 y7 Ax0 Z1 Z2 hB hJ⟩
    have hB2 := hB; have hJ2 := hJ
    simp only [eBase] at hB2; simp only [eJ0] at hJ2
    obtain ⟨hb0, hb1, hb2, hb3, hn0, ha0, hex0, hex1, _⟩ := hB2
    obtain ⟨hl0, hl1, hl2, hl3, hl4, hl5, hl6, hx, _⟩ := hJ2
    refine ⟨?_, ?_, ?_, by simp [eh0], ?_, by simp [eh0]⟩
    · intro p hp
      simp only [eh0, List.mem_cons, List.not_mem_nil, or_false] at hp
      rcases hp with rfl
      · exact xi_ok g0 rfl hn0 ha0
    · intro p hp
      simp only [eh0, List.mem_cons, List.not_mem_nil, or_false] at hp
      rcases hp with rfl | rfl | rfl | rfl | rfl | rfl | rfl | rfl | rfl | rfl
      · exact hb0
      · exact hb1
      · exact hb2
      · exact (by have hx := hex0; first | exact ⟨Int.le_of_eq hx.symm, Int.le_of_eq hx⟩ | exact hx)
      · exact (by have hx := hex1; first | exact ⟨Int.le_of_eq hx.symm, Int.le_of_eq hx⟩ | exact hx)
      · exact hl0
      · exact hl1
      · exact hl2
      · exact hl3
      · exact hl4
    · intro p hp
      simp only [eh0, List.mem_cons, List.not_mem_nil, or_false] at hp
      rcases hp with rfl | rfl | rfl
      · exact hb3
      · exact hl5
      · exact hl6
    · simp [eh0]
  · simp only [ehs, List.getElem?_cons_zero, List.getElem?_cons_succ, Option.some.injEq] at hj; subst hj
    obtain ⟨a0, a1, nx0, y3, y4, y5, y6, y7, Ax0, Z1, Z2, rfl, hB, hJ⟩ := hInv
    refine ⟨?_, _, esg1, evc1 x0 a0 a1 nx0 y3 y4 y5 y6 y7 Ax0 Z1 Z2 hB hJ⟩
    have hB2 := hB; have hJ2 := hJ
    simp only [eBase] at hB2; simp only [eJ1] at hJ2
    obtain ⟨hb0, hb1, hb2, hb3, hn0, ha0, hex0, hex1, _⟩ := hB2
    obtain ⟨hl0, hl1, hl2, hl3, hl4, hl5, hl6, hx, _⟩ := hJ2
    refine ⟨?_, ?_, ?_, by simp [eh1], ?_, by simp [eh1]⟩
    · intro p hp
      simp only [eh1, List.mem_cons, List.not_mem_nil, or_false] at hp
      rcases hp with rfl
      · exact xi_ok g0 rfl hn0 ha0
    · intro p hp
      simp only [eh1, List.mem_cons, List.not_mem_nil, or_false] at hp
      rcases hp with rfl | rfl | rfl | rfl | rfl | rfl | rfl | rfl | rfl | rfl
      · exact hb0
      · exact hb1
      · exact hb2
      · exact (by have hx := hex0; first | exact ⟨Int.le_of_eq hx.symm, Int.le_of_eq hx⟩ | exact hx)
      · exact (by have hx := hex1; first | exact ⟨Int.le_of_eq hx.symm, Int.le_of_eq hx⟩ | exact hx)
      · exact hl0
      · exact hl1
      · exact hl2
      · exact hl3
      · exact hl4
    · intro p hp
      simp only [eh1, List.mem_cons, List.not_mem_nil, or_false] at hp
      rcases hp with rfl | rfl | rfl
      · exact hb3
      · exact hl5
      · exact hl6
    · simp [eh1]
  · simp [ehs] at hj
end E10
end Go.Proofs.Ytjegnoknenahpaa.VramRows
