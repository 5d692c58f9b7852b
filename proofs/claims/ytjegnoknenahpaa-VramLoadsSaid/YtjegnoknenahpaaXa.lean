/- Contracts of the loops of the memories: words as bytes, bytes as words, what may be. No condition. -/
import Derived.Test.YtjegnoknenahpaaRw
namespace Go.Proofs.Ytjegnoknenahpaa
open Go.Sx Go.ChangeShapes Go.WideShapes Go.ChangeAt Go.RowKit
set_option linter.unusedVariables false
set_option linter.unusedSimpArgs false
set_option maxRecDepth 100000
def rvH : Hyp := ⟨[(.v 0, (0, 65535)), (.v 1, (0, 65535)), (.v 2, (0, 255)), (.v 3, (0, 255)), (.v 4, (0, 65535)), (.v 5, (0, 65535)), (.v 6, (0, 65535)), (.v 7, (0, 255))], [(0, (0, 65535)), (1, (0, 255)), (2, (0, 65535))], [(10, (0, 4294967295))], [(50, (0, 255))], [], []⟩
def rvL : List SV := [.s (.slc 0 (.lit 0) (.lit 32768) (.kn (.lit 32768)))]
def rvM : Mem := [⟨75, [.run .u16 (.lit 32768) (.av 0) 0, .run .u8 (.lit 544) (.av 1) 0, .run .u16 (.lit 256) (.av 2) 0, .one (.int .u16 (.v 0)), .one (.bool (.bv 0)), .one (.int .u16 (.v 1)), .one (.int .u8 (.v 2)), .one (.int .u8 (.v 3)), .one (.int .u16 (.v 4)), .one (.int .u16 (.v 5)), .one (.int .u16 (.v 6)), .one (.int .u8 (.v 7))], true, none, false⟩]
def rvO : Mem := [⟨75, [.run .u16 (.lit 32768) (.av 0) 0, .run .u8 (.lit 544) (.av 1) 0, .run .u16 (.lit 256) (.av 2) 0, .one (.int .u16 (.v 0)), .one (.bool (.bv 0)), .one (.int .u16 (.v 1)), .one (.int .u8 (.v 2)), .one (.int .u8 (.v 3)), .one (.int .u16 (.v 4)), .one (.int .u16 (.v 5)), .one (.int .u16 (.v 6)), .one (.int .u8 (.v 7))], true, none, false⟩, ⟨5, [.run .u8 (.lit 65536) (.app 50 (.cons (.av 0) .nil)) 0], true, some 1, false⟩]
def rvN : List E := []
def rvR : SV := .s (.slc 1 (.lit 0) (.lit 65536) (.op (.lit 0)))
--SKEND
def rv0 : E := .le (.v 8) (.lit 32767)
def rv1 : E := .add (.v 9) (.lit 2)
def rv2 : E := .add (.v 8) (.lit 1)
def rv3 : E := .sel (.av 0) (.v 8)
def rv4 : E := .mod rv3 (.lit 256)
def rv5 : E := .upd (.av 3) (.v 9) rv4
def rv6 : E := .add (.v 9) (.lit 1)
def rv7 : E := .div rv3 (.lit 256)
def rv8 : E := .upd rv5 rv6 rv7
noncomputable def rvT0 : List Item := seekS Try.prog 64 4
noncomputable def rvh0 : Head := ⟨4, rvT0, ⟨[((.v 0), (0, 65535)), ((.v 1), (0, 65535)), ((.v 2), (0, 255)), ((.v 3), (0, 255)), ((.v 4), (0, 65535)), ((.v 5), (0, 65535)), ((.v 6), (0, 65535)), ((.v 7), (0, 255)), ((.v 8), (0, 32768)), ((.v 9), (0, 65536))], [(0, (0, 65535)), (1, (0, 255)), (2, (0, 65535)), (3, (0, 255))], [(10, (0, 4294967295))], [(50, (0, 255))], [], []⟩, [⟨12, [], .s (.int .i64 (.v 8))⟩, ⟨11, [], .s (.int .i64 (.lit 32768))⟩, ⟨10, [], .s (.slc 0 (.lit 0) (.lit 32768) (.kn (.lit 32768)))⟩, ⟨3, [], .s (.slc 1 (.lit 0) (.v 9) (.op (.lit 0)))⟩], [⟨75, [.run .u16 (.lit 32768) (.av 0) 0, .run .u8 (.lit 544) (.av 1) 0, .run .u16 (.lit 256) (.av 2) 0, .one (.int .u16 (.v 0)), .one (.bool (.bv 0)), .one (.int .u16 (.v 1)), .one (.int .u8 (.v 2)), .one (.int .u8 (.v 3)), .one (.int .u16 (.v 4)), .one (.int .u16 (.v 5)), .one (.int .u16 (.v 6)), .one (.int .u8 (.v 7))], true, none, false⟩, ⟨5, [.run .u8 (.v 9) (.av 3) 0], true, some 1, false⟩]⟩
noncomputable def rvhs : List Head := [rvh0]
def rvD : Dim := ⟨10, 1, 4, 8, 1, 3, 1⟩
theorem rvst : startL Try.prog S0 S0h rvD rvhs [] 3000 0 64 rvH rvL rvM = some (.jump 0 rvT0 ⟨[(9, (.lit 0)), (8, (.lit 0))], [], [(3, (.tab []))]⟩) := by kernel_rfl
theorem rvsg0 : segL Try.prog S0 S0h rvD rvhs [] 3000 0 64 rvh0 = some (.ite rv0 (.jump 0 rvT0 ⟨[(9, rv1), (8, rv2)], [], [(3, rv8)]⟩) (.ret (.s (.slc 1 (.lit 0) (.v 9) (.op (.lit 0)))) [⟨75, [.run .u16 (.lit 32768) (.av 0) 0, .run .u8 (.lit 544) (.av 1) 0, .run .u16 (.lit 256) (.av 2) 0, .one (.int .u16 (.v 0)), .one (.bool (.bv 0)), .one (.int .u16 (.v 1)), .one (.int .u8 (.v 2)), .one (.int .u8 (.v 3)), .one (.int .u16 (.v 4)), .one (.int .u16 (.v 5)), .one (.int .u16 (.v 6)), .one (.int .u8 (.v 7))], true, none, false⟩, ⟨5, [.run .u8 (.v 9) (.av 3) 0], true, some 1, false⟩])) := by kernel_rfl
def rvV (i0 i1 i2 i3 i4 i5 i6 i7 y8 y9 : Int) (b0 : Bool) (A0 A1 A2 Z3 : Nat → Int) (vs : List Value) (J : Interp) : Env := ⟨[i0, i1, i2, i3, i4, i5, i6, i7, y8, y9], [b0], [A0, A1, A2, Z3], vs, J⟩
def rvJ (i0 i1 i2 i3 i4 i5 i6 i7 y8 y9 : Int) (b0 : Bool) (A0 A1 A2 Z3 : Nat → Int) : Nat → Prop
 | 0 => (0 ≤ y8 ∧ y8 ≤ 32768) ∧ (0 ≤ y9 ∧ y9 ≤ 65536) ∧ (∀ j, 0 ≤ Z3 j ∧ Z3 j ≤ 255) ∧ y9 = 2 * y8 ∧ ∀ j : Nat, (j : Int) < 2 * y8 → Z3 j = rowB A0 j
 | _ => False
def rvmu : Nat → Env → Nat
 | 0, ρ => (32768 - ρ.i.getD 8 0).toNat
 | _, _ => 0
theorem rvok0 (i0 i1 i2 i3 i4 i5 i6 i7 y8 y9 : Int) (b0 : Bool) (A0 A1 A2 Z3 : Nat → Int) (vs : List Value) (J : Interp) (r0 : 0 ≤ i0 ∧ i0 ≤ 65535) (r1 : 0 ≤ i1 ∧ i1 ≤ 65535) (r2 : 0 ≤ i2 ∧ i2 ≤ 255) (r3 : 0 ≤ i3 ∧ i3 ≤ 255) (r4 : 0 ≤ i4 ∧ i4 ≤ 65535) (r5 : 0 ≤ i5 ∧ i5 ≤ 65535) (r6 : 0 ≤ i6 ∧ i6 ≤ 65535) (r7 : 0 ≤ i7 ∧ i7 ≤ 255) (R0 : ∀ j, 0 ≤ A0 j ∧ A0 j ≤ 65535) (R1 : ∀ j, 0 ≤ A1 j ∧ A1 j ≤ 255) (R2 : ∀ j, 0 ≤ A2 j ∧ A2 j ≤ 65535) (hfi : ∀ p ∈ rvH.fi, ∀ is bs xs, inR p.2 (J.fi p.1 is bs xs)) (hfa : ∀ p ∈ rvH.fa, ∀ is bs xs j, inR p.2 (J.fa p.1 is bs xs j)) (hIi : J.fi = Ifi) (hIb : J.fb = Ifb) (hIa : J.fa = Ifa) (hJ : rvJ i0 i1 i2 i3 i4 i5 i6 i7 y8 y9 b0 A0 A1 A2 Z3 0) : Hyp.ok rvh0.H (rvV i0 i1 i2 i3 i4 i5 i6 i7 y8 y9 b0 A0 A1 A2 Z3 vs J) := by
 simp only [rvJ] at hJ
 obtain ⟨l0, l1, m0, hinv⟩ := hJ
 refine ⟨by simp [rvh0], ?_, ?_, ?_, ?_, by simp [rvh0]⟩
 ·intro p hp
  simp only [rvh0, List.mem_cons, List.not_mem_nil, or_false] at hp
  rcases hp with rfl | rfl | rfl | rfl | rfl | rfl | rfl | rfl | rfl | rfl
  ·exact r0
  ·exact r1
  ·exact r2
  ·exact r3
  ·exact r4
  ·exact r5
  ·exact r6
  ·exact r7
  ·exact l0
  ·exact l1
 ·intro p hp
  simp only [rvh0, List.mem_cons, List.not_mem_nil, or_false] at hp
  rcases hp with rfl | rfl | rfl | rfl
  ·exact R0
  ·exact R1
  ·exact R2
  ·exact m0
 ·exact hfi
 ·exact hfa
theorem rvvcS (i0 i1 i2 i3 i4 i5 i6 i7 : Int) (b0 : Bool) (A0 A1 A2 : Nat → Int) (vs : List Value) (J : Interp) (r0 : 0 ≤ i0 ∧ i0 ≤ 65535) (r1 : 0 ≤ i1 ∧ i1 ≤ 65535) (r2 : 0 ≤ i2 ∧ i2 ≤ 255) (r3 : 0 ≤ i3 ∧ i3 ≤ 255) (r4 : 0 ≤ i4 ∧ i4 ≤ 65535) (r5 : 0 ≤ i5 ∧ i5 ≤ 65535) (r6 : 0 ≤ i6 ∧ i6 ≤ 65535) (r7 : 0 ≤ i7 ∧ i7 ≤ 255) (R0 : ∀ j, 0 ≤ A0 j ∧ A0 j ≤ 65535) (R1 : ∀ j, 0 ≤ A1 j ∧ A1 j ≤ 255) (R2 : ∀ j, 0 ≤ A2 j ∧ A2 j ≤ 65535) (hfi : ∀ p ∈ rvH.fi, ∀ is bs xs, inR p.2 (J.fi p.1 is bs xs)) (hfa : ∀ p ∈ rvH.fa, ∀ is bs xs j, inR p.2 (J.fa p.1 is bs xs j)) (hIi : J.fi = Ifi) (hIb : J.fb = Ifb) (hIa : J.fa = Ifa) :
 LT.holds (rvV i0 i1 i2 i3 i4 i5 i6 i7 0 0 b0 A0 A1 A2 (fun _ => 0) vs J) (fun v' m' => RetOK (rvV i0 i1 i2 i3 i4 i5 i6 i7 0 0 b0 A0 A1 A2 (fun _ => 0) vs J) (⟨[i0, i1, i2, i3, i4, i5, i6, i7], [b0], [A0, A1, A2], vs, J⟩ : Env) rvR rvO v' m') (fun j todo ρ' => (rvhs[j]?.map (·.todo)) = some todo ∧ (fun j ρ' => ∃ (y8 y9 : Int) (Z3 : Nat → Int), ρ' = (rvV i0 i1 i2 i3 i4 i5 i6 i7 y8 y9 b0 A0 A1 A2 Z3 vs J) ∧ rvJ i0 i1 i2 i3 i4 i5 i6 i7 y8 y9 b0 A0 A1 A2 Z3 j) j ρ') (.jump 0 rvT0 ⟨[(9, (.lit 0)), (8, (.lit 0))], [], [(3, (.tab []))]⟩) := by
 simp only [LT.holds]
 refine ⟨rfl, (E.i (rvV i0 i1 i2 i3 i4 i5 i6 i7 0 0 b0 A0 A1 A2 (fun _ => 0) vs J) ((.lit 0))), (E.i (rvV i0 i1 i2 i3 i4 i5 i6 i7 0 0 b0 A0 A1 A2 (fun _ => 0) vs J) ((.lit 0))), (E.a (rvV i0 i1 i2 i3 i4 i5 i6 i7 0 0 b0 A0 A1 A2 (fun _ => 0) vs J) ((.tab []))), rfl, ?_⟩
 ·simp only [rvJ]
  simp only [rvV, rv0, rv1, rv2, rv3, rv4, rv5, rv6, rv7, rv8, i_v, b_bv, i_lit, b_blit, i_add, i_sub, i_mul, i_div, i_mod, i_tdiv, i_tmod, i_ite, b_ite, b_lt, b_le, b_eq, b_not, b_and, b_or, b_iff, i_sel, a_tab, i_pow2, List.getD_cons_zero, List.getD_cons_succ, decide_eq_true_eq, decide_eq_false_iff_not, Bool.and_eq_true, Bool.or_eq_true, Bool.not_eq_true', Bool.not_eq_false', Bool.and_eq_false_iff, Bool.or_eq_false_iff, Bool.not_not, ite_tt, ite_ff, iff_tt, iff_ff, a_av, a_ite, a_upd]
  exact ⟨by omega, by omega, fun j => by simp, by omega, fun j h => by omega⟩
theorem rvvc0 (i0 i1 i2 i3 i4 i5 i6 i7 y8 y9 : Int) (b0 : Bool) (A0 A1 A2 Z3 : Nat → Int) (vs : List Value) (J : Interp) (r0 : 0 ≤ i0 ∧ i0 ≤ 65535) (r1 : 0 ≤ i1 ∧ i1 ≤ 65535) (r2 : 0 ≤ i2 ∧ i2 ≤ 255) (r3 : 0 ≤ i3 ∧ i3 ≤ 255) (r4 : 0 ≤ i4 ∧ i4 ≤ 65535) (r5 : 0 ≤ i5 ∧ i5 ≤ 65535) (r6 : 0 ≤ i6 ∧ i6 ≤ 65535) (r7 : 0 ≤ i7 ∧ i7 ≤ 255) (R0 : ∀ j, 0 ≤ A0 j ∧ A0 j ≤ 65535) (R1 : ∀ j, 0 ≤ A1 j ∧ A1 j ≤ 255) (R2 : ∀ j, 0 ≤ A2 j ∧ A2 j ≤ 65535) (hfi : ∀ p ∈ rvH.fi, ∀ is bs xs, inR p.2 (J.fi p.1 is bs xs)) (hfa : ∀ p ∈ rvH.fa, ∀ is bs xs j, inR p.2 (J.fa p.1 is bs xs j)) (hIi : J.fi = Ifi) (hIb : J.fb = Ifb) (hIa : J.fa = Ifa) (hJ : rvJ i0 i1 i2 i3 i4 i5 i6 i7 y8 y9 b0 A0 A1 A2 Z3 0) :
 LT.holds (rvV i0 i1 i2 i3 i4 i5 i6 i7 y8 y9 b0 A0 A1 A2 Z3 vs J) (fun v' m' => RetOK (rvV i0 i1 i2 i3 i4 i5 i6 i7 y8 y9 b0 A0 A1 A2 Z3 vs J) (⟨[i0, i1, i2, i3, i4, i5, i6, i7], [b0], [A0, A1, A2], vs, J⟩ : Env) rvR rvO v' m') (fun j' todo ρ' => (rvhs[j']?.map (·.todo)) = some todo ∧ (fun j ρ' => ∃ (y8 y9 : Int) (Z3 : Nat → Int), ρ' = (rvV i0 i1 i2 i3 i4 i5 i6 i7 y8 y9 b0 A0 A1 A2 Z3 vs J) ∧ rvJ i0 i1 i2 i3 i4 i5 i6 i7 y8 y9 b0 A0 A1 A2 Z3 j) j' ρ' ∧ rvmu j' ρ' < rvmu 0 (rvV i0 i1 i2 i3 i4 i5 i6 i7 y8 y9 b0 A0 A1 A2 Z3 vs J)) (.ite rv0 (.jump 0 rvT0 ⟨[(9, rv1), (8, rv2)], [], [(3, rv8)]⟩) (.ret (.s (.slc 1 (.lit 0) (.v 9) (.op (.lit 0)))) [⟨75, [.run .u16 (.lit 32768) (.av 0) 0, .run .u8 (.lit 544) (.av 1) 0, .run .u16 (.lit 256) (.av 2) 0, .one (.int .u16 (.v 0)), .one (.bool (.bv 0)), .one (.int .u16 (.v 1)), .one (.int .u8 (.v 2)), .one (.int .u8 (.v 3)), .one (.int .u16 (.v 4)), .one (.int .u16 (.v 5)), .one (.int .u16 (.v 6)), .one (.int .u8 (.v 7))], true, none, false⟩, ⟨5, [.run .u8 (.v 9) (.av 3) 0], true, some 1, false⟩])) := by
 simp only [LT.holds]
 simp only [rvJ] at hJ
 obtain ⟨l0, l1, m0, hinv⟩ := hJ
 refine ⟨fun hc0 => ?_, fun hc0 => ?_⟩
 ·
  refine ⟨rfl, ⟨(E.i (rvV i0 i1 i2 i3 i4 i5 i6 i7 y8 y9 b0 A0 A1 A2 Z3 vs J) rv2), (E.i (rvV i0 i1 i2 i3 i4 i5 i6 i7 y8 y9 b0 A0 A1 A2 Z3 vs J) rv1), (E.a (rvV i0 i1 i2 i3 i4 i5 i6 i7 y8 y9 b0 A0 A1 A2 Z3 vs J) rv8), rfl, ?_⟩, ?_⟩
  ·simp only [rvJ]
   simp only [rvV, rv0, rv1, rv2, rv3, rv4, rv5, rv6, rv7, rv8, i_v, b_bv, i_lit, b_blit, i_add, i_sub, i_mul, i_div, i_mod, i_tdiv, i_tmod, i_ite, b_ite, b_lt, b_le, b_eq, b_not, b_and, b_or, b_iff, i_sel, a_tab, i_pow2, List.getD_cons_zero, List.getD_cons_succ, decide_eq_true_eq, decide_eq_false_iff_not, Bool.and_eq_true, Bool.or_eq_true, Bool.not_eq_true', Bool.not_eq_false', Bool.and_eq_false_iff, Bool.or_eq_false_iff, Bool.not_not, ite_tt, ite_ff, iff_tt, iff_ff, a_av, a_ite, a_upd] at hc0 ⊢
   obtain ⟨he, hv⟩ := hinv
   have e0 : y9.toNat = 2 * y8.toNat := by omega
   have e1 : (y9 + 1).toNat = 2 * y8.toNat + 1 := by omega
   have q := R0 y8.toNat
   have h0 : rowB A0 (2 * y8.toNat) = A0 y8.toNat % 256 := rowB_lo
   have h1 : rowB A0 (2 * y8.toNat + 1) = A0 y8.toNat / 256 := rowB_hi (by omega)
   simp only [e0, e1]
   refine ⟨by omega, by omega, fun j => ?_, by omega, fun j h => ?_⟩
   ·have := m0 j; repeat' split
    all_goals omega
   ·by_cases f1 : j = 2 * y8.toNat + 1
    ·rw [if_pos f1, f1, h1]
    ·rw [if_neg f1]
     by_cases f0 : j = 2 * y8.toNat
     ·rw [if_pos f0, f0, h0]
     ·rw [if_neg f0]; exact hv j (by omega)
  ·simp only [rvmu, Env.app, setAll, List.map_cons, List.map_nil, List.set, rvV, rv0, rv1, rv2, rv3, rv4, rv5, rv6, rv7, rv8, i_v, b_bv, i_lit, b_blit, i_add, i_sub, i_mul, i_div, i_mod, i_tdiv, i_tmod, i_ite, b_ite, b_lt, b_le, b_eq, b_not, b_and, b_or, b_iff, i_sel, a_tab, i_pow2, List.getD_cons_zero, List.getD_cons_succ, decide_eq_true_eq, decide_eq_false_iff_not, Bool.and_eq_true, Bool.or_eq_true, Bool.not_eq_true', Bool.not_eq_false', Bool.and_eq_false_iff, Bool.or_eq_false_iff, Bool.not_not, ite_tt, ite_ff, iff_tt, iff_ff, a_av, a_ite, a_upd] at hc0 ⊢
   omega
 ·
  refine ⟨rfl, ?_, ?_⟩
  all_goals
   repeat' (first | exact rfl | exact trivial | exact fun _ _ => rfl | refine And.intro ?_ ?_ | refine Or.inr ?_)
  all_goals simp only [rvV, rv0, rv1, rv2, rv3, rv4, rv5, rv6, rv7, rv8, i_v, b_bv, i_lit, b_blit, i_add, i_sub, i_mul, i_div, i_mod, i_tdiv, i_tmod, i_ite, b_ite, b_lt, b_le, b_eq, b_not, b_and, b_or, b_iff, i_sel, a_tab, i_pow2, List.getD_cons_zero, List.getD_cons_succ, decide_eq_true_eq, decide_eq_false_iff_not, Bool.and_eq_true, Bool.or_eq_true, Bool.not_eq_true', Bool.not_eq_false', Bool.and_eq_false_iff, Bool.or_eq_false_iff, Bool.not_not, ite_tt, ite_ff, iff_tt, iff_ff, a_av, a_ite, a_upd] at hc0 ⊢
  all_goals obtain ⟨he, hv⟩ := hinv
  all_goals first
   | omega
   | (intro j hj
      rw [show E.a (⟨[i0, i1, i2, i3, i4, i5, i6, i7], [b0], [A0, A1, A2], vs, J⟩ : Env) (.app 50 (.cons (.av 0) .nil)) = rowB A0 from app50 hIa _]
      simp only [Nat.zero_add]
      exact hv j (by omega))
theorem rvat (xs : Nat → Nat → Ext) : SpecAt Try.prog (Iv xs) 64 8 1 3 (exactS rvH rvL rvM rvN rvR (some rvO)) := by
 refine loopS_ok (u := 0) (S0_ok (Iv xs)) (by kernel_rfl) rvst (by decide) rfl (fun ρ j ρ' => ∃(i0 i1 i2 i3 i4 i5 i6 i7 : Int) (b0 : Bool) (A0 A1 A2 : Nat → Int), ∃ vs J, ρ = (⟨[i0, i1, i2, i3, i4, i5, i6, i7], [b0], [A0, A1, A2], vs, J⟩ : Env) ∧ (fun j ρ' => ∃ (y8 y9 : Int) (Z3 : Nat → Int), ρ' = (rvV i0 i1 i2 i3 i4 i5 i6 i7 y8 y9 b0 A0 A1 A2 Z3 vs J) ∧ rvJ i0 i1 i2 i3 i4 i5 i6 i7 y8 y9 b0 A0 A1 A2 Z3 j) j ρ') rvmu ?_
 intro ρ hI hz hH hn
 obtain ⟨ys, zs, Ys, vs, J⟩ := ρ
 obtain ⟨z1, z2, z3⟩ := hz
 simp only at z1 z2 z3 hI
 obtain ⟨i0, ys0, rfl, z1_0⟩ := len_succ z1
 obtain ⟨i1, ys1, rfl, z1_1⟩ := len_succ z1_0
 obtain ⟨i2, ys2, rfl, z1_2⟩ := len_succ z1_1
 obtain ⟨i3, ys3, rfl, z1_3⟩ := len_succ z1_2
 obtain ⟨i4, ys4, rfl, z1_4⟩ := len_succ z1_3
 obtain ⟨i5, ys5, rfl, z1_5⟩ := len_succ z1_4
 obtain ⟨i6, ys6, rfl, z1_6⟩ := len_succ z1_5
 obtain ⟨i7, ys7, rfl, z1_7⟩ := len_succ z1_6
 obtain rfl := List.eq_nil_of_length_eq_zero z1_7
 obtain ⟨b0, zs0, rfl, z2_0⟩ := len_succ z2
 obtain rfl := List.eq_nil_of_length_eq_zero z2_0
 obtain ⟨A0, Ys0, rfl, z3_0⟩ := len_succ z3
 obtain ⟨A1, Ys1, rfl, z3_1⟩ := len_succ z3_0
 obtain ⟨A2, Ys2, rfl, z3_2⟩ := len_succ z3_1
 obtain rfl := List.eq_nil_of_length_eq_zero z3_2
 have r0 : 0 ≤ i0 ∧ i0 ≤ 65535 := hH.e (.v 0, (0, 65535)) (by simp [rvH])
 have r1 : 0 ≤ i1 ∧ i1 ≤ 65535 := hH.e (.v 1, (0, 65535)) (by simp [rvH])
 have r2 : 0 ≤ i2 ∧ i2 ≤ 255 := hH.e (.v 2, (0, 255)) (by simp [rvH])
 have r3 : 0 ≤ i3 ∧ i3 ≤ 255 := hH.e (.v 3, (0, 255)) (by simp [rvH])
 have r4 : 0 ≤ i4 ∧ i4 ≤ 65535 := hH.e (.v 4, (0, 65535)) (by simp [rvH])
 have r5 : 0 ≤ i5 ∧ i5 ≤ 65535 := hH.e (.v 5, (0, 65535)) (by simp [rvH])
 have r6 : 0 ≤ i6 ∧ i6 ≤ 65535 := hH.e (.v 6, (0, 65535)) (by simp [rvH])
 have r7 : 0 ≤ i7 ∧ i7 ≤ 255 := hH.e (.v 7, (0, 255)) (by simp [rvH])
 have R0 : ∀ j, 0 ≤ A0 j ∧ A0 j ≤ 65535 := fun j => hH.a (0, (0, 65535)) (by simp [rvH]) j
 have R1 : ∀ j, 0 ≤ A1 j ∧ A1 j ≤ 255 := fun j => hH.a (1, (0, 255)) (by simp [rvH]) j
 have R2 : ∀ j, 0 ≤ A2 j ∧ A2 j ≤ 65535 := fun j => hH.a (2, (0, 65535)) (by simp [rvH]) j
 have hfi : ∀ p ∈ rvH.fi, ∀ is bs xs, inR p.2 (J.fi p.1 is bs xs) := hH.fi
 have hfa : ∀ p ∈ rvH.fa, ∀ is bs xs j, inR p.2 (J.fa p.1 is bs xs j) := hH.fa
 have hIi : J.fi = Ifi := by rw [hI]; rfl
 have hIb : J.fb = Ifb := by rw [hI]; rfl
 have hIa : J.fa = Ifa := by rw [hI]; rfl
 refine ⟨(rvV i0 i1 i2 i3 i4 i5 i6 i7 0 0 b0 A0 A1 A2 (fun _ => 0) vs J), rfl, ⟨rfl, rfl, rfl⟩, ?_, fun ι => rfl, ?_, ?_, ?_⟩
 ·
  refine ⟨by simp [rvH], ?_, ?_, ?_, ?_, by simp [rvH]⟩
  ·intro p hp
   simp only [rvH, List.mem_cons, List.not_mem_nil, or_false] at hp
   rcases hp with rfl | rfl | rfl | rfl | rfl | rfl | rfl | rfl
   ·exact r0
   ·exact r1
   ·exact r2
   ·exact r3
   ·exact r4
   ·exact r5
   ·exact r6
   ·exact r7
  ·intro p hp
   simp only [rvH, List.mem_cons, List.not_mem_nil, or_false] at hp
   rcases hp with rfl | rfl | rfl
   ·exact R0
   ·exact R1
   ·exact R2
  ·exact hfi
  ·exact hfa
 ·repeat' (first | exact rfl | exact trivial | exact fun _ _ => rfl | refine And.intro ?_ ?_ | refine Or.inr ?_)
 ·refine LT.holds_imp (fun v' m' h => h) (fun j todo ρ' h => ⟨h.1, i0, i1, i2, i3, i4, i5, i6, i7, b0, A0, A1, A2, vs, J, rfl, h.2⟩) (rvvcS i0 i1 i2 i3 i4 i5 i6 i7 b0 A0 A1 A2 vs J r0 r1 r2 r3 r4 r5 r6 r7 R0 R1 R2 hfi hfa hIi hIb hIa)
 ·intro j h ρ' hj hI' hz' hInv
  obtain ⟨i0', i1', i2', i3', i4', i5', i6', i7', b0', A0', A1', A2', vs', J', he, y8, y9, Z3, hρ, hJ⟩ := hInv
  cases he
  subst hρ
  rcases j with _ | j
  ·simp only [rvhs, List.getElem?_cons_zero, List.getElem?_cons_succ, Option.some.injEq] at hj; subst hj
   refine ⟨rvh0.H, rvok0 i0 i1 i2 i3 i4 i5 i6 i7 y8 y9 b0 A0 A1 A2 Z3 vs J r0 r1 r2 r3 r4 r5 r6 r7 R0 R1 R2 hfi hfa hIi hIb hIa hJ, _, rvsg0, ?_⟩
   exact LT.holds_imp (fun v' m' h => h) (fun j todo ρ' h => ⟨h.1, ⟨i0, i1, i2, i3, i4, i5, i6, i7, b0, A0, A1, A2, vs, J, rfl, h.2.1⟩, h.2.2⟩) (rvvc0 i0 i1 i2 i3 i4 i5 i6 i7 y8 y9 b0 A0 A1 A2 Z3 vs J r0 r1 r2 r3 r4 r5 r6 r7 R0 R1 R2 hfi hfa hIi hIb hIa hJ)
  ·simp [rvhs] at hj
def rvS : Go.Sx.Spec := memoG (findG 8 1 3 rvL rvM) rvH rvL rvM rvN (rvR) (some rvO)
theorem rvok (xs : Nat → Nat → Ext) : SpecOK Try.prog (Iv xs) 64 rvS := memoA_ok (rvat xs) (exactS_at _ _ _ _ _ _)
def rcH : Hyp := ⟨[(.v 0, (0, 65535)), (.v 1, (0, 65535)), (.v 2, (0, 255)), (.v 3, (0, 255)), (.v 4, (0, 65535)), (.v 5, (0, 65535)), (.v 6, (0, 65535)), (.v 7, (0, 255))], [(0, (0, 65535)), (1, (0, 255)), (2, (0, 65535))], [(10, (0, 4294967295))], [(50, (0, 255))], [], []⟩
def rcL : List SV := [.s (.slc 0 (.lit 33312) (.lit 256) (.kn (.lit 256)))]
def rcM : Mem := [⟨75, [.run .u16 (.lit 32768) (.av 0) 0, .run .u8 (.lit 544) (.av 1) 0, .run .u16 (.lit 256) (.av 2) 0, .one (.int .u16 (.v 0)), .one (.bool (.bv 0)), .one (.int .u16 (.v 1)), .one (.int .u8 (.v 2)), .one (.int .u8 (.v 3)), .one (.int .u16 (.v 4)), .one (.int .u16 (.v 5)), .one (.int .u16 (.v 6)), .one (.int .u8 (.v 7))], true, none, false⟩]
def rcO : Mem := [⟨75, [.run .u16 (.lit 32768) (.av 0) 0, .run .u8 (.lit 544) (.av 1) 0, .run .u16 (.lit 256) (.av 2) 0, .one (.int .u16 (.v 0)), .one (.bool (.bv 0)), .one (.int .u16 (.v 1)), .one (.int .u8 (.v 2)), .one (.int .u8 (.v 3)), .one (.int .u16 (.v 4)), .one (.int .u16 (.v 5)), .one (.int .u16 (.v 6)), .one (.int .u8 (.v 7))], true, none, false⟩, ⟨5, [.run .u8 (.lit 512) (.app 50 (.cons (.av 2) .nil)) 0], true, some 1, false⟩]
def rcN : List E := []
def rcR : SV := .s (.slc 1 (.lit 0) (.lit 512) (.op (.lit 0)))
--SKEND
def rc0 : E := .le (.v 8) (.lit 255)
def rc1 : E := .add (.v 9) (.lit 2)
def rc2 : E := .add (.v 8) (.lit 1)
def rc3 : E := .sel (.av 2) (.v 8)
def rc4 : E := .mod rc3 (.lit 256)
def rc5 : E := .upd (.av 3) (.v 9) rc4
def rc6 : E := .add (.v 9) (.lit 1)
def rc7 : E := .div rc3 (.lit 256)
def rc8 : E := .upd rc5 rc6 rc7
noncomputable def rcT0 : List Item := seekS Try.prog 64 4
noncomputable def rch0 : Head := ⟨4, rcT0, ⟨[((.v 0), (0, 65535)), ((.v 1), (0, 65535)), ((.v 2), (0, 255)), ((.v 3), (0, 255)), ((.v 4), (0, 65535)), ((.v 5), (0, 65535)), ((.v 6), (0, 65535)), ((.v 7), (0, 255)), ((.v 8), (0, 256)), ((.v 9), (0, 512))], [(0, (0, 65535)), (1, (0, 255)), (2, (0, 65535)), (3, (0, 255))], [(10, (0, 4294967295))], [(50, (0, 255))], [], []⟩, [⟨12, [], .s (.int .i64 (.v 8))⟩, ⟨11, [], .s (.int .i64 (.lit 256))⟩, ⟨10, [], .s (.slc 0 (.lit 33312) (.lit 256) (.kn (.lit 256)))⟩, ⟨3, [], .s (.slc 1 (.lit 0) (.v 9) (.op (.lit 0)))⟩], [⟨75, [.run .u16 (.lit 32768) (.av 0) 0, .run .u8 (.lit 544) (.av 1) 0, .run .u16 (.lit 256) (.av 2) 0, .one (.int .u16 (.v 0)), .one (.bool (.bv 0)), .one (.int .u16 (.v 1)), .one (.int .u8 (.v 2)), .one (.int .u8 (.v 3)), .one (.int .u16 (.v 4)), .one (.int .u16 (.v 5)), .one (.int .u16 (.v 6)), .one (.int .u8 (.v 7))], true, none, false⟩, ⟨5, [.run .u8 (.v 9) (.av 3) 0], true, some 1, false⟩]⟩
noncomputable def rchs : List Head := [rch0]
def rcD : Dim := ⟨10, 1, 4, 8, 1, 3, 1⟩
theorem rcst : startL Try.prog S0 S0h rcD rchs [] 3000 0 64 rcH rcL rcM = some (.jump 0 rcT0 ⟨[(9, (.lit 0)), (8, (.lit 0))], [], [(3, (.tab []))]⟩) := by kernel_rfl
theorem rcsg0 : segL Try.prog S0 S0h rcD rchs [] 3000 0 64 rch0 = some (.ite rc0 (.jump 0 rcT0 ⟨[(9, rc1), (8, rc2)], [], [(3, rc8)]⟩) (.ret (.s (.slc 1 (.lit 0) (.v 9) (.op (.lit 0)))) [⟨75, [.run .u16 (.lit 32768) (.av 0) 0, .run .u8 (.lit 544) (.av 1) 0, .run .u16 (.lit 256) (.av 2) 0, .one (.int .u16 (.v 0)), .one (.bool (.bv 0)), .one (.int .u16 (.v 1)), .one (.int .u8 (.v 2)), .one (.int .u8 (.v 3)), .one (.int .u16 (.v 4)), .one (.int .u16 (.v 5)), .one (.int .u16 (.v 6)), .one (.int .u8 (.v 7))], true, none, false⟩, ⟨5, [.run .u8 (.v 9) (.av 3) 0], true, some 1, false⟩])) := by kernel_rfl
def rcV (i0 i1 i2 i3 i4 i5 i6 i7 y8 y9 : Int) (b0 : Bool) (A0 A1 A2 Z3 : Nat → Int) (vs : List Value) (J : Interp) : Env := ⟨[i0, i1, i2, i3, i4, i5, i6, i7, y8, y9], [b0], [A0, A1, A2, Z3], vs, J⟩
def rcJ (i0 i1 i2 i3 i4 i5 i6 i7 y8 y9 : Int) (b0 : Bool) (A0 A1 A2 Z3 : Nat → Int) : Nat → Prop
 | 0 => (0 ≤ y8 ∧ y8 ≤ 256) ∧ (0 ≤ y9 ∧ y9 ≤ 512) ∧ (∀ j, 0 ≤ Z3 j ∧ Z3 j ≤ 255) ∧ y9 = 2 * y8 ∧ ∀ j : Nat, (j : Int) < 2 * y8 → Z3 j = rowB A2 j
 | _ => False
def rcmu : Nat → Env → Nat
 | 0, ρ => (256 - ρ.i.getD 8 0).toNat
 | _, _ => 0
theorem rcok0 (i0 i1 i2 i3 i4 i5 i6 i7 y8 y9 : Int) (b0 : Bool) (A0 A1 A2 Z3 : Nat → Int) (vs : List Value) (J : Interp) (r0 : 0 ≤ i0 ∧ i0 ≤ 65535) (r1 : 0 ≤ i1 ∧ i1 ≤ 65535) (r2 : 0 ≤ i2 ∧ i2 ≤ 255) (r3 : 0 ≤ i3 ∧ i3 ≤ 255) (r4 : 0 ≤ i4 ∧ i4 ≤ 65535) (r5 : 0 ≤ i5 ∧ i5 ≤ 65535) (r6 : 0 ≤ i6 ∧ i6 ≤ 65535) (r7 : 0 ≤ i7 ∧ i7 ≤ 255) (R0 : ∀ j, 0 ≤ A0 j ∧ A0 j ≤ 65535) (R1 : ∀ j, 0 ≤ A1 j ∧ A1 j ≤ 255) (R2 : ∀ j, 0 ≤ A2 j ∧ A2 j ≤ 65535) (hfi : ∀ p ∈ rcH.fi, ∀ is bs xs, inR p.2 (J.fi p.1 is bs xs)) (hfa : ∀ p ∈ rcH.fa, ∀ is bs xs j, inR p.2 (J.fa p.1 is bs xs j)) (hIi : J.fi = Ifi) (hIb : J.fb = Ifb) (hIa : J.fa = Ifa) (hJ : rcJ i0 i1 i2 i3 i4 i5 i6 i7 y8 y9 b0 A0 A1 A2 Z3 0) : Hyp.ok rch0.H (rcV i0 i1 i2 i3 i4 i5 i6 i7 y8 y9 b0 A0 A1 A2 Z3 vs J) := by
 simp only [rcJ] at hJ
 obtain ⟨l0, l1, m0, hinv⟩ := hJ
 refine ⟨by simp [rch0], ?_, ?_, ?_, ?_, by simp [rch0]⟩
 ·intro p hp
  simp only [rch0, List.mem_cons, List.not_mem_nil, or_false] at hp
  rcases hp with rfl | rfl | rfl | rfl | rfl | rfl | rfl | rfl | rfl | rfl
  ·exact r0
  ·exact r1
  ·exact r2
  ·exact r3
  ·exact r4
  ·exact r5
  ·exact r6
  ·exact r7
  ·exact l0
  ·exact l1
 ·intro p hp
  simp only [rch0, List.mem_cons, List.not_mem_nil, or_false] at hp
  rcases hp with rfl | rfl | rfl | rfl
  ·exact R0
  ·exact R1
  ·exact R2
  ·exact m0
 ·exact hfi
 ·exact hfa
theorem rcvcS (i0 i1 i2 i3 i4 i5 i6 i7 : Int) (b0 : Bool) (A0 A1 A2 : Nat → Int) (vs : List Value) (J : Interp) (r0 : 0 ≤ i0 ∧ i0 ≤ 65535) (r1 : 0 ≤ i1 ∧ i1 ≤ 65535) (r2 : 0 ≤ i2 ∧ i2 ≤ 255) (r3 : 0 ≤ i3 ∧ i3 ≤ 255) (r4 : 0 ≤ i4 ∧ i4 ≤ 65535) (r5 : 0 ≤ i5 ∧ i5 ≤ 65535) (r6 : 0 ≤ i6 ∧ i6 ≤ 65535) (r7 : 0 ≤ i7 ∧ i7 ≤ 255) (R0 : ∀ j, 0 ≤ A0 j ∧ A0 j ≤ 65535) (R1 : ∀ j, 0 ≤ A1 j ∧ A1 j ≤ 255) (R2 : ∀ j, 0 ≤ A2 j ∧ A2 j ≤ 65535) (hfi : ∀ p ∈ rcH.fi, ∀ is bs xs, inR p.2 (J.fi p.1 is bs xs)) (hfa : ∀ p ∈ rcH.fa, ∀ is bs xs j, inR p.2 (J.fa p.1 is bs xs j)) (hIi : J.fi = Ifi) (hIb : J.fb = Ifb) (hIa : J.fa = Ifa) :
 LT.holds (rcV i0 i1 i2 i3 i4 i5 i6 i7 0 0 b0 A0 A1 A2 (fun _ => 0) vs J) (fun v' m' => RetOK (rcV i0 i1 i2 i3 i4 i5 i6 i7 0 0 b0 A0 A1 A2 (fun _ => 0) vs J) (⟨[i0, i1, i2, i3, i4, i5, i6, i7], [b0], [A0, A1, A2], vs, J⟩ : Env) rcR rcO v' m') (fun j todo ρ' => (rchs[j]?.map (·.todo)) = some todo ∧ (fun j ρ' => ∃ (y8 y9 : Int) (Z3 : Nat → Int), ρ' = (rcV i0 i1 i2 i3 i4 i5 i6 i7 y8 y9 b0 A0 A1 A2 Z3 vs J) ∧ rcJ i0 i1 i2 i3 i4 i5 i6 i7 y8 y9 b0 A0 A1 A2 Z3 j) j ρ') (.jump 0 rcT0 ⟨[(9, (.lit 0)), (8, (.lit 0))], [], [(3, (.tab []))]⟩) := by
 simp only [LT.holds]
 refine ⟨rfl, (E.i (rcV i0 i1 i2 i3 i4 i5 i6 i7 0 0 b0 A0 A1 A2 (fun _ => 0) vs J) ((.lit 0))), (E.i (rcV i0 i1 i2 i3 i4 i5 i6 i7 0 0 b0 A0 A1 A2 (fun _ => 0) vs J) ((.lit 0))), (E.a (rcV i0 i1 i2 i3 i4 i5 i6 i7 0 0 b0 A0 A1 A2 (fun _ => 0) vs J) ((.tab []))), rfl, ?_⟩
 ·simp only [rcJ]
  simp only [rcV, rc0, rc1, rc2, rc3, rc4, rc5, rc6, rc7, rc8, i_v, b_bv, i_lit, b_blit, i_add, i_sub, i_mul, i_div, i_mod, i_tdiv, i_tmod, i_ite, b_ite, b_lt, b_le, b_eq, b_not, b_and, b_or, b_iff, i_sel, a_tab, i_pow2, List.getD_cons_zero, List.getD_cons_succ, decide_eq_true_eq, decide_eq_false_iff_not, Bool.and_eq_true, Bool.or_eq_true, Bool.not_eq_true', Bool.not_eq_false', Bool.and_eq_false_iff, Bool.or_eq_false_iff, Bool.not_not, ite_tt, ite_ff, iff_tt, iff_ff, a_av, a_ite, a_upd]
  exact ⟨by omega, by omega, fun j => by simp, by omega, fun j h => by omega⟩
theorem rcvc0 (i0 i1 i2 i3 i4 i5 i6 i7 y8 y9 : Int) (b0 : Bool) (A0 A1 A2 Z3 : Nat → Int) (vs : List Value) (J : Interp) (r0 : 0 ≤ i0 ∧ i0 ≤ 65535) (r1 : 0 ≤ i1 ∧ i1 ≤ 65535) (r2 : 0 ≤ i2 ∧ i2 ≤ 255) (r3 : 0 ≤ i3 ∧ i3 ≤ 255) (r4 : 0 ≤ i4 ∧ i4 ≤ 65535) (r5 : 0 ≤ i5 ∧ i5 ≤ 65535) (r6 : 0 ≤ i6 ∧ i6 ≤ 65535) (r7 : 0 ≤ i7 ∧ i7 ≤ 255) (R0 : ∀ j, 0 ≤ A0 j ∧ A0 j ≤ 65535) (R1 : ∀ j, 0 ≤ A1 j ∧ A1 j ≤ 255) (R2 : ∀ j, 0 ≤ A2 j ∧ A2 j ≤ 65535) (hfi : ∀ p ∈ rcH.fi, ∀ is bs xs, inR p.2 (J.fi p.1 is bs xs)) (hfa : ∀ p ∈ rcH.fa, ∀ is bs xs j, inR p.2 (J.fa p.1 is bs xs j)) (hIi : J.fi = Ifi) (hIb : J.fb = Ifb) (hIa : J.fa = Ifa) (hJ : rcJ i0 i1 i2 i3 i4 i5 i6 i7 y8 y9 b0 A0 A1 A2 Z3 0) :
 LT.holds (rcV i0 i1 i2 i3 i4 i5 i6 i7 y8 y9 b0 A0 A1 A2 Z3 vs J) (fun v' m' => RetOK (rcV i0 i1 i2 i3 i4 i5 i6 i7 y8 y9 b0 A0 A1 A2 Z3 vs J) (⟨[i0, i1, i2, i3, i4, i5, i6, i7], [b0], [A0, A1, A2], vs, J⟩ : Env) rcR rcO v' m') (fun j' todo ρ' => (rchs[j']?.map (·.todo)) = some todo ∧ (fun j ρ' => ∃ (y8 y9 : Int) (Z3 : Nat → Int), ρ' = (rcV i0 i1 i2 i3 i4 i5 i6 i7 y8 y9 b0 A0 A1 A2 Z3 vs J) ∧ rcJ i0 i1 i2 i3 i4 i5 i6 i7 y8 y9 b0 A0 A1 A2 Z3 j) j' ρ' ∧ rcmu j' ρ' < rcmu 0 (rcV i0 i1 i2 i3 i4 i5 i6 i7 y8 y9 b0 A0 A1 A2 Z3 vs J)) (.ite rc0 (.jump 0 rcT0 ⟨[(9, rc1), (8, rc2)], [], [(3, rc8)]⟩) (.ret (.s (.slc 1 (.lit 0) (.v 9) (.op (.lit 0)))) [⟨75, [.run .u16 (.lit 32768) (.av 0) 0, .run .u8 (.lit 544) (.av 1) 0, .run .u16 (.lit 256) (.av 2) 0, .one (.int .u16 (.v 0)), .one (.bool (.bv 0)), .one (.int .u16 (.v 1)), .one (.int .u8 (.v 2)), .one (.int .u8 (.v 3)), .one (.int .u16 (.v 4)), .one (.int .u16 (.v 5)), .one (.int .u16 (.v 6)), .one (.int .u8 (.v 7))], true, none, false⟩, ⟨5, [.run .u8 (.v 9) (.av 3) 0], true, some 1, false⟩])) := by
 simp only [LT.holds]
 simp only [rcJ] at hJ
 obtain ⟨l0, l1, m0, hinv⟩ := hJ
 refine ⟨fun hc0 => ?_, fun hc0 => ?_⟩
 ·
  refine ⟨rfl, ⟨(E.i (rcV i0 i1 i2 i3 i4 i5 i6 i7 y8 y9 b0 A0 A1 A2 Z3 vs J) rc2), (E.i (rcV i0 i1 i2 i3 i4 i5 i6 i7 y8 y9 b0 A0 A1 A2 Z3 vs J) rc1), (E.a (rcV i0 i1 i2 i3 i4 i5 i6 i7 y8 y9 b0 A0 A1 A2 Z3 vs J) rc8), rfl, ?_⟩, ?_⟩
  ·simp only [rcJ]
   simp only [rcV, rc0, rc1, rc2, rc3, rc4, rc5, rc6, rc7, rc8, i_v, b_bv, i_lit, b_blit, i_add, i_sub, i_mul, i_div, i_mod, i_tdiv, i_tmod, i_ite, b_ite, b_lt, b_le, b_eq, b_not, b_and, b_or, b_iff, i_sel, a_tab, i_pow2, List.getD_cons_zero, List.getD_cons_succ, decide_eq_true_eq, decide_eq_false_iff_not, Bool.and_eq_true, Bool.or_eq_true, Bool.not_eq_true', Bool.not_eq_false', Bool.and_eq_false_iff, Bool.or_eq_false_iff, Bool.not_not, ite_tt, ite_ff, iff_tt, iff_ff, a_av, a_ite, a_upd] at hc0 ⊢
   obtain ⟨he, hv⟩ := hinv
   have e0 : y9.toNat = 2 * y8.toNat := by omega
   have e1 : (y9 + 1).toNat = 2 * y8.toNat + 1 := by omega
   have q := R2 y8.toNat
   have h0 : rowB A2 (2 * y8.toNat) = A2 y8.toNat % 256 := rowB_lo
   have h1 : rowB A2 (2 * y8.toNat + 1) = A2 y8.toNat / 256 := rowB_hi (by omega)
   simp only [e0, e1]
   refine ⟨by omega, by omega, fun j => ?_, by omega, fun j h => ?_⟩
   ·have := m0 j; repeat' split
    all_goals omega
   ·by_cases f1 : j = 2 * y8.toNat + 1
    ·rw [if_pos f1, f1, h1]
    ·rw [if_neg f1]
     by_cases f0 : j = 2 * y8.toNat
     ·rw [if_pos f0, f0, h0]
     ·rw [if_neg f0]; exact hv j (by omega)
  ·simp only [rcmu, Env.app, setAll, List.map_cons, List.map_nil, List.set, rcV, rc0, rc1, rc2, rc3, rc4, rc5, rc6, rc7, rc8, i_v, b_bv, i_lit, b_blit, i_add, i_sub, i_mul, i_div, i_mod, i_tdiv, i_tmod, i_ite, b_ite, b_lt, b_le, b_eq, b_not, b_and, b_or, b_iff, i_sel, a_tab, i_pow2, List.getD_cons_zero, List.getD_cons_succ, decide_eq_true_eq, decide_eq_false_iff_not, Bool.and_eq_true, Bool.or_eq_true, Bool.not_eq_true', Bool.not_eq_false', Bool.and_eq_false_iff, Bool.or_eq_false_iff, Bool.not_not, ite_tt, ite_ff, iff_tt, iff_ff, a_av, a_ite, a_upd] at hc0 ⊢
   omega
 ·
  refine ⟨rfl, ?_, ?_⟩
  all_goals
   repeat' (first | exact rfl | exact trivial | exact fun _ _ => rfl | refine And.intro ?_ ?_ | refine Or.inr ?_)
  all_goals simp only [rcV, rc0, rc1, rc2, rc3, rc4, rc5, rc6, rc7, rc8, i_v, b_bv, i_lit, b_blit, i_add, i_sub, i_mul, i_div, i_mod, i_tdiv, i_tmod, i_ite, b_ite, b_lt, b_le, b_eq, b_not, b_and, b_or, b_iff, i_sel, a_tab, i_pow2, List.getD_cons_zero, List.getD_cons_succ, decide_eq_true_eq, decide_eq_false_iff_not, Bool.and_eq_true, Bool.or_eq_true, Bool.not_eq_true', Bool.not_eq_false', Bool.and_eq_false_iff, Bool.or_eq_false_iff, Bool.not_not, ite_tt, ite_ff, iff_tt, iff_ff, a_av, a_ite, a_upd] at hc0 ⊢
  all_goals obtain ⟨he, hv⟩ := hinv
  all_goals first
   | omega
   | (intro j hj
      rw [show E.a (⟨[i0, i1, i2, i3, i4, i5, i6, i7], [b0], [A0, A1, A2], vs, J⟩ : Env) (.app 50 (.cons (.av 2) .nil)) = rowB A2 from app50 hIa _]
      simp only [Nat.zero_add]
      exact hv j (by omega))
theorem rcat (xs : Nat → Nat → Ext) : SpecAt Try.prog (Iv xs) 64 8 1 3 (exactS rcH rcL rcM rcN rcR (some rcO)) := by
 refine loopS_ok (u := 0) (S0_ok (Iv xs)) (by kernel_rfl) rcst (by decide) rfl (fun ρ j ρ' => ∃(i0 i1 i2 i3 i4 i5 i6 i7 : Int) (b0 : Bool) (A0 A1 A2 : Nat → Int), ∃ vs J, ρ = (⟨[i0, i1, i2, i3, i4, i5, i6, i7], [b0], [A0, A1, A2], vs, J⟩ : Env) ∧ (fun j ρ' => ∃ (y8 y9 : Int) (Z3 : Nat → Int), ρ' = (rcV i0 i1 i2 i3 i4 i5 i6 i7 y8 y9 b0 A0 A1 A2 Z3 vs J) ∧ rcJ i0 i1 i2 i3 i4 i5 i6 i7 y8 y9 b0 A0 A1 A2 Z3 j) j ρ') rcmu ?_
 intro ρ hI hz hH hn
 obtain ⟨ys, zs, Ys, vs, J⟩ := ρ
 obtain ⟨z1, z2, z3⟩ := hz
 simp only at z1 z2 z3 hI
 obtain ⟨i0, ys0, rfl, z1_0⟩ := len_succ z1
 obtain ⟨i1, ys1, rfl, z1_1⟩ := len_succ z1_0
 obtain ⟨i2, ys2, rfl, z1_2⟩ := len_succ z1_1
 obtain ⟨i3, ys3, rfl, z1_3⟩ := len_succ z1_2
 obtain ⟨i4, ys4, rfl, z1_4⟩ := len_succ z1_3
 obtain ⟨i5, ys5, rfl, z1_5⟩ := len_succ z1_4
 obtain ⟨i6, ys6, rfl, z1_6⟩ := len_succ z1_5
 obtain ⟨i7, ys7, rfl, z1_7⟩ := len_succ z1_6
 obtain rfl := List.eq_nil_of_length_eq_zero z1_7
 obtain ⟨b0, zs0, rfl, z2_0⟩ := len_succ z2
 obtain rfl := List.eq_nil_of_length_eq_zero z2_0
 obtain ⟨A0, Ys0, rfl, z3_0⟩ := len_succ z3
 obtain ⟨A1, Ys1, rfl, z3_1⟩ := len_succ z3_0
 obtain ⟨A2, Ys2, rfl, z3_2⟩ := len_succ z3_1
 obtain rfl := List.eq_nil_of_length_eq_zero z3_2
 have r0 : 0 ≤ i0 ∧ i0 ≤ 65535 := hH.e (.v 0, (0, 65535)) (by simp [rcH])
 have r1 : 0 ≤ i1 ∧ i1 ≤ 65535 := hH.e (.v 1, (0, 65535)) (by simp [rcH])
 have r2 : 0 ≤ i2 ∧ i2 ≤ 255 := hH.e (.v 2, (0, 255)) (by simp [rcH])
 have r3 : 0 ≤ i3 ∧ i3 ≤ 255 := hH.e (.v 3, (0, 255)) (by simp [rcH])
 have r4 : 0 ≤ i4 ∧ i4 ≤ 65535 := hH.e (.v 4, (0, 65535)) (by simp [rcH])
 have r5 : 0 ≤ i5 ∧ i5 ≤ 65535 := hH.e (.v 5, (0, 65535)) (by simp [rcH])
 have r6 : 0 ≤ i6 ∧ i6 ≤ 65535 := hH.e (.v 6, (0, 65535)) (by simp [rcH])
 have r7 : 0 ≤ i7 ∧ i7 ≤ 255 := hH.e (.v 7, (0, 255)) (by simp [rcH])
 have R0 : ∀ j, 0 ≤ A0 j ∧ A0 j ≤ 65535 := fun j => hH.a (0, (0, 65535)) (by simp [rcH]) j
 have R1 : ∀ j, 0 ≤ A1 j ∧ A1 j ≤ 255 := fun j => hH.a (1, (0, 255)) (by simp [rcH]) j
 have R2 : ∀ j, 0 ≤ A2 j ∧ A2 j ≤ 65535 := fun j => hH.a (2, (0, 65535)) (by simp [rcH]) j
 have hfi : ∀ p ∈ rcH.fi, ∀ is bs xs, inR p.2 (J.fi p.1 is bs xs) := hH.fi
 have hfa : ∀ p ∈ rcH.fa, ∀ is bs xs j, inR p.2 (J.fa p.1 is bs xs j) := hH.fa
 have hIi : J.fi = Ifi := by rw [hI]; rfl
 have hIb : J.fb = Ifb := by rw [hI]; rfl
 have hIa : J.fa = Ifa := by rw [hI]; rfl
 refine ⟨(rcV i0 i1 i2 i3 i4 i5 i6 i7 0 0 b0 A0 A1 A2 (fun _ => 0) vs J), rfl, ⟨rfl, rfl, rfl⟩, ?_, fun ι => rfl, ?_, ?_, ?_⟩
 ·
  refine ⟨by simp [rcH], ?_, ?_, ?_, ?_, by simp [rcH]⟩
  ·intro p hp
   simp only [rcH, List.mem_cons, List.not_mem_nil, or_false] at hp
   rcases hp with rfl | rfl | rfl | rfl | rfl | rfl | rfl | rfl
   ·exact r0
   ·exact r1
   ·exact r2
   ·exact r3
   ·exact r4
   ·exact r5
   ·exact r6
   ·exact r7
  ·intro p hp
   simp only [rcH, List.mem_cons, List.not_mem_nil, or_false] at hp
   rcases hp with rfl | rfl | rfl
   ·exact R0
   ·exact R1
   ·exact R2
  ·exact hfi
  ·exact hfa
 ·repeat' (first | exact rfl | exact trivial | exact fun _ _ => rfl | refine And.intro ?_ ?_ | refine Or.inr ?_)
 ·refine LT.holds_imp (fun v' m' h => h) (fun j todo ρ' h => ⟨h.1, i0, i1, i2, i3, i4, i5, i6, i7, b0, A0, A1, A2, vs, J, rfl, h.2⟩) (rcvcS i0 i1 i2 i3 i4 i5 i6 i7 b0 A0 A1 A2 vs J r0 r1 r2 r3 r4 r5 r6 r7 R0 R1 R2 hfi hfa hIi hIb hIa)
 ·intro j h ρ' hj hI' hz' hInv
  obtain ⟨i0', i1', i2', i3', i4', i5', i6', i7', b0', A0', A1', A2', vs', J', he, y8, y9, Z3, hρ, hJ⟩ := hInv
  cases he
  subst hρ
  rcases j with _ | j
  ·simp only [rchs, List.getElem?_cons_zero, List.getElem?_cons_succ, Option.some.injEq] at hj; subst hj
   refine ⟨rch0.H, rcok0 i0 i1 i2 i3 i4 i5 i6 i7 y8 y9 b0 A0 A1 A2 Z3 vs J r0 r1 r2 r3 r4 r5 r6 r7 R0 R1 R2 hfi hfa hIi hIb hIa hJ, _, rcsg0, ?_⟩
   exact LT.holds_imp (fun v' m' h => h) (fun j todo ρ' h => ⟨h.1, ⟨i0, i1, i2, i3, i4, i5, i6, i7, b0, A0, A1, A2, vs, J, rfl, h.2.1⟩, h.2.2⟩) (rcvc0 i0 i1 i2 i3 i4 i5 i6 i7 y8 y9 b0 A0 A1 A2 Z3 vs J r0 r1 r2 r3 r4 r5 r6 r7 R0 R1 R2 hfi hfa hIi hIb hIa hJ)
  ·simp [rchs] at hj
def rcS : Go.Sx.Spec := memoG (findG 8 1 3 rcL rcM) rcH rcL rcM rcN (rcR) (some rcO)
theorem rcok (xs : Nat → Nat → Ext) : SpecOK Try.prog (Iv xs) 64 rcS := memoA_ok (rcat xs) (exactS_at _ _ _ _ _ _)
def uvH : Hyp := ⟨[(.v 0, (0, 65535)), (.v 1, (0, 65535)), (.v 2, (0, 255)), (.v 3, (0, 255)), (.v 4, (0, 65535)), (.v 5, (0, 65535)), (.v 6, (0, 65535)), (.v 7, (0, 255))], [(0, (0, 65535)), (1, (0, 255)), (2, (0, 65535)), (3, (0, 65535))], [(10, (0, 4294967295))], [(50, (0, 255))], [], []⟩
def uvL : List SV := [.s (.slc 1 (.lit 0) (.lit 65536) (.op (.lit 0))), .s (.slc 0 (.lit 0) (.lit 32768) (.kn (.lit 32768)))]
def uvM : Mem := [⟨75, [.run .u16 (.lit 32768) (.av 0) 0, .run .u8 (.lit 544) (.av 1) 0, .run .u16 (.lit 256) (.av 2) 0, .one (.int .u16 (.v 0)), .one (.bool (.bv 0)), .one (.int .u16 (.v 1)), .one (.int .u8 (.v 2)), .one (.int .u8 (.v 3)), .one (.int .u16 (.v 4)), .one (.int .u16 (.v 5)), .one (.int .u16 (.v 6)), .one (.int .u8 (.v 7))], true, none, false⟩, ⟨5, [.run .u8 (.lit 65536) (.app 50 (.cons (.av 3) .nil)) 0], true, some 1, false⟩]
def uvO : Mem := [⟨75, [.run .u16 (.lit 32768) (.av 3) 0, .run .u8 (.lit 544) (.av 1) 0, .run .u16 (.lit 256) (.av 2) 0, .one (.int .u16 (.v 0)), .one (.bool (.bv 0)), .one (.int .u16 (.v 1)), .one (.int .u8 (.v 2)), .one (.int .u8 (.v 3)), .one (.int .u16 (.v 4)), .one (.int .u16 (.v 5)), .one (.int .u16 (.v 6)), .one (.int .u8 (.v 7))], true, none, false⟩, ⟨5, [.run .u8 (.lit 65536) (.app 50 (.cons (.av 3) .nil)) 0], true, some 1, false⟩]
def uvN : List E := []
def uvR : SV := .s (.bool (.blit true))
--SKEND
def uv0 : E := .app 50 (.cons (.av 3) .nil)
def uv1 : E := .le (.v 8) (.lit 32767)
def uv2 : E := .add (.v 8) (.lit 1)
def uv3 : E := .mul (.v 8) (.lit 2)
def uv4 : E := .sel uv0 uv3
def uv5 : E := .add uv3 (.lit 1)
def uv6 : E := .sel uv0 uv5
def uv7 : E := .mul uv6 (.lit 256)
def uv8 : E := .add uv4 uv7
def uv9 : E := .upd (.av 4) (.v 8) uv8
noncomputable def uvT0 : List Item := seekS Try.prog 56 5
noncomputable def uvh0 : Head := ⟨5, uvT0, ⟨[((.v 0), (0, 65535)), ((.v 1), (0, 65535)), ((.v 2), (0, 255)), ((.v 3), (0, 255)), ((.v 4), (0, 65535)), ((.v 5), (0, 65535)), ((.v 6), (0, 65535)), ((.v 7), (0, 255)), ((.v 8), (0, 32768))], [(0, (0, 65535)), (1, (0, 255)), (2, (0, 65535)), (3, (0, 65535)), (4, (0, 65535))], [(10, (0, 4294967295))], [(50, (0, 255))], [], []⟩, [⟨14, [], .s (.int .i64 (.v 8))⟩, ⟨13, [], .s (.int .i64 (.lit 32768))⟩, ⟨0, [], .s (.slc 1 (.lit 0) (.lit 65536) (.op (.lit 0)))⟩, ⟨1, [], .s (.slc 0 (.lit 0) (.lit 32768) (.kn (.lit 32768)))⟩], [⟨75, [.run .u16 (.lit 32768) (.av 4) 0, .run .u8 (.lit 544) (.av 1) 0, .run .u16 (.lit 256) (.av 2) 0, .one (.int .u16 (.v 0)), .one (.bool (.bv 0)), .one (.int .u16 (.v 1)), .one (.int .u8 (.v 2)), .one (.int .u8 (.v 3)), .one (.int .u16 (.v 4)), .one (.int .u16 (.v 5)), .one (.int .u16 (.v 6)), .one (.int .u8 (.v 7))], true, none, false⟩, ⟨5, [.run .u8 (.lit 65536) uv0 0], true, some 1, false⟩]⟩
noncomputable def uvhs : List Head := [uvh0]
def uvD : Dim := ⟨9, 1, 5, 8, 1, 4, 2⟩
theorem uvst : startL Try.prog S0 S0h uvD uvhs [] 3000 0 56 uvH uvL uvM = some (.jump 0 uvT0 ⟨[(8, (.lit 0))], [], [(4, (.av 0))]⟩) := by kernel_rfl
theorem uvsg0 : segL Try.prog S0 S0h uvD uvhs [] 3000 0 56 uvh0 = some (.ite uv1 (.jump 0 uvT0 ⟨[(8, uv2)], [], [(4, uv9)]⟩) (.ret (.s (.bool (.blit true))) [⟨75, [.run .u16 (.lit 32768) (.av 4) 0, .run .u8 (.lit 544) (.av 1) 0, .run .u16 (.lit 256) (.av 2) 0, .one (.int .u16 (.v 0)), .one (.bool (.bv 0)), .one (.int .u16 (.v 1)), .one (.int .u8 (.v 2)), .one (.int .u8 (.v 3)), .one (.int .u16 (.v 4)), .one (.int .u16 (.v 5)), .one (.int .u16 (.v 6)), .one (.int .u8 (.v 7))], true, none, false⟩, ⟨5, [.run .u8 (.lit 65536) uv0 0], true, some 1, false⟩])) := by kernel_rfl
def uvV (i0 i1 i2 i3 i4 i5 i6 i7 y8 : Int) (b0 : Bool) (A0 A1 A2 A3 Z4 : Nat → Int) (vs : List Value) (J : Interp) : Env := ⟨[i0, i1, i2, i3, i4, i5, i6, i7, y8], [b0], [A0, A1, A2, A3, Z4], vs, J⟩
def uvJ (i0 i1 i2 i3 i4 i5 i6 i7 y8 : Int) (b0 : Bool) (A0 A1 A2 A3 Z4 : Nat → Int) : Nat → Prop
 | 0 => (0 ≤ y8 ∧ y8 ≤ 32768) ∧ (∀ j, 0 ≤ Z4 j ∧ Z4 j ≤ 65535) ∧ ∀ j : Nat, (j : Int) < y8 → Z4 j = A3 j
 | _ => False
def uvmu : Nat → Env → Nat
 | 0, ρ => (32768 - ρ.i.getD 8 0).toNat
 | _, _ => 0
theorem uvok0 (i0 i1 i2 i3 i4 i5 i6 i7 y8 : Int) (b0 : Bool) (A0 A1 A2 A3 Z4 : Nat → Int) (vs : List Value) (J : Interp) (r0 : 0 ≤ i0 ∧ i0 ≤ 65535) (r1 : 0 ≤ i1 ∧ i1 ≤ 65535) (r2 : 0 ≤ i2 ∧ i2 ≤ 255) (r3 : 0 ≤ i3 ∧ i3 ≤ 255) (r4 : 0 ≤ i4 ∧ i4 ≤ 65535) (r5 : 0 ≤ i5 ∧ i5 ≤ 65535) (r6 : 0 ≤ i6 ∧ i6 ≤ 65535) (r7 : 0 ≤ i7 ∧ i7 ≤ 255) (R0 : ∀ j, 0 ≤ A0 j ∧ A0 j ≤ 65535) (R1 : ∀ j, 0 ≤ A1 j ∧ A1 j ≤ 255) (R2 : ∀ j, 0 ≤ A2 j ∧ A2 j ≤ 65535) (R3 : ∀ j, 0 ≤ A3 j ∧ A3 j ≤ 65535) (hfi : ∀ p ∈ uvH.fi, ∀ is bs xs, inR p.2 (J.fi p.1 is bs xs)) (hfa : ∀ p ∈ uvH.fa, ∀ is bs xs j, inR p.2 (J.fa p.1 is bs xs j)) (hIi : J.fi = Ifi) (hIb : J.fb = Ifb) (hIa : J.fa = Ifa) (hJ : uvJ i0 i1 i2 i3 i4 i5 i6 i7 y8 b0 A0 A1 A2 A3 Z4 0) : Hyp.ok uvh0.H (uvV i0 i1 i2 i3 i4 i5 i6 i7 y8 b0 A0 A1 A2 A3 Z4 vs J) := by
 simp only [uvJ] at hJ
 obtain ⟨l0, m0, hinv⟩ := hJ
 refine ⟨by simp [uvh0], ?_, ?_, ?_, ?_, by simp [uvh0]⟩
 ·intro p hp
  simp only [uvh0, List.mem_cons, List.not_mem_nil, or_false] at hp
  rcases hp with rfl | rfl | rfl | rfl | rfl | rfl | rfl | rfl | rfl
  ·exact r0
  ·exact r1
  ·exact r2
  ·exact r3
  ·exact r4
  ·exact r5
  ·exact r6
  ·exact r7
  ·exact l0
 ·intro p hp
  simp only [uvh0, List.mem_cons, List.not_mem_nil, or_false] at hp
  rcases hp with rfl | rfl | rfl | rfl | rfl
  ·exact R0
  ·exact R1
  ·exact R2
  ·exact R3
  ·exact m0
 ·exact hfi
 ·exact hfa
theorem uvvcS (i0 i1 i2 i3 i4 i5 i6 i7 : Int) (b0 : Bool) (A0 A1 A2 A3 : Nat → Int) (vs : List Value) (J : Interp) (r0 : 0 ≤ i0 ∧ i0 ≤ 65535) (r1 : 0 ≤ i1 ∧ i1 ≤ 65535) (r2 : 0 ≤ i2 ∧ i2 ≤ 255) (r3 : 0 ≤ i3 ∧ i3 ≤ 255) (r4 : 0 ≤ i4 ∧ i4 ≤ 65535) (r5 : 0 ≤ i5 ∧ i5 ≤ 65535) (r6 : 0 ≤ i6 ∧ i6 ≤ 65535) (r7 : 0 ≤ i7 ∧ i7 ≤ 255) (R0 : ∀ j, 0 ≤ A0 j ∧ A0 j ≤ 65535) (R1 : ∀ j, 0 ≤ A1 j ∧ A1 j ≤ 255) (R2 : ∀ j, 0 ≤ A2 j ∧ A2 j ≤ 65535) (R3 : ∀ j, 0 ≤ A3 j ∧ A3 j ≤ 65535) (hfi : ∀ p ∈ uvH.fi, ∀ is bs xs, inR p.2 (J.fi p.1 is bs xs)) (hfa : ∀ p ∈ uvH.fa, ∀ is bs xs j, inR p.2 (J.fa p.1 is bs xs j)) (hIi : J.fi = Ifi) (hIb : J.fb = Ifb) (hIa : J.fa = Ifa) :
 LT.holds (uvV i0 i1 i2 i3 i4 i5 i6 i7 0 b0 A0 A1 A2 A3 (fun _ => 0) vs J) (fun v' m' => RetOK (uvV i0 i1 i2 i3 i4 i5 i6 i7 0 b0 A0 A1 A2 A3 (fun _ => 0) vs J) (⟨[i0, i1, i2, i3, i4, i5, i6, i7], [b0], [A0, A1, A2, A3], vs, J⟩ : Env) uvR uvO v' m') (fun j todo ρ' => (uvhs[j]?.map (·.todo)) = some todo ∧ (fun j ρ' => ∃ (y8 : Int) (Z4 : Nat → Int), ρ' = (uvV i0 i1 i2 i3 i4 i5 i6 i7 y8 b0 A0 A1 A2 A3 Z4 vs J) ∧ uvJ i0 i1 i2 i3 i4 i5 i6 i7 y8 b0 A0 A1 A2 A3 Z4 j) j ρ') (.jump 0 uvT0 ⟨[(8, (.lit 0))], [], [(4, (.av 0))]⟩) := by
 simp only [LT.holds]
 refine ⟨rfl, (E.i (uvV i0 i1 i2 i3 i4 i5 i6 i7 0 b0 A0 A1 A2 A3 (fun _ => 0) vs J) ((.lit 0))), (E.a (uvV i0 i1 i2 i3 i4 i5 i6 i7 0 b0 A0 A1 A2 A3 (fun _ => 0) vs J) ((.av 0))), rfl, ?_⟩
 ·simp only [uvJ]
  simp only [uvV, uv1, uv2, uv3, uv4, uv5, uv6, uv7, uv8, uv9, i_v, b_bv, i_lit, b_blit, i_add, i_sub, i_mul, i_div, i_mod, i_tdiv, i_tmod, i_ite, b_ite, b_lt, b_le, b_eq, b_not, b_and, b_or, b_iff, i_sel, a_tab, i_pow2, List.getD_cons_zero, List.getD_cons_succ, decide_eq_true_eq, decide_eq_false_iff_not, Bool.and_eq_true, Bool.or_eq_true, Bool.not_eq_true', Bool.not_eq_false', Bool.and_eq_false_iff, Bool.or_eq_false_iff, Bool.not_not, ite_tt, ite_ff, iff_tt, iff_ff, a_av, a_ite, a_upd]
  exact ⟨by omega, R0, fun j h => by omega⟩
theorem uvvc0 (i0 i1 i2 i3 i4 i5 i6 i7 y8 : Int) (b0 : Bool) (A0 A1 A2 A3 Z4 : Nat → Int) (vs : List Value) (J : Interp) (r0 : 0 ≤ i0 ∧ i0 ≤ 65535) (r1 : 0 ≤ i1 ∧ i1 ≤ 65535) (r2 : 0 ≤ i2 ∧ i2 ≤ 255) (r3 : 0 ≤ i3 ∧ i3 ≤ 255) (r4 : 0 ≤ i4 ∧ i4 ≤ 65535) (r5 : 0 ≤ i5 ∧ i5 ≤ 65535) (r6 : 0 ≤ i6 ∧ i6 ≤ 65535) (r7 : 0 ≤ i7 ∧ i7 ≤ 255) (R0 : ∀ j, 0 ≤ A0 j ∧ A0 j ≤ 65535) (R1 : ∀ j, 0 ≤ A1 j ∧ A1 j ≤ 255) (R2 : ∀ j, 0 ≤ A2 j ∧ A2 j ≤ 65535) (R3 : ∀ j, 0 ≤ A3 j ∧ A3 j ≤ 65535) (hfi : ∀ p ∈ uvH.fi, ∀ is bs xs, inR p.2 (J.fi p.1 is bs xs)) (hfa : ∀ p ∈ uvH.fa, ∀ is bs xs j, inR p.2 (J.fa p.1 is bs xs j)) (hIi : J.fi = Ifi) (hIb : J.fb = Ifb) (hIa : J.fa = Ifa) (hJ : uvJ i0 i1 i2 i3 i4 i5 i6 i7 y8 b0 A0 A1 A2 A3 Z4 0) :
 LT.holds (uvV i0 i1 i2 i3 i4 i5 i6 i7 y8 b0 A0 A1 A2 A3 Z4 vs J) (fun v' m' => RetOK (uvV i0 i1 i2 i3 i4 i5 i6 i7 y8 b0 A0 A1 A2 A3 Z4 vs J) (⟨[i0, i1, i2, i3, i4, i5, i6, i7], [b0], [A0, A1, A2, A3], vs, J⟩ : Env) uvR uvO v' m') (fun j' todo ρ' => (uvhs[j']?.map (·.todo)) = some todo ∧ (fun j ρ' => ∃ (y8 : Int) (Z4 : Nat → Int), ρ' = (uvV i0 i1 i2 i3 i4 i5 i6 i7 y8 b0 A0 A1 A2 A3 Z4 vs J) ∧ uvJ i0 i1 i2 i3 i4 i5 i6 i7 y8 b0 A0 A1 A2 A3 Z4 j) j' ρ' ∧ uvmu j' ρ' < uvmu 0 (uvV i0 i1 i2 i3 i4 i5 i6 i7 y8 b0 A0 A1 A2 A3 Z4 vs J)) (.ite uv1 (.jump 0 uvT0 ⟨[(8, uv2)], [], [(4, uv9)]⟩) (.ret (.s (.bool (.blit true))) [⟨75, [.run .u16 (.lit 32768) (.av 4) 0, .run .u8 (.lit 544) (.av 1) 0, .run .u16 (.lit 256) (.av 2) 0, .one (.int .u16 (.v 0)), .one (.bool (.bv 0)), .one (.int .u16 (.v 1)), .one (.int .u8 (.v 2)), .one (.int .u8 (.v 3)), .one (.int .u16 (.v 4)), .one (.int .u16 (.v 5)), .one (.int .u16 (.v 6)), .one (.int .u8 (.v 7))], true, none, false⟩, ⟨5, [.run .u8 (.lit 65536) uv0 0], true, some 1, false⟩])) := by
 simp only [LT.holds]
 simp only [uvJ] at hJ
 obtain ⟨l0, m0, hinv⟩ := hJ
 refine ⟨fun hc0 => ?_, fun hc0 => ?_⟩
 ·
  refine ⟨rfl, ⟨(E.i (uvV i0 i1 i2 i3 i4 i5 i6 i7 y8 b0 A0 A1 A2 A3 Z4 vs J) uv2), (E.a (uvV i0 i1 i2 i3 i4 i5 i6 i7 y8 b0 A0 A1 A2 A3 Z4 vs J) uv9), rfl, ?_⟩, ?_⟩
  ·simp only [uvJ]
   have ha : ∀ k, E.a (⟨[i0, i1, i2, i3, i4, i5, i6, i7, y8], [b0], [A0, A1, A2, A3, Z4], vs, J⟩ : Env) uv0 k = rowB A3 k := fun k => congrFun (app50 hIa _) k
   simp only [uvV, uv1, uv2, uv3, uv4, uv5, uv6, uv7, uv8, uv9, i_v, b_bv, i_lit, b_blit, i_add, i_sub, i_mul, i_div, i_mod, i_tdiv, i_tmod, i_ite, b_ite, b_lt, b_le, b_eq, b_not, b_and, b_or, b_iff, i_sel, a_tab, i_pow2, List.getD_cons_zero, List.getD_cons_succ, decide_eq_true_eq, decide_eq_false_iff_not, Bool.and_eq_true, Bool.or_eq_true, Bool.not_eq_true', Bool.not_eq_false', Bool.and_eq_false_iff, Bool.or_eq_false_iff, Bool.not_not, ite_tt, ite_ff, iff_tt, iff_ff, a_av, a_ite, a_upd, ha] at hc0 ⊢
   have q := R3 y8.toNat
   have hw : rowB A3 (2 * y8.toNat) + rowB A3 (2 * y8.toNat + 1) * 256 = A3 y8.toNat := rowB_word (by omega)
   have e0 : (y8 * 2).toNat = 2 * y8.toNat := by omega
   have e1 : (y8 * 2 + 1).toNat = 2 * y8.toNat + 1 := by omega
   simp only [e0, e1, hw]
   refine ⟨by omega, fun j => ?_, fun j h => ?_⟩
   ·have := m0 j; split <;> omega
   ·by_cases f : j = y8.toNat
    ·rw [if_pos f, f]
    ·rw [if_neg f]; exact hinv j (by omega)
  ·simp only [uvmu, Env.app, setAll, List.map_cons, List.map_nil, List.set, uvV, uv1, uv2, uv3, uv4, uv5, uv6, uv7, uv8, uv9, i_v, b_bv, i_lit, b_blit, i_add, i_sub, i_mul, i_div, i_mod, i_tdiv, i_tmod, i_ite, b_ite, b_lt, b_le, b_eq, b_not, b_and, b_or, b_iff, i_sel, a_tab, i_pow2, List.getD_cons_zero, List.getD_cons_succ, decide_eq_true_eq, decide_eq_false_iff_not, Bool.and_eq_true, Bool.or_eq_true, Bool.not_eq_true', Bool.not_eq_false', Bool.and_eq_false_iff, Bool.or_eq_false_iff, Bool.not_not, ite_tt, ite_ff, iff_tt, iff_ff, a_av, a_ite, a_upd] at hc0 ⊢
   omega
 ·
  refine ⟨rfl, ?_, ?_⟩
  all_goals
   repeat' (first | exact rfl | exact trivial | exact fun _ _ => rfl | refine And.intro ?_ ?_ | refine Or.inr ?_)
  all_goals simp only [uvV, uv1, uv2, uv3, uv4, uv5, uv6, uv7, uv8, uv9, i_v, b_bv, i_lit, b_blit, i_add, i_sub, i_mul, i_div, i_mod, i_tdiv, i_tmod, i_ite, b_ite, b_lt, b_le, b_eq, b_not, b_and, b_or, b_iff, i_sel, a_tab, i_pow2, List.getD_cons_zero, List.getD_cons_succ, decide_eq_true_eq, decide_eq_false_iff_not, Bool.and_eq_true, Bool.or_eq_true, Bool.not_eq_true', Bool.not_eq_false', Bool.and_eq_false_iff, Bool.or_eq_false_iff, Bool.not_not, ite_tt, ite_ff, iff_tt, iff_ff, a_av, a_ite, a_upd] at hc0 ⊢
  all_goals first
   | omega
   | (intro j hj
      simp only [Nat.zero_add]
      exact hinv j (by omega))
theorem uvat (xs : Nat → Nat → Ext) : SpecAt Try.prog (Iv xs) 56 8 1 4 (exactS uvH uvL uvM uvN uvR (some uvO)) := by
 refine loopS_ok (u := 0) (S0_ok (Iv xs)) (by kernel_rfl) uvst (by decide) rfl (fun ρ j ρ' => ∃(i0 i1 i2 i3 i4 i5 i6 i7 : Int) (b0 : Bool) (A0 A1 A2 A3 : Nat → Int), ∃ vs J, ρ = (⟨[i0, i1, i2, i3, i4, i5, i6, i7], [b0], [A0, A1, A2, A3], vs, J⟩ : Env) ∧ (fun j ρ' => ∃ (y8 : Int) (Z4 : Nat → Int), ρ' = (uvV i0 i1 i2 i3 i4 i5 i6 i7 y8 b0 A0 A1 A2 A3 Z4 vs J) ∧ uvJ i0 i1 i2 i3 i4 i5 i6 i7 y8 b0 A0 A1 A2 A3 Z4 j) j ρ') uvmu ?_
 intro ρ hI hz hH hn
 obtain ⟨ys, zs, Ys, vs, J⟩ := ρ
 obtain ⟨z1, z2, z3⟩ := hz
 simp only at z1 z2 z3 hI
 obtain ⟨i0, ys0, rfl, z1_0⟩ := len_succ z1
 obtain ⟨i1, ys1, rfl, z1_1⟩ := len_succ z1_0
 obtain ⟨i2, ys2, rfl, z1_2⟩ := len_succ z1_1
 obtain ⟨i3, ys3, rfl, z1_3⟩ := len_succ z1_2
 obtain ⟨i4, ys4, rfl, z1_4⟩ := len_succ z1_3
 obtain ⟨i5, ys5, rfl, z1_5⟩ := len_succ z1_4
 obtain ⟨i6, ys6, rfl, z1_6⟩ := len_succ z1_5
 obtain ⟨i7, ys7, rfl, z1_7⟩ := len_succ z1_6
 obtain rfl := List.eq_nil_of_length_eq_zero z1_7
 obtain ⟨b0, zs0, rfl, z2_0⟩ := len_succ z2
 obtain rfl := List.eq_nil_of_length_eq_zero z2_0
 obtain ⟨A0, Ys0, rfl, z3_0⟩ := len_succ z3
 obtain ⟨A1, Ys1, rfl, z3_1⟩ := len_succ z3_0
 obtain ⟨A2, Ys2, rfl, z3_2⟩ := len_succ z3_1
 obtain ⟨A3, Ys3, rfl, z3_3⟩ := len_succ z3_2
 obtain rfl := List.eq_nil_of_length_eq_zero z3_3
 have r0 : 0 ≤ i0 ∧ i0 ≤ 65535 := hH.e (.v 0, (0, 65535)) (by simp [uvH])
 have r1 : 0 ≤ i1 ∧ i1 ≤ 65535 := hH.e (.v 1, (0, 65535)) (by simp [uvH])
 have r2 : 0 ≤ i2 ∧ i2 ≤ 255 := hH.e (.v 2, (0, 255)) (by simp [uvH])
 have r3 : 0 ≤ i3 ∧ i3 ≤ 255 := hH.e (.v 3, (0, 255)) (by simp [uvH])
 have r4 : 0 ≤ i4 ∧ i4 ≤ 65535 := hH.e (.v 4, (0, 65535)) (by simp [uvH])
 have r5 : 0 ≤ i5 ∧ i5 ≤ 65535 := hH.e (.v 5, (0, 65535)) (by simp [uvH])
 have r6 : 0 ≤ i6 ∧ i6 ≤ 65535 := hH.e (.v 6, (0, 65535)) (by simp [uvH])
 have r7 : 0 ≤ i7 ∧ i7 ≤ 255 := hH.e (.v 7, (0, 255)) (by simp [uvH])
 have R0 : ∀ j, 0 ≤ A0 j ∧ A0 j ≤ 65535 := fun j => hH.a (0, (0, 65535)) (by simp [uvH]) j
 have R1 : ∀ j, 0 ≤ A1 j ∧ A1 j ≤ 255 := fun j => hH.a (1, (0, 255)) (by simp [uvH]) j
 have R2 : ∀ j, 0 ≤ A2 j ∧ A2 j ≤ 65535 := fun j => hH.a (2, (0, 65535)) (by simp [uvH]) j
 have R3 : ∀ j, 0 ≤ A3 j ∧ A3 j ≤ 65535 := fun j => hH.a (3, (0, 65535)) (by simp [uvH]) j
 have hfi : ∀ p ∈ uvH.fi, ∀ is bs xs, inR p.2 (J.fi p.1 is bs xs) := hH.fi
 have hfa : ∀ p ∈ uvH.fa, ∀ is bs xs j, inR p.2 (J.fa p.1 is bs xs j) := hH.fa
 have hIi : J.fi = Ifi := by rw [hI]; rfl
 have hIb : J.fb = Ifb := by rw [hI]; rfl
 have hIa : J.fa = Ifa := by rw [hI]; rfl
 refine ⟨(uvV i0 i1 i2 i3 i4 i5 i6 i7 0 b0 A0 A1 A2 A3 (fun _ => 0) vs J), rfl, ⟨rfl, rfl, rfl⟩, ?_, fun ι => rfl, ?_, ?_, ?_⟩
 ·
  refine ⟨by simp [uvH], ?_, ?_, ?_, ?_, by simp [uvH]⟩
  ·intro p hp
   simp only [uvH, List.mem_cons, List.not_mem_nil, or_false] at hp
   rcases hp with rfl | rfl | rfl | rfl | rfl | rfl | rfl | rfl
   ·exact r0
   ·exact r1
   ·exact r2
   ·exact r3
   ·exact r4
   ·exact r5
   ·exact r6
   ·exact r7
  ·intro p hp
   simp only [uvH, List.mem_cons, List.not_mem_nil, or_false] at hp
   rcases hp with rfl | rfl | rfl | rfl
   ·exact R0
   ·exact R1
   ·exact R2
   ·exact R3
  ·exact hfi
  ·exact hfa
 ·repeat' (first | exact rfl | exact trivial | exact fun _ _ => rfl | refine And.intro ?_ ?_ | refine Or.inr ?_)
 ·refine LT.holds_imp (fun v' m' h => h) (fun j todo ρ' h => ⟨h.1, i0, i1, i2, i3, i4, i5, i6, i7, b0, A0, A1, A2, A3, vs, J, rfl, h.2⟩) (uvvcS i0 i1 i2 i3 i4 i5 i6 i7 b0 A0 A1 A2 A3 vs J r0 r1 r2 r3 r4 r5 r6 r7 R0 R1 R2 R3 hfi hfa hIi hIb hIa)
 ·intro j h ρ' hj hI' hz' hInv
  obtain ⟨i0', i1', i2', i3', i4', i5', i6', i7', b0', A0', A1', A2', A3', vs', J', he, y8, Z4, hρ, hJ⟩ := hInv
  cases he
  subst hρ
  rcases j with _ | j
  ·simp only [uvhs, List.getElem?_cons_zero, List.getElem?_cons_succ, Option.some.injEq] at hj; subst hj
   refine ⟨uvh0.H, uvok0 i0 i1 i2 i3 i4 i5 i6 i7 y8 b0 A0 A1 A2 A3 Z4 vs J r0 r1 r2 r3 r4 r5 r6 r7 R0 R1 R2 R3 hfi hfa hIi hIb hIa hJ, _, uvsg0, ?_⟩
   exact LT.holds_imp (fun v' m' h => h) (fun j todo ρ' h => ⟨h.1, ⟨i0, i1, i2, i3, i4, i5, i6, i7, b0, A0, A1, A2, A3, vs, J, rfl, h.2.1⟩, h.2.2⟩) (uvvc0 i0 i1 i2 i3 i4 i5 i6 i7 y8 b0 A0 A1 A2 A3 Z4 vs J r0 r1 r2 r3 r4 r5 r6 r7 R0 R1 R2 R3 hfi hfa hIi hIb hIa hJ)
  ·simp [uvhs] at hj
def uvS : Go.Sx.Spec := memoG (findG 8 1 4 uvL uvM) uvH uvL uvM uvN (uvR) (some uvO)
theorem uvok (xs : Nat → Nat → Ext) : SpecOK Try.prog (Iv xs) 56 uvS := memoA_ok (uvat xs) (exactS_at _ _ _ _ _ _)
def ucH : Hyp := ⟨[(.v 0, (0, 65535)), (.v 1, (0, 65535)), (.v 2, (0, 255)), (.v 3, (0, 255)), (.v 4, (0, 65535)), (.v 5, (0, 65535)), (.v 6, (0, 65535)), (.v 7, (0, 255))], [(0, (0, 65535)), (1, (0, 255)), (2, (0, 65535)), (3, (0, 65535))], [(10, (0, 4294967295))], [(50, (0, 255))], [], []⟩
def ucL : List SV := [.s (.slc 1 (.lit 0) (.lit 512) (.op (.lit 0))), .s (.slc 0 (.lit 33312) (.lit 256) (.kn (.lit 256)))]
def ucM : Mem := [⟨75, [.run .u16 (.lit 32768) (.av 0) 0, .run .u8 (.lit 544) (.av 1) 0, .run .u16 (.lit 256) (.av 2) 0, .one (.int .u16 (.v 0)), .one (.bool (.bv 0)), .one (.int .u16 (.v 1)), .one (.int .u8 (.v 2)), .one (.int .u8 (.v 3)), .one (.int .u16 (.v 4)), .one (.int .u16 (.v 5)), .one (.int .u16 (.v 6)), .one (.int .u8 (.v 7))], true, none, false⟩, ⟨5, [.run .u8 (.lit 512) (.app 50 (.cons (.av 3) .nil)) 0], true, some 1, false⟩]
def ucO : Mem := [⟨75, [.run .u16 (.lit 32768) (.av 0) 0, .run .u8 (.lit 544) (.av 1) 0, .run .u16 (.lit 256) (.av 3) 0, .one (.int .u16 (.v 0)), .one (.bool (.bv 0)), .one (.int .u16 (.v 1)), .one (.int .u8 (.v 2)), .one (.int .u8 (.v 3)), .one (.int .u16 (.v 4)), .one (.int .u16 (.v 5)), .one (.int .u16 (.v 6)), .one (.int .u8 (.v 7))], true, none, false⟩, ⟨5, [.run .u8 (.lit 512) (.app 50 (.cons (.av 3) .nil)) 0], true, some 1, false⟩]
def ucN : List E := []
def ucR : SV := .s (.bool (.blit true))
--SKEND
def uc0 : E := .app 50 (.cons (.av 3) .nil)
def uc1 : E := .le (.v 8) (.lit 255)
def uc2 : E := .add (.v 8) (.lit 1)
def uc3 : E := .mul (.v 8) (.lit 2)
def uc4 : E := .sel uc0 uc3
def uc5 : E := .add uc3 (.lit 1)
def uc6 : E := .sel uc0 uc5
def uc7 : E := .mul uc6 (.lit 256)
def uc8 : E := .add uc4 uc7
def uc9 : E := .upd (.av 4) (.v 8) uc8
noncomputable def ucT0 : List Item := seekS Try.prog 56 5
noncomputable def uch0 : Head := ⟨5, ucT0, ⟨[((.v 0), (0, 65535)), ((.v 1), (0, 65535)), ((.v 2), (0, 255)), ((.v 3), (0, 255)), ((.v 4), (0, 65535)), ((.v 5), (0, 65535)), ((.v 6), (0, 65535)), ((.v 7), (0, 255)), ((.v 8), (0, 256))], [(0, (0, 65535)), (1, (0, 255)), (2, (0, 65535)), (3, (0, 65535)), (4, (0, 65535))], [(10, (0, 4294967295))], [(50, (0, 255))], [], []⟩, [⟨14, [], .s (.int .i64 (.v 8))⟩, ⟨13, [], .s (.int .i64 (.lit 256))⟩, ⟨0, [], .s (.slc 1 (.lit 0) (.lit 512) (.op (.lit 0)))⟩, ⟨1, [], .s (.slc 0 (.lit 33312) (.lit 256) (.kn (.lit 256)))⟩], [⟨75, [.run .u16 (.lit 32768) (.av 0) 0, .run .u8 (.lit 544) (.av 1) 0, .run .u16 (.lit 256) (.av 4) 0, .one (.int .u16 (.v 0)), .one (.bool (.bv 0)), .one (.int .u16 (.v 1)), .one (.int .u8 (.v 2)), .one (.int .u8 (.v 3)), .one (.int .u16 (.v 4)), .one (.int .u16 (.v 5)), .one (.int .u16 (.v 6)), .one (.int .u8 (.v 7))], true, none, false⟩, ⟨5, [.run .u8 (.lit 512) uc0 0], true, some 1, false⟩]⟩
noncomputable def uchs : List Head := [uch0]
def ucD : Dim := ⟨9, 1, 5, 8, 1, 4, 2⟩
theorem ucst : startL Try.prog S0 S0h ucD uchs [] 3000 0 56 ucH ucL ucM = some (.jump 0 ucT0 ⟨[(8, (.lit 0))], [], [(4, (.av 2))]⟩) := by kernel_rfl
theorem ucsg0 : segL Try.prog S0 S0h ucD uchs [] 3000 0 56 uch0 = some (.ite uc1 (.jump 0 ucT0 ⟨[(8, uc2)], [], [(4, uc9)]⟩) (.ret (.s (.bool (.blit true))) [⟨75, [.run .u16 (.lit 32768) (.av 0) 0, .run .u8 (.lit 544) (.av 1) 0, .run .u16 (.lit 256) (.av 4) 0, .one (.int .u16 (.v 0)), .one (.bool (.bv 0)), .one (.int .u16 (.v 1)), .one (.int .u8 (.v 2)), .one (.int .u8 (.v 3)), .one (.int .u16 (.v 4)), .one (.int .u16 (.v 5)), .one (.int .u16 (.v 6)), .one (.int .u8 (.v 7))], true, none, false⟩, ⟨5, [.run .u8 (.lit 512) uc0 0], true, some 1, false⟩])) := by kernel_rfl
def ucV (i0 i1 i2 i3 i4 i5 i6 i7 y8 : Int) (b0 : Bool) (A0 A1 A2 A3 Z4 : Nat → Int) (vs : List Value) (J : Interp) : Env := ⟨[i0, i1, i2, i3, i4, i5, i6, i7, y8], [b0], [A0, A1, A2, A3, Z4], vs, J⟩
def ucJ (i0 i1 i2 i3 i4 i5 i6 i7 y8 : Int) (b0 : Bool) (A0 A1 A2 A3 Z4 : Nat → Int) : Nat → Prop
 | 0 => (0 ≤ y8 ∧ y8 ≤ 256) ∧ (∀ j, 0 ≤ Z4 j ∧ Z4 j ≤ 65535) ∧ ∀ j : Nat, (j : Int) < y8 → Z4 j = A3 j
 | _ => False
def ucmu : Nat → Env → Nat
 | 0, ρ => (256 - ρ.i.getD 8 0).toNat
 | _, _ => 0
theorem ucok0 (i0 i1 i2 i3 i4 i5 i6 i7 y8 : Int) (b0 : Bool) (A0 A1 A2 A3 Z4 : Nat → Int) (vs : List Value) (J : Interp) (r0 : 0 ≤ i0 ∧ i0 ≤ 65535) (r1 : 0 ≤ i1 ∧ i1 ≤ 65535) (r2 : 0 ≤ i2 ∧ i2 ≤ 255) (r3 : 0 ≤ i3 ∧ i3 ≤ 255) (r4 : 0 ≤ i4 ∧ i4 ≤ 65535) (r5 : 0 ≤ i5 ∧ i5 ≤ 65535) (r6 : 0 ≤ i6 ∧ i6 ≤ 65535) (r7 : 0 ≤ i7 ∧ i7 ≤ 255) (R0 : ∀ j, 0 ≤ A0 j ∧ A0 j ≤ 65535) (R1 : ∀ j, 0 ≤ A1 j ∧ A1 j ≤ 255) (R2 : ∀ j, 0 ≤ A2 j ∧ A2 j ≤ 65535) (R3 : ∀ j, 0 ≤ A3 j ∧ A3 j ≤ 65535) (hfi : ∀ p ∈ ucH.fi, ∀ is bs xs, inR p.2 (J.fi p.1 is bs xs)) (hfa : ∀ p ∈ ucH.fa, ∀ is bs xs j, inR p.2 (J.fa p.1 is bs xs j)) (hIi : J.fi = Ifi) (hIb : J.fb = Ifb) (hIa : J.fa = Ifa) (hJ : ucJ i0 i1 i2 i3 i4 i5 i6 i7 y8 b0 A0 A1 A2 A3 Z4 0) : Hyp.ok uch0.H (ucV i0 i1 i2 i3 i4 i5 i6 i7 y8 b0 A0 A1 A2 A3 Z4 vs J) := by
 simp only [ucJ] at hJ
 obtain ⟨l0, m0, hinv⟩ := hJ
 refine ⟨by simp [uch0], ?_, ?_, ?_, ?_, by simp [uch0]⟩
 ·intro p hp
  simp only [uch0, List.mem_cons, List.not_mem_nil, or_false] at hp
  rcases hp with rfl | rfl | rfl | rfl | rfl | rfl | rfl | rfl | rfl
  ·exact r0
  ·exact r1
  ·exact r2
  ·exact r3
  ·exact r4
  ·exact r5
  ·exact r6
  ·exact r7
  ·exact l0
 ·intro p hp
  simp only [uch0, List.mem_cons, List.not_mem_nil, or_false] at hp
  rcases hp with rfl | rfl | rfl | rfl | rfl
  ·exact R0
  ·exact R1
  ·exact R2
  ·exact R3
  ·exact m0
 ·exact hfi
 ·exact hfa
theorem ucvcS (i0 i1 i2 i3 i4 i5 i6 i7 : Int) (b0 : Bool) (A0 A1 A2 A3 : Nat → Int) (vs : List Value) (J : Interp) (r0 : 0 ≤ i0 ∧ i0 ≤ 65535) (r1 : 0 ≤ i1 ∧ i1 ≤ 65535) (r2 : 0 ≤ i2 ∧ i2 ≤ 255) (r3 : 0 ≤ i3 ∧ i3 ≤ 255) (r4 : 0 ≤ i4 ∧ i4 ≤ 65535) (r5 : 0 ≤ i5 ∧ i5 ≤ 65535) (r6 : 0 ≤ i6 ∧ i6 ≤ 65535) (r7 : 0 ≤ i7 ∧ i7 ≤ 255) (R0 : ∀ j, 0 ≤ A0 j ∧ A0 j ≤ 65535) (R1 : ∀ j, 0 ≤ A1 j ∧ A1 j ≤ 255) (R2 : ∀ j, 0 ≤ A2 j ∧ A2 j ≤ 65535) (R3 : ∀ j, 0 ≤ A3 j ∧ A3 j ≤ 65535) (hfi : ∀ p ∈ ucH.fi, ∀ is bs xs, inR p.2 (J.fi p.1 is bs xs)) (hfa : ∀ p ∈ ucH.fa, ∀ is bs xs j, inR p.2 (J.fa p.1 is bs xs j)) (hIi : J.fi = Ifi) (hIb : J.fb = Ifb) (hIa : J.fa = Ifa) :
 LT.holds (ucV i0 i1 i2 i3 i4 i5 i6 i7 0 b0 A0 A1 A2 A3 (fun _ => 0) vs J) (fun v' m' => RetOK (ucV i0 i1 i2 i3 i4 i5 i6 i7 0 b0 A0 A1 A2 A3 (fun _ => 0) vs J) (⟨[i0, i1, i2, i3, i4, i5, i6, i7], [b0], [A0, A1, A2, A3], vs, J⟩ : Env) ucR ucO v' m') (fun j todo ρ' => (uchs[j]?.map (·.todo)) = some todo ∧ (fun j ρ' => ∃ (y8 : Int) (Z4 : Nat → Int), ρ' = (ucV i0 i1 i2 i3 i4 i5 i6 i7 y8 b0 A0 A1 A2 A3 Z4 vs J) ∧ ucJ i0 i1 i2 i3 i4 i5 i6 i7 y8 b0 A0 A1 A2 A3 Z4 j) j ρ') (.jump 0 ucT0 ⟨[(8, (.lit 0))], [], [(4, (.av 2))]⟩) := by
 simp only [LT.holds]
 refine ⟨rfl, (E.i (ucV i0 i1 i2 i3 i4 i5 i6 i7 0 b0 A0 A1 A2 A3 (fun _ => 0) vs J) ((.lit 0))), (E.a (ucV i0 i1 i2 i3 i4 i5 i6 i7 0 b0 A0 A1 A2 A3 (fun _ => 0) vs J) ((.av 2))), rfl, ?_⟩
 ·simp only [ucJ]
  simp only [ucV, uc1, uc2, uc3, uc4, uc5, uc6, uc7, uc8, uc9, i_v, b_bv, i_lit, b_blit, i_add, i_sub, i_mul, i_div, i_mod, i_tdiv, i_tmod, i_ite, b_ite, b_lt, b_le, b_eq, b_not, b_and, b_or, b_iff, i_sel, a_tab, i_pow2, List.getD_cons_zero, List.getD_cons_succ, decide_eq_true_eq, decide_eq_false_iff_not, Bool.and_eq_true, Bool.or_eq_true, Bool.not_eq_true', Bool.not_eq_false', Bool.and_eq_false_iff, Bool.or_eq_false_iff, Bool.not_not, ite_tt, ite_ff, iff_tt, iff_ff, a_av, a_ite, a_upd]
  exact ⟨by omega, R2, fun j h => by omega⟩
theorem ucvc0 (i0 i1 i2 i3 i4 i5 i6 i7 y8 : Int) (b0 : Bool) (A0 A1 A2 A3 Z4 : Nat → Int) (vs : List Value) (J : Interp) (r0 : 0 ≤ i0 ∧ i0 ≤ 65535) (r1 : 0 ≤ i1 ∧ i1 ≤ 65535) (r2 : 0 ≤ i2 ∧ i2 ≤ 255) (r3 : 0 ≤ i3 ∧ i3 ≤ 255) (r4 : 0 ≤ i4 ∧ i4 ≤ 65535) (r5 : 0 ≤ i5 ∧ i5 ≤ 65535) (r6 : 0 ≤ i6 ∧ i6 ≤ 65535) (r7 : 0 ≤ i7 ∧ i7 ≤ 255) (R0 : ∀ j, 0 ≤ A0 j ∧ A0 j ≤ 65535) (R1 : ∀ j, 0 ≤ A1 j ∧ A1 j ≤ 255) (R2 : ∀ j, 0 ≤ A2 j ∧ A2 j ≤ 65535) (R3 : ∀ j, 0 ≤ A3 j ∧ A3 j ≤ 65535) (hfi : ∀ p ∈ ucH.fi, ∀ is bs xs, inR p.2 (J.fi p.1 is bs xs)) (hfa : ∀ p ∈ ucH.fa, ∀ is bs xs j, inR p.2 (J.fa p.1 is bs xs j)) (hIi : J.fi = Ifi) (hIb : J.fb = Ifb) (hIa : J.fa = Ifa) (hJ : ucJ i0 i1 i2 i3 i4 i5 i6 i7 y8 b0 A0 A1 A2 A3 Z4 0) :
 LT.holds (ucV i0 i1 i2 i3 i4 i5 i6 i7 y8 b0 A0 A1 A2 A3 Z4 vs J) (fun v' m' => RetOK (ucV i0 i1 i2 i3 i4 i5 i6 i7 y8 b0 A0 A1 A2 A3 Z4 vs J) (⟨[i0, i1, i2, i3, i4, i5, i6, i7], [b0], [A0, A1, A2, A3], vs, J⟩ : Env) ucR ucO v' m') (fun j' todo ρ' => (uchs[j']?.map (·.todo)) = some todo ∧ (fun j ρ' => ∃ (y8 : Int) (Z4 : Nat → Int), ρ' = (ucV i0 i1 i2 i3 i4 i5 i6 i7 y8 b0 A0 A1 A2 A3 Z4 vs J) ∧ ucJ i0 i1 i2 i3 i4 i5 i6 i7 y8 b0 A0 A1 A2 A3 Z4 j) j' ρ' ∧ ucmu j' ρ' < ucmu 0 (ucV i0 i1 i2 i3 i4 i5 i6 i7 y8 b0 A0 A1 A2 A3 Z4 vs J)) (.ite uc1 (.jump 0 ucT0 ⟨[(8, uc2)], [], [(4, uc9)]⟩) (.ret (.s (.bool (.blit true))) [⟨75, [.run .u16 (.lit 32768) (.av 0) 0, .run .u8 (.lit 544) (.av 1) 0, .run .u16 (.lit 256) (.av 4) 0, .one (.int .u16 (.v 0)), .one (.bool (.bv 0)), .one (.int .u16 (.v 1)), .one (.int .u8 (.v 2)), .one (.int .u8 (.v 3)), .one (.int .u16 (.v 4)), .one (.int .u16 (.v 5)), .one (.int .u16 (.v 6)), .one (.int .u8 (.v 7))], true, none, false⟩, ⟨5, [.run .u8 (.lit 512) uc0 0], true, some 1, false⟩])) := by
 simp only [LT.holds]
 simp only [ucJ] at hJ
 obtain ⟨l0, m0, hinv⟩ := hJ
 refine ⟨fun hc0 => ?_, fun hc0 => ?_⟩
 ·
  refine ⟨rfl, ⟨(E.i (ucV i0 i1 i2 i3 i4 i5 i6 i7 y8 b0 A0 A1 A2 A3 Z4 vs J) uc2), (E.a (ucV i0 i1 i2 i3 i4 i5 i6 i7 y8 b0 A0 A1 A2 A3 Z4 vs J) uc9), rfl, ?_⟩, ?_⟩
  ·simp only [ucJ]
   have ha : ∀ k, E.a (⟨[i0, i1, i2, i3, i4, i5, i6, i7, y8], [b0], [A0, A1, A2, A3, Z4], vs, J⟩ : Env) uc0 k = rowB A3 k := fun k => congrFun (app50 hIa _) k
   simp only [ucV, uc1, uc2, uc3, uc4, uc5, uc6, uc7, uc8, uc9, i_v, b_bv, i_lit, b_blit, i_add, i_sub, i_mul, i_div, i_mod, i_tdiv, i_tmod, i_ite, b_ite, b_lt, b_le, b_eq, b_not, b_and, b_or, b_iff, i_sel, a_tab, i_pow2, List.getD_cons_zero, List.getD_cons_succ, decide_eq_true_eq, decide_eq_false_iff_not, Bool.and_eq_true, Bool.or_eq_true, Bool.not_eq_true', Bool.not_eq_false', Bool.and_eq_false_iff, Bool.or_eq_false_iff, Bool.not_not, ite_tt, ite_ff, iff_tt, iff_ff, a_av, a_ite, a_upd, ha] at hc0 ⊢
   have q := R3 y8.toNat
   have hw : rowB A3 (2 * y8.toNat) + rowB A3 (2 * y8.toNat + 1) * 256 = A3 y8.toNat := rowB_word (by omega)
   have e0 : (y8 * 2).toNat = 2 * y8.toNat := by omega
   have e1 : (y8 * 2 + 1).toNat = 2 * y8.toNat + 1 := by omega
   simp only [e0, e1, hw]
   refine ⟨by omega, fun j => ?_, fun j h => ?_⟩
   ·have := m0 j; split <;> omega
   ·by_cases f : j = y8.toNat
    ·rw [if_pos f, f]
    ·rw [if_neg f]; exact hinv j (by omega)
  ·simp only [ucmu, Env.app, setAll, List.map_cons, List.map_nil, List.set, ucV, uc1, uc2, uc3, uc4, uc5, uc6, uc7, uc8, uc9, i_v, b_bv, i_lit, b_blit, i_add, i_sub, i_mul, i_div, i_mod, i_tdiv, i_tmod, i_ite, b_ite, b_lt, b_le, b_eq, b_not, b_and, b_or, b_iff, i_sel, a_tab, i_pow2, List.getD_cons_zero, List.getD_cons_succ, decide_eq_true_eq, decide_eq_false_iff_not, Bool.and_eq_true, Bool.or_eq_true, Bool.not_eq_true', Bool.not_eq_false', Bool.and_eq_false_iff, Bool.or_eq_false_iff, Bool.not_not, ite_tt, ite_ff, iff_tt, iff_ff, a_av, a_ite, a_upd] at hc0 ⊢
   omega
 ·
  refine ⟨rfl, ?_, ?_⟩
  all_goals
   repeat' (first | exact rfl | exact trivial | exact fun _ _ => rfl | refine And.intro ?_ ?_ | refine Or.inr ?_)
  all_goals simp only [ucV, uc1, uc2, uc3, uc4, uc5, uc6, uc7, uc8, uc9, i_v, b_bv, i_lit, b_blit, i_add, i_sub, i_mul, i_div, i_mod, i_tdiv, i_tmod, i_ite, b_ite, b_lt, b_le, b_eq, b_not, b_and, b_or, b_iff, i_sel, a_tab, i_pow2, List.getD_cons_zero, List.getD_cons_succ, decide_eq_true_eq, decide_eq_false_iff_not, Bool.and_eq_true, Bool.or_eq_true, Bool.not_eq_true', Bool.not_eq_false', Bool.and_eq_false_iff, Bool.or_eq_false_iff, Bool.not_not, ite_tt, ite_ff, iff_tt, iff_ff, a_av, a_ite, a_upd] at hc0 ⊢
  all_goals first
   | omega
   | (intro j hj
      simp only [Nat.zero_add]
      exact hinv j (by omega))
theorem ucat (xs : Nat → Nat → Ext) : SpecAt Try.prog (Iv xs) 56 8 1 4 (exactS ucH ucL ucM ucN ucR (some ucO)) := by
 refine loopS_ok (u := 0) (S0_ok (Iv xs)) (by kernel_rfl) ucst (by decide) rfl (fun ρ j ρ' => ∃(i0 i1 i2 i3 i4 i5 i6 i7 : Int) (b0 : Bool) (A0 A1 A2 A3 : Nat → Int), ∃ vs J, ρ = (⟨[i0, i1, i2, i3, i4, i5, i6, i7], [b0], [A0, A1, A2, A3], vs, J⟩ : Env) ∧ (fun j ρ' => ∃ (y8 : Int) (Z4 : Nat → Int), ρ' = (ucV i0 i1 i2 i3 i4 i5 i6 i7 y8 b0 A0 A1 A2 A3 Z4 vs J) ∧ ucJ i0 i1 i2 i3 i4 i5 i6 i7 y8 b0 A0 A1 A2 A3 Z4 j) j ρ') ucmu ?_
 intro ρ hI hz hH hn
 obtain ⟨ys, zs, Ys, vs, J⟩ := ρ
 obtain ⟨z1, z2, z3⟩ := hz
 simp only at z1 z2 z3 hI
 obtain ⟨i0, ys0, rfl, z1_0⟩ := len_succ z1
 obtain ⟨i1, ys1, rfl, z1_1⟩ := len_succ z1_0
 obtain ⟨i2, ys2, rfl, z1_2⟩ := len_succ z1_1
 obtain ⟨i3, ys3, rfl, z1_3⟩ := len_succ z1_2
 obtain ⟨i4, ys4, rfl, z1_4⟩ := len_succ z1_3
 obtain ⟨i5, ys5, rfl, z1_5⟩ := len_succ z1_4
 obtain ⟨i6, ys6, rfl, z1_6⟩ := len_succ z1_5
 obtain ⟨i7, ys7, rfl, z1_7⟩ := len_succ z1_6
 obtain rfl := List.eq_nil_of_length_eq_zero z1_7
 obtain ⟨b0, zs0, rfl, z2_0⟩ := len_succ z2
 obtain rfl := List.eq_nil_of_length_eq_zero z2_0
 obtain ⟨A0, Ys0, rfl, z3_0⟩ := len_succ z3
 obtain ⟨A1, Ys1, rfl, z3_1⟩ := len_succ z3_0
 obtain ⟨A2, Ys2, rfl, z3_2⟩ := len_succ z3_1
 obtain ⟨A3, Ys3, rfl, z3_3⟩ := len_succ z3_2
 obtain rfl := List.eq_nil_of_length_eq_zero z3_3
 have r0 : 0 ≤ i0 ∧ i0 ≤ 65535 := hH.e (.v 0, (0, 65535)) (by simp [ucH])
 have r1 : 0 ≤ i1 ∧ i1 ≤ 65535 := hH.e (.v 1, (0, 65535)) (by simp [ucH])
 have r2 : 0 ≤ i2 ∧ i2 ≤ 255 := hH.e (.v 2, (0, 255)) (by simp [ucH])
 have r3 : 0 ≤ i3 ∧ i3 ≤ 255 := hH.e (.v 3, (0, 255)) (by simp [ucH])
 have r4 : 0 ≤ i4 ∧ i4 ≤ 65535 := hH.e (.v 4, (0, 65535)) (by simp [ucH])
 have r5 : 0 ≤ i5 ∧ i5 ≤ 65535 := hH.e (.v 5, (0, 65535)) (by simp [ucH])
 have r6 : 0 ≤ i6 ∧ i6 ≤ 65535 := hH.e (.v 6, (0, 65535)) (by simp [ucH])
 have r7 : 0 ≤ i7 ∧ i7 ≤ 255 := hH.e (.v 7, (0, 255)) (by simp [ucH])
 have R0 : ∀ j, 0 ≤ A0 j ∧ A0 j ≤ 65535 := fun j => hH.a (0, (0, 65535)) (by simp [ucH]) j
 have R1 : ∀ j, 0 ≤ A1 j ∧ A1 j ≤ 255 := fun j => hH.a (1, (0, 255)) (by simp [ucH]) j
 have R2 : ∀ j, 0 ≤ A2 j ∧ A2 j ≤ 65535 := fun j => hH.a (2, (0, 65535)) (by simp [ucH]) j
 have R3 : ∀ j, 0 ≤ A3 j ∧ A3 j ≤ 65535 := fun j => hH.a (3, (0, 65535)) (by simp [ucH]) j
 have hfi : ∀ p ∈ ucH.fi, ∀ is bs xs, inR p.2 (J.fi p.1 is bs xs) := hH.fi
 have hfa : ∀ p ∈ ucH.fa, ∀ is bs xs j, inR p.2 (J.fa p.1 is bs xs j) := hH.fa
 have hIi : J.fi = Ifi := by rw [hI]; rfl
 have hIb : J.fb = Ifb := by rw [hI]; rfl
 have hIa : J.fa = Ifa := by rw [hI]; rfl
 refine ⟨(ucV i0 i1 i2 i3 i4 i5 i6 i7 0 b0 A0 A1 A2 A3 (fun _ => 0) vs J), rfl, ⟨rfl, rfl, rfl⟩, ?_, fun ι => rfl, ?_, ?_, ?_⟩
 ·
  refine ⟨by simp [ucH], ?_, ?_, ?_, ?_, by simp [ucH]⟩
  ·intro p hp
   simp only [ucH, List.mem_cons, List.not_mem_nil, or_false] at hp
   rcases hp with rfl | rfl | rfl | rfl | rfl | rfl | rfl | rfl
   ·exact r0
   ·exact r1
   ·exact r2
   ·exact r3
   ·exact r4
   ·exact r5
   ·exact r6
   ·exact r7
  ·intro p hp
   simp only [ucH, List.mem_cons, List.not_mem_nil, or_false] at hp
   rcases hp with rfl | rfl | rfl | rfl
   ·exact R0
   ·exact R1
   ·exact R2
   ·exact R3
  ·exact hfi
  ·exact hfa
 ·repeat' (first | exact rfl | exact trivial | exact fun _ _ => rfl | refine And.intro ?_ ?_ | refine Or.inr ?_)
 ·refine LT.holds_imp (fun v' m' h => h) (fun j todo ρ' h => ⟨h.1, i0, i1, i2, i3, i4, i5, i6, i7, b0, A0, A1, A2, A3, vs, J, rfl, h.2⟩) (ucvcS i0 i1 i2 i3 i4 i5 i6 i7 b0 A0 A1 A2 A3 vs J r0 r1 r2 r3 r4 r5 r6 r7 R0 R1 R2 R3 hfi hfa hIi hIb hIa)
 ·intro j h ρ' hj hI' hz' hInv
  obtain ⟨i0', i1', i2', i3', i4', i5', i6', i7', b0', A0', A1', A2', A3', vs', J', he, y8, Z4, hρ, hJ⟩ := hInv
  cases he
  subst hρ
  rcases j with _ | j
  ·simp only [uchs, List.getElem?_cons_zero, List.getElem?_cons_succ, Option.some.injEq] at hj; subst hj
   refine ⟨uch0.H, ucok0 i0 i1 i2 i3 i4 i5 i6 i7 y8 b0 A0 A1 A2 A3 Z4 vs J r0 r1 r2 r3 r4 r5 r6 r7 R0 R1 R2 R3 hfi hfa hIi hIb hIa hJ, _, ucsg0, ?_⟩
   exact LT.holds_imp (fun v' m' h => h) (fun j todo ρ' h => ⟨h.1, ⟨i0, i1, i2, i3, i4, i5, i6, i7, b0, A0, A1, A2, A3, vs, J, rfl, h.2.1⟩, h.2.2⟩) (ucvc0 i0 i1 i2 i3 i4 i5 i6 i7 y8 b0 A0 A1 A2 A3 Z4 vs J r0 r1 r2 r3 r4 r5 r6 r7 R0 R1 R2 R3 hfi hfa hIi hIb hIa hJ)
  ·simp [uchs] at hj
def ucS : Go.Sx.Spec := memoG (findG 8 1 4 ucL ucM) ucH ucL ucM ucN (ucR) (some ucO)
theorem ucok (xs : Nat → Nat → Ext) : SpecOK Try.prog (Iv xs) 56 ucS := memoA_ok (ucat xs) (exactS_at _ _ _ _ _ _)
def cgH : Hyp := ⟨[(.v 0, (0, 65535)), (.v 1, (0, 65535)), (.v 2, (0, 255)), (.v 3, (0, 255)), (.v 4, (0, 65535)), (.v 5, (0, 65535)), (.v 6, (0, 65535)), (.v 7, (0, 255))], [(0, (0, 65535)), (1, (0, 255)), (2, (0, 65535))], [(10, (0, 4294967295))], [(50, (0, 255))], [], []⟩
def cgL : List SV := [.s (.ptr 0 (.lit 0))]
def cgM : Mem := [⟨75, [.run .u16 (.lit 32768) (.av 0) 0, .run .u8 (.lit 544) (.av 1) 0, .run .u16 (.lit 256) (.av 2) 0, .one (.int .u16 (.v 0)), .one (.bool (.bv 0)), .one (.int .u16 (.v 1)), .one (.int .u8 (.v 2)), .one (.int .u8 (.v 3)), .one (.int .u16 (.v 4)), .one (.int .u16 (.v 5)), .one (.int .u16 (.v 6)), .one (.int .u8 (.v 7))], true, none, false⟩]
def cgO : Mem := [⟨75, [.run .u16 (.lit 32768) (.av 0) 0, .run .u8 (.lit 544) (.av 1) 0, .run .u16 (.lit 256) (.av 2) 0, .one (.int .u16 (.v 0)), .one (.bool (.bv 0)), .one (.int .u16 (.v 1)), .one (.int .u8 (.v 2)), .one (.int .u8 (.v 3)), .one (.int .u16 (.v 4)), .one (.int .u16 (.v 5)), .one (.int .u16 (.v 6)), .one (.int .u8 (.v 7))], true, none, false⟩]
def cgN : List E := []
def cgR : SV := .s (.bool (.and (.app 60 (.cons (.lit 256) (.cons (.lit 32768) (.cons (.av 2) .nil)))) (.and (.and (.le (.v 0) (.lit 511)) (.le (.v 1) (.lit 1023))) (.le (.v 6) (.lit 511)))))
--SKEND
def cg0 : E := .le (.v 8) (.lit 255)
def cg1 : E := .sel (.av 2) (.v 8)
def cg2 : E := .le (.lit 32768) cg1
def cg3 : E := .add (.v 8) (.lit 1)
def cg4 : E := .le (.v 0) (.lit 511)
def cg5 : E := .le (.v 1) (.lit 1023)
def cg6 : E := .and cg4 cg5
def cg7 : E := .le (.v 6) (.lit 511)
def cg8 : E := .and cg6 cg7
noncomputable def cgT0 : List Item := seekS Try.prog 57 3
noncomputable def cgh0 : Head := ⟨3, cgT0, ⟨[((.v 0), (0, 65535)), ((.v 1), (0, 65535)), ((.v 2), (0, 255)), ((.v 3), (0, 255)), ((.v 4), (0, 65535)), ((.v 5), (0, 65535)), ((.v 6), (0, 65535)), ((.v 7), (0, 255)), ((.v 8), (0, 256))], [(0, (0, 65535)), (1, (0, 255)), (2, (0, 65535))], [(10, (0, 4294967295))], [(50, (0, 255))], [], []⟩, [⟨11, [], .s (.int .i64 (.v 8))⟩, ⟨10, [], .agg [.run .u16 (.lit 256) (.av 2) 0]⟩, ⟨0, [], .s (.ptr 0 (.lit 0))⟩], [⟨75, [.run .u16 (.lit 32768) (.av 0) 0, .run .u8 (.lit 544) (.av 1) 0, .run .u16 (.lit 256) (.av 2) 0, .one (.int .u16 (.v 0)), .one (.bool (.bv 0)), .one (.int .u16 (.v 1)), .one (.int .u8 (.v 2)), .one (.int .u8 (.v 3)), .one (.int .u16 (.v 4)), .one (.int .u16 (.v 5)), .one (.int .u16 (.v 6)), .one (.int .u8 (.v 7))], true, none, false⟩]⟩
noncomputable def cghs : List Head := [cgh0]
def cgD : Dim := ⟨9, 1, 3, 8, 1, 3, 1⟩
theorem cgst : startL Try.prog S0 S0h cgD cghs [] 3000 0 57 cgH cgL cgM = some (.jump 0 cgT0 ⟨[(8, (.lit 0))], [], []⟩) := by kernel_rfl
theorem cgsg0 : segL Try.prog S0 S0h cgD cghs [] 3000 0 57 cgh0 = some (.ite cg0 (.ite cg2 (.ret (.s (.bool (.blit false))) [⟨75, [.run .u16 (.lit 32768) (.av 0) 0, .run .u8 (.lit 544) (.av 1) 0, .run .u16 (.lit 256) (.av 2) 0, .one (.int .u16 (.v 0)), .one (.bool (.bv 0)), .one (.int .u16 (.v 1)), .one (.int .u8 (.v 2)), .one (.int .u8 (.v 3)), .one (.int .u16 (.v 4)), .one (.int .u16 (.v 5)), .one (.int .u16 (.v 6)), .one (.int .u8 (.v 7))], true, none, false⟩]) (.jump 0 cgT0 ⟨[(8, cg3)], [], []⟩)) (.ret (.s (.bool cg8)) [⟨75, [.run .u16 (.lit 32768) (.av 0) 0, .run .u8 (.lit 544) (.av 1) 0, .run .u16 (.lit 256) (.av 2) 0, .one (.int .u16 (.v 0)), .one (.bool (.bv 0)), .one (.int .u16 (.v 1)), .one (.int .u8 (.v 2)), .one (.int .u8 (.v 3)), .one (.int .u16 (.v 4)), .one (.int .u16 (.v 5)), .one (.int .u16 (.v 6)), .one (.int .u8 (.v 7))], true, none, false⟩])) := by kernel_rfl
def cgV (i0 i1 i2 i3 i4 i5 i6 i7 y8 : Int) (b0 : Bool) (A0 A1 A2 : Nat → Int) (vs : List Value) (J : Interp) : Env := ⟨[i0, i1, i2, i3, i4, i5, i6, i7, y8], [b0], [A0, A1, A2], vs, J⟩
def cgJ (i0 i1 i2 i3 i4 i5 i6 i7 y8 : Int) (b0 : Bool) (A0 A1 A2 : Nat → Int) : Nat → Prop
 | 0 => (0 ≤ y8 ∧ y8 ≤ 256) ∧ ∀ j : Nat, (j : Int) < y8 → A2 j < 32768
 | _ => False
def cgmu : Nat → Env → Nat
 | 0, ρ => (256 - ρ.i.getD 8 0).toNat
 | _, _ => 0
theorem cgok0 (i0 i1 i2 i3 i4 i5 i6 i7 y8 : Int) (b0 : Bool) (A0 A1 A2 : Nat → Int) (vs : List Value) (J : Interp) (r0 : 0 ≤ i0 ∧ i0 ≤ 65535) (r1 : 0 ≤ i1 ∧ i1 ≤ 65535) (r2 : 0 ≤ i2 ∧ i2 ≤ 255) (r3 : 0 ≤ i3 ∧ i3 ≤ 255) (r4 : 0 ≤ i4 ∧ i4 ≤ 65535) (r5 : 0 ≤ i5 ∧ i5 ≤ 65535) (r6 : 0 ≤ i6 ∧ i6 ≤ 65535) (r7 : 0 ≤ i7 ∧ i7 ≤ 255) (R0 : ∀ j, 0 ≤ A0 j ∧ A0 j ≤ 65535) (R1 : ∀ j, 0 ≤ A1 j ∧ A1 j ≤ 255) (R2 : ∀ j, 0 ≤ A2 j ∧ A2 j ≤ 65535) (hfi : ∀ p ∈ cgH.fi, ∀ is bs xs, inR p.2 (J.fi p.1 is bs xs)) (hfa : ∀ p ∈ cgH.fa, ∀ is bs xs j, inR p.2 (J.fa p.1 is bs xs j)) (hIi : J.fi = Ifi) (hIb : J.fb = Ifb) (hIa : J.fa = Ifa) (hJ : cgJ i0 i1 i2 i3 i4 i5 i6 i7 y8 b0 A0 A1 A2 0) : Hyp.ok cgh0.H (cgV i0 i1 i2 i3 i4 i5 i6 i7 y8 b0 A0 A1 A2 vs J) := by
 simp only [cgJ] at hJ
 obtain ⟨l0, hinv⟩ := hJ
 refine ⟨by simp [cgh0], ?_, ?_, ?_, ?_, by simp [cgh0]⟩
 ·intro p hp
  simp only [cgh0, List.mem_cons, List.not_mem_nil, or_false] at hp
  rcases hp with rfl | rfl | rfl | rfl | rfl | rfl | rfl | rfl | rfl
  ·exact r0
  ·exact r1
  ·exact r2
  ·exact r3
  ·exact r4
  ·exact r5
  ·exact r6
  ·exact r7
  ·exact l0
 ·intro p hp
  simp only [cgh0, List.mem_cons, List.not_mem_nil, or_false] at hp
  rcases hp with rfl | rfl | rfl
  ·exact R0
  ·exact R1
  ·exact R2
 ·exact hfi
 ·exact hfa
theorem cgvcS (i0 i1 i2 i3 i4 i5 i6 i7 : Int) (b0 : Bool) (A0 A1 A2 : Nat → Int) (vs : List Value) (J : Interp) (r0 : 0 ≤ i0 ∧ i0 ≤ 65535) (r1 : 0 ≤ i1 ∧ i1 ≤ 65535) (r2 : 0 ≤ i2 ∧ i2 ≤ 255) (r3 : 0 ≤ i3 ∧ i3 ≤ 255) (r4 : 0 ≤ i4 ∧ i4 ≤ 65535) (r5 : 0 ≤ i5 ∧ i5 ≤ 65535) (r6 : 0 ≤ i6 ∧ i6 ≤ 65535) (r7 : 0 ≤ i7 ∧ i7 ≤ 255) (R0 : ∀ j, 0 ≤ A0 j ∧ A0 j ≤ 65535) (R1 : ∀ j, 0 ≤ A1 j ∧ A1 j ≤ 255) (R2 : ∀ j, 0 ≤ A2 j ∧ A2 j ≤ 65535) (hfi : ∀ p ∈ cgH.fi, ∀ is bs xs, inR p.2 (J.fi p.1 is bs xs)) (hfa : ∀ p ∈ cgH.fa, ∀ is bs xs j, inR p.2 (J.fa p.1 is bs xs j)) (hIi : J.fi = Ifi) (hIb : J.fb = Ifb) (hIa : J.fa = Ifa) :
 LT.holds (cgV i0 i1 i2 i3 i4 i5 i6 i7 0 b0 A0 A1 A2 vs J) (fun v' m' => RetOK (cgV i0 i1 i2 i3 i4 i5 i6 i7 0 b0 A0 A1 A2 vs J) (⟨[i0, i1, i2, i3, i4, i5, i6, i7], [b0], [A0, A1, A2], vs, J⟩ : Env) cgR cgO v' m') (fun j todo ρ' => (cghs[j]?.map (·.todo)) = some todo ∧ (fun j ρ' => ∃ (y8 : Int), ρ' = (cgV i0 i1 i2 i3 i4 i5 i6 i7 y8 b0 A0 A1 A2 vs J) ∧ cgJ i0 i1 i2 i3 i4 i5 i6 i7 y8 b0 A0 A1 A2 j) j ρ') (.jump 0 cgT0 ⟨[(8, (.lit 0))], [], []⟩) := by
 simp only [LT.holds]
 refine ⟨rfl, (E.i (cgV i0 i1 i2 i3 i4 i5 i6 i7 0 b0 A0 A1 A2 vs J) ((.lit 0))), rfl, ?_⟩
 ·simp only [cgJ]
  simp only [cgV, cg0, cg1, cg2, cg3, cg4, cg5, cg6, cg7, cg8, i_v, b_bv, i_lit, b_blit, i_add, i_sub, i_mul, i_div, i_mod, i_tdiv, i_tmod, i_ite, b_ite, b_lt, b_le, b_eq, b_not, b_and, b_or, b_iff, i_sel, a_tab, i_pow2, List.getD_cons_zero, List.getD_cons_succ, decide_eq_true_eq, decide_eq_false_iff_not, Bool.and_eq_true, Bool.or_eq_true, Bool.not_eq_true', Bool.not_eq_false', Bool.and_eq_false_iff, Bool.or_eq_false_iff, Bool.not_not, ite_tt, ite_ff, iff_tt, iff_ff, a_av, a_ite, a_upd]
  exact ⟨by omega, fun j h => by omega⟩
theorem cgvc0 (i0 i1 i2 i3 i4 i5 i6 i7 y8 : Int) (b0 : Bool) (A0 A1 A2 : Nat → Int) (vs : List Value) (J : Interp) (r0 : 0 ≤ i0 ∧ i0 ≤ 65535) (r1 : 0 ≤ i1 ∧ i1 ≤ 65535) (r2 : 0 ≤ i2 ∧ i2 ≤ 255) (r3 : 0 ≤ i3 ∧ i3 ≤ 255) (r4 : 0 ≤ i4 ∧ i4 ≤ 65535) (r5 : 0 ≤ i5 ∧ i5 ≤ 65535) (r6 : 0 ≤ i6 ∧ i6 ≤ 65535) (r7 : 0 ≤ i7 ∧ i7 ≤ 255) (R0 : ∀ j, 0 ≤ A0 j ∧ A0 j ≤ 65535) (R1 : ∀ j, 0 ≤ A1 j ∧ A1 j ≤ 255) (R2 : ∀ j, 0 ≤ A2 j ∧ A2 j ≤ 65535) (hfi : ∀ p ∈ cgH.fi, ∀ is bs xs, inR p.2 (J.fi p.1 is bs xs)) (hfa : ∀ p ∈ cgH.fa, ∀ is bs xs j, inR p.2 (J.fa p.1 is bs xs j)) (hIi : J.fi = Ifi) (hIb : J.fb = Ifb) (hIa : J.fa = Ifa) (hJ : cgJ i0 i1 i2 i3 i4 i5 i6 i7 y8 b0 A0 A1 A2 0) :
 LT.holds (cgV i0 i1 i2 i3 i4 i5 i6 i7 y8 b0 A0 A1 A2 vs J) (fun v' m' => RetOK (cgV i0 i1 i2 i3 i4 i5 i6 i7 y8 b0 A0 A1 A2 vs J) (⟨[i0, i1, i2, i3, i4, i5, i6, i7], [b0], [A0, A1, A2], vs, J⟩ : Env) cgR cgO v' m') (fun j' todo ρ' => (cghs[j']?.map (·.todo)) = some todo ∧ (fun j ρ' => ∃ (y8 : Int), ρ' = (cgV i0 i1 i2 i3 i4 i5 i6 i7 y8 b0 A0 A1 A2 vs J) ∧ cgJ i0 i1 i2 i3 i4 i5 i6 i7 y8 b0 A0 A1 A2 j) j' ρ' ∧ cgmu j' ρ' < cgmu 0 (cgV i0 i1 i2 i3 i4 i5 i6 i7 y8 b0 A0 A1 A2 vs J)) (.ite cg0 (.ite cg2 (.ret (.s (.bool (.blit false))) [⟨75, [.run .u16 (.lit 32768) (.av 0) 0, .run .u8 (.lit 544) (.av 1) 0, .run .u16 (.lit 256) (.av 2) 0, .one (.int .u16 (.v 0)), .one (.bool (.bv 0)), .one (.int .u16 (.v 1)), .one (.int .u8 (.v 2)), .one (.int .u8 (.v 3)), .one (.int .u16 (.v 4)), .one (.int .u16 (.v 5)), .one (.int .u16 (.v 6)), .one (.int .u8 (.v 7))], true, none, false⟩]) (.jump 0 cgT0 ⟨[(8, cg3)], [], []⟩)) (.ret (.s (.bool cg8)) [⟨75, [.run .u16 (.lit 32768) (.av 0) 0, .run .u8 (.lit 544) (.av 1) 0, .run .u16 (.lit 256) (.av 2) 0, .one (.int .u16 (.v 0)), .one (.bool (.bv 0)), .one (.int .u16 (.v 1)), .one (.int .u8 (.v 2)), .one (.int .u8 (.v 3)), .one (.int .u16 (.v 4)), .one (.int .u16 (.v 5)), .one (.int .u16 (.v 6)), .one (.int .u8 (.v 7))], true, none, false⟩])) := by
 simp only [LT.holds]
 simp only [cgJ] at hJ
 obtain ⟨l0, hinv⟩ := hJ
 refine ⟨fun hc0 => ?_, fun hc0 => ?_⟩
 ·
  refine ⟨fun hc1 => ?_, fun hc1 => ?_⟩
  ·
   refine ⟨rfl, ?_, ?_⟩
   all_goals
    repeat' (first | exact rfl | exact trivial | exact fun _ _ => rfl | refine And.intro ?_ ?_ | refine Or.inr ?_)
   have hb : E.b (⟨[i0, i1, i2, i3, i4, i5, i6, i7], [b0], [A0, A1, A2], vs, J⟩ : Env) (.app 60 (.cons (.lit 256) (.cons (.lit 32768) (.cons (.av 2) .nil)))) = belowF (256 : Int).toNat 32768 A2 := app60 hIb _ _ _
   all_goals simp only [cgV, cg0, cg1, cg2, cg3, cg4, cg5, cg6, cg7, cg8, i_v, b_bv, i_lit, b_blit, i_add, i_sub, i_mul, i_div, i_mod, i_tdiv, i_tmod, i_ite, b_ite, b_lt, b_le, b_eq, b_not, b_and, b_or, b_iff, i_sel, a_tab, i_pow2, List.getD_cons_zero, List.getD_cons_succ, decide_eq_true_eq, decide_eq_false_iff_not, Bool.and_eq_true, Bool.or_eq_true, Bool.not_eq_true', Bool.not_eq_false', Bool.and_eq_false_iff, Bool.or_eq_false_iff, Bool.not_not, ite_tt, ite_ff, iff_tt, iff_ff, a_av, a_ite, a_upd] at hc0 hc1
   have hf : belowF (256 : Int).toNat 32768 A2 = false := belowF_not (j := y8.toNat) (by simp; omega) (by omega)
   show false = E.b (⟨[i0, i1, i2, i3, i4, i5, i6, i7], [b0], [A0, A1, A2], vs, J⟩ : Env) (.and (.app 60 (.cons (.lit 256) (.cons (.lit 32768) (.cons (.av 2) .nil)))) (.and (.and (.le (.v 0) (.lit 511)) (.le (.v 1) (.lit 1023))) (.le (.v 6) (.lit 511))))
   rw [b_and, hb, hf]; rfl
  ·
   refine ⟨rfl, ⟨(E.i (cgV i0 i1 i2 i3 i4 i5 i6 i7 y8 b0 A0 A1 A2 vs J) cg3), rfl, ?_⟩, ?_⟩
   ·simp only [cgJ]
    simp only [cgV, cg0, cg1, cg2, cg3, cg4, cg5, cg6, cg7, cg8, i_v, b_bv, i_lit, b_blit, i_add, i_sub, i_mul, i_div, i_mod, i_tdiv, i_tmod, i_ite, b_ite, b_lt, b_le, b_eq, b_not, b_and, b_or, b_iff, i_sel, a_tab, i_pow2, List.getD_cons_zero, List.getD_cons_succ, decide_eq_true_eq, decide_eq_false_iff_not, Bool.and_eq_true, Bool.or_eq_true, Bool.not_eq_true', Bool.not_eq_false', Bool.and_eq_false_iff, Bool.or_eq_false_iff, Bool.not_not, ite_tt, ite_ff, iff_tt, iff_ff, a_av, a_ite, a_upd] at hc0 hc1 ⊢
    refine ⟨by omega, fun j h => ?_⟩
    by_cases e : (j : Int) = y8
    ·have : j = y8.toNat := by omega
     subst this; omega
    ·exact hinv j (by omega)
   ·simp only [cgmu, Env.app, setAll, List.map_cons, List.map_nil, List.set, cgV, cg0, cg1, cg2, cg3, cg4, cg5, cg6, cg7, cg8, i_v, b_bv, i_lit, b_blit, i_add, i_sub, i_mul, i_div, i_mod, i_tdiv, i_tmod, i_ite, b_ite, b_lt, b_le, b_eq, b_not, b_and, b_or, b_iff, i_sel, a_tab, i_pow2, List.getD_cons_zero, List.getD_cons_succ, decide_eq_true_eq, decide_eq_false_iff_not, Bool.and_eq_true, Bool.or_eq_true, Bool.not_eq_true', Bool.not_eq_false', Bool.and_eq_false_iff, Bool.or_eq_false_iff, Bool.not_not, ite_tt, ite_ff, iff_tt, iff_ff, a_av, a_ite, a_upd] at hc0 hc1 ⊢
    omega
 ·
  refine ⟨rfl, ?_, ?_⟩
  all_goals
   repeat' (first | exact rfl | exact trivial | exact fun _ _ => rfl | refine And.intro ?_ ?_ | refine Or.inr ?_)
  have hb : E.b (⟨[i0, i1, i2, i3, i4, i5, i6, i7], [b0], [A0, A1, A2], vs, J⟩ : Env) (.app 60 (.cons (.lit 256) (.cons (.lit 32768) (.cons (.av 2) .nil)))) = belowF (256 : Int).toNat 32768 A2 := app60 hIb _ _ _
  simp only [cgV, cg0, cg1, cg2, cg3, cg4, cg5, cg6, cg7, cg8, i_v, b_bv, i_lit, b_blit, i_add, i_sub, i_mul, i_div, i_mod, i_tdiv, i_tmod, i_ite, b_ite, b_lt, b_le, b_eq, b_not, b_and, b_or, b_iff, i_sel, a_tab, i_pow2, List.getD_cons_zero, List.getD_cons_succ, decide_eq_true_eq, decide_eq_false_iff_not, Bool.and_eq_true, Bool.or_eq_true, Bool.not_eq_true', Bool.not_eq_false', Bool.and_eq_false_iff, Bool.or_eq_false_iff, Bool.not_not, ite_tt, ite_ff, iff_tt, iff_ff, a_av, a_ite, a_upd] at hc0
  have hf : belowF (256 : Int).toNat 32768 A2 = true := belowF_iff.2 fun j hj => hinv j (by simp at hj; omega)
  show _ = E.b (⟨[i0, i1, i2, i3, i4, i5, i6, i7], [b0], [A0, A1, A2], vs, J⟩ : Env) (.and (.app 60 (.cons (.lit 256) (.cons (.lit 32768) (.cons (.av 2) .nil)))) (.and (.and (.le (.v 0) (.lit 511)) (.le (.v 1) (.lit 1023))) (.le (.v 6) (.lit 511))))
  rw [b_and, hb, hf, Bool.true_and]; rfl
theorem cgat (xs : Nat → Nat → Ext) : SpecAt Try.prog (Iv xs) 57 8 1 3 (exactS cgH cgL cgM cgN cgR (some cgO)) := by
 refine loopS_ok (u := 0) (S0_ok (Iv xs)) (by kernel_rfl) cgst (by decide) rfl (fun ρ j ρ' => ∃(i0 i1 i2 i3 i4 i5 i6 i7 : Int) (b0 : Bool) (A0 A1 A2 : Nat → Int), ∃ vs J, ρ = (⟨[i0, i1, i2, i3, i4, i5, i6, i7], [b0], [A0, A1, A2], vs, J⟩ : Env) ∧ (fun j ρ' => ∃ (y8 : Int), ρ' = (cgV i0 i1 i2 i3 i4 i5 i6 i7 y8 b0 A0 A1 A2 vs J) ∧ cgJ i0 i1 i2 i3 i4 i5 i6 i7 y8 b0 A0 A1 A2 j) j ρ') cgmu ?_
 intro ρ hI hz hH hn
 obtain ⟨ys, zs, Ys, vs, J⟩ := ρ
 obtain ⟨z1, z2, z3⟩ := hz
 simp only at z1 z2 z3 hI
 obtain ⟨i0, ys0, rfl, z1_0⟩ := len_succ z1
 obtain ⟨i1, ys1, rfl, z1_1⟩ := len_succ z1_0
 obtain ⟨i2, ys2, rfl, z1_2⟩ := len_succ z1_1
 obtain ⟨i3, ys3, rfl, z1_3⟩ := len_succ z1_2
 obtain ⟨i4, ys4, rfl, z1_4⟩ := len_succ z1_3
 obtain ⟨i5, ys5, rfl, z1_5⟩ := len_succ z1_4
 obtain ⟨i6, ys6, rfl, z1_6⟩ := len_succ z1_5
 obtain ⟨i7, ys7, rfl, z1_7⟩ := len_succ z1_6
 obtain rfl := List.eq_nil_of_length_eq_zero z1_7
 obtain ⟨b0, zs0, rfl, z2_0⟩ := len_succ z2
 obtain rfl := List.eq_nil_of_length_eq_zero z2_0
 obtain ⟨A0, Ys0, rfl, z3_0⟩ := len_succ z3
 obtain ⟨A1, Ys1, rfl, z3_1⟩ := len_succ z3_0
 obtain ⟨A2, Ys2, rfl, z3_2⟩ := len_succ z3_1
 obtain rfl := List.eq_nil_of_length_eq_zero z3_2
 have r0 : 0 ≤ i0 ∧ i0 ≤ 65535 := hH.e (.v 0, (0, 65535)) (by simp [cgH])
 have r1 : 0 ≤ i1 ∧ i1 ≤ 65535 := hH.e (.v 1, (0, 65535)) (by simp [cgH])
 have r2 : 0 ≤ i2 ∧ i2 ≤ 255 := hH.e (.v 2, (0, 255)) (by simp [cgH])
 have r3 : 0 ≤ i3 ∧ i3 ≤ 255 := hH.e (.v 3, (0, 255)) (by simp [cgH])
 have r4 : 0 ≤ i4 ∧ i4 ≤ 65535 := hH.e (.v 4, (0, 65535)) (by simp [cgH])
 have r5 : 0 ≤ i5 ∧ i5 ≤ 65535 := hH.e (.v 5, (0, 65535)) (by simp [cgH])
 have r6 : 0 ≤ i6 ∧ i6 ≤ 65535 := hH.e (.v 6, (0, 65535)) (by simp [cgH])
 have r7 : 0 ≤ i7 ∧ i7 ≤ 255 := hH.e (.v 7, (0, 255)) (by simp [cgH])
 have R0 : ∀ j, 0 ≤ A0 j ∧ A0 j ≤ 65535 := fun j => hH.a (0, (0, 65535)) (by simp [cgH]) j
 have R1 : ∀ j, 0 ≤ A1 j ∧ A1 j ≤ 255 := fun j => hH.a (1, (0, 255)) (by simp [cgH]) j
 have R2 : ∀ j, 0 ≤ A2 j ∧ A2 j ≤ 65535 := fun j => hH.a (2, (0, 65535)) (by simp [cgH]) j
 have hfi : ∀ p ∈ cgH.fi, ∀ is bs xs, inR p.2 (J.fi p.1 is bs xs) := hH.fi
 have hfa : ∀ p ∈ cgH.fa, ∀ is bs xs j, inR p.2 (J.fa p.1 is bs xs j) := hH.fa
 have hIi : J.fi = Ifi := by rw [hI]; rfl
 have hIb : J.fb = Ifb := by rw [hI]; rfl
 have hIa : J.fa = Ifa := by rw [hI]; rfl
 refine ⟨(cgV i0 i1 i2 i3 i4 i5 i6 i7 0 b0 A0 A1 A2 vs J), rfl, ⟨rfl, rfl, rfl⟩, ?_, fun ι => rfl, ?_, ?_, ?_⟩
 ·
  refine ⟨by simp [cgH], ?_, ?_, ?_, ?_, by simp [cgH]⟩
  ·intro p hp
   simp only [cgH, List.mem_cons, List.not_mem_nil, or_false] at hp
   rcases hp with rfl | rfl | rfl | rfl | rfl | rfl | rfl | rfl
   ·exact r0
   ·exact r1
   ·exact r2
   ·exact r3
   ·exact r4
   ·exact r5
   ·exact r6
   ·exact r7
  ·intro p hp
   simp only [cgH, List.mem_cons, List.not_mem_nil, or_false] at hp
   rcases hp with rfl | rfl | rfl
   ·exact R0
   ·exact R1
   ·exact R2
  ·exact hfi
  ·exact hfa
 ·repeat' (first | exact rfl | exact trivial | exact fun _ _ => rfl | refine And.intro ?_ ?_ | refine Or.inr ?_)
 ·refine LT.holds_imp (fun v' m' h => h) (fun j todo ρ' h => ⟨h.1, i0, i1, i2, i3, i4, i5, i6, i7, b0, A0, A1, A2, vs, J, rfl, h.2⟩) (cgvcS i0 i1 i2 i3 i4 i5 i6 i7 b0 A0 A1 A2 vs J r0 r1 r2 r3 r4 r5 r6 r7 R0 R1 R2 hfi hfa hIi hIb hIa)
 ·intro j h ρ' hj hI' hz' hInv
  obtain ⟨i0', i1', i2', i3', i4', i5', i6', i7', b0', A0', A1', A2', vs', J', he, y8, hρ, hJ⟩ := hInv
  cases he
  subst hρ
  rcases j with _ | j
  ·simp only [cghs, List.getElem?_cons_zero, List.getElem?_cons_succ, Option.some.injEq] at hj; subst hj
   refine ⟨cgh0.H, cgok0 i0 i1 i2 i3 i4 i5 i6 i7 y8 b0 A0 A1 A2 vs J r0 r1 r2 r3 r4 r5 r6 r7 R0 R1 R2 hfi hfa hIi hIb hIa hJ, _, cgsg0, ?_⟩
   exact LT.holds_imp (fun v' m' h => h) (fun j todo ρ' h => ⟨h.1, ⟨i0, i1, i2, i3, i4, i5, i6, i7, b0, A0, A1, A2, vs, J, rfl, h.2.1⟩, h.2.2⟩) (cgvc0 i0 i1 i2 i3 i4 i5 i6 i7 y8 b0 A0 A1 A2 vs J r0 r1 r2 r3 r4 r5 r6 r7 R0 R1 R2 hfi hfa hIi hIb hIa hJ)
  ·simp [cghs] at hj
def cgS : Go.Sx.Spec := memoG (findG 8 1 3 cgL cgM) cgH cgL cgM cgN (cgR) (some cgO)
theorem cgok (xs : Nat → Nat → Ext) : SpecOK Try.prog (Iv xs) 57 cgS := memoA_ok (cgat xs) (exactS_at _ _ _ _ _ _)
def cdH : Hyp := ⟨[(.v 0, (0, 65535)), (.v 1, (0, 65535)), (.v 2, (0, 255)), (.v 3, (0, 255)), (.v 4, (0, 65535)), (.v 5, (0, 65535)), (.v 6, (0, 65535)), (.v 7, (0, 255))], [(0, (0, 65535)), (1, (0, 255)), (2, (0, 65535))], [(10, (0, 4294967295))], [(50, (0, 255))], [], []⟩
def cdL : List SV := [.s (.ptr 0 (.lit 0))]
def cdM : Mem := [⟨43, [.run .u16 (.lit 32768) (.av 0) 0, .run .u8 (.lit 544) (.av 1) 0, .run .u16 (.lit 256) (.av 2) 0, .one (.int .i64 (.v 0)), .one (.bool (.bv 0)), .one (.int .i64 (.v 1)), .one (.int .u8 (.v 2)), .one (.int .u8 (.v 3)), .one (.int .i64 (.v 4)), .one (.int .u16 (.v 5)), .one (.int .i64 (.v 6)), .one (.int .u8 (.v 7))], true, none, false⟩]
def cdO : Mem := [⟨43, [.run .u16 (.lit 32768) (.av 0) 0, .run .u8 (.lit 544) (.av 1) 0, .run .u16 (.lit 256) (.av 2) 0, .one (.int .i64 (.v 0)), .one (.bool (.bv 0)), .one (.int .i64 (.v 1)), .one (.int .u8 (.v 2)), .one (.int .u8 (.v 3)), .one (.int .i64 (.v 4)), .one (.int .u16 (.v 5)), .one (.int .i64 (.v 6)), .one (.int .u8 (.v 7))], true, none, false⟩]
def cdN : List E := []
def cdR : SV := .s (.bool (.and (.app 60 (.cons (.lit 256) (.cons (.lit 32768) (.cons (.av 2) .nil)))) (.and (.and (.le (.v 0) (.lit 511)) (.le (.v 1) (.lit 1023))) (.le (.v 6) (.lit 511)))))
--SKEND
def cd0 : E := .le (.v 8) (.lit 255)
def cd1 : E := .sel (.av 2) (.v 8)
def cd2 : E := .le (.lit 32768) cd1
def cd3 : E := .add (.v 8) (.lit 1)
def cd4 : E := .le (.v 0) (.lit 511)
def cd5 : E := .le (.v 1) (.lit 1023)
def cd6 : E := .and cd4 cd5
def cd7 : E := .le (.v 6) (.lit 511)
def cd8 : E := .and cd6 cd7
noncomputable def cdT0 : List Item := seekS Try.prog 23 3
noncomputable def cdh0 : Head := ⟨3, cdT0, ⟨[((.v 0), (0, 65535)), ((.v 1), (0, 65535)), ((.v 2), (0, 255)), ((.v 3), (0, 255)), ((.v 4), (0, 65535)), ((.v 5), (0, 65535)), ((.v 6), (0, 65535)), ((.v 7), (0, 255)), ((.v 8), (0, 256))], [(0, (0, 65535)), (1, (0, 255)), (2, (0, 65535))], [(10, (0, 4294967295))], [(50, (0, 255))], [], []⟩, [⟨3, [], .s (.int .i64 (.v 8))⟩, ⟨0, [], .s (.ptr 0 (.lit 0))⟩], [⟨43, [.run .u16 (.lit 32768) (.av 0) 0, .run .u8 (.lit 544) (.av 1) 0, .run .u16 (.lit 256) (.av 2) 0, .one (.int .i64 (.v 0)), .one (.bool (.bv 0)), .one (.int .i64 (.v 1)), .one (.int .u8 (.v 2)), .one (.int .u8 (.v 3)), .one (.int .i64 (.v 4)), .one (.int .u16 (.v 5)), .one (.int .i64 (.v 6)), .one (.int .u8 (.v 7))], true, none, false⟩]⟩
noncomputable def cdhs : List Head := [cdh0]
def cdD : Dim := ⟨9, 1, 3, 8, 1, 3, 1⟩
theorem cdst : startL Try.prog S0 S0h cdD cdhs [] 3000 0 23 cdH cdL cdM = some (.jump 0 cdT0 ⟨[(8, (.lit 0))], [], []⟩) := by kernel_rfl
theorem cdsg0 : segL Try.prog S0 S0h cdD cdhs [] 3000 0 23 cdh0 = some (.ite cd0 (.ite cd2 (.ret (.s (.bool (.blit false))) [⟨43, [.run .u16 (.lit 32768) (.av 0) 0, .run .u8 (.lit 544) (.av 1) 0, .run .u16 (.lit 256) (.av 2) 0, .one (.int .i64 (.v 0)), .one (.bool (.bv 0)), .one (.int .i64 (.v 1)), .one (.int .u8 (.v 2)), .one (.int .u8 (.v 3)), .one (.int .i64 (.v 4)), .one (.int .u16 (.v 5)), .one (.int .i64 (.v 6)), .one (.int .u8 (.v 7))], true, none, false⟩]) (.jump 0 cdT0 ⟨[(8, cd3)], [], []⟩)) (.ret (.s (.bool cd8)) [⟨43, [.run .u16 (.lit 32768) (.av 0) 0, .run .u8 (.lit 544) (.av 1) 0, .run .u16 (.lit 256) (.av 2) 0, .one (.int .i64 (.v 0)), .one (.bool (.bv 0)), .one (.int .i64 (.v 1)), .one (.int .u8 (.v 2)), .one (.int .u8 (.v 3)), .one (.int .i64 (.v 4)), .one (.int .u16 (.v 5)), .one (.int .i64 (.v 6)), .one (.int .u8 (.v 7))], true, none, false⟩])) := by kernel_rfl
def cdV (i0 i1 i2 i3 i4 i5 i6 i7 y8 : Int) (b0 : Bool) (A0 A1 A2 : Nat → Int) (vs : List Value) (J : Interp) : Env := ⟨[i0, i1, i2, i3, i4, i5, i6, i7, y8], [b0], [A0, A1, A2], vs, J⟩
def cdJ (i0 i1 i2 i3 i4 i5 i6 i7 y8 : Int) (b0 : Bool) (A0 A1 A2 : Nat → Int) : Nat → Prop
 | 0 => (0 ≤ y8 ∧ y8 ≤ 256) ∧ ∀ j : Nat, (j : Int) < y8 → A2 j < 32768
 | _ => False
def cdmu : Nat → Env → Nat
 | 0, ρ => (256 - ρ.i.getD 8 0).toNat
 | _, _ => 0
theorem cdok0 (i0 i1 i2 i3 i4 i5 i6 i7 y8 : Int) (b0 : Bool) (A0 A1 A2 : Nat → Int) (vs : List Value) (J : Interp) (r0 : 0 ≤ i0 ∧ i0 ≤ 65535) (r1 : 0 ≤ i1 ∧ i1 ≤ 65535) (r2 : 0 ≤ i2 ∧ i2 ≤ 255) (r3 : 0 ≤ i3 ∧ i3 ≤ 255) (r4 : 0 ≤ i4 ∧ i4 ≤ 65535) (r5 : 0 ≤ i5 ∧ i5 ≤ 65535) (r6 : 0 ≤ i6 ∧ i6 ≤ 65535) (r7 : 0 ≤ i7 ∧ i7 ≤ 255) (R0 : ∀ j, 0 ≤ A0 j ∧ A0 j ≤ 65535) (R1 : ∀ j, 0 ≤ A1 j ∧ A1 j ≤ 255) (R2 : ∀ j, 0 ≤ A2 j ∧ A2 j ≤ 65535) (hfi : ∀ p ∈ cdH.fi, ∀ is bs xs, inR p.2 (J.fi p.1 is bs xs)) (hfa : ∀ p ∈ cdH.fa, ∀ is bs xs j, inR p.2 (J.fa p.1 is bs xs j)) (hIi : J.fi = Ifi) (hIb : J.fb = Ifb) (hIa : J.fa = Ifa) (hJ : cdJ i0 i1 i2 i3 i4 i5 i6 i7 y8 b0 A0 A1 A2 0) : Hyp.ok cdh0.H (cdV i0 i1 i2 i3 i4 i5 i6 i7 y8 b0 A0 A1 A2 vs J) := by
 simp only [cdJ] at hJ
 obtain ⟨l0, hinv⟩ := hJ
 refine ⟨by simp [cdh0], ?_, ?_, ?_, ?_, by simp [cdh0]⟩
 ·intro p hp
  simp only [cdh0, List.mem_cons, List.not_mem_nil, or_false] at hp
  rcases hp with rfl | rfl | rfl | rfl | rfl | rfl | rfl | rfl | rfl
  ·exact r0
  ·exact r1
  ·exact r2
  ·exact r3
  ·exact r4
  ·exact r5
  ·exact r6
  ·exact r7
  ·exact l0
 ·intro p hp
  simp only [cdh0, List.mem_cons, List.not_mem_nil, or_false] at hp
  rcases hp with rfl | rfl | rfl
  ·exact R0
  ·exact R1
  ·exact R2
 ·exact hfi
 ·exact hfa
theorem cdvcS (i0 i1 i2 i3 i4 i5 i6 i7 : Int) (b0 : Bool) (A0 A1 A2 : Nat → Int) (vs : List Value) (J : Interp) (r0 : 0 ≤ i0 ∧ i0 ≤ 65535) (r1 : 0 ≤ i1 ∧ i1 ≤ 65535) (r2 : 0 ≤ i2 ∧ i2 ≤ 255) (r3 : 0 ≤ i3 ∧ i3 ≤ 255) (r4 : 0 ≤ i4 ∧ i4 ≤ 65535) (r5 : 0 ≤ i5 ∧ i5 ≤ 65535) (r6 : 0 ≤ i6 ∧ i6 ≤ 65535) (r7 : 0 ≤ i7 ∧ i7 ≤ 255) (R0 : ∀ j, 0 ≤ A0 j ∧ A0 j ≤ 65535) (R1 : ∀ j, 0 ≤ A1 j ∧ A1 j ≤ 255) (R2 : ∀ j, 0 ≤ A2 j ∧ A2 j ≤ 65535) (hfi : ∀ p ∈ cdH.fi, ∀ is bs xs, inR p.2 (J.fi p.1 is bs xs)) (hfa : ∀ p ∈ cdH.fa, ∀ is bs xs j, inR p.2 (J.fa p.1 is bs xs j)) (hIi : J.fi = Ifi) (hIb : J.fb = Ifb) (hIa : J.fa = Ifa) :
 LT.holds (cdV i0 i1 i2 i3 i4 i5 i6 i7 0 b0 A0 A1 A2 vs J) (fun v' m' => RetOK (cdV i0 i1 i2 i3 i4 i5 i6 i7 0 b0 A0 A1 A2 vs J) (⟨[i0, i1, i2, i3, i4, i5, i6, i7], [b0], [A0, A1, A2], vs, J⟩ : Env) cdR cdO v' m') (fun j todo ρ' => (cdhs[j]?.map (·.todo)) = some todo ∧ (fun j ρ' => ∃ (y8 : Int), ρ' = (cdV i0 i1 i2 i3 i4 i5 i6 i7 y8 b0 A0 A1 A2 vs J) ∧ cdJ i0 i1 i2 i3 i4 i5 i6 i7 y8 b0 A0 A1 A2 j) j ρ') (.jump 0 cdT0 ⟨[(8, (.lit 0))], [], []⟩) := by
 simp only [LT.holds]
 refine ⟨rfl, (E.i (cdV i0 i1 i2 i3 i4 i5 i6 i7 0 b0 A0 A1 A2 vs J) ((.lit 0))), rfl, ?_⟩
 ·simp only [cdJ]
  simp only [cdV, cd0, cd1, cd2, cd3, cd4, cd5, cd6, cd7, cd8, i_v, b_bv, i_lit, b_blit, i_add, i_sub, i_mul, i_div, i_mod, i_tdiv, i_tmod, i_ite, b_ite, b_lt, b_le, b_eq, b_not, b_and, b_or, b_iff, i_sel, a_tab, i_pow2, List.getD_cons_zero, List.getD_cons_succ, decide_eq_true_eq, decide_eq_false_iff_not, Bool.and_eq_true, Bool.or_eq_true, Bool.not_eq_true', Bool.not_eq_false', Bool.and_eq_false_iff, Bool.or_eq_false_iff, Bool.not_not, ite_tt, ite_ff, iff_tt, iff_ff, a_av, a_ite, a_upd]
  exact ⟨by omega, fun j h => by omega⟩
theorem cdvc0 (i0 i1 i2 i3 i4 i5 i6 i7 y8 : Int) (b0 : Bool) (A0 A1 A2 : Nat → Int) (vs : List Value) (J : Interp) (r0 : 0 ≤ i0 ∧ i0 ≤ 65535) (r1 : 0 ≤ i1 ∧ i1 ≤ 65535) (r2 : 0 ≤ i2 ∧ i2 ≤ 255) (r3 : 0 ≤ i3 ∧ i3 ≤ 255) (r4 : 0 ≤ i4 ∧ i4 ≤ 65535) (r5 : 0 ≤ i5 ∧ i5 ≤ 65535) (r6 : 0 ≤ i6 ∧ i6 ≤ 65535) (r7 : 0 ≤ i7 ∧ i7 ≤ 255) (R0 : ∀ j, 0 ≤ A0 j ∧ A0 j ≤ 65535) (R1 : ∀ j, 0 ≤ A1 j ∧ A1 j ≤ 255) (R2 : ∀ j, 0 ≤ A2 j ∧ A2 j ≤ 65535) (hfi : ∀ p ∈ cdH.fi, ∀ is bs xs, inR p.2 (J.fi p.1 is bs xs)) (hfa : ∀ p ∈ cdH.fa, ∀ is bs xs j, inR p.2 (J.fa p.1 is bs xs j)) (hIi : J.fi = Ifi) (hIb : J.fb = Ifb) (hIa : J.fa = Ifa) (hJ : cdJ i0 i1 i2 i3 i4 i5 i6 i7 y8 b0 A0 A1 A2 0) :
 LT.holds (cdV i0 i1 i2 i3 i4 i5 i6 i7 y8 b0 A0 A1 A2 vs J) (fun v' m' => RetOK (cdV i0 i1 i2 i3 i4 i5 i6 i7 y8 b0 A0 A1 A2 vs J) (⟨[i0, i1, i2, i3, i4, i5, i6, i7], [b0], [A0, A1, A2], vs, J⟩ : Env) cdR cdO v' m') (fun j' todo ρ' => (cdhs[j']?.map (·.todo)) = some todo ∧ (fun j ρ' => ∃ (y8 : Int), ρ' = (cdV i0 i1 i2 i3 i4 i5 i6 i7 y8 b0 A0 A1 A2 vs J) ∧ cdJ i0 i1 i2 i3 i4 i5 i6 i7 y8 b0 A0 A1 A2 j) j' ρ' ∧ cdmu j' ρ' < cdmu 0 (cdV i0 i1 i2 i3 i4 i5 i6 i7 y8 b0 A0 A1 A2 vs J)) (.ite cd0 (.ite cd2 (.ret (.s (.bool (.blit false))) [⟨43, [.run .u16 (.lit 32768) (.av 0) 0, .run .u8 (.lit 544) (.av 1) 0, .run .u16 (.lit 256) (.av 2) 0, .one (.int .i64 (.v 0)), .one (.bool (.bv 0)), .one (.int .i64 (.v 1)), .one (.int .u8 (.v 2)), .one (.int .u8 (.v 3)), .one (.int .i64 (.v 4)), .one (.int .u16 (.v 5)), .one (.int .i64 (.v 6)), .one (.int .u8 (.v 7))], true, none, false⟩]) (.jump 0 cdT0 ⟨[(8, cd3)], [], []⟩)) (.ret (.s (.bool cd8)) [⟨43, [.run .u16 (.lit 32768) (.av 0) 0, .run .u8 (.lit 544) (.av 1) 0, .run .u16 (.lit 256) (.av 2) 0, .one (.int .i64 (.v 0)), .one (.bool (.bv 0)), .one (.int .i64 (.v 1)), .one (.int .u8 (.v 2)), .one (.int .u8 (.v 3)), .one (.int .i64 (.v 4)), .one (.int .u16 (.v 5)), .one (.int .i64 (.v 6)), .one (.int .u8 (.v 7))], true, none, false⟩])) := by
 simp only [LT.holds]
 simp only [cdJ] at hJ
 obtain ⟨l0, hinv⟩ := hJ
 refine ⟨fun hc0 => ?_, fun hc0 => ?_⟩
 ·
  refine ⟨fun hc1 => ?_, fun hc1 => ?_⟩
  ·
   refine ⟨rfl, ?_, ?_⟩
   all_goals
    repeat' (first | exact rfl | exact trivial | exact fun _ _ => rfl | refine And.intro ?_ ?_ | refine Or.inr ?_)
   have hb : E.b (⟨[i0, i1, i2, i3, i4, i5, i6, i7], [b0], [A0, A1, A2], vs, J⟩ : Env) (.app 60 (.cons (.lit 256) (.cons (.lit 32768) (.cons (.av 2) .nil)))) = belowF (256 : Int).toNat 32768 A2 := app60 hIb _ _ _
   all_goals simp only [cdV, cd0, cd1, cd2, cd3, cd4, cd5, cd6, cd7, cd8, i_v, b_bv, i_lit, b_blit, i_add, i_sub, i_mul, i_div, i_mod, i_tdiv, i_tmod, i_ite, b_ite, b_lt, b_le, b_eq, b_not, b_and, b_or, b_iff, i_sel, a_tab, i_pow2, List.getD_cons_zero, List.getD_cons_succ, decide_eq_true_eq, decide_eq_false_iff_not, Bool.and_eq_true, Bool.or_eq_true, Bool.not_eq_true', Bool.not_eq_false', Bool.and_eq_false_iff, Bool.or_eq_false_iff, Bool.not_not, ite_tt, ite_ff, iff_tt, iff_ff, a_av, a_ite, a_upd] at hc0 hc1
   have hf : belowF (256 : Int).toNat 32768 A2 = false := belowF_not (j := y8.toNat) (by simp; omega) (by omega)
   show false = E.b (⟨[i0, i1, i2, i3, i4, i5, i6, i7], [b0], [A0, A1, A2], vs, J⟩ : Env) (.and (.app 60 (.cons (.lit 256) (.cons (.lit 32768) (.cons (.av 2) .nil)))) (.and (.and (.le (.v 0) (.lit 511)) (.le (.v 1) (.lit 1023))) (.le (.v 6) (.lit 511))))
   rw [b_and, hb, hf]; rfl
  ·
   refine ⟨rfl, ⟨(E.i (cdV i0 i1 i2 i3 i4 i5 i6 i7 y8 b0 A0 A1 A2 vs J) cd3), rfl, ?_⟩, ?_⟩
   ·simp only [cdJ]
    simp only [cdV, cd0, cd1, cd2, cd3, cd4, cd5, cd6, cd7, cd8, i_v, b_bv, i_lit, b_blit, i_add, i_sub, i_mul, i_div, i_mod, i_tdiv, i_tmod, i_ite, b_ite, b_lt, b_le, b_eq, b_not, b_and, b_or, b_iff, i_sel, a_tab, i_pow2, List.getD_cons_zero, List.getD_cons_succ, decide_eq_true_eq, decide_eq_false_iff_not, Bool.and_eq_true, Bool.or_eq_true, Bool.not_eq_true', Bool.not_eq_false', Bool.and_eq_false_iff, Bool.or_eq_false_iff, Bool.not_not, ite_tt, ite_ff, iff_tt, iff_ff, a_av, a_ite, a_upd] at hc0 hc1 ⊢
    refine ⟨by omega, fun j h => ?_⟩
    by_cases e : (j : Int) = y8
    ·have : j = y8.toNat := by omega
     subst this; omega
    ·exact hinv j (by omega)
   ·simp only [cdmu, Env.app, setAll, List.map_cons, List.map_nil, List.set, cdV, cd0, cd1, cd2, cd3, cd4, cd5, cd6, cd7, cd8, i_v, b_bv, i_lit, b_blit, i_add, i_sub, i_mul, i_div, i_mod, i_tdiv, i_tmod, i_ite, b_ite, b_lt, b_le, b_eq, b_not, b_and, b_or, b_iff, i_sel, a_tab, i_pow2, List.getD_cons_zero, List.getD_cons_succ, decide_eq_true_eq, decide_eq_false_iff_not, Bool.and_eq_true, Bool.or_eq_true, Bool.not_eq_true', Bool.not_eq_false', Bool.and_eq_false_iff, Bool.or_eq_false_iff, Bool.not_not, ite_tt, ite_ff, iff_tt, iff_ff, a_av, a_ite, a_upd] at hc0 hc1 ⊢
    omega
 ·
  refine ⟨rfl, ?_, ?_⟩
  all_goals
   repeat' (first | exact rfl | exact trivial | exact fun _ _ => rfl | refine And.intro ?_ ?_ | refine Or.inr ?_)
  have hb : E.b (⟨[i0, i1, i2, i3, i4, i5, i6, i7], [b0], [A0, A1, A2], vs, J⟩ : Env) (.app 60 (.cons (.lit 256) (.cons (.lit 32768) (.cons (.av 2) .nil)))) = belowF (256 : Int).toNat 32768 A2 := app60 hIb _ _ _
  simp only [cdV, cd0, cd1, cd2, cd3, cd4, cd5, cd6, cd7, cd8, i_v, b_bv, i_lit, b_blit, i_add, i_sub, i_mul, i_div, i_mod, i_tdiv, i_tmod, i_ite, b_ite, b_lt, b_le, b_eq, b_not, b_and, b_or, b_iff, i_sel, a_tab, i_pow2, List.getD_cons_zero, List.getD_cons_succ, decide_eq_true_eq, decide_eq_false_iff_not, Bool.and_eq_true, Bool.or_eq_true, Bool.not_eq_true', Bool.not_eq_false', Bool.and_eq_false_iff, Bool.or_eq_false_iff, Bool.not_not, ite_tt, ite_ff, iff_tt, iff_ff, a_av, a_ite, a_upd] at hc0
  have hf : belowF (256 : Int).toNat 32768 A2 = true := belowF_iff.2 fun j hj => hinv j (by simp at hj; omega)
  show _ = E.b (⟨[i0, i1, i2, i3, i4, i5, i6, i7], [b0], [A0, A1, A2], vs, J⟩ : Env) (.and (.app 60 (.cons (.lit 256) (.cons (.lit 32768) (.cons (.av 2) .nil)))) (.and (.and (.le (.v 0) (.lit 511)) (.le (.v 1) (.lit 1023))) (.le (.v 6) (.lit 511))))
  rw [b_and, hb, hf, Bool.true_and]; rfl
theorem cdat (xs : Nat → Nat → Ext) : SpecAt Try.prog (Iv xs) 23 8 1 3 (exactS cdH cdL cdM cdN cdR (some cdO)) := by
 refine loopS_ok (u := 0) (S0_ok (Iv xs)) (by kernel_rfl) cdst (by decide) rfl (fun ρ j ρ' => ∃(i0 i1 i2 i3 i4 i5 i6 i7 : Int) (b0 : Bool) (A0 A1 A2 : Nat → Int), ∃ vs J, ρ = (⟨[i0, i1, i2, i3, i4, i5, i6, i7], [b0], [A0, A1, A2], vs, J⟩ : Env) ∧ (fun j ρ' => ∃ (y8 : Int), ρ' = (cdV i0 i1 i2 i3 i4 i5 i6 i7 y8 b0 A0 A1 A2 vs J) ∧ cdJ i0 i1 i2 i3 i4 i5 i6 i7 y8 b0 A0 A1 A2 j) j ρ') cdmu ?_
 intro ρ hI hz hH hn
 obtain ⟨ys, zs, Ys, vs, J⟩ := ρ
 obtain ⟨z1, z2, z3⟩ := hz
 simp only at z1 z2 z3 hI
 obtain ⟨i0, ys0, rfl, z1_0⟩ := len_succ z1
 obtain ⟨i1, ys1, rfl, z1_1⟩ := len_succ z1_0
 obtain ⟨i2, ys2, rfl, z1_2⟩ := len_succ z1_1
 obtain ⟨i3, ys3, rfl, z1_3⟩ := len_succ z1_2
 obtain ⟨i4, ys4, rfl, z1_4⟩ := len_succ z1_3
 obtain ⟨i5, ys5, rfl, z1_5⟩ := len_succ z1_4
 obtain ⟨i6, ys6, rfl, z1_6⟩ := len_succ z1_5
 obtain ⟨i7, ys7, rfl, z1_7⟩ := len_succ z1_6
 obtain rfl := List.eq_nil_of_length_eq_zero z1_7
 obtain ⟨b0, zs0, rfl, z2_0⟩ := len_succ z2
 obtain rfl := List.eq_nil_of_length_eq_zero z2_0
 obtain ⟨A0, Ys0, rfl, z3_0⟩ := len_succ z3
 obtain ⟨A1, Ys1, rfl, z3_1⟩ := len_succ z3_0
 obtain ⟨A2, Ys2, rfl, z3_2⟩ := len_succ z3_1
 obtain rfl := List.eq_nil_of_length_eq_zero z3_2
 have r0 : 0 ≤ i0 ∧ i0 ≤ 65535 := hH.e (.v 0, (0, 65535)) (by simp [cdH])
 have r1 : 0 ≤ i1 ∧ i1 ≤ 65535 := hH.e (.v 1, (0, 65535)) (by simp [cdH])
 have r2 : 0 ≤ i2 ∧ i2 ≤ 255 := hH.e (.v 2, (0, 255)) (by simp [cdH])
 have r3 : 0 ≤ i3 ∧ i3 ≤ 255 := hH.e (.v 3, (0, 255)) (by simp [cdH])
 have r4 : 0 ≤ i4 ∧ i4 ≤ 65535 := hH.e (.v 4, (0, 65535)) (by simp [cdH])
 have r5 : 0 ≤ i5 ∧ i5 ≤ 65535 := hH.e (.v 5, (0, 65535)) (by simp [cdH])
 have r6 : 0 ≤ i6 ∧ i6 ≤ 65535 := hH.e (.v 6, (0, 65535)) (by simp [cdH])
 have r7 : 0 ≤ i7 ∧ i7 ≤ 255 := hH.e (.v 7, (0, 255)) (by simp [cdH])
 have R0 : ∀ j, 0 ≤ A0 j ∧ A0 j ≤ 65535 := fun j => hH.a (0, (0, 65535)) (by simp [cdH]) j
 have R1 : ∀ j, 0 ≤ A1 j ∧ A1 j ≤ 255 := fun j => hH.a (1, (0, 255)) (by simp [cdH]) j
 have R2 : ∀ j, 0 ≤ A2 j ∧ A2 j ≤ 65535 := fun j => hH.a (2, (0, 65535)) (by simp [cdH]) j
 have hfi : ∀ p ∈ cdH.fi, ∀ is bs xs, inR p.2 (J.fi p.1 is bs xs) := hH.fi
 have hfa : ∀ p ∈ cdH.fa, ∀ is bs xs j, inR p.2 (J.fa p.1 is bs xs j) := hH.fa
 have hIi : J.fi = Ifi := by rw [hI]; rfl
 have hIb : J.fb = Ifb := by rw [hI]; rfl
 have hIa : J.fa = Ifa := by rw [hI]; rfl
 refine ⟨(cdV i0 i1 i2 i3 i4 i5 i6 i7 0 b0 A0 A1 A2 vs J), rfl, ⟨rfl, rfl, rfl⟩, ?_, fun ι => rfl, ?_, ?_, ?_⟩
 ·
  refine ⟨by simp [cdH], ?_, ?_, ?_, ?_, by simp [cdH]⟩
  ·intro p hp
   simp only [cdH, List.mem_cons, List.not_mem_nil, or_false] at hp
   rcases hp with rfl | rfl | rfl | rfl | rfl | rfl | rfl | rfl
   ·exact r0
   ·exact r1
   ·exact r2
   ·exact r3
   ·exact r4
   ·exact r5
   ·exact r6
   ·exact r7
  ·intro p hp
   simp only [cdH, List.mem_cons, List.not_mem_nil, or_false] at hp
   rcases hp with rfl | rfl | rfl
   ·exact R0
   ·exact R1
   ·exact R2
  ·exact hfi
  ·exact hfa
 ·repeat' (first | exact rfl | exact trivial | exact fun _ _ => rfl | refine And.intro ?_ ?_ | refine Or.inr ?_)
 ·refine LT.holds_imp (fun v' m' h => h) (fun j todo ρ' h => ⟨h.1, i0, i1, i2, i3, i4, i5, i6, i7, b0, A0, A1, A2, vs, J, rfl, h.2⟩) (cdvcS i0 i1 i2 i3 i4 i5 i6 i7 b0 A0 A1 A2 vs J r0 r1 r2 r3 r4 r5 r6 r7 R0 R1 R2 hfi hfa hIi hIb hIa)
 ·intro j h ρ' hj hI' hz' hInv
  obtain ⟨i0', i1', i2', i3', i4', i5', i6', i7', b0', A0', A1', A2', vs', J', he, y8, hρ, hJ⟩ := hInv
  cases he
  subst hρ
  rcases j with _ | j
  ·simp only [cdhs, List.getElem?_cons_zero, List.getElem?_cons_succ, Option.some.injEq] at hj; subst hj
   refine ⟨cdh0.H, cdok0 i0 i1 i2 i3 i4 i5 i6 i7 y8 b0 A0 A1 A2 vs J r0 r1 r2 r3 r4 r5 r6 r7 R0 R1 R2 hfi hfa hIi hIb hIa hJ, _, cdsg0, ?_⟩
   exact LT.holds_imp (fun v' m' h => h) (fun j todo ρ' h => ⟨h.1, ⟨i0, i1, i2, i3, i4, i5, i6, i7, b0, A0, A1, A2, vs, J, rfl, h.2.1⟩, h.2.2⟩) (cdvc0 i0 i1 i2 i3 i4 i5 i6 i7 y8 b0 A0 A1 A2 vs J r0 r1 r2 r3 r4 r5 r6 r7 R0 R1 R2 hfi hfa hIi hIb hIa hJ)
  ·simp [cdhs] at hj
def cdS : Go.Sx.Spec := memoG (findG 8 1 3 cdL cdM) cdH cdL cdM cdN (cdR) (some cdO)
theorem cdok (xs : Nat → Nat → Ext) : SpecOK Try.prog (Iv xs) 23 cdS := memoA_ok (cdat xs) (exactS_at _ _ _ _ _ _)
def wvH : Hyp := ⟨[(.v 0, (0, 65535)), (.v 1, (0, 65535)), (.v 2, (0, 255)), (.v 3, (0, 255)), (.v 4, (0, 65535)), (.v 5, (0, 65535)), (.v 6, (0, 65535)), (.v 7, (0, 255))], [(0, (0, 65535)), (1, (0, 255)), (2, (0, 65535))], [(10, (0, 4294967295))], [(50, (0, 255))], [], []⟩
def wvL : List SV := [.s (.slc 0 (.lit 0) (.lit 32768) (.kn (.lit 32768)))]
def wvM : Mem := [⟨43, [.run .u16 (.lit 32768) (.av 0) 0, .run .u8 (.lit 544) (.av 1) 0, .run .u16 (.lit 256) (.av 2) 0, .one (.int .i64 (.v 0)), .one (.bool (.bv 0)), .one (.int .i64 (.v 1)), .one (.int .u8 (.v 2)), .one (.int .u8 (.v 3)), .one (.int .i64 (.v 4)), .one (.int .u16 (.v 5)), .one (.int .i64 (.v 6)), .one (.int .u8 (.v 7))], true, none, false⟩]
def wvO : Mem := [⟨43, [.run .u16 (.lit 32768) (.av 0) 0, .run .u8 (.lit 544) (.av 1) 0, .run .u16 (.lit 256) (.av 2) 0, .one (.int .i64 (.v 0)), .one (.bool (.bv 0)), .one (.int .i64 (.v 1)), .one (.int .u8 (.v 2)), .one (.int .u8 (.v 3)), .one (.int .i64 (.v 4)), .one (.int .u16 (.v 5)), .one (.int .i64 (.v 6)), .one (.int .u8 (.v 7))], true, none, false⟩, ⟨5, [.run .u8 (.lit 65536) (.app 50 (.cons (.av 0) .nil)) 0], true, some 1, false⟩]
def wvN : List E := []
def wvR : SV := .s (.slc 1 (.lit 0) (.lit 65536) (.op (.lit 0)))
--SKEND
def wv0 : E := .sel (.av 0) (.lit 0)
def wv1 : E := .mod wv0 (.lit 256)
def wv2 : E := .upd (.tab []) (.lit 0) wv1
def wv3 : E := .div wv0 (.lit 256)
def wv4 : E := .upd wv2 (.lit 1) wv3
def wv5 : E := .le (.v 9) (.lit 32767)
def wv6 : E := .add (.v 8) (.lit 2)
def wv7 : E := .add (.v 9) (.lit 1)
def wv8 : E := .sel (.av 0) (.v 9)
def wv9 : E := .mod wv8 (.lit 256)
def wv10 : E := .upd (.av 3) (.v 8) wv9
def wv11 : E := .add (.v 8) (.lit 1)
def wv12 : E := .div wv8 (.lit 256)
def wv13 : E := .upd wv10 wv11 wv12
noncomputable def wvT0 : List Item := seekS Try.prog 17 4
noncomputable def wvh0 : Head := ⟨4, wvT0, ⟨[((.v 0), (0, 65535)), ((.v 1), (0, 65535)), ((.v 2), (0, 255)), ((.v 3), (0, 255)), ((.v 4), (0, 65535)), ((.v 5), (0, 65535)), ((.v 6), (0, 65535)), ((.v 7), (0, 255)), ((.v 8), (0, 65536)), ((.v 9), (0, 32768))], [(0, (0, 65535)), (1, (0, 255)), (2, (0, 65535)), (3, (0, 255))], [(10, (0, 4294967295))], [(50, (0, 255))], [], []⟩, [⟨4, [], .s (.int .i64 (.v 9))⟩, ⟨3, [], .s (.slc 1 (.lit 0) (.v 8) (.op (.lit 0)))⟩, ⟨0, [], .s (.slc 0 (.lit 0) (.lit 32768) (.kn (.lit 32768)))⟩], [⟨43, [.run .u16 (.lit 32768) (.av 0) 0, .run .u8 (.lit 544) (.av 1) 0, .run .u16 (.lit 256) (.av 2) 0, .one (.int .i64 (.v 0)), .one (.bool (.bv 0)), .one (.int .i64 (.v 1)), .one (.int .u8 (.v 2)), .one (.int .u8 (.v 3)), .one (.int .i64 (.v 4)), .one (.int .u16 (.v 5)), .one (.int .i64 (.v 6)), .one (.int .u8 (.v 7))], true, none, false⟩, ⟨5, [.run .u8 (.v 8) (.av 3) 0], true, some 1, false⟩]⟩
noncomputable def wvhs : List Head := [wvh0]
def wvD : Dim := ⟨10, 1, 4, 8, 1, 3, 1⟩
theorem wvst : startL Try.prog S0 S0h wvD wvhs [] 3000 1 17 wvH wvL wvM = some (.jump 0 wvT0 ⟨[(8, (.lit 2)), (9, (.lit 1))], [], [(3, wv4)]⟩) := by kernel_rfl
theorem wvsg0 : segL Try.prog S0 S0h wvD wvhs [] 3000 0 17 wvh0 = some (.ite wv5 (.jump 0 wvT0 ⟨[(8, wv6), (9, wv7)], [], [(3, wv13)]⟩) (.ret (.s (.slc 1 (.lit 0) (.v 8) (.op (.lit 0)))) [⟨43, [.run .u16 (.lit 32768) (.av 0) 0, .run .u8 (.lit 544) (.av 1) 0, .run .u16 (.lit 256) (.av 2) 0, .one (.int .i64 (.v 0)), .one (.bool (.bv 0)), .one (.int .i64 (.v 1)), .one (.int .u8 (.v 2)), .one (.int .u8 (.v 3)), .one (.int .i64 (.v 4)), .one (.int .u16 (.v 5)), .one (.int .i64 (.v 6)), .one (.int .u8 (.v 7))], true, none, false⟩, ⟨5, [.run .u8 (.v 8) (.av 3) 0], true, some 1, false⟩])) := by kernel_rfl
def wvV (i0 i1 i2 i3 i4 i5 i6 i7 y8 y9 : Int) (b0 : Bool) (A0 A1 A2 Z3 : Nat → Int) (vs : List Value) (J : Interp) : Env := ⟨[i0, i1, i2, i3, i4, i5, i6, i7, y8, y9], [b0], [A0, A1, A2, Z3], vs, J⟩
def wvJ (i0 i1 i2 i3 i4 i5 i6 i7 y8 y9 : Int) (b0 : Bool) (A0 A1 A2 Z3 : Nat → Int) : Nat → Prop
 | 0 => (0 ≤ y8 ∧ y8 ≤ 65536) ∧ (0 ≤ y9 ∧ y9 ≤ 32768) ∧ (∀ j, 0 ≤ Z3 j ∧ Z3 j ≤ 255) ∧ y8 = 2 * y9 ∧ ∀ j : Nat, (j : Int) < 2 * y9 → Z3 j = rowB A0 j
 | _ => False
def wvmu : Nat → Env → Nat
 | 0, ρ => (32768 - ρ.i.getD 9 0).toNat
 | _, _ => 0
theorem wvok0 (i0 i1 i2 i3 i4 i5 i6 i7 y8 y9 : Int) (b0 : Bool) (A0 A1 A2 Z3 : Nat → Int) (vs : List Value) (J : Interp) (r0 : 0 ≤ i0 ∧ i0 ≤ 65535) (r1 : 0 ≤ i1 ∧ i1 ≤ 65535) (r2 : 0 ≤ i2 ∧ i2 ≤ 255) (r3 : 0 ≤ i3 ∧ i3 ≤ 255) (r4 : 0 ≤ i4 ∧ i4 ≤ 65535) (r5 : 0 ≤ i5 ∧ i5 ≤ 65535) (r6 : 0 ≤ i6 ∧ i6 ≤ 65535) (r7 : 0 ≤ i7 ∧ i7 ≤ 255) (R0 : ∀ j, 0 ≤ A0 j ∧ A0 j ≤ 65535) (R1 : ∀ j, 0 ≤ A1 j ∧ A1 j ≤ 255) (R2 : ∀ j, 0 ≤ A2 j ∧ A2 j ≤ 65535) (hfi : ∀ p ∈ wvH.fi, ∀ is bs xs, inR p.2 (J.fi p.1 is bs xs)) (hfa : ∀ p ∈ wvH.fa, ∀ is bs xs j, inR p.2 (J.fa p.1 is bs xs j)) (hIi : J.fi = Ifi) (hIb : J.fb = Ifb) (hIa : J.fa = Ifa) (hJ : wvJ i0 i1 i2 i3 i4 i5 i6 i7 y8 y9 b0 A0 A1 A2 Z3 0) : Hyp.ok wvh0.H (wvV i0 i1 i2 i3 i4 i5 i6 i7 y8 y9 b0 A0 A1 A2 Z3 vs J) := by
 simp only [wvJ] at hJ
 obtain ⟨l0, l1, m0, hinv⟩ := hJ
 refine ⟨by simp [wvh0], ?_, ?_, ?_, ?_, by simp [wvh0]⟩
 ·intro p hp
  simp only [wvh0, List.mem_cons, List.not_mem_nil, or_false] at hp
  rcases hp with rfl | rfl | rfl | rfl | rfl | rfl | rfl | rfl | rfl | rfl
  ·exact r0
  ·exact r1
  ·exact r2
  ·exact r3
  ·exact r4
  ·exact r5
  ·exact r6
  ·exact r7
  ·exact l0
  ·exact l1
 ·intro p hp
  simp only [wvh0, List.mem_cons, List.not_mem_nil, or_false] at hp
  rcases hp with rfl | rfl | rfl | rfl
  ·exact R0
  ·exact R1
  ·exact R2
  ·exact m0
 ·exact hfi
 ·exact hfa
theorem wvvcS (i0 i1 i2 i3 i4 i5 i6 i7 : Int) (b0 : Bool) (A0 A1 A2 : Nat → Int) (vs : List Value) (J : Interp) (r0 : 0 ≤ i0 ∧ i0 ≤ 65535) (r1 : 0 ≤ i1 ∧ i1 ≤ 65535) (r2 : 0 ≤ i2 ∧ i2 ≤ 255) (r3 : 0 ≤ i3 ∧ i3 ≤ 255) (r4 : 0 ≤ i4 ∧ i4 ≤ 65535) (r5 : 0 ≤ i5 ∧ i5 ≤ 65535) (r6 : 0 ≤ i6 ∧ i6 ≤ 65535) (r7 : 0 ≤ i7 ∧ i7 ≤ 255) (R0 : ∀ j, 0 ≤ A0 j ∧ A0 j ≤ 65535) (R1 : ∀ j, 0 ≤ A1 j ∧ A1 j ≤ 255) (R2 : ∀ j, 0 ≤ A2 j ∧ A2 j ≤ 65535) (hfi : ∀ p ∈ wvH.fi, ∀ is bs xs, inR p.2 (J.fi p.1 is bs xs)) (hfa : ∀ p ∈ wvH.fa, ∀ is bs xs j, inR p.2 (J.fa p.1 is bs xs j)) (hIi : J.fi = Ifi) (hIb : J.fb = Ifb) (hIa : J.fa = Ifa) :
 LT.holds (wvV i0 i1 i2 i3 i4 i5 i6 i7 0 0 b0 A0 A1 A2 (fun _ => 0) vs J) (fun v' m' => RetOK (wvV i0 i1 i2 i3 i4 i5 i6 i7 0 0 b0 A0 A1 A2 (fun _ => 0) vs J) (⟨[i0, i1, i2, i3, i4, i5, i6, i7], [b0], [A0, A1, A2], vs, J⟩ : Env) wvR wvO v' m') (fun j todo ρ' => (wvhs[j]?.map (·.todo)) = some todo ∧ (fun j ρ' => ∃ (y8 y9 : Int) (Z3 : Nat → Int), ρ' = (wvV i0 i1 i2 i3 i4 i5 i6 i7 y8 y9 b0 A0 A1 A2 Z3 vs J) ∧ wvJ i0 i1 i2 i3 i4 i5 i6 i7 y8 y9 b0 A0 A1 A2 Z3 j) j ρ') (.jump 0 wvT0 ⟨[(8, (.lit 2)), (9, (.lit 1))], [], [(3, wv4)]⟩) := by
 simp only [LT.holds]
 refine ⟨rfl, (E.i (wvV i0 i1 i2 i3 i4 i5 i6 i7 0 0 b0 A0 A1 A2 (fun _ => 0) vs J) ((.lit 2))), (E.i (wvV i0 i1 i2 i3 i4 i5 i6 i7 0 0 b0 A0 A1 A2 (fun _ => 0) vs J) ((.lit 1))), (E.a (wvV i0 i1 i2 i3 i4 i5 i6 i7 0 0 b0 A0 A1 A2 (fun _ => 0) vs J) wv4), rfl, ?_⟩
 ·simp only [wvJ]
  simp only [wvV, wv0, wv1, wv2, wv3, wv4, wv5, wv6, wv7, wv8, wv9, wv10, wv11, wv12, wv13, i_v, b_bv, i_lit, b_blit, i_add, i_sub, i_mul, i_div, i_mod, i_tdiv, i_tmod, i_ite, b_ite, b_lt, b_le, b_eq, b_not, b_and, b_or, b_iff, i_sel, a_tab, i_pow2, List.getD_cons_zero, List.getD_cons_succ, decide_eq_true_eq, decide_eq_false_iff_not, Bool.and_eq_true, Bool.or_eq_true, Bool.not_eq_true', Bool.not_eq_false', Bool.and_eq_false_iff, Bool.or_eq_false_iff, Bool.not_not, ite_tt, ite_ff, iff_tt, iff_ff, a_av, a_ite, a_upd]
  have q := R0 0
  have h0 : rowB A0 (2 * 0) = A0 0 % 256 := rowB_lo
  have h1 : rowB A0 (2 * 0 + 1) = A0 0 / 256 := rowB_hi (by omega)
  simp only [show (1 : Int).toNat = 1 from rfl, show (0 : Int).toNat = 0 from rfl] at *
  refine ⟨by omega, by omega, fun j => ?_, by omega, fun j h => ?_⟩
  ·split
   ·omega
   ·split
    ·omega
    ·simp
  ·rcases (show j = 0 ∨ j = 1 by omega) with rfl | rfl
   ·rw [if_neg (by omega), if_pos rfl]; exact h0.symm
   ·rw [if_pos rfl]; exact h1.symm
theorem wvvc0 (i0 i1 i2 i3 i4 i5 i6 i7 y8 y9 : Int) (b0 : Bool) (A0 A1 A2 Z3 : Nat → Int) (vs : List Value) (J : Interp) (r0 : 0 ≤ i0 ∧ i0 ≤ 65535) (r1 : 0 ≤ i1 ∧ i1 ≤ 65535) (r2 : 0 ≤ i2 ∧ i2 ≤ 255) (r3 : 0 ≤ i3 ∧ i3 ≤ 255) (r4 : 0 ≤ i4 ∧ i4 ≤ 65535) (r5 : 0 ≤ i5 ∧ i5 ≤ 65535) (r6 : 0 ≤ i6 ∧ i6 ≤ 65535) (r7 : 0 ≤ i7 ∧ i7 ≤ 255) (R0 : ∀ j, 0 ≤ A0 j ∧ A0 j ≤ 65535) (R1 : ∀ j, 0 ≤ A1 j ∧ A1 j ≤ 255) (R2 : ∀ j, 0 ≤ A2 j ∧ A2 j ≤ 65535) (hfi : ∀ p ∈ wvH.fi, ∀ is bs xs, inR p.2 (J.fi p.1 is bs xs)) (hfa : ∀ p ∈ wvH.fa, ∀ is bs xs j, inR p.2 (J.fa p.1 is bs xs j)) (hIi : J.fi = Ifi) (hIb : J.fb = Ifb) (hIa : J.fa = Ifa) (hJ : wvJ i0 i1 i2 i3 i4 i5 i6 i7 y8 y9 b0 A0 A1 A2 Z3 0) :
 LT.holds (wvV i0 i1 i2 i3 i4 i5 i6 i7 y8 y9 b0 A0 A1 A2 Z3 vs J) (fun v' m' => RetOK (wvV i0 i1 i2 i3 i4 i5 i6 i7 y8 y9 b0 A0 A1 A2 Z3 vs J) (⟨[i0, i1, i2, i3, i4, i5, i6, i7], [b0], [A0, A1, A2], vs, J⟩ : Env) wvR wvO v' m') (fun j' todo ρ' => (wvhs[j']?.map (·.todo)) = some todo ∧ (fun j ρ' => ∃ (y8 y9 : Int) (Z3 : Nat → Int), ρ' = (wvV i0 i1 i2 i3 i4 i5 i6 i7 y8 y9 b0 A0 A1 A2 Z3 vs J) ∧ wvJ i0 i1 i2 i3 i4 i5 i6 i7 y8 y9 b0 A0 A1 A2 Z3 j) j' ρ' ∧ wvmu j' ρ' < wvmu 0 (wvV i0 i1 i2 i3 i4 i5 i6 i7 y8 y9 b0 A0 A1 A2 Z3 vs J)) (.ite wv5 (.jump 0 wvT0 ⟨[(8, wv6), (9, wv7)], [], [(3, wv13)]⟩) (.ret (.s (.slc 1 (.lit 0) (.v 8) (.op (.lit 0)))) [⟨43, [.run .u16 (.lit 32768) (.av 0) 0, .run .u8 (.lit 544) (.av 1) 0, .run .u16 (.lit 256) (.av 2) 0, .one (.int .i64 (.v 0)), .one (.bool (.bv 0)), .one (.int .i64 (.v 1)), .one (.int .u8 (.v 2)), .one (.int .u8 (.v 3)), .one (.int .i64 (.v 4)), .one (.int .u16 (.v 5)), .one (.int .i64 (.v 6)), .one (.int .u8 (.v 7))], true, none, false⟩, ⟨5, [.run .u8 (.v 8) (.av 3) 0], true, some 1, false⟩])) := by
 simp only [LT.holds]
 simp only [wvJ] at hJ
 obtain ⟨l0, l1, m0, hinv⟩ := hJ
 refine ⟨fun hc0 => ?_, fun hc0 => ?_⟩
 ·
  refine ⟨rfl, ⟨(E.i (wvV i0 i1 i2 i3 i4 i5 i6 i7 y8 y9 b0 A0 A1 A2 Z3 vs J) wv6), (E.i (wvV i0 i1 i2 i3 i4 i5 i6 i7 y8 y9 b0 A0 A1 A2 Z3 vs J) wv7), (E.a (wvV i0 i1 i2 i3 i4 i5 i6 i7 y8 y9 b0 A0 A1 A2 Z3 vs J) wv13), rfl, ?_⟩, ?_⟩
  ·simp only [wvJ]
   simp only [wvV, wv0, wv1, wv2, wv3, wv4, wv5, wv6, wv7, wv8, wv9, wv10, wv11, wv12, wv13, i_v, b_bv, i_lit, b_blit, i_add, i_sub, i_mul, i_div, i_mod, i_tdiv, i_tmod, i_ite, b_ite, b_lt, b_le, b_eq, b_not, b_and, b_or, b_iff, i_sel, a_tab, i_pow2, List.getD_cons_zero, List.getD_cons_succ, decide_eq_true_eq, decide_eq_false_iff_not, Bool.and_eq_true, Bool.or_eq_true, Bool.not_eq_true', Bool.not_eq_false', Bool.and_eq_false_iff, Bool.or_eq_false_iff, Bool.not_not, ite_tt, ite_ff, iff_tt, iff_ff, a_av, a_ite, a_upd] at hc0 ⊢
   obtain ⟨he, hv⟩ := hinv
   have e0 : y8.toNat = 2 * y9.toNat := by omega
   have e1 : (y8 + 1).toNat = 2 * y9.toNat + 1 := by omega
   have q := R0 y9.toNat
   have h0 : rowB A0 (2 * y9.toNat) = A0 y9.toNat % 256 := rowB_lo
   have h1 : rowB A0 (2 * y9.toNat + 1) = A0 y9.toNat / 256 := rowB_hi (by omega)
   simp only [e0, e1]
   refine ⟨by omega, by omega, fun j => ?_, by omega, fun j h => ?_⟩
   ·have := m0 j; repeat' split
    all_goals omega
   ·by_cases f1 : j = 2 * y9.toNat + 1
    ·rw [if_pos f1, f1, h1]
    ·rw [if_neg f1]
     by_cases f0 : j = 2 * y9.toNat
     ·rw [if_pos f0, f0, h0]
     ·rw [if_neg f0]; exact hv j (by omega)
  ·simp only [wvmu, Env.app, setAll, List.map_cons, List.map_nil, List.set, wvV, wv0, wv1, wv2, wv3, wv4, wv5, wv6, wv7, wv8, wv9, wv10, wv11, wv12, wv13, i_v, b_bv, i_lit, b_blit, i_add, i_sub, i_mul, i_div, i_mod, i_tdiv, i_tmod, i_ite, b_ite, b_lt, b_le, b_eq, b_not, b_and, b_or, b_iff, i_sel, a_tab, i_pow2, List.getD_cons_zero, List.getD_cons_succ, decide_eq_true_eq, decide_eq_false_iff_not, Bool.and_eq_true, Bool.or_eq_true, Bool.not_eq_true', Bool.not_eq_false', Bool.and_eq_false_iff, Bool.or_eq_false_iff, Bool.not_not, ite_tt, ite_ff, iff_tt, iff_ff, a_av, a_ite, a_upd] at hc0 ⊢
   omega
 ·
  refine ⟨rfl, ?_, ?_⟩
  all_goals
   repeat' (first | exact rfl | exact trivial | exact fun _ _ => rfl | refine And.intro ?_ ?_ | refine Or.inr ?_)
  all_goals simp only [wvV, wv0, wv1, wv2, wv3, wv4, wv5, wv6, wv7, wv8, wv9, wv10, wv11, wv12, wv13, i_v, b_bv, i_lit, b_blit, i_add, i_sub, i_mul, i_div, i_mod, i_tdiv, i_tmod, i_ite, b_ite, b_lt, b_le, b_eq, b_not, b_and, b_or, b_iff, i_sel, a_tab, i_pow2, List.getD_cons_zero, List.getD_cons_succ, decide_eq_true_eq, decide_eq_false_iff_not, Bool.and_eq_true, Bool.or_eq_true, Bool.not_eq_true', Bool.not_eq_false', Bool.and_eq_false_iff, Bool.or_eq_false_iff, Bool.not_not, ite_tt, ite_ff, iff_tt, iff_ff, a_av, a_ite, a_upd] at hc0 ⊢
  all_goals obtain ⟨he, hv⟩ := hinv
  all_goals first
   | omega
   | (intro j hj
      rw [show E.a (⟨[i0, i1, i2, i3, i4, i5, i6, i7], [b0], [A0, A1, A2], vs, J⟩ : Env) (.app 50 (.cons (.av 0) .nil)) = rowB A0 from app50 hIa _]
      simp only [Nat.zero_add]
      exact hv j (by omega))
theorem wvat (xs : Nat → Nat → Ext) : SpecAt Try.prog (Iv xs) 17 8 1 3 (exactS wvH wvL wvM wvN wvR (some wvO)) := by
 refine loopS_ok (u := 0) (S0_ok (Iv xs)) (by kernel_rfl) wvst (by decide) rfl (fun ρ j ρ' => ∃(i0 i1 i2 i3 i4 i5 i6 i7 : Int) (b0 : Bool) (A0 A1 A2 : Nat → Int), ∃ vs J, ρ = (⟨[i0, i1, i2, i3, i4, i5, i6, i7], [b0], [A0, A1, A2], vs, J⟩ : Env) ∧ (fun j ρ' => ∃ (y8 y9 : Int) (Z3 : Nat → Int), ρ' = (wvV i0 i1 i2 i3 i4 i5 i6 i7 y8 y9 b0 A0 A1 A2 Z3 vs J) ∧ wvJ i0 i1 i2 i3 i4 i5 i6 i7 y8 y9 b0 A0 A1 A2 Z3 j) j ρ') wvmu ?_
 intro ρ hI hz hH hn
 obtain ⟨ys, zs, Ys, vs, J⟩ := ρ
 obtain ⟨z1, z2, z3⟩ := hz
 simp only at z1 z2 z3 hI
 obtain ⟨i0, ys0, rfl, z1_0⟩ := len_succ z1
 obtain ⟨i1, ys1, rfl, z1_1⟩ := len_succ z1_0
 obtain ⟨i2, ys2, rfl, z1_2⟩ := len_succ z1_1
 obtain ⟨i3, ys3, rfl, z1_3⟩ := len_succ z1_2
 obtain ⟨i4, ys4, rfl, z1_4⟩ := len_succ z1_3
 obtain ⟨i5, ys5, rfl, z1_5⟩ := len_succ z1_4
 obtain ⟨i6, ys6, rfl, z1_6⟩ := len_succ z1_5
 obtain ⟨i7, ys7, rfl, z1_7⟩ := len_succ z1_6
 obtain rfl := List.eq_nil_of_length_eq_zero z1_7
 obtain ⟨b0, zs0, rfl, z2_0⟩ := len_succ z2
 obtain rfl := List.eq_nil_of_length_eq_zero z2_0
 obtain ⟨A0, Ys0, rfl, z3_0⟩ := len_succ z3
 obtain ⟨A1, Ys1, rfl, z3_1⟩ := len_succ z3_0
 obtain ⟨A2, Ys2, rfl, z3_2⟩ := len_succ z3_1
 obtain rfl := List.eq_nil_of_length_eq_zero z3_2
 have r0 : 0 ≤ i0 ∧ i0 ≤ 65535 := hH.e (.v 0, (0, 65535)) (by simp [wvH])
 have r1 : 0 ≤ i1 ∧ i1 ≤ 65535 := hH.e (.v 1, (0, 65535)) (by simp [wvH])
 have r2 : 0 ≤ i2 ∧ i2 ≤ 255 := hH.e (.v 2, (0, 255)) (by simp [wvH])
 have r3 : 0 ≤ i3 ∧ i3 ≤ 255 := hH.e (.v 3, (0, 255)) (by simp [wvH])
 have r4 : 0 ≤ i4 ∧ i4 ≤ 65535 := hH.e (.v 4, (0, 65535)) (by simp [wvH])
 have r5 : 0 ≤ i5 ∧ i5 ≤ 65535 := hH.e (.v 5, (0, 65535)) (by simp [wvH])
 have r6 : 0 ≤ i6 ∧ i6 ≤ 65535 := hH.e (.v 6, (0, 65535)) (by simp [wvH])
 have r7 : 0 ≤ i7 ∧ i7 ≤ 255 := hH.e (.v 7, (0, 255)) (by simp [wvH])
 have R0 : ∀ j, 0 ≤ A0 j ∧ A0 j ≤ 65535 := fun j => hH.a (0, (0, 65535)) (by simp [wvH]) j
 have R1 : ∀ j, 0 ≤ A1 j ∧ A1 j ≤ 255 := fun j => hH.a (1, (0, 255)) (by simp [wvH]) j
 have R2 : ∀ j, 0 ≤ A2 j ∧ A2 j ≤ 65535 := fun j => hH.a (2, (0, 65535)) (by simp [wvH]) j
 have hfi : ∀ p ∈ wvH.fi, ∀ is bs xs, inR p.2 (J.fi p.1 is bs xs) := hH.fi
 have hfa : ∀ p ∈ wvH.fa, ∀ is bs xs j, inR p.2 (J.fa p.1 is bs xs j) := hH.fa
 have hIi : J.fi = Ifi := by rw [hI]; rfl
 have hIb : J.fb = Ifb := by rw [hI]; rfl
 have hIa : J.fa = Ifa := by rw [hI]; rfl
 refine ⟨(wvV i0 i1 i2 i3 i4 i5 i6 i7 0 0 b0 A0 A1 A2 (fun _ => 0) vs J), rfl, ⟨rfl, rfl, rfl⟩, ?_, fun ι => rfl, ?_, ?_, ?_⟩
 ·
  refine ⟨by simp [wvH], ?_, ?_, ?_, ?_, by simp [wvH]⟩
  ·intro p hp
   simp only [wvH, List.mem_cons, List.not_mem_nil, or_false] at hp
   rcases hp with rfl | rfl | rfl | rfl | rfl | rfl | rfl | rfl
   ·exact r0
   ·exact r1
   ·exact r2
   ·exact r3
   ·exact r4
   ·exact r5
   ·exact r6
   ·exact r7
  ·intro p hp
   simp only [wvH, List.mem_cons, List.not_mem_nil, or_false] at hp
   rcases hp with rfl | rfl | rfl
   ·exact R0
   ·exact R1
   ·exact R2
  ·exact hfi
  ·exact hfa
 ·repeat' (first | exact rfl | exact trivial | exact fun _ _ => rfl | refine And.intro ?_ ?_ | refine Or.inr ?_)
 ·refine LT.holds_imp (fun v' m' h => h) (fun j todo ρ' h => ⟨h.1, i0, i1, i2, i3, i4, i5, i6, i7, b0, A0, A1, A2, vs, J, rfl, h.2⟩) (wvvcS i0 i1 i2 i3 i4 i5 i6 i7 b0 A0 A1 A2 vs J r0 r1 r2 r3 r4 r5 r6 r7 R0 R1 R2 hfi hfa hIi hIb hIa)
 ·intro j h ρ' hj hI' hz' hInv
  obtain ⟨i0', i1', i2', i3', i4', i5', i6', i7', b0', A0', A1', A2', vs', J', he, y8, y9, Z3, hρ, hJ⟩ := hInv
  cases he
  subst hρ
  rcases j with _ | j
  ·simp only [wvhs, List.getElem?_cons_zero, List.getElem?_cons_succ, Option.some.injEq] at hj; subst hj
   refine ⟨wvh0.H, wvok0 i0 i1 i2 i3 i4 i5 i6 i7 y8 y9 b0 A0 A1 A2 Z3 vs J r0 r1 r2 r3 r4 r5 r6 r7 R0 R1 R2 hfi hfa hIi hIb hIa hJ, _, wvsg0, ?_⟩
   exact LT.holds_imp (fun v' m' h => h) (fun j todo ρ' h => ⟨h.1, ⟨i0, i1, i2, i3, i4, i5, i6, i7, b0, A0, A1, A2, vs, J, rfl, h.2.1⟩, h.2.2⟩) (wvvc0 i0 i1 i2 i3 i4 i5 i6 i7 y8 y9 b0 A0 A1 A2 Z3 vs J r0 r1 r2 r3 r4 r5 r6 r7 R0 R1 R2 hfi hfa hIi hIb hIa hJ)
  ·simp [wvhs] at hj
def wvS : Go.Sx.Spec := memoG (findG 8 1 3 wvL wvM) wvH wvL wvM wvN (wvR) (some wvO)
theorem wvok (xs : Nat → Nat → Ext) : SpecOK Try.prog (Iv xs) 17 wvS := memoA_ok (wvat xs) (exactS_at _ _ _ _ _ _)
def wdH : Hyp := ⟨[(.v 0, (0, 65535)), (.v 1, (0, 65535)), (.v 2, (0, 255)), (.v 3, (0, 255)), (.v 4, (0, 65535)), (.v 5, (0, 65535)), (.v 6, (0, 65535)), (.v 7, (0, 255))], [(0, (0, 65535)), (1, (0, 255)), (2, (0, 65535))], [(10, (0, 4294967295))], [(50, (0, 255))], [], []⟩
def wdL : List SV := [.s (.slc 0 (.lit 33312) (.lit 256) (.kn (.lit 256)))]
def wdM : Mem := [⟨43, [.run .u16 (.lit 32768) (.av 0) 0, .run .u8 (.lit 544) (.av 1) 0, .run .u16 (.lit 256) (.av 2) 0, .one (.int .i64 (.v 0)), .one (.bool (.bv 0)), .one (.int .i64 (.v 1)), .one (.int .u8 (.v 2)), .one (.int .u8 (.v 3)), .one (.int .i64 (.v 4)), .one (.int .u16 (.v 5)), .one (.int .i64 (.v 6)), .one (.int .u8 (.v 7))], true, none, false⟩]
def wdO : Mem := [⟨43, [.run .u16 (.lit 32768) (.av 0) 0, .run .u8 (.lit 544) (.av 1) 0, .run .u16 (.lit 256) (.av 2) 0, .one (.int .i64 (.v 0)), .one (.bool (.bv 0)), .one (.int .i64 (.v 1)), .one (.int .u8 (.v 2)), .one (.int .u8 (.v 3)), .one (.int .i64 (.v 4)), .one (.int .u16 (.v 5)), .one (.int .i64 (.v 6)), .one (.int .u8 (.v 7))], true, none, false⟩, ⟨5, [.run .u8 (.lit 512) (.app 50 (.cons (.av 2) .nil)) 0], true, some 1, false⟩]
def wdN : List E := []
def wdR : SV := .s (.slc 1 (.lit 0) (.lit 512) (.op (.lit 0)))
--SKEND
def wd0 : E := .sel (.av 2) (.lit 0)
def wd1 : E := .mod wd0 (.lit 256)
def wd2 : E := .upd (.tab []) (.lit 0) wd1
def wd3 : E := .div wd0 (.lit 256)
def wd4 : E := .upd wd2 (.lit 1) wd3
def wd5 : E := .le (.v 9) (.lit 255)
def wd6 : E := .add (.v 8) (.lit 2)
def wd7 : E := .add (.v 9) (.lit 1)
def wd8 : E := .sel (.av 2) (.v 9)
def wd9 : E := .mod wd8 (.lit 256)
def wd10 : E := .upd (.av 3) (.v 8) wd9
def wd11 : E := .add (.v 8) (.lit 1)
def wd12 : E := .div wd8 (.lit 256)
def wd13 : E := .upd wd10 wd11 wd12
noncomputable def wdT0 : List Item := seekS Try.prog 17 4
noncomputable def wdh0 : Head := ⟨4, wdT0, ⟨[((.v 0), (0, 65535)), ((.v 1), (0, 65535)), ((.v 2), (0, 255)), ((.v 3), (0, 255)), ((.v 4), (0, 65535)), ((.v 5), (0, 65535)), ((.v 6), (0, 65535)), ((.v 7), (0, 255)), ((.v 8), (0, 512)), ((.v 9), (0, 256))], [(0, (0, 65535)), (1, (0, 255)), (2, (0, 65535)), (3, (0, 255))], [(10, (0, 4294967295))], [(50, (0, 255))], [], []⟩, [⟨4, [], .s (.int .i64 (.v 9))⟩, ⟨3, [], .s (.slc 1 (.lit 0) (.v 8) (.op (.lit 0)))⟩, ⟨0, [], .s (.slc 0 (.lit 33312) (.lit 256) (.kn (.lit 256)))⟩], [⟨43, [.run .u16 (.lit 32768) (.av 0) 0, .run .u8 (.lit 544) (.av 1) 0, .run .u16 (.lit 256) (.av 2) 0, .one (.int .i64 (.v 0)), .one (.bool (.bv 0)), .one (.int .i64 (.v 1)), .one (.int .u8 (.v 2)), .one (.int .u8 (.v 3)), .one (.int .i64 (.v 4)), .one (.int .u16 (.v 5)), .one (.int .i64 (.v 6)), .one (.int .u8 (.v 7))], true, none, false⟩, ⟨5, [.run .u8 (.v 8) (.av 3) 0], true, some 1, false⟩]⟩
noncomputable def wdhs : List Head := [wdh0]
def wdD : Dim := ⟨10, 1, 4, 8, 1, 3, 1⟩
theorem wdst : startL Try.prog S0 S0h wdD wdhs [] 3000 1 17 wdH wdL wdM = some (.jump 0 wdT0 ⟨[(8, (.lit 2)), (9, (.lit 1))], [], [(3, wd4)]⟩) := by kernel_rfl
theorem wdsg0 : segL Try.prog S0 S0h wdD wdhs [] 3000 0 17 wdh0 = some (.ite wd5 (.jump 0 wdT0 ⟨[(8, wd6), (9, wd7)], [], [(3, wd13)]⟩) (.ret (.s (.slc 1 (.lit 0) (.v 8) (.op (.lit 0)))) [⟨43, [.run .u16 (.lit 32768) (.av 0) 0, .run .u8 (.lit 544) (.av 1) 0, .run .u16 (.lit 256) (.av 2) 0, .one (.int .i64 (.v 0)), .one (.bool (.bv 0)), .one (.int .i64 (.v 1)), .one (.int .u8 (.v 2)), .one (.int .u8 (.v 3)), .one (.int .i64 (.v 4)), .one (.int .u16 (.v 5)), .one (.int .i64 (.v 6)), .one (.int .u8 (.v 7))], true, none, false⟩, ⟨5, [.run .u8 (.v 8) (.av 3) 0], true, some 1, false⟩])) := by kernel_rfl
def wdV (i0 i1 i2 i3 i4 i5 i6 i7 y8 y9 : Int) (b0 : Bool) (A0 A1 A2 Z3 : Nat → Int) (vs : List Value) (J : Interp) : Env := ⟨[i0, i1, i2, i3, i4, i5, i6, i7, y8, y9], [b0], [A0, A1, A2, Z3], vs, J⟩
def wdJ (i0 i1 i2 i3 i4 i5 i6 i7 y8 y9 : Int) (b0 : Bool) (A0 A1 A2 Z3 : Nat → Int) : Nat → Prop
 | 0 => (0 ≤ y8 ∧ y8 ≤ 512) ∧ (0 ≤ y9 ∧ y9 ≤ 256) ∧ (∀ j, 0 ≤ Z3 j ∧ Z3 j ≤ 255) ∧ y8 = 2 * y9 ∧ ∀ j : Nat, (j : Int) < 2 * y9 → Z3 j = rowB A2 j
 | _ => False
def wdmu : Nat → Env → Nat
 | 0, ρ => (256 - ρ.i.getD 9 0).toNat
 | _, _ => 0
theorem wdok0 (i0 i1 i2 i3 i4 i5 i6 i7 y8 y9 : Int) (b0 : Bool) (A0 A1 A2 Z3 : Nat → Int) (vs : List Value) (J : Interp) (r0 : 0 ≤ i0 ∧ i0 ≤ 65535) (r1 : 0 ≤ i1 ∧ i1 ≤ 65535) (r2 : 0 ≤ i2 ∧ i2 ≤ 255) (r3 : 0 ≤ i3 ∧ i3 ≤ 255) (r4 : 0 ≤ i4 ∧ i4 ≤ 65535) (r5 : 0 ≤ i5 ∧ i5 ≤ 65535) (r6 : 0 ≤ i6 ∧ i6 ≤ 65535) (r7 : 0 ≤ i7 ∧ i7 ≤ 255) (R0 : ∀ j, 0 ≤ A0 j ∧ A0 j ≤ 65535) (R1 : ∀ j, 0 ≤ A1 j ∧ A1 j ≤ 255) (R2 : ∀ j, 0 ≤ A2 j ∧ A2 j ≤ 65535) (hfi : ∀ p ∈ wdH.fi, ∀ is bs xs, inR p.2 (J.fi p.1 is bs xs)) (hfa : ∀ p ∈ wdH.fa, ∀ is bs xs j, inR p.2 (J.fa p.1 is bs xs j)) (hIi : J.fi = Ifi) (hIb : J.fb = Ifb) (hIa : J.fa = Ifa) (hJ : wdJ i0 i1 i2 i3 i4 i5 i6 i7 y8 y9 b0 A0 A1 A2 Z3 0) : Hyp.ok wdh0.H (wdV i0 i1 i2 i3 i4 i5 i6 i7 y8 y9 b0 A0 A1 A2 Z3 vs J) := by
 simp only [wdJ] at hJ
 obtain ⟨l0, l1, m0, hinv⟩ := hJ
 refine ⟨by simp [wdh0], ?_, ?_, ?_, ?_, by simp [wdh0]⟩
 ·intro p hp
  simp only [wdh0, List.mem_cons, List.not_mem_nil, or_false] at hp
  rcases hp with rfl | rfl | rfl | rfl | rfl | rfl | rfl | rfl | rfl | rfl
  ·exact r0
  ·exact r1
  ·exact r2
  ·exact r3
  ·exact r4
  ·exact r5
  ·exact r6
  ·exact r7
  ·exact l0
  ·exact l1
 ·intro p hp
  simp only [wdh0, List.mem_cons, List.not_mem_nil, or_false] at hp
  rcases hp with rfl | rfl | rfl | rfl
  ·exact R0
  ·exact R1
  ·exact R2
  ·exact m0
 ·exact hfi
 ·exact hfa
theorem wdvcS (i0 i1 i2 i3 i4 i5 i6 i7 : Int) (b0 : Bool) (A0 A1 A2 : Nat → Int) (vs : List Value) (J : Interp) (r0 : 0 ≤ i0 ∧ i0 ≤ 65535) (r1 : 0 ≤ i1 ∧ i1 ≤ 65535) (r2 : 0 ≤ i2 ∧ i2 ≤ 255) (r3 : 0 ≤ i3 ∧ i3 ≤ 255) (r4 : 0 ≤ i4 ∧ i4 ≤ 65535) (r5 : 0 ≤ i5 ∧ i5 ≤ 65535) (r6 : 0 ≤ i6 ∧ i6 ≤ 65535) (r7 : 0 ≤ i7 ∧ i7 ≤ 255) (R0 : ∀ j, 0 ≤ A0 j ∧ A0 j ≤ 65535) (R1 : ∀ j, 0 ≤ A1 j ∧ A1 j ≤ 255) (R2 : ∀ j, 0 ≤ A2 j ∧ A2 j ≤ 65535) (hfi : ∀ p ∈ wdH.fi, ∀ is bs xs, inR p.2 (J.fi p.1 is bs xs)) (hfa : ∀ p ∈ wdH.fa, ∀ is bs xs j, inR p.2 (J.fa p.1 is bs xs j)) (hIi : J.fi = Ifi) (hIb : J.fb = Ifb) (hIa : J.fa = Ifa) :
 LT.holds (wdV i0 i1 i2 i3 i4 i5 i6 i7 0 0 b0 A0 A1 A2 (fun _ => 0) vs J) (fun v' m' => RetOK (wdV i0 i1 i2 i3 i4 i5 i6 i7 0 0 b0 A0 A1 A2 (fun _ => 0) vs J) (⟨[i0, i1, i2, i3, i4, i5, i6, i7], [b0], [A0, A1, A2], vs, J⟩ : Env) wdR wdO v' m') (fun j todo ρ' => (wdhs[j]?.map (·.todo)) = some todo ∧ (fun j ρ' => ∃ (y8 y9 : Int) (Z3 : Nat → Int), ρ' = (wdV i0 i1 i2 i3 i4 i5 i6 i7 y8 y9 b0 A0 A1 A2 Z3 vs J) ∧ wdJ i0 i1 i2 i3 i4 i5 i6 i7 y8 y9 b0 A0 A1 A2 Z3 j) j ρ') (.jump 0 wdT0 ⟨[(8, (.lit 2)), (9, (.lit 1))], [], [(3, wd4)]⟩) := by
 simp only [LT.holds]
 refine ⟨rfl, (E.i (wdV i0 i1 i2 i3 i4 i5 i6 i7 0 0 b0 A0 A1 A2 (fun _ => 0) vs J) ((.lit 2))), (E.i (wdV i0 i1 i2 i3 i4 i5 i6 i7 0 0 b0 A0 A1 A2 (fun _ => 0) vs J) ((.lit 1))), (E.a (wdV i0 i1 i2 i3 i4 i5 i6 i7 0 0 b0 A0 A1 A2 (fun _ => 0) vs J) wd4), rfl, ?_⟩
 ·simp only [wdJ]
  simp only [wdV, wd0, wd1, wd2, wd3, wd4, wd5, wd6, wd7, wd8, wd9, wd10, wd11, wd12, wd13, i_v, b_bv, i_lit, b_blit, i_add, i_sub, i_mul, i_div, i_mod, i_tdiv, i_tmod, i_ite, b_ite, b_lt, b_le, b_eq, b_not, b_and, b_or, b_iff, i_sel, a_tab, i_pow2, List.getD_cons_zero, List.getD_cons_succ, decide_eq_true_eq, decide_eq_false_iff_not, Bool.and_eq_true, Bool.or_eq_true, Bool.not_eq_true', Bool.not_eq_false', Bool.and_eq_false_iff, Bool.or_eq_false_iff, Bool.not_not, ite_tt, ite_ff, iff_tt, iff_ff, a_av, a_ite, a_upd]
  have q := R2 0
  have h0 : rowB A2 (2 * 0) = A2 0 % 256 := rowB_lo
  have h1 : rowB A2 (2 * 0 + 1) = A2 0 / 256 := rowB_hi (by omega)
  simp only [show (1 : Int).toNat = 1 from rfl, show (0 : Int).toNat = 0 from rfl] at *
  refine ⟨by omega, by omega, fun j => ?_, by omega, fun j h => ?_⟩
  ·split
   ·omega
   ·split
    ·omega
    ·simp
  ·rcases (show j = 0 ∨ j = 1 by omega) with rfl | rfl
   ·rw [if_neg (by omega), if_pos rfl]; exact h0.symm
   ·rw [if_pos rfl]; exact h1.symm
theorem wdvc0 (i0 i1 i2 i3 i4 i5 i6 i7 y8 y9 : Int) (b0 : Bool) (A0 A1 A2 Z3 : Nat → Int) (vs : List Value) (J : Interp) (r0 : 0 ≤ i0 ∧ i0 ≤ 65535) (r1 : 0 ≤ i1 ∧ i1 ≤ 65535) (r2 : 0 ≤ i2 ∧ i2 ≤ 255) (r3 : 0 ≤ i3 ∧ i3 ≤ 255) (r4 : 0 ≤ i4 ∧ i4 ≤ 65535) (r5 : 0 ≤ i5 ∧ i5 ≤ 65535) (r6 : 0 ≤ i6 ∧ i6 ≤ 65535) (r7 : 0 ≤ i7 ∧ i7 ≤ 255) (R0 : ∀ j, 0 ≤ A0 j ∧ A0 j ≤ 65535) (R1 : ∀ j, 0 ≤ A1 j ∧ A1 j ≤ 255) (R2 : ∀ j, 0 ≤ A2 j ∧ A2 j ≤ 65535) (hfi : ∀ p ∈ wdH.fi, ∀ is bs xs, inR p.2 (J.fi p.1 is bs xs)) (hfa : ∀ p ∈ wdH.fa, ∀ is bs xs j, inR p.2 (J.fa p.1 is bs xs j)) (hIi : J.fi = Ifi) (hIb : J.fb = Ifb) (hIa : J.fa = Ifa) (hJ : wdJ i0 i1 i2 i3 i4 i5 i6 i7 y8 y9 b0 A0 A1 A2 Z3 0) :
 LT.holds (wdV i0 i1 i2 i3 i4 i5 i6 i7 y8 y9 b0 A0 A1 A2 Z3 vs J) (fun v' m' => RetOK (wdV i0 i1 i2 i3 i4 i5 i6 i7 y8 y9 b0 A0 A1 A2 Z3 vs J) (⟨[i0, i1, i2, i3, i4, i5, i6, i7], [b0], [A0, A1, A2], vs, J⟩ : Env) wdR wdO v' m') (fun j' todo ρ' => (wdhs[j']?.map (·.todo)) = some todo ∧ (fun j ρ' => ∃ (y8 y9 : Int) (Z3 : Nat → Int), ρ' = (wdV i0 i1 i2 i3 i4 i5 i6 i7 y8 y9 b0 A0 A1 A2 Z3 vs J) ∧ wdJ i0 i1 i2 i3 i4 i5 i6 i7 y8 y9 b0 A0 A1 A2 Z3 j) j' ρ' ∧ wdmu j' ρ' < wdmu 0 (wdV i0 i1 i2 i3 i4 i5 i6 i7 y8 y9 b0 A0 A1 A2 Z3 vs J)) (.ite wd5 (.jump 0 wdT0 ⟨[(8, wd6), (9, wd7)], [], [(3, wd13)]⟩) (.ret (.s (.slc 1 (.lit 0) (.v 8) (.op (.lit 0)))) [⟨43, [.run .u16 (.lit 32768) (.av 0) 0, .run .u8 (.lit 544) (.av 1) 0, .run .u16 (.lit 256) (.av 2) 0, .one (.int .i64 (.v 0)), .one (.bool (.bv 0)), .one (.int .i64 (.v 1)), .one (.int .u8 (.v 2)), .one (.int .u8 (.v 3)), .one (.int .i64 (.v 4)), .one (.int .u16 (.v 5)), .one (.int .i64 (.v 6)), .one (.int .u8 (.v 7))], true, none, false⟩, ⟨5, [.run .u8 (.v 8) (.av 3) 0], true, some 1, false⟩])) := by
 simp only [LT.holds]
 simp only [wdJ] at hJ
 obtain ⟨l0, l1, m0, hinv⟩ := hJ
 refine ⟨fun hc0 => ?_, fun hc0 => ?_⟩
 ·
  refine ⟨rfl, ⟨(E.i (wdV i0 i1 i2 i3 i4 i5 i6 i7 y8 y9 b0 A0 A1 A2 Z3 vs J) wd6), (E.i (wdV i0 i1 i2 i3 i4 i5 i6 i7 y8 y9 b0 A0 A1 A2 Z3 vs J) wd7), (E.a (wdV i0 i1 i2 i3 i4 i5 i6 i7 y8 y9 b0 A0 A1 A2 Z3 vs J) wd13), rfl, ?_⟩, ?_⟩
  ·simp only [wdJ]
   simp only [wdV, wd0, wd1, wd2, wd3, wd4, wd5, wd6, wd7, wd8, wd9, wd10, wd11, wd12, wd13, i_v, b_bv, i_lit, b_blit, i_add, i_sub, i_mul, i_div, i_mod, i_tdiv, i_tmod, i_ite, b_ite, b_lt, b_le, b_eq, b_not, b_and, b_or, b_iff, i_sel, a_tab, i_pow2, List.getD_cons_zero, List.getD_cons_succ, decide_eq_true_eq, decide_eq_false_iff_not, Bool.and_eq_true, Bool.or_eq_true, Bool.not_eq_true', Bool.not_eq_false', Bool.and_eq_false_iff, Bool.or_eq_false_iff, Bool.not_not, ite_tt, ite_ff, iff_tt, iff_ff, a_av, a_ite, a_upd] at hc0 ⊢
   obtain ⟨he, hv⟩ := hinv
   have e0 : y8.toNat = 2 * y9.toNat := by omega
   have e1 : (y8 + 1).toNat = 2 * y9.toNat + 1 := by omega
   have q := R2 y9.toNat
   have h0 : rowB A2 (2 * y9.toNat) = A2 y9.toNat % 256 := rowB_lo
   have h1 : rowB A2 (2 * y9.toNat + 1) = A2 y9.toNat / 256 := rowB_hi (by omega)
   simp only [e0, e1]
   refine ⟨by omega, by omega, fun j => ?_, by omega, fun j h => ?_⟩
   ·have := m0 j; repeat' split
    all_goals omega
   ·by_cases f1 : j = 2 * y9.toNat + 1
    ·rw [if_pos f1, f1, h1]
    ·rw [if_neg f1]
     by_cases f0 : j = 2 * y9.toNat
     ·rw [if_pos f0, f0, h0]
     ·rw [if_neg f0]; exact hv j (by omega)
  ·simp only [wdmu, Env.app, setAll, List.map_cons, List.map_nil, List.set, wdV, wd0, wd1, wd2, wd3, wd4, wd5, wd6, wd7, wd8, wd9, wd10, wd11, wd12, wd13, i_v, b_bv, i_lit, b_blit, i_add, i_sub, i_mul, i_div, i_mod, i_tdiv, i_tmod, i_ite, b_ite, b_lt, b_le, b_eq, b_not, b_and, b_or, b_iff, i_sel, a_tab, i_pow2, List.getD_cons_zero, List.getD_cons_succ, decide_eq_true_eq, decide_eq_false_iff_not, Bool.and_eq_true, Bool.or_eq_true, Bool.not_eq_true', Bool.not_eq_false', Bool.and_eq_false_iff, Bool.or_eq_false_iff, Bool.not_not, ite_tt, ite_ff, iff_tt, iff_ff, a_av, a_ite, a_upd] at hc0 ⊢
   omega
 ·
  refine ⟨rfl, ?_, ?_⟩
  all_goals
   repeat' (first | exact rfl | exact trivial | exact fun _ _ => rfl | refine And.intro ?_ ?_ | refine Or.inr ?_)
  all_goals simp only [wdV, wd0, wd1, wd2, wd3, wd4, wd5, wd6, wd7, wd8, wd9, wd10, wd11, wd12, wd13, i_v, b_bv, i_lit, b_blit, i_add, i_sub, i_mul, i_div, i_mod, i_tdiv, i_tmod, i_ite, b_ite, b_lt, b_le, b_eq, b_not, b_and, b_or, b_iff, i_sel, a_tab, i_pow2, List.getD_cons_zero, List.getD_cons_succ, decide_eq_true_eq, decide_eq_false_iff_not, Bool.and_eq_true, Bool.or_eq_true, Bool.not_eq_true', Bool.not_eq_false', Bool.and_eq_false_iff, Bool.or_eq_false_iff, Bool.not_not, ite_tt, ite_ff, iff_tt, iff_ff, a_av, a_ite, a_upd] at hc0 ⊢
  all_goals obtain ⟨he, hv⟩ := hinv
  all_goals first
   | omega
   | (intro j hj
      rw [show E.a (⟨[i0, i1, i2, i3, i4, i5, i6, i7], [b0], [A0, A1, A2], vs, J⟩ : Env) (.app 50 (.cons (.av 2) .nil)) = rowB A2 from app50 hIa _]
      simp only [Nat.zero_add]
      exact hv j (by omega))
theorem wdat (xs : Nat → Nat → Ext) : SpecAt Try.prog (Iv xs) 17 8 1 3 (exactS wdH wdL wdM wdN wdR (some wdO)) := by
 refine loopS_ok (u := 0) (S0_ok (Iv xs)) (by kernel_rfl) wdst (by decide) rfl (fun ρ j ρ' => ∃(i0 i1 i2 i3 i4 i5 i6 i7 : Int) (b0 : Bool) (A0 A1 A2 : Nat → Int), ∃ vs J, ρ = (⟨[i0, i1, i2, i3, i4, i5, i6, i7], [b0], [A0, A1, A2], vs, J⟩ : Env) ∧ (fun j ρ' => ∃ (y8 y9 : Int) (Z3 : Nat → Int), ρ' = (wdV i0 i1 i2 i3 i4 i5 i6 i7 y8 y9 b0 A0 A1 A2 Z3 vs J) ∧ wdJ i0 i1 i2 i3 i4 i5 i6 i7 y8 y9 b0 A0 A1 A2 Z3 j) j ρ') wdmu ?_
 intro ρ hI hz hH hn
 obtain ⟨ys, zs, Ys, vs, J⟩ := ρ
 obtain ⟨z1, z2, z3⟩ := hz
 simp only at z1 z2 z3 hI
 obtain ⟨i0, ys0, rfl, z1_0⟩ := len_succ z1
 obtain ⟨i1, ys1, rfl, z1_1⟩ := len_succ z1_0
 obtain ⟨i2, ys2, rfl, z1_2⟩ := len_succ z1_1
 obtain ⟨i3, ys3, rfl, z1_3⟩ := len_succ z1_2
 obtain ⟨i4, ys4, rfl, z1_4⟩ := len_succ z1_3
 obtain ⟨i5, ys5, rfl, z1_5⟩ := len_succ z1_4
 obtain ⟨i6, ys6, rfl, z1_6⟩ := len_succ z1_5
 obtain ⟨i7, ys7, rfl, z1_7⟩ := len_succ z1_6
 obtain rfl := List.eq_nil_of_length_eq_zero z1_7
 obtain ⟨b0, zs0, rfl, z2_0⟩ := len_succ z2
 obtain rfl := List.eq_nil_of_length_eq_zero z2_0
 obtain ⟨A0, Ys0, rfl, z3_0⟩ := len_succ z3
 obtain ⟨A1, Ys1, rfl, z3_1⟩ := len_succ z3_0
 obtain ⟨A2, Ys2, rfl, z3_2⟩ := len_succ z3_1
 obtain rfl := List.eq_nil_of_length_eq_zero z3_2
 have r0 : 0 ≤ i0 ∧ i0 ≤ 65535 := hH.e (.v 0, (0, 65535)) (by simp [wdH])
 have r1 : 0 ≤ i1 ∧ i1 ≤ 65535 := hH.e (.v 1, (0, 65535)) (by simp [wdH])
 have r2 : 0 ≤ i2 ∧ i2 ≤ 255 := hH.e (.v 2, (0, 255)) (by simp [wdH])
 have r3 : 0 ≤ i3 ∧ i3 ≤ 255 := hH.e (.v 3, (0, 255)) (by simp [wdH])
 have r4 : 0 ≤ i4 ∧ i4 ≤ 65535 := hH.e (.v 4, (0, 65535)) (by simp [wdH])
 have r5 : 0 ≤ i5 ∧ i5 ≤ 65535 := hH.e (.v 5, (0, 65535)) (by simp [wdH])
 have r6 : 0 ≤ i6 ∧ i6 ≤ 65535 := hH.e (.v 6, (0, 65535)) (by simp [wdH])
 have r7 : 0 ≤ i7 ∧ i7 ≤ 255 := hH.e (.v 7, (0, 255)) (by simp [wdH])
 have R0 : ∀ j, 0 ≤ A0 j ∧ A0 j ≤ 65535 := fun j => hH.a (0, (0, 65535)) (by simp [wdH]) j
 have R1 : ∀ j, 0 ≤ A1 j ∧ A1 j ≤ 255 := fun j => hH.a (1, (0, 255)) (by simp [wdH]) j
 have R2 : ∀ j, 0 ≤ A2 j ∧ A2 j ≤ 65535 := fun j => hH.a (2, (0, 65535)) (by simp [wdH]) j
 have hfi : ∀ p ∈ wdH.fi, ∀ is bs xs, inR p.2 (J.fi p.1 is bs xs) := hH.fi
 have hfa : ∀ p ∈ wdH.fa, ∀ is bs xs j, inR p.2 (J.fa p.1 is bs xs j) := hH.fa
 have hIi : J.fi = Ifi := by rw [hI]; rfl
 have hIb : J.fb = Ifb := by rw [hI]; rfl
 have hIa : J.fa = Ifa := by rw [hI]; rfl
 refine ⟨(wdV i0 i1 i2 i3 i4 i5 i6 i7 0 0 b0 A0 A1 A2 (fun _ => 0) vs J), rfl, ⟨rfl, rfl, rfl⟩, ?_, fun ι => rfl, ?_, ?_, ?_⟩
 ·
  refine ⟨by simp [wdH], ?_, ?_, ?_, ?_, by simp [wdH]⟩
  ·intro p hp
   simp only [wdH, List.mem_cons, List.not_mem_nil, or_false] at hp
   rcases hp with rfl | rfl | rfl | rfl | rfl | rfl | rfl | rfl
   ·exact r0
   ·exact r1
   ·exact r2
   ·exact r3
   ·exact r4
   ·exact r5
   ·exact r6
   ·exact r7
  ·intro p hp
   simp only [wdH, List.mem_cons, List.not_mem_nil, or_false] at hp
   rcases hp with rfl | rfl | rfl
   ·exact R0
   ·exact R1
   ·exact R2
  ·exact hfi
  ·exact hfa
 ·repeat' (first | exact rfl | exact trivial | exact fun _ _ => rfl | refine And.intro ?_ ?_ | refine Or.inr ?_)
 ·refine LT.holds_imp (fun v' m' h => h) (fun j todo ρ' h => ⟨h.1, i0, i1, i2, i3, i4, i5, i6, i7, b0, A0, A1, A2, vs, J, rfl, h.2⟩) (wdvcS i0 i1 i2 i3 i4 i5 i6 i7 b0 A0 A1 A2 vs J r0 r1 r2 r3 r4 r5 r6 r7 R0 R1 R2 hfi hfa hIi hIb hIa)
 ·intro j h ρ' hj hI' hz' hInv
  obtain ⟨i0', i1', i2', i3', i4', i5', i6', i7', b0', A0', A1', A2', vs', J', he, y8, y9, Z3, hρ, hJ⟩ := hInv
  cases he
  subst hρ
  rcases j with _ | j
  ·simp only [wdhs, List.getElem?_cons_zero, List.getElem?_cons_succ, Option.some.injEq] at hj; subst hj
   refine ⟨wdh0.H, wdok0 i0 i1 i2 i3 i4 i5 i6 i7 y8 y9 b0 A0 A1 A2 Z3 vs J r0 r1 r2 r3 r4 r5 r6 r7 R0 R1 R2 hfi hfa hIi hIb hIa hJ, _, wdsg0, ?_⟩
   exact LT.holds_imp (fun v' m' h => h) (fun j todo ρ' h => ⟨h.1, ⟨i0, i1, i2, i3, i4, i5, i6, i7, b0, A0, A1, A2, vs, J, rfl, h.2.1⟩, h.2.2⟩) (wdvc0 i0 i1 i2 i3 i4 i5 i6 i7 y8 y9 b0 A0 A1 A2 Z3 vs J r0 r1 r2 r3 r4 r5 r6 r7 R0 R1 R2 hfi hfa hIi hIb hIa hJ)
  ·simp [wdhs] at hj
def wdS : Go.Sx.Spec := memoG (findG 8 1 3 wdL wdM) wdH wdL wdM wdN (wdR) (some wdO)
theorem wdok (xs : Nat → Nat → Ext) : SpecOK Try.prog (Iv xs) 17 wdS := memoA_ok (wdat xs) (exactS_at _ _ _ _ _ _)
def coH : Hyp := ⟨[(.v 0, (0, 65535)), (.v 1, (0, 65535)), (.v 2, (0, 255)), (.v 3, (0, 255)), (.v 4, (0, 65535)), (.v 5, (0, 65535)), (.v 6, (0, 65535)), (.v 7, (0, 255))], [(0, (0, 65535)), (1, (0, 255)), (2, (0, 65535))], [(10, (0, 4294967295))], [(50, (0, 255))], [], []⟩
def coL : List SV := [.s (.slc 0 (.lit 32768) (.lit 544) (.kn (.lit 544)))]
def coM : Mem := [⟨43, [.run .u16 (.lit 32768) (.av 0) 0, .run .u8 (.lit 544) (.av 1) 0, .run .u16 (.lit 256) (.av 2) 0, .one (.int .i64 (.v 0)), .one (.bool (.bv 0)), .one (.int .i64 (.v 1)), .one (.int .u8 (.v 2)), .one (.int .u8 (.v 3)), .one (.int .i64 (.v 4)), .one (.int .u16 (.v 5)), .one (.int .i64 (.v 6)), .one (.int .u8 (.v 7))], true, none, false⟩]
def coO : Mem := [⟨43, [.run .u16 (.lit 32768) (.av 0) 0, .run .u8 (.lit 544) (.av 1) 0, .run .u16 (.lit 256) (.av 2) 0, .one (.int .i64 (.v 0)), .one (.bool (.bv 0)), .one (.int .i64 (.v 1)), .one (.int .u8 (.v 2)), .one (.int .u8 (.v 3)), .one (.int .i64 (.v 4)), .one (.int .u16 (.v 5)), .one (.int .i64 (.v 6)), .one (.int .u8 (.v 7))], true, none, false⟩, ⟨5, [.run .u8 (.lit 544) (.av 1) 0], true, none, false⟩]
def coN : List E := []
def coR : SV := .s (.slc 1 (.lit 0) (.lit 544) (.kn (.lit 544)))
--SKEND
def co0 : E := .le (.v 8) (.lit 543)
def co1 : E := .add (.v 8) (.lit 1)
def co2 : E := .sel (.av 1) (.v 8)
def co3 : E := .upd (.av 3) (.v 8) co2
noncomputable def coT0 : List Item := seekS Try.prog 19 4
noncomputable def coh0 : Head := ⟨4, coT0, ⟨[((.v 0), (0, 65535)), ((.v 1), (0, 65535)), ((.v 2), (0, 255)), ((.v 3), (0, 255)), ((.v 4), (0, 65535)), ((.v 5), (0, 65535)), ((.v 6), (0, 65535)), ((.v 7), (0, 255)), ((.v 8), (0, 544))], [(0, (0, 65535)), (1, (0, 255)), (2, (0, 65535)), (3, (0, 255))], [(10, (0, 4294967295))], [(50, (0, 255))], [], []⟩, [⟨4, [], .s (.int .i64 (.v 8))⟩, ⟨3, [], .s (.slc 1 (.lit 0) (.lit 544) (.kn (.lit 544)))⟩, ⟨0, [], .s (.slc 0 (.lit 32768) (.lit 544) (.kn (.lit 544)))⟩], [⟨43, [.run .u16 (.lit 32768) (.av 0) 0, .run .u8 (.lit 544) (.av 1) 0, .run .u16 (.lit 256) (.av 2) 0, .one (.int .i64 (.v 0)), .one (.bool (.bv 0)), .one (.int .i64 (.v 1)), .one (.int .u8 (.v 2)), .one (.int .u8 (.v 3)), .one (.int .i64 (.v 4)), .one (.int .u16 (.v 5)), .one (.int .i64 (.v 6)), .one (.int .u8 (.v 7))], true, none, false⟩, ⟨5, [.run .u8 (.lit 544) (.av 3) 0], true, none, false⟩]⟩
noncomputable def cohs : List Head := [coh0]
def coD : Dim := ⟨9, 1, 4, 8, 1, 3, 1⟩
theorem cost : startL Try.prog S0 S0h coD cohs [] 3000 0 19 coH coL coM = some (.jump 0 coT0 ⟨[(8, (.lit 0))], [], [(3, (.tab []))]⟩) := by kernel_rfl
theorem cosg0 : segL Try.prog S0 S0h coD cohs [] 3000 0 19 coh0 = some (.ite co0 (.jump 0 coT0 ⟨[(8, co1)], [], [(3, co3)]⟩) (.ret (.s (.slc 1 (.lit 0) (.lit 544) (.kn (.lit 544)))) [⟨43, [.run .u16 (.lit 32768) (.av 0) 0, .run .u8 (.lit 544) (.av 1) 0, .run .u16 (.lit 256) (.av 2) 0, .one (.int .i64 (.v 0)), .one (.bool (.bv 0)), .one (.int .i64 (.v 1)), .one (.int .u8 (.v 2)), .one (.int .u8 (.v 3)), .one (.int .i64 (.v 4)), .one (.int .u16 (.v 5)), .one (.int .i64 (.v 6)), .one (.int .u8 (.v 7))], true, none, false⟩, ⟨5, [.run .u8 (.lit 544) (.av 3) 0], true, none, false⟩])) := by kernel_rfl
def coV (i0 i1 i2 i3 i4 i5 i6 i7 y8 : Int) (b0 : Bool) (A0 A1 A2 Z3 : Nat → Int) (vs : List Value) (J : Interp) : Env := ⟨[i0, i1, i2, i3, i4, i5, i6, i7, y8], [b0], [A0, A1, A2, Z3], vs, J⟩
def coJ (i0 i1 i2 i3 i4 i5 i6 i7 y8 : Int) (b0 : Bool) (A0 A1 A2 Z3 : Nat → Int) : Nat → Prop
 | 0 => (0 ≤ y8 ∧ y8 ≤ 544) ∧ (∀ j, 0 ≤ Z3 j ∧ Z3 j ≤ 255) ∧ ∀ j : Nat, (j : Int) < y8 → Z3 j = A1 j
 | _ => False
def comu : Nat → Env → Nat
 | 0, ρ => (544 - ρ.i.getD 8 0).toNat
 | _, _ => 0
theorem cook0 (i0 i1 i2 i3 i4 i5 i6 i7 y8 : Int) (b0 : Bool) (A0 A1 A2 Z3 : Nat → Int) (vs : List Value) (J : Interp) (r0 : 0 ≤ i0 ∧ i0 ≤ 65535) (r1 : 0 ≤ i1 ∧ i1 ≤ 65535) (r2 : 0 ≤ i2 ∧ i2 ≤ 255) (r3 : 0 ≤ i3 ∧ i3 ≤ 255) (r4 : 0 ≤ i4 ∧ i4 ≤ 65535) (r5 : 0 ≤ i5 ∧ i5 ≤ 65535) (r6 : 0 ≤ i6 ∧ i6 ≤ 65535) (r7 : 0 ≤ i7 ∧ i7 ≤ 255) (R0 : ∀ j, 0 ≤ A0 j ∧ A0 j ≤ 65535) (R1 : ∀ j, 0 ≤ A1 j ∧ A1 j ≤ 255) (R2 : ∀ j, 0 ≤ A2 j ∧ A2 j ≤ 65535) (hfi : ∀ p ∈ coH.fi, ∀ is bs xs, inR p.2 (J.fi p.1 is bs xs)) (hfa : ∀ p ∈ coH.fa, ∀ is bs xs j, inR p.2 (J.fa p.1 is bs xs j)) (hIi : J.fi = Ifi) (hIb : J.fb = Ifb) (hIa : J.fa = Ifa) (hJ : coJ i0 i1 i2 i3 i4 i5 i6 i7 y8 b0 A0 A1 A2 Z3 0) : Hyp.ok coh0.H (coV i0 i1 i2 i3 i4 i5 i6 i7 y8 b0 A0 A1 A2 Z3 vs J) := by
 simp only [coJ] at hJ
 obtain ⟨l0, m0, hinv⟩ := hJ
 refine ⟨by simp [coh0], ?_, ?_, ?_, ?_, by simp [coh0]⟩
 ·intro p hp
  simp only [coh0, List.mem_cons, List.not_mem_nil, or_false] at hp
  rcases hp with rfl | rfl | rfl | rfl | rfl | rfl | rfl | rfl | rfl
  ·exact r0
  ·exact r1
  ·exact r2
  ·exact r3
  ·exact r4
  ·exact r5
  ·exact r6
  ·exact r7
  ·exact l0
 ·intro p hp
  simp only [coh0, List.mem_cons, List.not_mem_nil, or_false] at hp
  rcases hp with rfl | rfl | rfl | rfl
  ·exact R0
  ·exact R1
  ·exact R2
  ·exact m0
 ·exact hfi
 ·exact hfa
theorem covcS (i0 i1 i2 i3 i4 i5 i6 i7 : Int) (b0 : Bool) (A0 A1 A2 : Nat → Int) (vs : List Value) (J : Interp) (r0 : 0 ≤ i0 ∧ i0 ≤ 65535) (r1 : 0 ≤ i1 ∧ i1 ≤ 65535) (r2 : 0 ≤ i2 ∧ i2 ≤ 255) (r3 : 0 ≤ i3 ∧ i3 ≤ 255) (r4 : 0 ≤ i4 ∧ i4 ≤ 65535) (r5 : 0 ≤ i5 ∧ i5 ≤ 65535) (r6 : 0 ≤ i6 ∧ i6 ≤ 65535) (r7 : 0 ≤ i7 ∧ i7 ≤ 255) (R0 : ∀ j, 0 ≤ A0 j ∧ A0 j ≤ 65535) (R1 : ∀ j, 0 ≤ A1 j ∧ A1 j ≤ 255) (R2 : ∀ j, 0 ≤ A2 j ∧ A2 j ≤ 65535) (hfi : ∀ p ∈ coH.fi, ∀ is bs xs, inR p.2 (J.fi p.1 is bs xs)) (hfa : ∀ p ∈ coH.fa, ∀ is bs xs j, inR p.2 (J.fa p.1 is bs xs j)) (hIi : J.fi = Ifi) (hIb : J.fb = Ifb) (hIa : J.fa = Ifa) :
 LT.holds (coV i0 i1 i2 i3 i4 i5 i6 i7 0 b0 A0 A1 A2 (fun _ => 0) vs J) (fun v' m' => RetOK (coV i0 i1 i2 i3 i4 i5 i6 i7 0 b0 A0 A1 A2 (fun _ => 0) vs J) (⟨[i0, i1, i2, i3, i4, i5, i6, i7], [b0], [A0, A1, A2], vs, J⟩ : Env) coR coO v' m') (fun j todo ρ' => (cohs[j]?.map (·.todo)) = some todo ∧ (fun j ρ' => ∃ (y8 : Int) (Z3 : Nat → Int), ρ' = (coV i0 i1 i2 i3 i4 i5 i6 i7 y8 b0 A0 A1 A2 Z3 vs J) ∧ coJ i0 i1 i2 i3 i4 i5 i6 i7 y8 b0 A0 A1 A2 Z3 j) j ρ') (.jump 0 coT0 ⟨[(8, (.lit 0))], [], [(3, (.tab []))]⟩) := by
 simp only [LT.holds]
 refine ⟨rfl, (E.i (coV i0 i1 i2 i3 i4 i5 i6 i7 0 b0 A0 A1 A2 (fun _ => 0) vs J) ((.lit 0))), (E.a (coV i0 i1 i2 i3 i4 i5 i6 i7 0 b0 A0 A1 A2 (fun _ => 0) vs J) ((.tab []))), rfl, ?_⟩
 ·simp only [coJ]
  simp only [coV, co0, co1, co2, co3, i_v, b_bv, i_lit, b_blit, i_add, i_sub, i_mul, i_div, i_mod, i_tdiv, i_tmod, i_ite, b_ite, b_lt, b_le, b_eq, b_not, b_and, b_or, b_iff, i_sel, a_tab, i_pow2, List.getD_cons_zero, List.getD_cons_succ, decide_eq_true_eq, decide_eq_false_iff_not, Bool.and_eq_true, Bool.or_eq_true, Bool.not_eq_true', Bool.not_eq_false', Bool.and_eq_false_iff, Bool.or_eq_false_iff, Bool.not_not, ite_tt, ite_ff, iff_tt, iff_ff, a_av, a_ite, a_upd]
  exact ⟨by omega, fun j => by simp, fun j h => by omega⟩
theorem covc0 (i0 i1 i2 i3 i4 i5 i6 i7 y8 : Int) (b0 : Bool) (A0 A1 A2 Z3 : Nat → Int) (vs : List Value) (J : Interp) (r0 : 0 ≤ i0 ∧ i0 ≤ 65535) (r1 : 0 ≤ i1 ∧ i1 ≤ 65535) (r2 : 0 ≤ i2 ∧ i2 ≤ 255) (r3 : 0 ≤ i3 ∧ i3 ≤ 255) (r4 : 0 ≤ i4 ∧ i4 ≤ 65535) (r5 : 0 ≤ i5 ∧ i5 ≤ 65535) (r6 : 0 ≤ i6 ∧ i6 ≤ 65535) (r7 : 0 ≤ i7 ∧ i7 ≤ 255) (R0 : ∀ j, 0 ≤ A0 j ∧ A0 j ≤ 65535) (R1 : ∀ j, 0 ≤ A1 j ∧ A1 j ≤ 255) (R2 : ∀ j, 0 ≤ A2 j ∧ A2 j ≤ 65535) (hfi : ∀ p ∈ coH.fi, ∀ is bs xs, inR p.2 (J.fi p.1 is bs xs)) (hfa : ∀ p ∈ coH.fa, ∀ is bs xs j, inR p.2 (J.fa p.1 is bs xs j)) (hIi : J.fi = Ifi) (hIb : J.fb = Ifb) (hIa : J.fa = Ifa) (hJ : coJ i0 i1 i2 i3 i4 i5 i6 i7 y8 b0 A0 A1 A2 Z3 0) :
 LT.holds (coV i0 i1 i2 i3 i4 i5 i6 i7 y8 b0 A0 A1 A2 Z3 vs J) (fun v' m' => RetOK (coV i0 i1 i2 i3 i4 i5 i6 i7 y8 b0 A0 A1 A2 Z3 vs J) (⟨[i0, i1, i2, i3, i4, i5, i6, i7], [b0], [A0, A1, A2], vs, J⟩ : Env) coR coO v' m') (fun j' todo ρ' => (cohs[j']?.map (·.todo)) = some todo ∧ (fun j ρ' => ∃ (y8 : Int) (Z3 : Nat → Int), ρ' = (coV i0 i1 i2 i3 i4 i5 i6 i7 y8 b0 A0 A1 A2 Z3 vs J) ∧ coJ i0 i1 i2 i3 i4 i5 i6 i7 y8 b0 A0 A1 A2 Z3 j) j' ρ' ∧ comu j' ρ' < comu 0 (coV i0 i1 i2 i3 i4 i5 i6 i7 y8 b0 A0 A1 A2 Z3 vs J)) (.ite co0 (.jump 0 coT0 ⟨[(8, co1)], [], [(3, co3)]⟩) (.ret (.s (.slc 1 (.lit 0) (.lit 544) (.kn (.lit 544)))) [⟨43, [.run .u16 (.lit 32768) (.av 0) 0, .run .u8 (.lit 544) (.av 1) 0, .run .u16 (.lit 256) (.av 2) 0, .one (.int .i64 (.v 0)), .one (.bool (.bv 0)), .one (.int .i64 (.v 1)), .one (.int .u8 (.v 2)), .one (.int .u8 (.v 3)), .one (.int .i64 (.v 4)), .one (.int .u16 (.v 5)), .one (.int .i64 (.v 6)), .one (.int .u8 (.v 7))], true, none, false⟩, ⟨5, [.run .u8 (.lit 544) (.av 3) 0], true, none, false⟩])) := by
 simp only [LT.holds]
 simp only [coJ] at hJ
 obtain ⟨l0, m0, hinv⟩ := hJ
 refine ⟨fun hc0 => ?_, fun hc0 => ?_⟩
 ·
  refine ⟨rfl, ⟨(E.i (coV i0 i1 i2 i3 i4 i5 i6 i7 y8 b0 A0 A1 A2 Z3 vs J) co1), (E.a (coV i0 i1 i2 i3 i4 i5 i6 i7 y8 b0 A0 A1 A2 Z3 vs J) co3), rfl, ?_⟩, ?_⟩
  ·simp only [coJ]
   simp only [coV, co0, co1, co2, co3, i_v, b_bv, i_lit, b_blit, i_add, i_sub, i_mul, i_div, i_mod, i_tdiv, i_tmod, i_ite, b_ite, b_lt, b_le, b_eq, b_not, b_and, b_or, b_iff, i_sel, a_tab, i_pow2, List.getD_cons_zero, List.getD_cons_succ, decide_eq_true_eq, decide_eq_false_iff_not, Bool.and_eq_true, Bool.or_eq_true, Bool.not_eq_true', Bool.not_eq_false', Bool.and_eq_false_iff, Bool.or_eq_false_iff, Bool.not_not, ite_tt, ite_ff, iff_tt, iff_ff, a_av, a_ite, a_upd] at hc0 ⊢
   refine ⟨by omega, fun j => ?_, fun j h => ?_⟩
   ·have := R1 y8.toNat; have := m0 j; split <;> omega
   ·by_cases e : j = y8.toNat
    ·rw [if_pos e, e]
    ·rw [if_neg e]; exact hinv j (by omega)
  ·simp only [comu, Env.app, setAll, List.map_cons, List.map_nil, List.set, coV, co0, co1, co2, co3, i_v, b_bv, i_lit, b_blit, i_add, i_sub, i_mul, i_div, i_mod, i_tdiv, i_tmod, i_ite, b_ite, b_lt, b_le, b_eq, b_not, b_and, b_or, b_iff, i_sel, a_tab, i_pow2, List.getD_cons_zero, List.getD_cons_succ, decide_eq_true_eq, decide_eq_false_iff_not, Bool.and_eq_true, Bool.or_eq_true, Bool.not_eq_true', Bool.not_eq_false', Bool.and_eq_false_iff, Bool.or_eq_false_iff, Bool.not_not, ite_tt, ite_ff, iff_tt, iff_ff, a_av, a_ite, a_upd] at hc0 ⊢
   omega
 ·
  refine ⟨rfl, ?_, ?_⟩
  all_goals
   repeat' (first | exact rfl | exact trivial | exact fun _ _ => rfl | refine And.intro ?_ ?_ | refine Or.inr ?_)
  all_goals simp only [coV, co0, co1, co2, co3, i_v, b_bv, i_lit, b_blit, i_add, i_sub, i_mul, i_div, i_mod, i_tdiv, i_tmod, i_ite, b_ite, b_lt, b_le, b_eq, b_not, b_and, b_or, b_iff, i_sel, a_tab, i_pow2, List.getD_cons_zero, List.getD_cons_succ, decide_eq_true_eq, decide_eq_false_iff_not, Bool.and_eq_true, Bool.or_eq_true, Bool.not_eq_true', Bool.not_eq_false', Bool.and_eq_false_iff, Bool.or_eq_false_iff, Bool.not_not, ite_tt, ite_ff, iff_tt, iff_ff, a_av, a_ite, a_upd] at hc0 ⊢
  intro j hj
  simp only [Nat.zero_add]
  exact hinv j (by omega)
theorem coat (xs : Nat → Nat → Ext) : SpecAt Try.prog (Iv xs) 19 8 1 3 (exactS coH coL coM coN coR (some coO)) := by
 refine loopS_ok (u := 0) (S0_ok (Iv xs)) (by kernel_rfl) cost (by decide) rfl (fun ρ j ρ' => ∃(i0 i1 i2 i3 i4 i5 i6 i7 : Int) (b0 : Bool) (A0 A1 A2 : Nat → Int), ∃ vs J, ρ = (⟨[i0, i1, i2, i3, i4, i5, i6, i7], [b0], [A0, A1, A2], vs, J⟩ : Env) ∧ (fun j ρ' => ∃ (y8 : Int) (Z3 : Nat → Int), ρ' = (coV i0 i1 i2 i3 i4 i5 i6 i7 y8 b0 A0 A1 A2 Z3 vs J) ∧ coJ i0 i1 i2 i3 i4 i5 i6 i7 y8 b0 A0 A1 A2 Z3 j) j ρ') comu ?_
 intro ρ hI hz hH hn
 obtain ⟨ys, zs, Ys, vs, J⟩ := ρ
 obtain ⟨z1, z2, z3⟩ := hz
 simp only at z1 z2 z3 hI
 obtain ⟨i0, ys0, rfl, z1_0⟩ := len_succ z1
 obtain ⟨i1, ys1, rfl, z1_1⟩ := len_succ z1_0
 obtain ⟨i2, ys2, rfl, z1_2⟩ := len_succ z1_1
 obtain ⟨i3, ys3, rfl, z1_3⟩ := len_succ z1_2
 obtain ⟨i4, ys4, rfl, z1_4⟩ := len_succ z1_3
 obtain ⟨i5, ys5, rfl, z1_5⟩ := len_succ z1_4
 obtain ⟨i6, ys6, rfl, z1_6⟩ := len_succ z1_5
 obtain ⟨i7, ys7, rfl, z1_7⟩ := len_succ z1_6
 obtain rfl := List.eq_nil_of_length_eq_zero z1_7
 obtain ⟨b0, zs0, rfl, z2_0⟩ := len_succ z2
 obtain rfl := List.eq_nil_of_length_eq_zero z2_0
 obtain ⟨A0, Ys0, rfl, z3_0⟩ := len_succ z3
 obtain ⟨A1, Ys1, rfl, z3_1⟩ := len_succ z3_0
 obtain ⟨A2, Ys2, rfl, z3_2⟩ := len_succ z3_1
 obtain rfl := List.eq_nil_of_length_eq_zero z3_2
 have r0 : 0 ≤ i0 ∧ i0 ≤ 65535 := hH.e (.v 0, (0, 65535)) (by simp [coH])
 have r1 : 0 ≤ i1 ∧ i1 ≤ 65535 := hH.e (.v 1, (0, 65535)) (by simp [coH])
 have r2 : 0 ≤ i2 ∧ i2 ≤ 255 := hH.e (.v 2, (0, 255)) (by simp [coH])
 have r3 : 0 ≤ i3 ∧ i3 ≤ 255 := hH.e (.v 3, (0, 255)) (by simp [coH])
 have r4 : 0 ≤ i4 ∧ i4 ≤ 65535 := hH.e (.v 4, (0, 65535)) (by simp [coH])
 have r5 : 0 ≤ i5 ∧ i5 ≤ 65535 := hH.e (.v 5, (0, 65535)) (by simp [coH])
 have r6 : 0 ≤ i6 ∧ i6 ≤ 65535 := hH.e (.v 6, (0, 65535)) (by simp [coH])
 have r7 : 0 ≤ i7 ∧ i7 ≤ 255 := hH.e (.v 7, (0, 255)) (by simp [coH])
 have R0 : ∀ j, 0 ≤ A0 j ∧ A0 j ≤ 65535 := fun j => hH.a (0, (0, 65535)) (by simp [coH]) j
 have R1 : ∀ j, 0 ≤ A1 j ∧ A1 j ≤ 255 := fun j => hH.a (1, (0, 255)) (by simp [coH]) j
 have R2 : ∀ j, 0 ≤ A2 j ∧ A2 j ≤ 65535 := fun j => hH.a (2, (0, 65535)) (by simp [coH]) j
 have hfi : ∀ p ∈ coH.fi, ∀ is bs xs, inR p.2 (J.fi p.1 is bs xs) := hH.fi
 have hfa : ∀ p ∈ coH.fa, ∀ is bs xs j, inR p.2 (J.fa p.1 is bs xs j) := hH.fa
 have hIi : J.fi = Ifi := by rw [hI]; rfl
 have hIb : J.fb = Ifb := by rw [hI]; rfl
 have hIa : J.fa = Ifa := by rw [hI]; rfl
 refine ⟨(coV i0 i1 i2 i3 i4 i5 i6 i7 0 b0 A0 A1 A2 (fun _ => 0) vs J), rfl, ⟨rfl, rfl, rfl⟩, ?_, fun ι => rfl, ?_, ?_, ?_⟩
 ·
  refine ⟨by simp [coH], ?_, ?_, ?_, ?_, by simp [coH]⟩
  ·intro p hp
   simp only [coH, List.mem_cons, List.not_mem_nil, or_false] at hp
   rcases hp with rfl | rfl | rfl | rfl | rfl | rfl | rfl | rfl
   ·exact r0
   ·exact r1
   ·exact r2
   ·exact r3
   ·exact r4
   ·exact r5
   ·exact r6
   ·exact r7
  ·intro p hp
   simp only [coH, List.mem_cons, List.not_mem_nil, or_false] at hp
   rcases hp with rfl | rfl | rfl
   ·exact R0
   ·exact R1
   ·exact R2
  ·exact hfi
  ·exact hfa
 ·repeat' (first | exact rfl | exact trivial | exact fun _ _ => rfl | refine And.intro ?_ ?_ | refine Or.inr ?_)
 ·refine LT.holds_imp (fun v' m' h => h) (fun j todo ρ' h => ⟨h.1, i0, i1, i2, i3, i4, i5, i6, i7, b0, A0, A1, A2, vs, J, rfl, h.2⟩) (covcS i0 i1 i2 i3 i4 i5 i6 i7 b0 A0 A1 A2 vs J r0 r1 r2 r3 r4 r5 r6 r7 R0 R1 R2 hfi hfa hIi hIb hIa)
 ·intro j h ρ' hj hI' hz' hInv
  obtain ⟨i0', i1', i2', i3', i4', i5', i6', i7', b0', A0', A1', A2', vs', J', he, y8, Z3, hρ, hJ⟩ := hInv
  cases he
  subst hρ
  rcases j with _ | j
  ·simp only [cohs, List.getElem?_cons_zero, List.getElem?_cons_succ, Option.some.injEq] at hj; subst hj
   refine ⟨coh0.H, cook0 i0 i1 i2 i3 i4 i5 i6 i7 y8 b0 A0 A1 A2 Z3 vs J r0 r1 r2 r3 r4 r5 r6 r7 R0 R1 R2 hfi hfa hIi hIb hIa hJ, _, cosg0, ?_⟩
   exact LT.holds_imp (fun v' m' h => h) (fun j todo ρ' h => ⟨h.1, ⟨i0, i1, i2, i3, i4, i5, i6, i7, b0, A0, A1, A2, vs, J, rfl, h.2.1⟩, h.2.2⟩) (covc0 i0 i1 i2 i3 i4 i5 i6 i7 y8 b0 A0 A1 A2 Z3 vs J r0 r1 r2 r3 r4 r5 r6 r7 R0 R1 R2 hfi hfa hIi hIb hIa hJ)
  ·simp [cohs] at hj
def coS : Go.Sx.Spec := memoG (findG 8 1 3 coL coM) coH coL coM coN (coR) (some coO)
theorem cook (xs : Nat → Nat → Ext) : SpecOK Try.prog (Iv xs) 19 coS := memoA_ok (coat xs) (exactS_at _ _ _ _ _ _)
end Go.Proofs.Ytjegnoknenahpaa
