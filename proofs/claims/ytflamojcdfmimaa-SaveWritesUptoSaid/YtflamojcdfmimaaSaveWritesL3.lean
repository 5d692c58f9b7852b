/- A part of the law SaveWrites, which returns true for every input. A writer that is told values and parts, in every order, gives just the document's bytes, whenever it is asked. No condition. -/
import Derived.Test.YtflamojcdfmimaaSaveWritesB
namespace Go.Proofs.Ytflamojcdfmimaa.SaveWrites
open Go.Sx Go.ChangeShapes Go.WideShapes Go.ChangeAt Go.RowKit
set_option linter.unusedVariables false
set_option linter.unusedSimpArgs false
set_option maxRecDepth 100000
noncomputable def eH2_w4_0 : Hyp := { eh2.H with e := [((.v 9), (0, 0)), (e161, (4, 4)), ((.v 7), (0, 0))] ++ eh2.H.e, b := [(e138, true)] ++ eh2.H.b }
set_option maxHeartbeats 40000000 in
theorem esg2_w4_0 : segL Try.prog G Gh eD ehs [] 3000 0 3 { eh2 with H := eH2_w4_0 } = some (.jump 2 eT2 ⟨[(9, (.v 9)), (7, (.v 7)), (3, e162), (4, e139)], [], [(6, e195), (5, (.av 5))]⟩) := by kernel_rfl
theorem evc2_w4_0 (x0 : Ext) (Y0 : Nat → Ext) (nx0 y1 y2 y3 y4 y5 y6 y7 y8 y9 : Int) (Ax0_0 Ax0_1 Ax0_2 Ax0_3 Z4 Z5 Z6 : Nat → Int) (hB : eBase x0 Y0 nx0 Ax0_0 Ax0_1 Ax0_2 Ax0_3) (hJ : eJ2 nx0 y1 y2 y3 y4 y5 y6 y7 y8 y9 Ax0_0 Ax0_1 Ax0_2 Ax0_3 Z4 Z5 Z6) (hH : Hyp.ok eH2_w4_0 (eV x0 Y0 nx0 y1 y2 y3 y4 y5 y6 y7 y8 y9 Ax0_0 Ax0_1 Ax0_2 Ax0_3 Z4 Z5 Z6)) (hF0 : 0 ≤ y9 ∧ y9 ≤ 0) (hF1 : 4 ≤ Ax0_0 y4.toNat ∧ Ax0_0 y4.toNat ≤ 4) (hF2 : 0 ≤ y7 ∧ y7 ≤ 0) (hG0 : y4 < nx0) :
    LT.holds (eV x0 Y0 nx0 y1 y2 y3 y4 y5 y6 y7 y8 y9 Ax0_0 Ax0_1 Ax0_2 Ax0_3 Z4 Z5 Z6) (fun v _ => retTrue (eV x0 Y0 nx0 y1 y2 y3 y4 y5 y6 y7 y8 y9 Ax0_0 Ax0_1 Ax0_2 Ax0_3 Z4 Z5 Z6) v) (fun j' todo ρ' => (ehs[j']?.map (·.todo)) = some todo ∧ eInv x0 Y0 j' ρ' ∧ emu j' ρ' < emu 2 (eV x0 Y0 nx0 y1 y2 y3 y4 y5 y6 y7 y8 y9 Ax0_0 Ax0_1 Ax0_2 Ax0_3 Z4 Z5 Z6)) (.jump 2 eT2 ⟨[(9, (.v 9)), (7, (.v 7)), (3, e162), (4, e139)], [], [(6, e195), (5, (.av 5))]⟩) := by
  simp only [LT.holds, retTrue]
  refine ⟨ehT2, ⟨nx0, y1, y2, (_root_.Go.Sx.E.i (eV x0 Y0 nx0 y1 y2 y3 y4 y5 y6 y7 y8 y9 Ax0_0 Ax0_1 Ax0_2 Ax0_3 Z4 Z5 Z6) e162), (_root_.Go.Sx.E.i (eV x0 Y0 nx0 y1 y2 y3 y4 y5 y6 y7 y8 y9 Ax0_0 Ax0_1 Ax0_2 Ax0_3 Z4 Z5 Z6) e139), y5, y6, y7, y8, y9, Ax0_0, Ax0_1, Ax0_2, Ax0_3, Z4, Z5, (_root_.Go.Sx.E.a (eV x0 Y0 nx0 y1 y2 y3 y4 y5 y6 y7 y8 y9 Ax0_0 Ax0_1 Ax0_2 Ax0_3 Z4 Z5 Z6) e195), (by kernel_rfl), hB, ?_⟩, ?_⟩
  ·
    simp only [eBase] at hB
    obtain ⟨b0, c0, c1, c2, c3, en, ea0, ea1, ea2, ea3, hs, _⟩ := hB
    simp only [eJ2] at hJ
    obtain ⟨l1, l2, l3, l4, l5, l6, l7, l8, l9, m4, m5, m6, i1, i2, _⟩ := hJ
    have p1 := hs (y4.toNat + 1) (by omega)
    rw [← ea2] at p1
    have p2 : pSum Ax0_2 (y4.toNat + 1) = pSum Ax0_2 y4.toNat + 8 + 2 * Ax0_2 y4.toNat := rfl
    have p3 := c2 y4.toNat
    have p4 : 8 * (y4.toNat : Int) ≤ pSum Ax0_2 y4.toNat := pSum_le (fun j => (c2 j).1) _
    have p5 : (y4 + 1).toNat = y4.toNat + 1 := by omega
    simp only [eJ2]
    refine ⟨l1, l2, ?_, ?_, l5, l6, l7, l8, l9, m4, m5, (arr_at hH (by kernel_rfl)), ?_, ?_, trivial⟩
    all_goals
      try simp only [e139, e162, e163, e194, e195, eV, i_v, i_lit, i_add, i_sub, i_sel, a_av, a_tab, a_upd, List.getD_cons_zero, List.getD_cons_succ]
      first
        | omega
        | (rw [p5]; omega)
        | (intro j hj; first | (have := i2 j (by omega); omega) | (split <;> first | omega | (have := i2 j (by omega); omega)) | omega)
  simp only [eBase] at hB
  obtain ⟨b0, c0, c1, c2, c3, en, ea0, ea1, ea2, ea3, hs, _⟩ := hB
  simp only [eJ2] at hJ
  obtain ⟨l1, l2, l3, l4, l5, l6, l7, l8, l9, m4, m5, m6, i1, i2, _⟩ := hJ
  simp only [emu, Env.app, setAll, List.map_cons, List.map_nil, List.set, e139, e162, e163, e194, e195, eV, i_v, i_lit, i_add, i_sub, i_sel, a_av, a_tab, a_upd, List.getD_cons_zero, List.getD_cons_succ]
  omega
noncomputable def eH2_w4_1 : Hyp := { eh2.H with e := [((.v 9), (0, 0)), (e161, (4, 4)), ((.v 7), (1, 16))] ++ eh2.H.e, b := [(e138, true)] ++ eh2.H.b }
set_option maxHeartbeats 40000000 in
theorem esg2_w4_1 : segL Try.prog G Gh eD ehs [] 3000 0 3 { eh2 with H := eH2_w4_1 } = some (.jump 2 eT2 ⟨[(9, (.v 9)), (7, (.v 7)), (3, e162), (4, e139)], [], [(6, e195), (5, (.av 5))]⟩) := by kernel_rfl
theorem evc2_w4_1 (x0 : Ext) (Y0 : Nat → Ext) (nx0 y1 y2 y3 y4 y5 y6 y7 y8 y9 : Int) (Ax0_0 Ax0_1 Ax0_2 Ax0_3 Z4 Z5 Z6 : Nat → Int) (hB : eBase x0 Y0 nx0 Ax0_0 Ax0_1 Ax0_2 Ax0_3) (hJ : eJ2 nx0 y1 y2 y3 y4 y5 y6 y7 y8 y9 Ax0_0 Ax0_1 Ax0_2 Ax0_3 Z4 Z5 Z6) (hH : Hyp.ok eH2_w4_1 (eV x0 Y0 nx0 y1 y2 y3 y4 y5 y6 y7 y8 y9 Ax0_0 Ax0_1 Ax0_2 Ax0_3 Z4 Z5 Z6)) (hF0 : 0 ≤ y9 ∧ y9 ≤ 0) (hF1 : 4 ≤ Ax0_0 y4.toNat ∧ Ax0_0 y4.toNat ≤ 4) (hF2 : 1 ≤ y7 ∧ y7 ≤ 16) (hG0 : y4 < nx0) :
    LT.holds (eV x0 Y0 nx0 y1 y2 y3 y4 y5 y6 y7 y8 y9 Ax0_0 Ax0_1 Ax0_2 Ax0_3 Z4 Z5 Z6) (fun v _ => retTrue (eV x0 Y0 nx0 y1 y2 y3 y4 y5 y6 y7 y8 y9 Ax0_0 Ax0_1 Ax0_2 Ax0_3 Z4 Z5 Z6) v) (fun j' todo ρ' => (ehs[j']?.map (·.todo)) = some todo ∧ eInv x0 Y0 j' ρ' ∧ emu j' ρ' < emu 2 (eV x0 Y0 nx0 y1 y2 y3 y4 y5 y6 y7 y8 y9 Ax0_0 Ax0_1 Ax0_2 Ax0_3 Z4 Z5 Z6)) (.jump 2 eT2 ⟨[(9, (.v 9)), (7, (.v 7)), (3, e162), (4, e139)], [], [(6, e195), (5, (.av 5))]⟩) := by
  simp only [LT.holds, retTrue]
  refine ⟨ehT2, ⟨nx0, y1, y2, (_root_.Go.Sx.E.i (eV x0 Y0 nx0 y1 y2 y3 y4 y5 y6 y7 y8 y9 Ax0_0 Ax0_1 Ax0_2 Ax0_3 Z4 Z5 Z6) e162), (_root_.Go.Sx.E.i (eV x0 Y0 nx0 y1 y2 y3 y4 y5 y6 y7 y8 y9 Ax0_0 Ax0_1 Ax0_2 Ax0_3 Z4 Z5 Z6) e139), y5, y6, y7, y8, y9, Ax0_0, Ax0_1, Ax0_2, Ax0_3, Z4, Z5, (_root_.Go.Sx.E.a (eV x0 Y0 nx0 y1 y2 y3 y4 y5 y6 y7 y8 y9 Ax0_0 Ax0_1 Ax0_2 Ax0_3 Z4 Z5 Z6) e195), (by kernel_rfl), hB, ?_⟩, ?_⟩
  ·
    simp only [eBase] at hB
    obtain ⟨b0, c0, c1, c2, c3, en, ea0, ea1, ea2, ea3, hs, _⟩ := hB
    simp only [eJ2] at hJ
    obtain ⟨l1, l2, l3, l4, l5, l6, l7, l8, l9, m4, m5, m6, i1, i2, _⟩ := hJ
    have p1 := hs (y4.toNat + 1) (by omega)
    rw [← ea2] at p1
    have p2 : pSum Ax0_2 (y4.toNat + 1) = pSum Ax0_2 y4.toNat + 8 + 2 * Ax0_2 y4.toNat := rfl
    have p3 := c2 y4.toNat
    have p4 : 8 * (y4.toNat : Int) ≤ pSum Ax0_2 y4.toNat := pSum_le (fun j => (c2 j).1) _
    have p5 : (y4 + 1).toNat = y4.toNat + 1 := by omega
    simp only [eJ2]
    refine ⟨l1, l2, ?_, ?_, l5, l6, l7, l8, l9, m4, m5, (arr_at hH (by kernel_rfl)), ?_, ?_, trivial⟩
    all_goals
      try simp only [e139, e162, e163, e194, e195, eV, i_v, i_lit, i_add, i_sub, i_sel, a_av, a_tab, a_upd, List.getD_cons_zero, List.getD_cons_succ]
      first
        | omega
        | (rw [p5]; omega)
        | (intro j hj; first | (have := i2 j (by omega); omega) | (split <;> first | omega | (have := i2 j (by omega); omega)) | omega)
  simp only [eBase] at hB
  obtain ⟨b0, c0, c1, c2, c3, en, ea0, ea1, ea2, ea3, hs, _⟩ := hB
  simp only [eJ2] at hJ
  obtain ⟨l1, l2, l3, l4, l5, l6, l7, l8, l9, m4, m5, m6, i1, i2, _⟩ := hJ
  simp only [emu, Env.app, setAll, List.map_cons, List.map_nil, List.set, e139, e162, e163, e194, e195, eV, i_v, i_lit, i_add, i_sub, i_sel, a_av, a_tab, a_upd, List.getD_cons_zero, List.getD_cons_succ]
  omega
noncomputable def eH2_w5_0 : Hyp := { eh2.H with e := [((.v 9), (0, 0)), (e161, (5, 5)), ((.v 7), (0, 0))] ++ eh2.H.e, b := [(e138, true)] ++ eh2.H.b }
set_option maxHeartbeats 40000000 in
theorem esg2_w5_0 : segL Try.prog G Gh eD ehs [] 3000 0 3 { eh2 with H := eH2_w5_0 } = some (.jump 2 eT2 ⟨[(9, (.v 9)), (7, (.v 7)), (3, e198), (4, e139)], [], [(6, e211), (5, (.av 5))]⟩) := by kernel_rfl
theorem evc2_w5_0 (x0 : Ext) (Y0 : Nat → Ext) (nx0 y1 y2 y3 y4 y5 y6 y7 y8 y9 : Int) (Ax0_0 Ax0_1 Ax0_2 Ax0_3 Z4 Z5 Z6 : Nat → Int) (hB : eBase x0 Y0 nx0 Ax0_0 Ax0_1 Ax0_2 Ax0_3) (hJ : eJ2 nx0 y1 y2 y3 y4 y5 y6 y7 y8 y9 Ax0_0 Ax0_1 Ax0_2 Ax0_3 Z4 Z5 Z6) (hH : Hyp.ok eH2_w5_0 (eV x0 Y0 nx0 y1 y2 y3 y4 y5 y6 y7 y8 y9 Ax0_0 Ax0_1 Ax0_2 Ax0_3 Z4 Z5 Z6)) (hF0 : 0 ≤ y9 ∧ y9 ≤ 0) (hF1 : 5 ≤ Ax0_0 y4.toNat ∧ Ax0_0 y4.toNat ≤ 5) (hF2 : 0 ≤ y7 ∧ y7 ≤ 0) (hG0 : y4 < nx0) :
    LT.holds (eV x0 Y0 nx0 y1 y2 y3 y4 y5 y6 y7 y8 y9 Ax0_0 Ax0_1 Ax0_2 Ax0_3 Z4 Z5 Z6) (fun v _ => retTrue (eV x0 Y0 nx0 y1 y2 y3 y4 y5 y6 y7 y8 y9 Ax0_0 Ax0_1 Ax0_2 Ax0_3 Z4 Z5 Z6) v) (fun j' todo ρ' => (ehs[j']?.map (·.todo)) = some todo ∧ eInv x0 Y0 j' ρ' ∧ emu j' ρ' < emu 2 (eV x0 Y0 nx0 y1 y2 y3 y4 y5 y6 y7 y8 y9 Ax0_0 Ax0_1 Ax0_2 Ax0_3 Z4 Z5 Z6)) (.jump 2 eT2 ⟨[(9, (.v 9)), (7, (.v 7)), (3, e198), (4, e139)], [], [(6, e211), (5, (.av 5))]⟩) := by
  simp only [LT.holds, retTrue]
  refine ⟨ehT2, ⟨nx0, y1, y2, (_root_.Go.Sx.E.i (eV x0 Y0 nx0 y1 y2 y3 y4 y5 y6 y7 y8 y9 Ax0_0 Ax0_1 Ax0_2 Ax0_3 Z4 Z5 Z6) e198), (_root_.Go.Sx.E.i (eV x0 Y0 nx0 y1 y2 y3 y4 y5 y6 y7 y8 y9 Ax0_0 Ax0_1 Ax0_2 Ax0_3 Z4 Z5 Z6) e139), y5, y6, y7, y8, y9, Ax0_0, Ax0_1, Ax0_2, Ax0_3, Z4, Z5, (_root_.Go.Sx.E.a (eV x0 Y0 nx0 y1 y2 y3 y4 y5 y6 y7 y8 y9 Ax0_0 Ax0_1 Ax0_2 Ax0_3 Z4 Z5 Z6) e211), (by kernel_rfl), hB, ?_⟩, ?_⟩
  ·
    simp only [eBase] at hB
    obtain ⟨b0, c0, c1, c2, c3, en, ea0, ea1, ea2, ea3, hs, _⟩ := hB
    simp only [eJ2] at hJ
    obtain ⟨l1, l2, l3, l4, l5, l6, l7, l8, l9, m4, m5, m6, i1, i2, _⟩ := hJ
    have p1 := hs (y4.toNat + 1) (by omega)
    rw [← ea2] at p1
    have p2 : pSum Ax0_2 (y4.toNat + 1) = pSum Ax0_2 y4.toNat + 8 + 2 * Ax0_2 y4.toNat := rfl
    have p3 := c2 y4.toNat
    have p4 : 8 * (y4.toNat : Int) ≤ pSum Ax0_2 y4.toNat := pSum_le (fun j => (c2 j).1) _
    have p5 : (y4 + 1).toNat = y4.toNat + 1 := by omega
    simp only [eJ2]
    refine ⟨l1, l2, ?_, ?_, l5, l6, l7, l8, l9, m4, m5, (arr_at hH (by kernel_rfl)), ?_, ?_, trivial⟩
    all_goals
      try simp only [e139, e196, e197, e198, e199, e200, e201, e202, e203, e204, e205, e206, e207, e208, e209, e210, e211, eV, i_v, i_lit, i_add, i_sub, i_sel, a_av, a_tab, a_upd, List.getD_cons_zero, List.getD_cons_succ]
      first
        | omega
        | (rw [p5]; omega)
        | (intro j hj; first | (have := i2 j (by omega); omega) | (split <;> first | omega | (have := i2 j (by omega); omega)) | omega)
  simp only [eBase] at hB
  obtain ⟨b0, c0, c1, c2, c3, en, ea0, ea1, ea2, ea3, hs, _⟩ := hB
  simp only [eJ2] at hJ
  obtain ⟨l1, l2, l3, l4, l5, l6, l7, l8, l9, m4, m5, m6, i1, i2, _⟩ := hJ
  simp only [emu, Env.app, setAll, List.map_cons, List.map_nil, List.set, e139, e196, e197, e198, e199, e200, e201, e202, e203, e204, e205, e206, e207, e208, e209, e210, e211, eV, i_v, i_lit, i_add, i_sub, i_sel, a_av, a_tab, a_upd, List.getD_cons_zero, List.getD_cons_succ]
  omega
noncomputable def eH2_w5_1 : Hyp := { eh2.H with e := [((.v 9), (0, 0)), (e161, (5, 5)), ((.v 7), (1, 16))] ++ eh2.H.e, b := [(e138, true)] ++ eh2.H.b }
set_option maxHeartbeats 40000000 in
theorem esg2_w5_1 : segL Try.prog G Gh eD ehs [] 3000 0 3 { eh2 with H := eH2_w5_1 } = some (.jump 2 eT2 ⟨[(9, (.v 9)), (7, (.v 7)), (3, e198), (4, e139)], [], [(6, e211), (5, (.av 5))]⟩) := by kernel_rfl
theorem evc2_w5_1 (x0 : Ext) (Y0 : Nat → Ext) (nx0 y1 y2 y3 y4 y5 y6 y7 y8 y9 : Int) (Ax0_0 Ax0_1 Ax0_2 Ax0_3 Z4 Z5 Z6 : Nat → Int) (hB : eBase x0 Y0 nx0 Ax0_0 Ax0_1 Ax0_2 Ax0_3) (hJ : eJ2 nx0 y1 y2 y3 y4 y5 y6 y7 y8 y9 Ax0_0 Ax0_1 Ax0_2 Ax0_3 Z4 Z5 Z6) (hH : Hyp.ok eH2_w5_1 (eV x0 Y0 nx0 y1 y2 y3 y4 y5 y6 y7 y8 y9 Ax0_0 Ax0_1 Ax0_2 Ax0_3 Z4 Z5 Z6)) (hF0 : 0 ≤ y9 ∧ y9 ≤ 0) (hF1 : 5 ≤ Ax0_0 y4.toNat ∧ Ax0_0 y4.toNat ≤ 5) (hF2 : 1 ≤ y7 ∧ y7 ≤ 16) (hG0 : y4 < nx0) :
    LT.holds (eV x0 Y0 nx0 y1 y2 y3 y4 y5 y6 y7 y8 y9 Ax0_0 Ax0_1 Ax0_2 Ax0_3 Z4 Z5 Z6) (fun v _ => retTrue (eV x0 Y0 nx0 y1 y2 y3 y4 y5 y6 y7 y8 y9 Ax0_0 Ax0_1 Ax0_2 Ax0_3 Z4 Z5 Z6) v) (fun j' todo ρ' => (ehs[j']?.map (·.todo)) = some todo ∧ eInv x0 Y0 j' ρ' ∧ emu j' ρ' < emu 2 (eV x0 Y0 nx0 y1 y2 y3 y4 y5 y6 y7 y8 y9 Ax0_0 Ax0_1 Ax0_2 Ax0_3 Z4 Z5 Z6)) (.jump 2 eT2 ⟨[(9, (.v 9)), (7, (.v 7)), (3, e198), (4, e139)], [], [(6, e211), (5, (.av 5))]⟩) := by
  simp only [LT.holds, retTrue]
  refine ⟨ehT2, ⟨nx0, y1, y2, (_root_.Go.Sx.E.i (eV x0 Y0 nx0 y1 y2 y3 y4 y5 y6 y7 y8 y9 Ax0_0 Ax0_1 Ax0_2 Ax0_3 Z4 Z5 Z6) e198), (_root_.Go.Sx.E.i (eV x0 Y0 nx0 y1 y2 y3 y4 y5 y6 y7 y8 y9 Ax0_0 Ax0_1 Ax0_2 Ax0_3 Z4 Z5 Z6) e139), y5, y6, y7, y8, y9, Ax0_0, Ax0_1, Ax0_2, Ax0_3, Z4, Z5, (_root_.Go.Sx.E.a (eV x0 Y0 nx0 y1 y2 y3 y4 y5 y6 y7 y8 y9 Ax0_0 Ax0_1 Ax0_2 Ax0_3 Z4 Z5 Z6) e211), (by kernel_rfl), hB, ?_⟩, ?_⟩
  ·
    simp only [eBase] at hB
    obtain ⟨b0, c0, c1, c2, c3, en, ea0, ea1, ea2, ea3, hs, _⟩ := hB
    simp only [eJ2] at hJ
    obtain ⟨l1, l2, l3, l4, l5, l6, l7, l8, l9, m4, m5, m6, i1, i2, _⟩ := hJ
    have p1 := hs (y4.toNat + 1) (by omega)
    rw [← ea2] at p1
    have p2 : pSum Ax0_2 (y4.toNat + 1) = pSum Ax0_2 y4.toNat + 8 + 2 * Ax0_2 y4.toNat := rfl
    have p3 := c2 y4.toNat
    have p4 : 8 * (y4.toNat : Int) ≤ pSum Ax0_2 y4.toNat := pSum_le (fun j => (c2 j).1) _
    have p5 : (y4 + 1).toNat = y4.toNat + 1 := by omega
    simp only [eJ2]
    refine ⟨l1, l2, ?_, ?_, l5, l6, l7, l8, l9, m4, m5, (arr_at hH (by kernel_rfl)), ?_, ?_, trivial⟩
    all_goals
      try simp only [e139, e196, e197, e198, e199, e200, e201, e202, e203, e204, e205, e206, e207, e208, e209, e210, e211, eV, i_v, i_lit, i_add, i_sub, i_sel, a_av, a_tab, a_upd, List.getD_cons_zero, List.getD_cons_succ]
      first
        | omega
        | (rw [p5]; omega)
        | (intro j hj; first | (have := i2 j (by omega); omega) | (split <;> first | omega | (have := i2 j (by omega); omega)) | omega)
  simp only [eBase] at hB
  obtain ⟨b0, c0, c1, c2, c3, en, ea0, ea1, ea2, ea3, hs, _⟩ := hB
  simp only [eJ2] at hJ
  obtain ⟨l1, l2, l3, l4, l5, l6, l7, l8, l9, m4, m5, m6, i1, i2, _⟩ := hJ
  simp only [emu, Env.app, setAll, List.map_cons, List.map_nil, List.set, e139, e196, e197, e198, e199, e200, e201, e202, e203, e204, e205, e206, e207, e208, e209, e210, e211, eV, i_v, i_lit, i_add, i_sub, i_sel, a_av, a_tab, a_upd, List.getD_cons_zero, List.getD_cons_succ]
  omega
noncomputable def eH2_w6_0 : Hyp := { eh2.H with e := [((.v 9), (0, 0)), (e161, (6, 6)), ((.v 7), (0, 15))] ++ eh2.H.e, b := [(e138, true)] ++ eh2.H.b }
set_option maxHeartbeats 40000000 in
theorem esg2_w6_0 : segL Try.prog G Gh eD ehs [] 3000 0 3 { eh2 with H := eH2_w6_0 } = some (.jump 2 eT2 ⟨[(9, (.v 9)), (7, e212), (3, e182), (4, e139)], [], [(6, e216), (5, e217)]⟩) := by kernel_rfl
theorem evc2_w6_0 (x0 : Ext) (Y0 : Nat → Ext) (nx0 y1 y2 y3 y4 y5 y6 y7 y8 y9 : Int) (Ax0_0 Ax0_1 Ax0_2 Ax0_3 Z4 Z5 Z6 : Nat → Int) (hB : eBase x0 Y0 nx0 Ax0_0 Ax0_1 Ax0_2 Ax0_3) (hJ : eJ2 nx0 y1 y2 y3 y4 y5 y6 y7 y8 y9 Ax0_0 Ax0_1 Ax0_2 Ax0_3 Z4 Z5 Z6) (hH : Hyp.ok eH2_w6_0 (eV x0 Y0 nx0 y1 y2 y3 y4 y5 y6 y7 y8 y9 Ax0_0 Ax0_1 Ax0_2 Ax0_3 Z4 Z5 Z6)) (hF0 : 0 ≤ y9 ∧ y9 ≤ 0) (hF1 : 6 ≤ Ax0_0 y4.toNat ∧ Ax0_0 y4.toNat ≤ 6) (hF2 : 0 ≤ y7 ∧ y7 ≤ 15) (hG0 : y4 < nx0) :
    LT.holds (eV x0 Y0 nx0 y1 y2 y3 y4 y5 y6 y7 y8 y9 Ax0_0 Ax0_1 Ax0_2 Ax0_3 Z4 Z5 Z6) (fun v _ => retTrue (eV x0 Y0 nx0 y1 y2 y3 y4 y5 y6 y7 y8 y9 Ax0_0 Ax0_1 Ax0_2 Ax0_3 Z4 Z5 Z6) v) (fun j' todo ρ' => (ehs[j']?.map (·.todo)) = some todo ∧ eInv x0 Y0 j' ρ' ∧ emu j' ρ' < emu 2 (eV x0 Y0 nx0 y1 y2 y3 y4 y5 y6 y7 y8 y9 Ax0_0 Ax0_1 Ax0_2 Ax0_3 Z4 Z5 Z6)) (.jump 2 eT2 ⟨[(9, (.v 9)), (7, e212), (3, e182), (4, e139)], [], [(6, e216), (5, e217)]⟩) := by
  simp only [LT.holds, retTrue]
  refine ⟨ehT2, ⟨nx0, y1, y2, (_root_.Go.Sx.E.i (eV x0 Y0 nx0 y1 y2 y3 y4 y5 y6 y7 y8 y9 Ax0_0 Ax0_1 Ax0_2 Ax0_3 Z4 Z5 Z6) e182), (_root_.Go.Sx.E.i (eV x0 Y0 nx0 y1 y2 y3 y4 y5 y6 y7 y8 y9 Ax0_0 Ax0_1 Ax0_2 Ax0_3 Z4 Z5 Z6) e139), y5, y6, (_root_.Go.Sx.E.i (eV x0 Y0 nx0 y1 y2 y3 y4 y5 y6 y7 y8 y9 Ax0_0 Ax0_1 Ax0_2 Ax0_3 Z4 Z5 Z6) e212), y8, y9, Ax0_0, Ax0_1, Ax0_2, Ax0_3, Z4, (_root_.Go.Sx.E.a (eV x0 Y0 nx0 y1 y2 y3 y4 y5 y6 y7 y8 y9 Ax0_0 Ax0_1 Ax0_2 Ax0_3 Z4 Z5 Z6) e217), (_root_.Go.Sx.E.a (eV x0 Y0 nx0 y1 y2 y3 y4 y5 y6 y7 y8 y9 Ax0_0 Ax0_1 Ax0_2 Ax0_3 Z4 Z5 Z6) e216), (by kernel_rfl), hB, ?_⟩, ?_⟩
  ·
    simp only [eBase] at hB
    obtain ⟨b0, c0, c1, c2, c3, en, ea0, ea1, ea2, ea3, hs, _⟩ := hB
    simp only [eJ2] at hJ
    obtain ⟨l1, l2, l3, l4, l5, l6, l7, l8, l9, m4, m5, m6, i1, i2, _⟩ := hJ
    have p1 := hs (y4.toNat + 1) (by omega)
    rw [← ea2] at p1
    have p2 : pSum Ax0_2 (y4.toNat + 1) = pSum Ax0_2 y4.toNat + 8 + 2 * Ax0_2 y4.toNat := rfl
    have p3 := c2 y4.toNat
    have p4 : 8 * (y4.toNat : Int) ≤ pSum Ax0_2 y4.toNat := pSum_le (fun j => (c2 j).1) _
    have p5 : (y4 + 1).toNat = y4.toNat + 1 := by omega
    simp only [eJ2]
    refine ⟨l1, l2, ?_, ?_, l5, l6, ?_, l8, l9, m4, (arr_at hH (by kernel_rfl)), (arr_at hH (by kernel_rfl)), ?_, ?_, trivial⟩
    all_goals
      try simp only [e139, e162, e163, e164, e165, e166, e170, e174, e182, e212, e213, e214, e215, e216, e217, eV, i_v, i_lit, i_add, i_sub, i_sel, a_av, a_tab, a_upd, List.getD_cons_zero, List.getD_cons_succ]
      first
        | omega
        | (rw [p5]; omega)
        | (intro j hj; first | (have := i2 j (by omega); omega) | (split <;> first | omega | (have := i2 j (by omega); omega)) | omega)
  simp only [eBase] at hB
  obtain ⟨b0, c0, c1, c2, c3, en, ea0, ea1, ea2, ea3, hs, _⟩ := hB
  simp only [eJ2] at hJ
  obtain ⟨l1, l2, l3, l4, l5, l6, l7, l8, l9, m4, m5, m6, i1, i2, _⟩ := hJ
  simp only [emu, Env.app, setAll, List.map_cons, List.map_nil, List.set, e139, e162, e163, e164, e165, e166, e170, e174, e182, e212, e213, e214, e215, e216, e217, eV, i_v, i_lit, i_add, i_sub, i_sel, a_av, a_tab, a_upd, List.getD_cons_zero, List.getD_cons_succ]
  omega
noncomputable def eH2_w6_16 : Hyp := { eh2.H with e := [((.v 9), (0, 0)), (e161, (6, 6)), ((.v 7), (16, 16))] ++ eh2.H.e, b := [(e138, true)] ++ eh2.H.b }
set_option maxHeartbeats 40000000 in
theorem esg2_w6_16 : segL Try.prog G Gh eD ehs [] 3000 0 3 { eh2 with H := eH2_w6_16 } = some (.jump 2 eT2 ⟨[(9, (.lit 4)), (7, (.v 7)), (3, (.v 3)), (4, e139)], [], [(6, (.av 6)), (5, (.av 5))]⟩) := by kernel_rfl
theorem evc2_w6_16 (x0 : Ext) (Y0 : Nat → Ext) (nx0 y1 y2 y3 y4 y5 y6 y7 y8 y9 : Int) (Ax0_0 Ax0_1 Ax0_2 Ax0_3 Z4 Z5 Z6 : Nat → Int) (hB : eBase x0 Y0 nx0 Ax0_0 Ax0_1 Ax0_2 Ax0_3) (hJ : eJ2 nx0 y1 y2 y3 y4 y5 y6 y7 y8 y9 Ax0_0 Ax0_1 Ax0_2 Ax0_3 Z4 Z5 Z6) (hH : Hyp.ok eH2_w6_16 (eV x0 Y0 nx0 y1 y2 y3 y4 y5 y6 y7 y8 y9 Ax0_0 Ax0_1 Ax0_2 Ax0_3 Z4 Z5 Z6)) (hF0 : 0 ≤ y9 ∧ y9 ≤ 0) (hF1 : 6 ≤ Ax0_0 y4.toNat ∧ Ax0_0 y4.toNat ≤ 6) (hF2 : 16 ≤ y7 ∧ y7 ≤ 16) (hG0 : y4 < nx0) :
    LT.holds (eV x0 Y0 nx0 y1 y2 y3 y4 y5 y6 y7 y8 y9 Ax0_0 Ax0_1 Ax0_2 Ax0_3 Z4 Z5 Z6) (fun v _ => retTrue (eV x0 Y0 nx0 y1 y2 y3 y4 y5 y6 y7 y8 y9 Ax0_0 Ax0_1 Ax0_2 Ax0_3 Z4 Z5 Z6) v) (fun j' todo ρ' => (ehs[j']?.map (·.todo)) = some todo ∧ eInv x0 Y0 j' ρ' ∧ emu j' ρ' < emu 2 (eV x0 Y0 nx0 y1 y2 y3 y4 y5 y6 y7 y8 y9 Ax0_0 Ax0_1 Ax0_2 Ax0_3 Z4 Z5 Z6)) (.jump 2 eT2 ⟨[(9, (.lit 4)), (7, (.v 7)), (3, (.v 3)), (4, e139)], [], [(6, (.av 6)), (5, (.av 5))]⟩) := by
  simp only [LT.holds, retTrue]
  refine ⟨ehT2, ⟨nx0, y1, y2, y3, (_root_.Go.Sx.E.i (eV x0 Y0 nx0 y1 y2 y3 y4 y5 y6 y7 y8 y9 Ax0_0 Ax0_1 Ax0_2 Ax0_3 Z4 Z5 Z6) e139), y5, y6, y7, y8, (_root_.Go.Sx.E.i (eV x0 Y0 nx0 y1 y2 y3 y4 y5 y6 y7 y8 y9 Ax0_0 Ax0_1 Ax0_2 Ax0_3 Z4 Z5 Z6) (.lit 4)), Ax0_0, Ax0_1, Ax0_2, Ax0_3, Z4, Z5, Z6, (by kernel_rfl), hB, ?_⟩, ?_⟩
  ·
    simp only [eBase] at hB
    obtain ⟨b0, c0, c1, c2, c3, en, ea0, ea1, ea2, ea3, hs, _⟩ := hB
    simp only [eJ2] at hJ
    obtain ⟨l1, l2, l3, l4, l5, l6, l7, l8, l9, m4, m5, m6, i1, i2, _⟩ := hJ
    have p1 := hs (y4.toNat + 1) (by omega)
    rw [← ea2] at p1
    have p2 : pSum Ax0_2 (y4.toNat + 1) = pSum Ax0_2 y4.toNat + 8 + 2 * Ax0_2 y4.toNat := rfl
    have p3 := c2 y4.toNat
    have p4 : 8 * (y4.toNat : Int) ≤ pSum Ax0_2 y4.toNat := pSum_le (fun j => (c2 j).1) _
    have p5 : (y4 + 1).toNat = y4.toNat + 1 := by omega
    simp only [eJ2]
    refine ⟨l1, l2, l3, ?_, l5, l6, l7, l8, ?_, m4, m5, m6, ?_, ?_, trivial⟩
    all_goals
      try simp only [e139, eV, i_v, i_lit, i_add, i_sub, i_sel, a_av, a_tab, a_upd, List.getD_cons_zero, List.getD_cons_succ]
      first
        | omega
        | (rw [p5]; omega)
        | (intro j hj; first | (have := i2 j (by omega); omega) | (split <;> first | omega | (have := i2 j (by omega); omega)) | omega)
  simp only [eBase] at hB
  obtain ⟨b0, c0, c1, c2, c3, en, ea0, ea1, ea2, ea3, hs, _⟩ := hB
  simp only [eJ2] at hJ
  obtain ⟨l1, l2, l3, l4, l5, l6, l7, l8, l9, m4, m5, m6, i1, i2, _⟩ := hJ
  simp only [emu, Env.app, setAll, List.map_cons, List.map_nil, List.set, e139, eV, i_v, i_lit, i_add, i_sub, i_sel, a_av, a_tab, a_upd, List.getD_cons_zero, List.getD_cons_succ]
  omega
noncomputable def eH2_w7_0 : Hyp := { eh2.H with e := [((.v 9), (0, 0)), (e161, (7, 9223372036854775807)), ((.v 7), (0, 0))] ++ eh2.H.e, b := [(e138, true)] ++ eh2.H.b }
set_option maxHeartbeats 40000000 in
theorem esg2_w7_0 : segL Try.prog G Gh eD ehs [] 3000 0 3 { eh2 with H := eH2_w7_0 } = some (.jump 2 eT2 ⟨[(9, (.lit 2)), (7, (.v 7)), (3, (.v 3)), (4, e139)], [], [(6, (.av 6)), (5, (.av 5))]⟩) := by kernel_rfl
theorem evc2_w7_0 (x0 : Ext) (Y0 : Nat → Ext) (nx0 y1 y2 y3 y4 y5 y6 y7 y8 y9 : Int) (Ax0_0 Ax0_1 Ax0_2 Ax0_3 Z4 Z5 Z6 : Nat → Int) (hB : eBase x0 Y0 nx0 Ax0_0 Ax0_1 Ax0_2 Ax0_3) (hJ : eJ2 nx0 y1 y2 y3 y4 y5 y6 y7 y8 y9 Ax0_0 Ax0_1 Ax0_2 Ax0_3 Z4 Z5 Z6) (hH : Hyp.ok eH2_w7_0 (eV x0 Y0 nx0 y1 y2 y3 y4 y5 y6 y7 y8 y9 Ax0_0 Ax0_1 Ax0_2 Ax0_3 Z4 Z5 Z6)) (hF0 : 0 ≤ y9 ∧ y9 ≤ 0) (hF1 : 7 ≤ Ax0_0 y4.toNat ∧ Ax0_0 y4.toNat ≤ 9223372036854775807) (hF2 : 0 ≤ y7 ∧ y7 ≤ 0) (hG0 : y4 < nx0) :
    LT.holds (eV x0 Y0 nx0 y1 y2 y3 y4 y5 y6 y7 y8 y9 Ax0_0 Ax0_1 Ax0_2 Ax0_3 Z4 Z5 Z6) (fun v _ => retTrue (eV x0 Y0 nx0 y1 y2 y3 y4 y5 y6 y7 y8 y9 Ax0_0 Ax0_1 Ax0_2 Ax0_3 Z4 Z5 Z6) v) (fun j' todo ρ' => (ehs[j']?.map (·.todo)) = some todo ∧ eInv x0 Y0 j' ρ' ∧ emu j' ρ' < emu 2 (eV x0 Y0 nx0 y1 y2 y3 y4 y5 y6 y7 y8 y9 Ax0_0 Ax0_1 Ax0_2 Ax0_3 Z4 Z5 Z6)) (.jump 2 eT2 ⟨[(9, (.lit 2)), (7, (.v 7)), (3, (.v 3)), (4, e139)], [], [(6, (.av 6)), (5, (.av 5))]⟩) := by
  simp only [LT.holds, retTrue]
  refine ⟨ehT2, ⟨nx0, y1, y2, y3, (_root_.Go.Sx.E.i (eV x0 Y0 nx0 y1 y2 y3 y4 y5 y6 y7 y8 y9 Ax0_0 Ax0_1 Ax0_2 Ax0_3 Z4 Z5 Z6) e139), y5, y6, y7, y8, (_root_.Go.Sx.E.i (eV x0 Y0 nx0 y1 y2 y3 y4 y5 y6 y7 y8 y9 Ax0_0 Ax0_1 Ax0_2 Ax0_3 Z4 Z5 Z6) (.lit 2)), Ax0_0, Ax0_1, Ax0_2, Ax0_3, Z4, Z5, Z6, (by kernel_rfl), hB, ?_⟩, ?_⟩
  ·
    simp only [eBase] at hB
    obtain ⟨b0, c0, c1, c2, c3, en, ea0, ea1, ea2, ea3, hs, _⟩ := hB
    simp only [eJ2] at hJ
    obtain ⟨l1, l2, l3, l4, l5, l6, l7, l8, l9, m4, m5, m6, i1, i2, _⟩ := hJ
    have p1 := hs (y4.toNat + 1) (by omega)
    rw [← ea2] at p1
    have p2 : pSum Ax0_2 (y4.toNat + 1) = pSum Ax0_2 y4.toNat + 8 + 2 * Ax0_2 y4.toNat := rfl
    have p3 := c2 y4.toNat
    have p4 : 8 * (y4.toNat : Int) ≤ pSum Ax0_2 y4.toNat := pSum_le (fun j => (c2 j).1) _
    have p5 : (y4 + 1).toNat = y4.toNat + 1 := by omega
    simp only [eJ2]
    refine ⟨l1, l2, l3, ?_, l5, l6, l7, l8, ?_, m4, m5, m6, ?_, ?_, trivial⟩
    all_goals
      try simp only [e139, eV, i_v, i_lit, i_add, i_sub, i_sel, a_av, a_tab, a_upd, List.getD_cons_zero, List.getD_cons_succ]
      first
        | omega
        | (rw [p5]; omega)
        | (intro j hj; first | (have := i2 j (by omega); omega) | (split <;> first | omega | (have := i2 j (by omega); omega)) | omega)
  simp only [eBase] at hB
  obtain ⟨b0, c0, c1, c2, c3, en, ea0, ea1, ea2, ea3, hs, _⟩ := hB
  simp only [eJ2] at hJ
  obtain ⟨l1, l2, l3, l4, l5, l6, l7, l8, l9, m4, m5, m6, i1, i2, _⟩ := hJ
  simp only [emu, Env.app, setAll, List.map_cons, List.map_nil, List.set, e139, eV, i_v, i_lit, i_add, i_sub, i_sel, a_av, a_tab, a_upd, List.getD_cons_zero, List.getD_cons_succ]
  omega
noncomputable def eH2_w7_1 : Hyp := { eh2.H with e := [((.v 9), (0, 0)), (e161, (7, 9223372036854775807)), ((.v 7), (1, 1))] ++ eh2.H.e, b := [(e138, true)] ++ eh2.H.b }
set_option maxHeartbeats 40000000 in
theorem esg2_w7_1 : segL Try.prog G Gh eD ehs [] 3000 0 3 { eh2 with H := eH2_w7_1 } = some (.need e221 (.need e224 (.need e225 (.need e227 (.jump 2 eT2 ⟨[(9, (.v 9)), (7, e218), (3, (.v 3)), (4, e139)], [], [(6, e242), (5, (.av 5))]⟩))))) := by kernel_rfl
theorem evc2_w7_1 (x0 : Ext) (Y0 : Nat → Ext) (nx0 y1 y2 y3 y4 y5 y6 y7 y8 y9 : Int) (Ax0_0 Ax0_1 Ax0_2 Ax0_3 Z4 Z5 Z6 : Nat → Int) (hB : eBase x0 Y0 nx0 Ax0_0 Ax0_1 Ax0_2 Ax0_3) (hJ : eJ2 nx0 y1 y2 y3 y4 y5 y6 y7 y8 y9 Ax0_0 Ax0_1 Ax0_2 Ax0_3 Z4 Z5 Z6) (hH : Hyp.ok eH2_w7_1 (eV x0 Y0 nx0 y1 y2 y3 y4 y5 y6 y7 y8 y9 Ax0_0 Ax0_1 Ax0_2 Ax0_3 Z4 Z5 Z6)) (hF0 : 0 ≤ y9 ∧ y9 ≤ 0) (hF1 : 7 ≤ Ax0_0 y4.toNat ∧ Ax0_0 y4.toNat ≤ 9223372036854775807) (hF2 : 1 ≤ y7 ∧ y7 ≤ 1) (hG0 : y4 < nx0) :
    LT.holds (eV x0 Y0 nx0 y1 y2 y3 y4 y5 y6 y7 y8 y9 Ax0_0 Ax0_1 Ax0_2 Ax0_3 Z4 Z5 Z6) (fun v _ => retTrue (eV x0 Y0 nx0 y1 y2 y3 y4 y5 y6 y7 y8 y9 Ax0_0 Ax0_1 Ax0_2 Ax0_3 Z4 Z5 Z6) v) (fun j' todo ρ' => (ehs[j']?.map (·.todo)) = some todo ∧ eInv x0 Y0 j' ρ' ∧ emu j' ρ' < emu 2 (eV x0 Y0 nx0 y1 y2 y3 y4 y5 y6 y7 y8 y9 Ax0_0 Ax0_1 Ax0_2 Ax0_3 Z4 Z5 Z6)) (.need e221 (.need e224 (.need e225 (.need e227 (.jump 2 eT2 ⟨[(9, (.v 9)), (7, e218), (3, (.v 3)), (4, e139)], [], [(6, e242), (5, (.av 5))]⟩))))) := by
  simp only [LT.holds, retTrue]
  have hB3 := hB
  have hJ3 := hJ
  simp only [eBase] at hB3
  obtain ⟨b0, c0, c1, c2, c3, en, ea0, ea1, ea2, ea3, hs, _⟩ := hB3
  simp only [eJ2] at hJ3
  obtain ⟨l1, l2, l3, l4, l5, l6, l7, l8, l9, m4, m5, m6, i1, i2, _⟩ := hJ3
  have q0 := i2 (y7 + -1).toNat (by omega)
  have q1 := i2 0 (by omega)
  refine ⟨?_, fun hc0 => ?_⟩
  ·
    first
      | exact decide_eq_true hG0
      | (simp only [e218, e219, e220, e221, eV, i_v, i_lit, i_add, i_sub, i_sel, a_av, b_le, b_lt, b_or, b_and, b_not, Bool.or_eq_true, Bool.and_eq_true, Bool.not_eq_true', decide_eq_true_eq, decide_eq_false_iff_not, List.getD_cons_zero, List.getD_cons_succ]; first | omega | (simp only [Int.toNat_zero] at *; omega))
  ·
    refine ⟨?_, fun hc1 => ?_⟩
    ·
      first
        | exact decide_eq_true hG0
        | (simp only [e218, e219, e220, e222, e223, e224, eV, i_v, i_lit, i_add, i_sub, i_sel, a_av, b_le, b_lt, b_or, b_and, b_not, Bool.or_eq_true, Bool.and_eq_true, Bool.not_eq_true', decide_eq_true_eq, decide_eq_false_iff_not, List.getD_cons_zero, List.getD_cons_succ]; first | omega | (simp only [Int.toNat_zero] at *; omega))
    ·
      refine ⟨?_, fun hc2 => ?_⟩
      ·
        first
          | exact decide_eq_true hG0
          | (simp only [e218, e219, e220, e225, eV, i_v, i_lit, i_add, i_sub, i_sel, a_av, b_le, b_lt, b_or, b_and, b_not, Bool.or_eq_true, Bool.and_eq_true, Bool.not_eq_true', decide_eq_true_eq, decide_eq_false_iff_not, List.getD_cons_zero, List.getD_cons_succ]; first | omega | (simp only [Int.toNat_zero] at *; omega))
      ·
        refine ⟨?_, fun hc3 => ?_⟩
        ·
          first
            | exact decide_eq_true hG0
            | (simp only [e218, e219, e220, e223, e226, e227, eV, i_v, i_lit, i_add, i_sub, i_sel, a_av, b_le, b_lt, b_or, b_and, b_not, Bool.or_eq_true, Bool.and_eq_true, Bool.not_eq_true', decide_eq_true_eq, decide_eq_false_iff_not, List.getD_cons_zero, List.getD_cons_succ]; first | omega | (simp only [Int.toNat_zero] at *; omega))
        ·
          refine ⟨ehT2, ⟨nx0, y1, y2, y3, (_root_.Go.Sx.E.i (eV x0 Y0 nx0 y1 y2 y3 y4 y5 y6 y7 y8 y9 Ax0_0 Ax0_1 Ax0_2 Ax0_3 Z4 Z5 Z6) e139), y5, y6, (_root_.Go.Sx.E.i (eV x0 Y0 nx0 y1 y2 y3 y4 y5 y6 y7 y8 y9 Ax0_0 Ax0_1 Ax0_2 Ax0_3 Z4 Z5 Z6) e218), y8, y9, Ax0_0, Ax0_1, Ax0_2, Ax0_3, Z4, Z5, (_root_.Go.Sx.E.a (eV x0 Y0 nx0 y1 y2 y3 y4 y5 y6 y7 y8 y9 Ax0_0 Ax0_1 Ax0_2 Ax0_3 Z4 Z5 Z6) e242), (by kernel_rfl), hB, ?_⟩, ?_⟩
          ·
            simp only [eBase] at hB
            obtain ⟨b0, c0, c1, c2, c3, en, ea0, ea1, ea2, ea3, hs, _⟩ := hB
            simp only [eJ2] at hJ
            obtain ⟨l1, l2, l3, l4, l5, l6, l7, l8, l9, m4, m5, m6, i1, i2, _⟩ := hJ
            have p1 := hs (y4.toNat + 1) (by omega)
            rw [← ea2] at p1
            have p2 : pSum Ax0_2 (y4.toNat + 1) = pSum Ax0_2 y4.toNat + 8 + 2 * Ax0_2 y4.toNat := rfl
            have p3 := c2 y4.toNat
            have p4 : 8 * (y4.toNat : Int) ≤ pSum Ax0_2 y4.toNat := pSum_le (fun j => (c2 j).1) _
            have p5 : (y4 + 1).toNat = y4.toNat + 1 := by omega
            simp only [eJ2]
            refine ⟨l1, l2, l3, ?_, l5, l6, ?_, l8, l9, m4, m5, (arr_at hH (by kernel_rfl)), ?_, ?_, trivial⟩
            all_goals
              try simp only [e139, e218, e219, e220, e221, e222, e223, e224, e225, e226, e227, e228, e229, e230, e231, e232, e233, e234, e235, e236, e237, e238, e239, e240, e241, e242, eV, i_v, i_lit, i_add, i_sub, i_sel, a_av, a_tab, a_upd, List.getD_cons_zero, List.getD_cons_succ]
              first
                | omega
                | (rw [p5]; omega)
                | (intro j hj; first | (have := i2 j (by omega); omega) | (split <;> first | omega | (have := i2 j (by omega); omega)) | omega)
          simp only [eBase] at hB
          obtain ⟨b0, c0, c1, c2, c3, en, ea0, ea1, ea2, ea3, hs, _⟩ := hB
          simp only [eJ2] at hJ
          obtain ⟨l1, l2, l3, l4, l5, l6, l7, l8, l9, m4, m5, m6, i1, i2, _⟩ := hJ
          simp only [emu, Env.app, setAll, List.map_cons, List.map_nil, List.set, e139, e218, e219, e220, e221, e222, e223, e224, e225, e226, e227, e228, e229, e230, e231, e232, e233, e234, e235, e236, e237, e238, e239, e240, e241, e242, eV, i_v, i_lit, i_add, i_sub, i_sel, a_av, a_tab, a_upd, List.getD_cons_zero, List.getD_cons_succ]
          omega
noncomputable def eH2_w7_2 : Hyp := { eh2.H with e := [((.v 9), (0, 0)), (e161, (7, 9223372036854775807)), ((.v 7), (2, 16))] ++ eh2.H.e, b := [(e138, true)] ++ eh2.H.b }
set_option maxHeartbeats 40000000 in
theorem esg2_w7_2 : segL Try.prog G Gh eD ehs [] 3000 0 3 { eh2 with H := eH2_w7_2 } = some (.need e221 (.need e224 (.need e225 (.need e227 (.jump 2 eT2 ⟨[(9, (.v 9)), (7, e218), (3, (.v 3)), (4, e139)], [], [(6, e242), (5, (.av 5))]⟩))))) := by kernel_rfl
theorem evc2_w7_2 (x0 : Ext) (Y0 : Nat → Ext) (nx0 y1 y2 y3 y4 y5 y6 y7 y8 y9 : Int) (Ax0_0 Ax0_1 Ax0_2 Ax0_3 Z4 Z5 Z6 : Nat → Int) (hB : eBase x0 Y0 nx0 Ax0_0 Ax0_1 Ax0_2 Ax0_3) (hJ : eJ2 nx0 y1 y2 y3 y4 y5 y6 y7 y8 y9 Ax0_0 Ax0_1 Ax0_2 Ax0_3 Z4 Z5 Z6) (hH : Hyp.ok eH2_w7_2 (eV x0 Y0 nx0 y1 y2 y3 y4 y5 y6 y7 y8 y9 Ax0_0 Ax0_1 Ax0_2 Ax0_3 Z4 Z5 Z6)) (hF0 : 0 ≤ y9 ∧ y9 ≤ 0) (hF1 : 7 ≤ Ax0_0 y4.toNat ∧ Ax0_0 y4.toNat ≤ 9223372036854775807) (hF2 : 2 ≤ y7 ∧ y7 ≤ 16) (hG0 : y4 < nx0) :
    LT.holds (eV x0 Y0 nx0 y1 y2 y3 y4 y5 y6 y7 y8 y9 Ax0_0 Ax0_1 Ax0_2 Ax0_3 Z4 Z5 Z6) (fun v _ => retTrue (eV x0 Y0 nx0 y1 y2 y3 y4 y5 y6 y7 y8 y9 Ax0_0 Ax0_1 Ax0_2 Ax0_3 Z4 Z5 Z6) v) (fun j' todo ρ' => (ehs[j']?.map (·.todo)) = some todo ∧ eInv x0 Y0 j' ρ' ∧ emu j' ρ' < emu 2 (eV x0 Y0 nx0 y1 y2 y3 y4 y5 y6 y7 y8 y9 Ax0_0 Ax0_1 Ax0_2 Ax0_3 Z4 Z5 Z6)) (.need e221 (.need e224 (.need e225 (.need e227 (.jump 2 eT2 ⟨[(9, (.v 9)), (7, e218), (3, (.v 3)), (4, e139)], [], [(6, e242), (5, (.av 5))]⟩))))) := by
  simp only [LT.holds, retTrue]
  have hB3 := hB
  have hJ3 := hJ
  simp only [eBase] at hB3
  obtain ⟨b0, c0, c1, c2, c3, en, ea0, ea1, ea2, ea3, hs, _⟩ := hB3
  simp only [eJ2] at hJ3
  obtain ⟨l1, l2, l3, l4, l5, l6, l7, l8, l9, m4, m5, m6, i1, i2, _⟩ := hJ3
  have q0 := i2 (y7 + -1).toNat (by omega)
  have q1 := i2 0 (by omega)
  refine ⟨?_, fun hc0 => ?_⟩
  ·
    first
      | exact decide_eq_true hG0
      | (simp only [e218, e219, e220, e221, eV, i_v, i_lit, i_add, i_sub, i_sel, a_av, b_le, b_lt, b_or, b_and, b_not, Bool.or_eq_true, Bool.and_eq_true, Bool.not_eq_true', decide_eq_true_eq, decide_eq_false_iff_not, List.getD_cons_zero, List.getD_cons_succ]; first | omega | (simp only [Int.toNat_zero] at *; omega))
  ·
    refine ⟨?_, fun hc1 => ?_⟩
    ·
      first
        | exact decide_eq_true hG0
        | (simp only [e218, e219, e220, e222, e223, e224, eV, i_v, i_lit, i_add, i_sub, i_sel, a_av, b_le, b_lt, b_or, b_and, b_not, Bool.or_eq_true, Bool.and_eq_true, Bool.not_eq_true', decide_eq_true_eq, decide_eq_false_iff_not, List.getD_cons_zero, List.getD_cons_succ]; first | omega | (simp only [Int.toNat_zero] at *; omega))
    ·
      refine ⟨?_, fun hc2 => ?_⟩
      ·
        first
          | exact decide_eq_true hG0
          | (simp only [e218, e219, e220, e225, eV, i_v, i_lit, i_add, i_sub, i_sel, a_av, b_le, b_lt, b_or, b_and, b_not, Bool.or_eq_true, Bool.and_eq_true, Bool.not_eq_true', decide_eq_true_eq, decide_eq_false_iff_not, List.getD_cons_zero, List.getD_cons_succ]; first | omega | (simp only [Int.toNat_zero] at *; omega))
      ·
        refine ⟨?_, fun hc3 => ?_⟩
        ·
          first
            | exact decide_eq_true hG0
            | (simp only [e218, e219, e220, e223, e226, e227, eV, i_v, i_lit, i_add, i_sub, i_sel, a_av, b_le, b_lt, b_or, b_and, b_not, Bool.or_eq_true, Bool.and_eq_true, Bool.not_eq_true', decide_eq_true_eq, decide_eq_false_iff_not, List.getD_cons_zero, List.getD_cons_succ]; first | omega | (simp only [Int.toNat_zero] at *; omega))
        ·
          refine ⟨ehT2, ⟨nx0, y1, y2, y3, (_root_.Go.Sx.E.i (eV x0 Y0 nx0 y1 y2 y3 y4 y5 y6 y7 y8 y9 Ax0_0 Ax0_1 Ax0_2 Ax0_3 Z4 Z5 Z6) e139), y5, y6, (_root_.Go.Sx.E.i (eV x0 Y0 nx0 y1 y2 y3 y4 y5 y6 y7 y8 y9 Ax0_0 Ax0_1 Ax0_2 Ax0_3 Z4 Z5 Z6) e218), y8, y9, Ax0_0, Ax0_1, Ax0_2, Ax0_3, Z4, Z5, (_root_.Go.Sx.E.a (eV x0 Y0 nx0 y1 y2 y3 y4 y5 y6 y7 y8 y9 Ax0_0 Ax0_1 Ax0_2 Ax0_3 Z4 Z5 Z6) e242), (by kernel_rfl), hB, ?_⟩, ?_⟩
          ·
            simp only [eBase] at hB
            obtain ⟨b0, c0, c1, c2, c3, en, ea0, ea1, ea2, ea3, hs, _⟩ := hB
            simp only [eJ2] at hJ
            obtain ⟨l1, l2, l3, l4, l5, l6, l7, l8, l9, m4, m5, m6, i1, i2, _⟩ := hJ
            have p1 := hs (y4.toNat + 1) (by omega)
            rw [← ea2] at p1
            have p2 : pSum Ax0_2 (y4.toNat + 1) = pSum Ax0_2 y4.toNat + 8 + 2 * Ax0_2 y4.toNat := rfl
            have p3 := c2 y4.toNat
            have p4 : 8 * (y4.toNat : Int) ≤ pSum Ax0_2 y4.toNat := pSum_le (fun j => (c2 j).1) _
            have p5 : (y4 + 1).toNat = y4.toNat + 1 := by omega
            simp only [eJ2]
            refine ⟨l1, l2, l3, ?_, l5, l6, ?_, l8, l9, m4, m5, (arr_at hH (by kernel_rfl)), ?_, ?_, trivial⟩
            all_goals
              try simp only [e139, e218, e219, e220, e221, e222, e223, e224, e225, e226, e227, e228, e229, e230, e231, e232, e233, e234, e235, e236, e237, e238, e239, e240, e241, e242, eV, i_v, i_lit, i_add, i_sub, i_sel, a_av, a_tab, a_upd, List.getD_cons_zero, List.getD_cons_succ]
              first
                | omega
                | (rw [p5]; omega)
                | (intro j hj; first | (have := i2 j (by omega); omega) | (split <;> first | omega | (have := i2 j (by omega); omega)) | omega)
          simp only [eBase] at hB
          obtain ⟨b0, c0, c1, c2, c3, en, ea0, ea1, ea2, ea3, hs, _⟩ := hB
          simp only [eJ2] at hJ
          obtain ⟨l1, l2, l3, l4, l5, l6, l7, l8, l9, m4, m5, m6, i1, i2, _⟩ := hJ
          simp only [emu, Env.app, setAll, List.map_cons, List.map_nil, List.set, e139, e218, e219, e220, e221, e222, e223, e224, e225, e226, e227, e228, e229, e230, e231, e232, e233, e234, e235, e236, e237, e238, e239, e240, e241, e242, eV, i_v, i_lit, i_add, i_sub, i_sel, a_av, a_tab, a_upd, List.getD_cons_zero, List.getD_cons_succ]
          omega
noncomputable def eH2_wm_0 : Hyp := { eh2.H with e := [((.v 9), (0, 0)), (e161, ((-9223372036854775808), (-1))), ((.v 7), (0, 0))] ++ eh2.H.e, b := [(e138, true)] ++ eh2.H.b }
set_option maxHeartbeats 40000000 in
theorem esg2_wm_0 : segL Try.prog G Gh eD ehs [] 3000 0 3 { eh2 with H := eH2_wm_0 } = some (.jump 2 eT2 ⟨[(9, (.lit 2)), (7, (.v 7)), (3, (.v 3)), (4, e139)], [], [(6, (.av 6)), (5, (.av 5))]⟩) := by kernel_rfl
theorem evc2_wm_0 (x0 : Ext) (Y0 : Nat → Ext) (nx0 y1 y2 y3 y4 y5 y6 y7 y8 y9 : Int) (Ax0_0 Ax0_1 Ax0_2 Ax0_3 Z4 Z5 Z6 : Nat → Int) (hB : eBase x0 Y0 nx0 Ax0_0 Ax0_1 Ax0_2 Ax0_3) (hJ : eJ2 nx0 y1 y2 y3 y4 y5 y6 y7 y8 y9 Ax0_0 Ax0_1 Ax0_2 Ax0_3 Z4 Z5 Z6) (hH : Hyp.ok eH2_wm_0 (eV x0 Y0 nx0 y1 y2 y3 y4 y5 y6 y7 y8 y9 Ax0_0 Ax0_1 Ax0_2 Ax0_3 Z4 Z5 Z6)) (hF0 : 0 ≤ y9 ∧ y9 ≤ 0) (hF1 : -9223372036854775808 ≤ Ax0_0 y4.toNat ∧ Ax0_0 y4.toNat ≤ -1) (hF2 : 0 ≤ y7 ∧ y7 ≤ 0) (hG0 : y4 < nx0) :
    LT.holds (eV x0 Y0 nx0 y1 y2 y3 y4 y5 y6 y7 y8 y9 Ax0_0 Ax0_1 Ax0_2 Ax0_3 Z4 Z5 Z6) (fun v _ => retTrue (eV x0 Y0 nx0 y1 y2 y3 y4 y5 y6 y7 y8 y9 Ax0_0 Ax0_1 Ax0_2 Ax0_3 Z4 Z5 Z6) v) (fun j' todo ρ' => (ehs[j']?.map (·.todo)) = some todo ∧ eInv x0 Y0 j' ρ' ∧ emu j' ρ' < emu 2 (eV x0 Y0 nx0 y1 y2 y3 y4 y5 y6 y7 y8 y9 Ax0_0 Ax0_1 Ax0_2 Ax0_3 Z4 Z5 Z6)) (.jump 2 eT2 ⟨[(9, (.lit 2)), (7, (.v 7)), (3, (.v 3)), (4, e139)], [], [(6, (.av 6)), (5, (.av 5))]⟩) := by
  simp only [LT.holds, retTrue]
  refine ⟨ehT2, ⟨nx0, y1, y2, y3, (_root_.Go.Sx.E.i (eV x0 Y0 nx0 y1 y2 y3 y4 y5 y6 y7 y8 y9 Ax0_0 Ax0_1 Ax0_2 Ax0_3 Z4 Z5 Z6) e139), y5, y6, y7, y8, (_root_.Go.Sx.E.i (eV x0 Y0 nx0 y1 y2 y3 y4 y5 y6 y7 y8 y9 Ax0_0 Ax0_1 Ax0_2 Ax0_3 Z4 Z5 Z6) (.lit 2)), Ax0_0, Ax0_1, Ax0_2, Ax0_3, Z4, Z5, Z6, (by kernel_rfl), hB, ?_⟩, ?_⟩
  ·
    simp only [eBase] at hB
    obtain ⟨b0, c0, c1, c2, c3, en, ea0, ea1, ea2, ea3, hs, _⟩ := hB
    simp only [eJ2] at hJ
    obtain ⟨l1, l2, l3, l4, l5, l6, l7, l8, l9, m4, m5, m6, i1, i2, _⟩ := hJ
    have p1 := hs (y4.toNat + 1) (by omega)
    rw [← ea2] at p1
    have p2 : pSum Ax0_2 (y4.toNat + 1) = pSum Ax0_2 y4.toNat + 8 + 2 * Ax0_2 y4.toNat := rfl
    have p3 := c2 y4.toNat
    have p4 : 8 * (y4.toNat : Int) ≤ pSum Ax0_2 y4.toNat := pSum_le (fun j => (c2 j).1) _
    have p5 : (y4 + 1).toNat = y4.toNat + 1 := by omega
    simp only [eJ2]
    refine ⟨l1, l2, l3, ?_, l5, l6, l7, l8, ?_, m4, m5, m6, ?_, ?_, trivial⟩
    all_goals
      try simp only [e139, eV, i_v, i_lit, i_add, i_sub, i_sel, a_av, a_tab, a_upd, List.getD_cons_zero, List.getD_cons_succ]
      first
        | omega
        | (rw [p5]; omega)
        | (intro j hj; first | (have := i2 j (by omega); omega) | (split <;> first | omega | (have := i2 j (by omega); omega)) | omega)
  simp only [eBase] at hB
  obtain ⟨b0, c0, c1, c2, c3, en, ea0, ea1, ea2, ea3, hs, _⟩ := hB
  simp only [eJ2] at hJ
  obtain ⟨l1, l2, l3, l4, l5, l6, l7, l8, l9, m4, m5, m6, i1, i2, _⟩ := hJ
  simp only [emu, Env.app, setAll, List.map_cons, List.map_nil, List.set, e139, eV, i_v, i_lit, i_add, i_sub, i_sel, a_av, a_tab, a_upd, List.getD_cons_zero, List.getD_cons_succ]
  omega
noncomputable def eH2_wm_1 : Hyp := { eh2.H with e := [((.v 9), (0, 0)), (e161, ((-9223372036854775808), (-1))), ((.v 7), (1, 1))] ++ eh2.H.e, b := [(e138, true)] ++ eh2.H.b }
set_option maxHeartbeats 40000000 in
theorem esg2_wm_1 : segL Try.prog G Gh eD ehs [] 3000 0 3 { eh2 with H := eH2_wm_1 } = some (.need e221 (.need e224 (.need e225 (.need e227 (.jump 2 eT2 ⟨[(9, (.v 9)), (7, e218), (3, (.v 3)), (4, e139)], [], [(6, e242), (5, (.av 5))]⟩))))) := by kernel_rfl
theorem evc2_wm_1 (x0 : Ext) (Y0 : Nat → Ext) (nx0 y1 y2 y3 y4 y5 y6 y7 y8 y9 : Int) (Ax0_0 Ax0_1 Ax0_2 Ax0_3 Z4 Z5 Z6 : Nat → Int) (hB : eBase x0 Y0 nx0 Ax0_0 Ax0_1 Ax0_2 Ax0_3) (hJ : eJ2 nx0 y1 y2 y3 y4 y5 y6 y7 y8 y9 Ax0_0 Ax0_1 Ax0_2 Ax0_3 Z4 Z5 Z6) (hH : Hyp.ok eH2_wm_1 (eV x0 Y0 nx0 y1 y2 y3 y4 y5 y6 y7 y8 y9 Ax0_0 Ax0_1 Ax0_2 Ax0_3 Z4 Z5 Z6)) (hF0 : 0 ≤ y9 ∧ y9 ≤ 0) (hF1 : -9223372036854775808 ≤ Ax0_0 y4.toNat ∧ Ax0_0 y4.toNat ≤ -1) (hF2 : 1 ≤ y7 ∧ y7 ≤ 1) (hG0 : y4 < nx0) :
    LT.holds (eV x0 Y0 nx0 y1 y2 y3 y4 y5 y6 y7 y8 y9 Ax0_0 Ax0_1 Ax0_2 Ax0_3 Z4 Z5 Z6) (fun v _ => retTrue (eV x0 Y0 nx0 y1 y2 y3 y4 y5 y6 y7 y8 y9 Ax0_0 Ax0_1 Ax0_2 Ax0_3 Z4 Z5 Z6) v) (fun j' todo ρ' => (ehs[j']?.map (·.todo)) = some todo ∧ eInv x0 Y0 j' ρ' ∧ emu j' ρ' < emu 2 (eV x0 Y0 nx0 y1 y2 y3 y4 y5 y6 y7 y8 y9 Ax0_0 Ax0_1 Ax0_2 Ax0_3 Z4 Z5 Z6)) (.need e221 (.need e224 (.need e225 (.need e227 (.jump 2 eT2 ⟨[(9, (.v 9)), (7, e218), (3, (.v 3)), (4, e139)], [], [(6, e242), (5, (.av 5))]⟩))))) := by
  simp only [LT.holds, retTrue]
  have hB3 := hB
  have hJ3 := hJ
  simp only [eBase] at hB3
  obtain ⟨b0, c0, c1, c2, c3, en, ea0, ea1, ea2, ea3, hs, _⟩ := hB3
  simp only [eJ2] at hJ3
  obtain ⟨l1, l2, l3, l4, l5, l6, l7, l8, l9, m4, m5, m6, i1, i2, _⟩ := hJ3
  have q0 := i2 (y7 + -1).toNat (by omega)
  have q1 := i2 0 (by omega)
  refine ⟨?_, fun hc0 => ?_⟩
  ·
    first
      | exact decide_eq_true hG0
      | (simp only [e218, e219, e220, e221, eV, i_v, i_lit, i_add, i_sub, i_sel, a_av, b_le, b_lt, b_or, b_and, b_not, Bool.or_eq_true, Bool.and_eq_true, Bool.not_eq_true', decide_eq_true_eq, decide_eq_false_iff_not, List.getD_cons_zero, List.getD_cons_succ]; first | omega | (simp only [Int.toNat_zero] at *; omega))
  ·
    refine ⟨?_, fun hc1 => ?_⟩
    ·
      first
        | exact decide_eq_true hG0
        | (simp only [e218, e219, e220, e222, e223, e224, eV, i_v, i_lit, i_add, i_sub, i_sel, a_av, b_le, b_lt, b_or, b_and, b_not, Bool.or_eq_true, Bool.and_eq_true, Bool.not_eq_true', decide_eq_true_eq, decide_eq_false_iff_not, List.getD_cons_zero, List.getD_cons_succ]; first | omega | (simp only [Int.toNat_zero] at *; omega))
    ·
      refine ⟨?_, fun hc2 => ?_⟩
      ·
        first
          | exact decide_eq_true hG0
          | (simp only [e218, e219, e220, e225, eV, i_v, i_lit, i_add, i_sub, i_sel, a_av, b_le, b_lt, b_or, b_and, b_not, Bool.or_eq_true, Bool.and_eq_true, Bool.not_eq_true', decide_eq_true_eq, decide_eq_false_iff_not, List.getD_cons_zero, List.getD_cons_succ]; first | omega | (simp only [Int.toNat_zero] at *; omega))
      ·
        refine ⟨?_, fun hc3 => ?_⟩
        ·
          first
            | exact decide_eq_true hG0
            | (simp only [e218, e219, e220, e223, e226, e227, eV, i_v, i_lit, i_add, i_sub, i_sel, a_av, b_le, b_lt, b_or, b_and, b_not, Bool.or_eq_true, Bool.and_eq_true, Bool.not_eq_true', decide_eq_true_eq, decide_eq_false_iff_not, List.getD_cons_zero, List.getD_cons_succ]; first | omega | (simp only [Int.toNat_zero] at *; omega))
        ·
          refine ⟨ehT2, ⟨nx0, y1, y2, y3, (_root_.Go.Sx.E.i (eV x0 Y0 nx0 y1 y2 y3 y4 y5 y6 y7 y8 y9 Ax0_0 Ax0_1 Ax0_2 Ax0_3 Z4 Z5 Z6) e139), y5, y6, (_root_.Go.Sx.E.i (eV x0 Y0 nx0 y1 y2 y3 y4 y5 y6 y7 y8 y9 Ax0_0 Ax0_1 Ax0_2 Ax0_3 Z4 Z5 Z6) e218), y8, y9, Ax0_0, Ax0_1, Ax0_2, Ax0_3, Z4, Z5, (_root_.Go.Sx.E.a (eV x0 Y0 nx0 y1 y2 y3 y4 y5 y6 y7 y8 y9 Ax0_0 Ax0_1 Ax0_2 Ax0_3 Z4 Z5 Z6) e242), (by kernel_rfl), hB, ?_⟩, ?_⟩
          ·
            simp only [eBase] at hB
            obtain ⟨b0, c0, c1, c2, c3, en, ea0, ea1, ea2, ea3, hs, _⟩ := hB
            simp only [eJ2] at hJ
            obtain ⟨l1, l2, l3, l4, l5, l6, l7, l8, l9, m4, m5, m6, i1, i2, _⟩ := hJ
            have p1 := hs (y4.toNat + 1) (by omega)
            rw [← ea2] at p1
            have p2 : pSum Ax0_2 (y4.toNat + 1) = pSum Ax0_2 y4.toNat + 8 + 2 * Ax0_2 y4.toNat := rfl
            have p3 := c2 y4.toNat
            have p4 : 8 * (y4.toNat : Int) ≤ pSum Ax0_2 y4.toNat := pSum_le (fun j => (c2 j).1) _
            have p5 : (y4 + 1).toNat = y4.toNat + 1 := by omega
            simp only [eJ2]
            refine ⟨l1, l2, l3, ?_, l5, l6, ?_, l8, l9, m4, m5, (arr_at hH (by kernel_rfl)), ?_, ?_, trivial⟩
            all_goals
              try simp only [e139, e218, e219, e220, e221, e222, e223, e224, e225, e226, e227, e228, e229, e230, e231, e232, e233, e234, e235, e236, e237, e238, e239, e240, e241, e242, eV, i_v, i_lit, i_add, i_sub, i_sel, a_av, a_tab, a_upd, List.getD_cons_zero, List.getD_cons_succ]
              first
                | omega
                | (rw [p5]; omega)
                | (intro j hj; first | (have := i2 j (by omega); omega) | (split <;> first | omega | (have := i2 j (by omega); omega)) | omega)
          simp only [eBase] at hB
          obtain ⟨b0, c0, c1, c2, c3, en, ea0, ea1, ea2, ea3, hs, _⟩ := hB
          simp only [eJ2] at hJ
          obtain ⟨l1, l2, l3, l4, l5, l6, l7, l8, l9, m4, m5, m6, i1, i2, _⟩ := hJ
          simp only [emu, Env.app, setAll, List.map_cons, List.map_nil, List.set, e139, e218, e219, e220, e221, e222, e223, e224, e225, e226, e227, e228, e229, e230, e231, e232, e233, e234, e235, e236, e237, e238, e239, e240, e241, e242, eV, i_v, i_lit, i_add, i_sub, i_sel, a_av, a_tab, a_upd, List.getD_cons_zero, List.getD_cons_succ]
          omega
noncomputable def eH2_wm_2 : Hyp := { eh2.H with e := [((.v 9), (0, 0)), (e161, ((-9223372036854775808), (-1))), ((.v 7), (2, 16))] ++ eh2.H.e, b := [(e138, true)] ++ eh2.H.b }
set_option maxHeartbeats 40000000 in
theorem esg2_wm_2 : segL Try.prog G Gh eD ehs [] 3000 0 3 { eh2 with H := eH2_wm_2 } = some (.need e221 (.need e224 (.need e225 (.need e227 (.jump 2 eT2 ⟨[(9, (.v 9)), (7, e218), (3, (.v 3)), (4, e139)], [], [(6, e242), (5, (.av 5))]⟩))))) := by kernel_rfl
theorem evc2_wm_2 (x0 : Ext) (Y0 : Nat → Ext) (nx0 y1 y2 y3 y4 y5 y6 y7 y8 y9 : Int) (Ax0_0 Ax0_1 Ax0_2 Ax0_3 Z4 Z5 Z6 : Nat → Int) (hB : eBase x0 Y0 nx0 Ax0_0 Ax0_1 Ax0_2 Ax0_3) (hJ : eJ2 nx0 y1 y2 y3 y4 y5 y6 y7 y8 y9 Ax0_0 Ax0_1 Ax0_2 Ax0_3 Z4 Z5 Z6) (hH : Hyp.ok eH2_wm_2 (eV x0 Y0 nx0 y1 y2 y3 y4 y5 y6 y7 y8 y9 Ax0_0 Ax0_1 Ax0_2 Ax0_3 Z4 Z5 Z6)) (hF0 : 0 ≤ y9 ∧ y9 ≤ 0) (hF1 : -9223372036854775808 ≤ Ax0_0 y4.toNat ∧ Ax0_0 y4.toNat ≤ -1) (hF2 : 2 ≤ y7 ∧ y7 ≤ 16) (hG0 : y4 < nx0) :
    LT.holds (eV x0 Y0 nx0 y1 y2 y3 y4 y5 y6 y7 y8 y9 Ax0_0 Ax0_1 Ax0_2 Ax0_3 Z4 Z5 Z6) (fun v _ => retTrue (eV x0 Y0 nx0 y1 y2 y3 y4 y5 y6 y7 y8 y9 Ax0_0 Ax0_1 Ax0_2 Ax0_3 Z4 Z5 Z6) v) (fun j' todo ρ' => (ehs[j']?.map (·.todo)) = some todo ∧ eInv x0 Y0 j' ρ' ∧ emu j' ρ' < emu 2 (eV x0 Y0 nx0 y1 y2 y3 y4 y5 y6 y7 y8 y9 Ax0_0 Ax0_1 Ax0_2 Ax0_3 Z4 Z5 Z6)) (.need e221 (.need e224 (.need e225 (.need e227 (.jump 2 eT2 ⟨[(9, (.v 9)), (7, e218), (3, (.v 3)), (4, e139)], [], [(6, e242), (5, (.av 5))]⟩))))) := by
  simp only [LT.holds, retTrue]
  have hB3 := hB
  have hJ3 := hJ
  simp only [eBase] at hB3
  obtain ⟨b0, c0, c1, c2, c3, en, ea0, ea1, ea2, ea3, hs, _⟩ := hB3
  simp only [eJ2] at hJ3
  obtain ⟨l1, l2, l3, l4, l5, l6, l7, l8, l9, m4, m5, m6, i1, i2, _⟩ := hJ3
  have q0 := i2 (y7 + -1).toNat (by omega)
  have q1 := i2 0 (by omega)
  refine ⟨?_, fun hc0 => ?_⟩
  ·
    first
      | exact decide_eq_true hG0
      | (simp only [e218, e219, e220, e221, eV, i_v, i_lit, i_add, i_sub, i_sel, a_av, b_le, b_lt, b_or, b_and, b_not, Bool.or_eq_true, Bool.and_eq_true, Bool.not_eq_true', decide_eq_true_eq, decide_eq_false_iff_not, List.getD_cons_zero, List.getD_cons_succ]; first | omega | (simp only [Int.toNat_zero] at *; omega))
  ·
    refine ⟨?_, fun hc1 => ?_⟩
    ·
      first
        | exact decide_eq_true hG0
        | (simp only [e218, e219, e220, e222, e223, e224, eV, i_v, i_lit, i_add, i_sub, i_sel, a_av, b_le, b_lt, b_or, b_and, b_not, Bool.or_eq_true, Bool.and_eq_true, Bool.not_eq_true', decide_eq_true_eq, decide_eq_false_iff_not, List.getD_cons_zero, List.getD_cons_succ]; first | omega | (simp only [Int.toNat_zero] at *; omega))
    ·
      refine ⟨?_, fun hc2 => ?_⟩
      ·
        first
          | exact decide_eq_true hG0
          | (simp only [e218, e219, e220, e225, eV, i_v, i_lit, i_add, i_sub, i_sel, a_av, b_le, b_lt, b_or, b_and, b_not, Bool.or_eq_true, Bool.and_eq_true, Bool.not_eq_true', decide_eq_true_eq, decide_eq_false_iff_not, List.getD_cons_zero, List.getD_cons_succ]; first | omega | (simp only [Int.toNat_zero] at *; omega))
      ·
        refine ⟨?_, fun hc3 => ?_⟩
        ·
          first
            | exact decide_eq_true hG0
            | (simp only [e218, e219, e220, e223, e226, e227, eV, i_v, i_lit, i_add, i_sub, i_sel, a_av, b_le, b_lt, b_or, b_and, b_not, Bool.or_eq_true, Bool.and_eq_true, Bool.not_eq_true', decide_eq_true_eq, decide_eq_false_iff_not, List.getD_cons_zero, List.getD_cons_succ]; first | omega | (simp only [Int.toNat_zero] at *; omega))
        ·
          refine ⟨ehT2, ⟨nx0, y1, y2, y3, (_root_.Go.Sx.E.i (eV x0 Y0 nx0 y1 y2 y3 y4 y5 y6 y7 y8 y9 Ax0_0 Ax0_1 Ax0_2 Ax0_3 Z4 Z5 Z6) e139), y5, y6, (_root_.Go.Sx.E.i (eV x0 Y0 nx0 y1 y2 y3 y4 y5 y6 y7 y8 y9 Ax0_0 Ax0_1 Ax0_2 Ax0_3 Z4 Z5 Z6) e218), y8, y9, Ax0_0, Ax0_1, Ax0_2, Ax0_3, Z4, Z5, (_root_.Go.Sx.E.a (eV x0 Y0 nx0 y1 y2 y3 y4 y5 y6 y7 y8 y9 Ax0_0 Ax0_1 Ax0_2 Ax0_3 Z4 Z5 Z6) e242), (by kernel_rfl), hB, ?_⟩, ?_⟩
          ·
            simp only [eBase] at hB
            obtain ⟨b0, c0, c1, c2, c3, en, ea0, ea1, ea2, ea3, hs, _⟩ := hB
            simp only [eJ2] at hJ
            obtain ⟨l1, l2, l3, l4, l5, l6, l7, l8, l9, m4, m5, m6, i1, i2, _⟩ := hJ
            have p1 := hs (y4.toNat + 1) (by omega)
            rw [← ea2] at p1
            have p2 : pSum Ax0_2 (y4.toNat + 1) = pSum Ax0_2 y4.toNat + 8 + 2 * Ax0_2 y4.toNat := rfl
            have p3 := c2 y4.toNat
            have p4 : 8 * (y4.toNat : Int) ≤ pSum Ax0_2 y4.toNat := pSum_le (fun j => (c2 j).1) _
            have p5 : (y4 + 1).toNat = y4.toNat + 1 := by omega
            simp only [eJ2]
            refine ⟨l1, l2, l3, ?_, l5, l6, ?_, l8, l9, m4, m5, (arr_at hH (by kernel_rfl)), ?_, ?_, trivial⟩
            all_goals
              try simp only [e139, e218, e219, e220, e221, e222, e223, e224, e225, e226, e227, e228, e229, e230, e231, e232, e233, e234, e235, e236, e237, e238, e239, e240, e241, e242, eV, i_v, i_lit, i_add, i_sub, i_sel, a_av, a_tab, a_upd, List.getD_cons_zero, List.getD_cons_succ]
              first
                | omega
                | (rw [p5]; omega)
                | (intro j hj; first | (have := i2 j (by omega); omega) | (split <;> first | omega | (have := i2 j (by omega); omega)) | omega)
          simp only [eBase] at hB
          obtain ⟨b0, c0, c1, c2, c3, en, ea0, ea1, ea2, ea3, hs, _⟩ := hB
          simp only [eJ2] at hJ
          obtain ⟨l1, l2, l3, l4, l5, l6, l7, l8, l9, m4, m5, m6, i1, i2, _⟩ := hJ
          simp only [emu, Env.app, setAll, List.map_cons, List.map_nil, List.set, e139, e218, e219, e220, e221, e222, e223, e224, e225, e226, e227, e228, e229, e230, e231, e232, e233, e234, e235, e236, e237, e238, e239, e240, e241, e242, eV, i_v, i_lit, i_add, i_sub, i_sel, a_av, a_tab, a_upd, List.getD_cons_zero, List.getD_cons_succ]
          omega
end Go.Proofs.Ytflamojcdfmimaa.SaveWrites
