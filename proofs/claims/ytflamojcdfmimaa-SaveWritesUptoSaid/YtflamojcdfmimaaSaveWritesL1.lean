/- A part of the law SaveWrites, which returns true for every input. A writer that is told values and parts, in every order, gives just the document's bytes, whenever it is asked. No condition. -/
import Derived.Test.YtflamojcdfmimaaSaveWritesB
namespace Go.Proofs.Ytflamojcdfmimaa.SaveWrites
open Go.Sx Go.ChangeShapes Go.WideShapes Go.ChangeAt Go.RowKit
set_option linter.unusedVariables false
set_option linter.unusedSimpArgs false
set_option maxRecDepth 100000
noncomputable def eH1_xe : Hyp := { eh1.H with e := [((.v 8), (1, 255))] ++ eh1.H.e, b := [(e54, false)] ++ eh1.H.b }
set_option maxHeartbeats 40000000 in
theorem esg1_xe : segL Try.prog G Gh eD ehs [] 3000 0 3 { eh1 with H := eH1_xe } = some (.ret (.s (.bool (.blit true))) [⟨69, [.one (.slc 2 (.lit 0) (.v 2) (.op (.lit 0))), .run .i64 (.lit 16) (.tab []) 0, .one (.int .i64 (.lit 0)), .one (.int .i64 (.v 8))], true, none, false⟩, ⟨29, [.one (.slc 3 (.lit 0) (.v 2) (.op (.lit 0))), .one (.nilSlc), .one (.int .i64 (.v 8))], true, none, false⟩, ⟨5, [.run .u8 (.v 2) (.av 4) 0], true, some 1, false⟩, ⟨5, [.run .u8 (.v 2) (.av 4) 0], true, some 1, false⟩]) := by kernel_rfl
theorem evc1_xe (x0 : Ext) (Y0 : Nat → Ext) (nx0 y1 y2 y3 y4 y5 y6 y7 y8 y9 : Int) (Ax0_0 Ax0_1 Ax0_2 Ax0_3 Z4 Z5 Z6 : Nat → Int) (hB : eBase x0 Y0 nx0 Ax0_0 Ax0_1 Ax0_2 Ax0_3) (hJ : eJ1 nx0 y1 y2 y3 y4 y5 y6 y7 y8 y9 Ax0_0 Ax0_1 Ax0_2 Ax0_3 Z4 Z5 Z6) (hH : Hyp.ok eH1_xe (eV x0 Y0 nx0 y1 y2 y3 y4 y5 y6 y7 y8 y9 Ax0_0 Ax0_1 Ax0_2 Ax0_3 Z4 Z5 Z6)) (hF0 : 1 ≤ y8 ∧ y8 ≤ 255) (hG0 : ¬ y1 < nx0) :
    LT.holds (eV x0 Y0 nx0 y1 y2 y3 y4 y5 y6 y7 y8 y9 Ax0_0 Ax0_1 Ax0_2 Ax0_3 Z4 Z5 Z6) (fun v _ => retTrue (eV x0 Y0 nx0 y1 y2 y3 y4 y5 y6 y7 y8 y9 Ax0_0 Ax0_1 Ax0_2 Ax0_3 Z4 Z5 Z6) v) (fun j' todo ρ' => (ehs[j']?.map (·.todo)) = some todo ∧ eInv x0 Y0 j' ρ' ∧ emu j' ρ' < emu 1 (eV x0 Y0 nx0 y1 y2 y3 y4 y5 y6 y7 y8 y9 Ax0_0 Ax0_1 Ax0_2 Ax0_3 Z4 Z5 Z6)) (.ret (.s (.bool (.blit true))) [⟨69, [.one (.slc 2 (.lit 0) (.v 2) (.op (.lit 0))), .run .i64 (.lit 16) (.tab []) 0, .one (.int .i64 (.lit 0)), .one (.int .i64 (.v 8))], true, none, false⟩, ⟨29, [.one (.slc 3 (.lit 0) (.v 2) (.op (.lit 0))), .one (.nilSlc), .one (.int .i64 (.v 8))], true, none, false⟩, ⟨5, [.run .u8 (.v 2) (.av 4) 0], true, some 1, false⟩, ⟨5, [.run .u8 (.v 2) (.av 4) 0], true, some 1, false⟩]) := by
  simp only [LT.holds, retTrue]
  rfl
noncomputable def eH1_ge : Hyp := { eh1.H with e := [((.v 8), (1, 255))] ++ eh1.H.e, b := [(e54, true)] ++ eh1.H.b }
set_option maxHeartbeats 40000000 in
theorem esg1_ge : segL Try.prog G Gh eD ehs [] 3000 0 3 { eh1 with H := eH1_ge } = some (.jump 1 eT1 ⟨[(8, (.v 8)), (2, (.v 2)), (1, e55)], [], [(4, (.av 4))]⟩) := by kernel_rfl
theorem evc1_ge (x0 : Ext) (Y0 : Nat → Ext) (nx0 y1 y2 y3 y4 y5 y6 y7 y8 y9 : Int) (Ax0_0 Ax0_1 Ax0_2 Ax0_3 Z4 Z5 Z6 : Nat → Int) (hB : eBase x0 Y0 nx0 Ax0_0 Ax0_1 Ax0_2 Ax0_3) (hJ : eJ1 nx0 y1 y2 y3 y4 y5 y6 y7 y8 y9 Ax0_0 Ax0_1 Ax0_2 Ax0_3 Z4 Z5 Z6) (hH : Hyp.ok eH1_ge (eV x0 Y0 nx0 y1 y2 y3 y4 y5 y6 y7 y8 y9 Ax0_0 Ax0_1 Ax0_2 Ax0_3 Z4 Z5 Z6)) (hF0 : 1 ≤ y8 ∧ y8 ≤ 255) (hG0 : y1 < nx0) :
    LT.holds (eV x0 Y0 nx0 y1 y2 y3 y4 y5 y6 y7 y8 y9 Ax0_0 Ax0_1 Ax0_2 Ax0_3 Z4 Z5 Z6) (fun v _ => retTrue (eV x0 Y0 nx0 y1 y2 y3 y4 y5 y6 y7 y8 y9 Ax0_0 Ax0_1 Ax0_2 Ax0_3 Z4 Z5 Z6) v) (fun j' todo ρ' => (ehs[j']?.map (·.todo)) = some todo ∧ eInv x0 Y0 j' ρ' ∧ emu j' ρ' < emu 1 (eV x0 Y0 nx0 y1 y2 y3 y4 y5 y6 y7 y8 y9 Ax0_0 Ax0_1 Ax0_2 Ax0_3 Z4 Z5 Z6)) (.jump 1 eT1 ⟨[(8, (.v 8)), (2, (.v 2)), (1, e55)], [], [(4, (.av 4))]⟩) := by
  simp only [LT.holds, retTrue]
  refine ⟨ehT1, ⟨nx0, (_root_.Go.Sx.E.i (eV x0 Y0 nx0 y1 y2 y3 y4 y5 y6 y7 y8 y9 Ax0_0 Ax0_1 Ax0_2 Ax0_3 Z4 Z5 Z6) e55), y2, y3, y4, y5, y6, y7, y8, y9, Ax0_0, Ax0_1, Ax0_2, Ax0_3, Z4, Z5, Z6, (by kernel_rfl), hB, ?_⟩, ?_⟩
  ·
    simp only [eBase] at hB
    obtain ⟨b0, c0, c1, c2, c3, en, ea0, ea1, ea2, ea3, hs, _⟩ := hB
    simp only [eJ1] at hJ
    obtain ⟨l1, l2, l3, l4, l5, l6, l7, l8, l9, m4, m5, m6, i1, _⟩ := hJ
    have p1 := hs (y1.toNat + 1) (by omega)
    rw [← ea2] at p1
    have p2 : pSum Ax0_2 (y1.toNat + 1) = pSum Ax0_2 y1.toNat + 8 + 2 * Ax0_2 y1.toNat := rfl
    have p3 := c2 y1.toNat
    have p4 : 8 * (y1.toNat : Int) ≤ pSum Ax0_2 y1.toNat := pSum_le (fun j => (c2 j).1) _
    have p5 : (y1 + 1).toNat = y1.toNat + 1 := by omega
    simp only [eJ1]
    refine ⟨?_, l2, l3, l4, l5, l6, l7, l8, l9, m4, m5, m6, ?_, trivial⟩
    all_goals
      try simp only [e55, eV, i_v, i_lit, i_add, i_sub, i_sel, a_av, a_tab, a_upd, List.getD_cons_zero, List.getD_cons_succ]
      first
        | omega
        | (rw [p5]; omega)
  simp only [eBase] at hB
  obtain ⟨b0, c0, c1, c2, c3, en, ea0, ea1, ea2, ea3, hs, _⟩ := hB
  simp only [eJ1] at hJ
  obtain ⟨l1, l2, l3, l4, l5, l6, l7, l8, l9, m4, m5, m6, i1, _⟩ := hJ
  simp only [emu, Env.app, setAll, List.map_cons, List.map_nil, List.set, e55, eV, i_v, i_lit, i_add, i_sub, i_sel, a_av, a_tab, a_upd, List.getD_cons_zero, List.getD_cons_succ]
  omega
noncomputable def eH1_x0 : Hyp := { eh1.H with e := [((.v 8), (0, 0))] ++ eh1.H.e, b := [(e54, false)] ++ eh1.H.b }
set_option maxHeartbeats 40000000 in
theorem esg1_x0 : segL Try.prog G Gh eD ehs [] 3000 0 3 { eh1 with H := eH1_x0 } = some (.ret (.s (.bool (.blit true))) [⟨69, [.one (.slc 2 (.lit 0) (.v 2) (.op (.lit 0))), .run .i64 (.lit 16) (.tab []) 0, .one (.int .i64 (.lit 0)), .one (.int .i64 (.v 8))], true, none, false⟩, ⟨29, [.one (.slc 3 (.lit 0) (.v 2) (.op (.lit 0))), .one (.nilSlc), .one (.int .i64 (.v 8))], true, none, false⟩, ⟨5, [.run .u8 (.v 2) (.av 4) 0], true, some 1, false⟩, ⟨5, [.run .u8 (.v 2) (.av 4) 0], true, some 1, false⟩, ⟨5, [.run .u8 e56 e81 0], true, some 1, false⟩, ⟨5, [.run .u8 e56 e81 0], true, some 1, false⟩]) := by kernel_rfl
theorem evc1_x0 (x0 : Ext) (Y0 : Nat → Ext) (nx0 y1 y2 y3 y4 y5 y6 y7 y8 y9 : Int) (Ax0_0 Ax0_1 Ax0_2 Ax0_3 Z4 Z5 Z6 : Nat → Int) (hB : eBase x0 Y0 nx0 Ax0_0 Ax0_1 Ax0_2 Ax0_3) (hJ : eJ1 nx0 y1 y2 y3 y4 y5 y6 y7 y8 y9 Ax0_0 Ax0_1 Ax0_2 Ax0_3 Z4 Z5 Z6) (hH : Hyp.ok eH1_x0 (eV x0 Y0 nx0 y1 y2 y3 y4 y5 y6 y7 y8 y9 Ax0_0 Ax0_1 Ax0_2 Ax0_3 Z4 Z5 Z6)) (hF0 : 0 ≤ y8 ∧ y8 ≤ 0) (hG0 : ¬ y1 < nx0) :
    LT.holds (eV x0 Y0 nx0 y1 y2 y3 y4 y5 y6 y7 y8 y9 Ax0_0 Ax0_1 Ax0_2 Ax0_3 Z4 Z5 Z6) (fun v _ => retTrue (eV x0 Y0 nx0 y1 y2 y3 y4 y5 y6 y7 y8 y9 Ax0_0 Ax0_1 Ax0_2 Ax0_3 Z4 Z5 Z6) v) (fun j' todo ρ' => (ehs[j']?.map (·.todo)) = some todo ∧ eInv x0 Y0 j' ρ' ∧ emu j' ρ' < emu 1 (eV x0 Y0 nx0 y1 y2 y3 y4 y5 y6 y7 y8 y9 Ax0_0 Ax0_1 Ax0_2 Ax0_3 Z4 Z5 Z6)) (.ret (.s (.bool (.blit true))) [⟨69, [.one (.slc 2 (.lit 0) (.v 2) (.op (.lit 0))), .run .i64 (.lit 16) (.tab []) 0, .one (.int .i64 (.lit 0)), .one (.int .i64 (.v 8))], true, none, false⟩, ⟨29, [.one (.slc 3 (.lit 0) (.v 2) (.op (.lit 0))), .one (.nilSlc), .one (.int .i64 (.v 8))], true, none, false⟩, ⟨5, [.run .u8 (.v 2) (.av 4) 0], true, some 1, false⟩, ⟨5, [.run .u8 (.v 2) (.av 4) 0], true, some 1, false⟩, ⟨5, [.run .u8 e56 e81 0], true, some 1, false⟩, ⟨5, [.run .u8 e56 e81 0], true, some 1, false⟩]) := by
  simp only [LT.holds, retTrue]
  rfl
noncomputable def eH1_w0 : Hyp := { eh1.H with e := [((.v 8), (0, 0)), (e82, (0, 0))] ++ eh1.H.e, b := [(e54, true)] ++ eh1.H.b }
set_option maxHeartbeats 40000000 in
theorem esg1_w0 : segL Try.prog G Gh eD ehs [] 3000 0 3 { eh1 with H := eH1_w0 } = some (.jump 1 eT1 ⟨[(8, (.v 8)), (2, e83), (1, e55)], [], [(4, e86)]⟩) := by kernel_rfl
theorem evc1_w0 (x0 : Ext) (Y0 : Nat → Ext) (nx0 y1 y2 y3 y4 y5 y6 y7 y8 y9 : Int) (Ax0_0 Ax0_1 Ax0_2 Ax0_3 Z4 Z5 Z6 : Nat → Int) (hB : eBase x0 Y0 nx0 Ax0_0 Ax0_1 Ax0_2 Ax0_3) (hJ : eJ1 nx0 y1 y2 y3 y4 y5 y6 y7 y8 y9 Ax0_0 Ax0_1 Ax0_2 Ax0_3 Z4 Z5 Z6) (hH : Hyp.ok eH1_w0 (eV x0 Y0 nx0 y1 y2 y3 y4 y5 y6 y7 y8 y9 Ax0_0 Ax0_1 Ax0_2 Ax0_3 Z4 Z5 Z6)) (hF0 : 0 ≤ y8 ∧ y8 ≤ 0) (hF1 : 0 ≤ Ax0_0 y1.toNat ∧ Ax0_0 y1.toNat ≤ 0) (hG0 : y1 < nx0) :
    LT.holds (eV x0 Y0 nx0 y1 y2 y3 y4 y5 y6 y7 y8 y9 Ax0_0 Ax0_1 Ax0_2 Ax0_3 Z4 Z5 Z6) (fun v _ => retTrue (eV x0 Y0 nx0 y1 y2 y3 y4 y5 y6 y7 y8 y9 Ax0_0 Ax0_1 Ax0_2 Ax0_3 Z4 Z5 Z6) v) (fun j' todo ρ' => (ehs[j']?.map (·.todo)) = some todo ∧ eInv x0 Y0 j' ρ' ∧ emu j' ρ' < emu 1 (eV x0 Y0 nx0 y1 y2 y3 y4 y5 y6 y7 y8 y9 Ax0_0 Ax0_1 Ax0_2 Ax0_3 Z4 Z5 Z6)) (.jump 1 eT1 ⟨[(8, (.v 8)), (2, e83), (1, e55)], [], [(4, e86)]⟩) := by
  simp only [LT.holds, retTrue]
  refine ⟨ehT1, ⟨nx0, (_root_.Go.Sx.E.i (eV x0 Y0 nx0 y1 y2 y3 y4 y5 y6 y7 y8 y9 Ax0_0 Ax0_1 Ax0_2 Ax0_3 Z4 Z5 Z6) e55), (_root_.Go.Sx.E.i (eV x0 Y0 nx0 y1 y2 y3 y4 y5 y6 y7 y8 y9 Ax0_0 Ax0_1 Ax0_2 Ax0_3 Z4 Z5 Z6) e83), y3, y4, y5, y6, y7, y8, y9, Ax0_0, Ax0_1, Ax0_2, Ax0_3, (_root_.Go.Sx.E.a (eV x0 Y0 nx0 y1 y2 y3 y4 y5 y6 y7 y8 y9 Ax0_0 Ax0_1 Ax0_2 Ax0_3 Z4 Z5 Z6) e86), Z5, Z6, (by kernel_rfl), hB, ?_⟩, ?_⟩
  ·
    simp only [eBase] at hB
    obtain ⟨b0, c0, c1, c2, c3, en, ea0, ea1, ea2, ea3, hs, _⟩ := hB
    simp only [eJ1] at hJ
    obtain ⟨l1, l2, l3, l4, l5, l6, l7, l8, l9, m4, m5, m6, i1, _⟩ := hJ
    have p1 := hs (y1.toNat + 1) (by omega)
    rw [← ea2] at p1
    have p2 : pSum Ax0_2 (y1.toNat + 1) = pSum Ax0_2 y1.toNat + 8 + 2 * Ax0_2 y1.toNat := rfl
    have p3 := c2 y1.toNat
    have p4 : 8 * (y1.toNat : Int) ≤ pSum Ax0_2 y1.toNat := pSum_le (fun j => (c2 j).1) _
    have p5 : (y1 + 1).toNat = y1.toNat + 1 := by omega
    simp only [eJ1]
    refine ⟨?_, ?_, l3, l4, l5, l6, l7, l8, l9, (arr_at hH (by kernel_rfl)), m5, m6, ?_, trivial⟩
    all_goals
      try simp only [e55, e83, e84, e85, e86, eV, i_v, i_lit, i_add, i_sub, i_sel, a_av, a_tab, a_upd, List.getD_cons_zero, List.getD_cons_succ]
      first
        | omega
        | (rw [p5]; omega)
  simp only [eBase] at hB
  obtain ⟨b0, c0, c1, c2, c3, en, ea0, ea1, ea2, ea3, hs, _⟩ := hB
  simp only [eJ1] at hJ
  obtain ⟨l1, l2, l3, l4, l5, l6, l7, l8, l9, m4, m5, m6, i1, _⟩ := hJ
  simp only [emu, Env.app, setAll, List.map_cons, List.map_nil, List.set, e55, e83, e84, e85, e86, eV, i_v, i_lit, i_add, i_sub, i_sel, a_av, a_tab, a_upd, List.getD_cons_zero, List.getD_cons_succ]
  omega
noncomputable def eH1_w1 : Hyp := { eh1.H with e := [((.v 8), (0, 0)), (e82, (1, 1))] ++ eh1.H.e, b := [(e54, true)] ++ eh1.H.b }
set_option maxHeartbeats 40000000 in
theorem esg1_w1 : segL Try.prog G Gh eD ehs [] 3000 0 3 { eh1 with H := eH1_w1 } = some (.jump 1 eT1 ⟨[(8, (.v 8)), (2, e87), (1, e55)], [], [(4, e90)]⟩) := by kernel_rfl
theorem evc1_w1 (x0 : Ext) (Y0 : Nat → Ext) (nx0 y1 y2 y3 y4 y5 y6 y7 y8 y9 : Int) (Ax0_0 Ax0_1 Ax0_2 Ax0_3 Z4 Z5 Z6 : Nat → Int) (hB : eBase x0 Y0 nx0 Ax0_0 Ax0_1 Ax0_2 Ax0_3) (hJ : eJ1 nx0 y1 y2 y3 y4 y5 y6 y7 y8 y9 Ax0_0 Ax0_1 Ax0_2 Ax0_3 Z4 Z5 Z6) (hH : Hyp.ok eH1_w1 (eV x0 Y0 nx0 y1 y2 y3 y4 y5 y6 y7 y8 y9 Ax0_0 Ax0_1 Ax0_2 Ax0_3 Z4 Z5 Z6)) (hF0 : 0 ≤ y8 ∧ y8 ≤ 0) (hF1 : 1 ≤ Ax0_0 y1.toNat ∧ Ax0_0 y1.toNat ≤ 1) (hG0 : y1 < nx0) :
    LT.holds (eV x0 Y0 nx0 y1 y2 y3 y4 y5 y6 y7 y8 y9 Ax0_0 Ax0_1 Ax0_2 Ax0_3 Z4 Z5 Z6) (fun v _ => retTrue (eV x0 Y0 nx0 y1 y2 y3 y4 y5 y6 y7 y8 y9 Ax0_0 Ax0_1 Ax0_2 Ax0_3 Z4 Z5 Z6) v) (fun j' todo ρ' => (ehs[j']?.map (·.todo)) = some todo ∧ eInv x0 Y0 j' ρ' ∧ emu j' ρ' < emu 1 (eV x0 Y0 nx0 y1 y2 y3 y4 y5 y6 y7 y8 y9 Ax0_0 Ax0_1 Ax0_2 Ax0_3 Z4 Z5 Z6)) (.jump 1 eT1 ⟨[(8, (.v 8)), (2, e87), (1, e55)], [], [(4, e90)]⟩) := by
  simp only [LT.holds, retTrue]
  refine ⟨ehT1, ⟨nx0, (_root_.Go.Sx.E.i (eV x0 Y0 nx0 y1 y2 y3 y4 y5 y6 y7 y8 y9 Ax0_0 Ax0_1 Ax0_2 Ax0_3 Z4 Z5 Z6) e55), (_root_.Go.Sx.E.i (eV x0 Y0 nx0 y1 y2 y3 y4 y5 y6 y7 y8 y9 Ax0_0 Ax0_1 Ax0_2 Ax0_3 Z4 Z5 Z6) e87), y3, y4, y5, y6, y7, y8, y9, Ax0_0, Ax0_1, Ax0_2, Ax0_3, (_root_.Go.Sx.E.a (eV x0 Y0 nx0 y1 y2 y3 y4 y5 y6 y7 y8 y9 Ax0_0 Ax0_1 Ax0_2 Ax0_3 Z4 Z5 Z6) e90), Z5, Z6, (by kernel_rfl), hB, ?_⟩, ?_⟩
  ·
    simp only [eBase] at hB
    obtain ⟨b0, c0, c1, c2, c3, en, ea0, ea1, ea2, ea3, hs, _⟩ := hB
    simp only [eJ1] at hJ
    obtain ⟨l1, l2, l3, l4, l5, l6, l7, l8, l9, m4, m5, m6, i1, _⟩ := hJ
    have p1 := hs (y1.toNat + 1) (by omega)
    rw [← ea2] at p1
    have p2 : pSum Ax0_2 (y1.toNat + 1) = pSum Ax0_2 y1.toNat + 8 + 2 * Ax0_2 y1.toNat := rfl
    have p3 := c2 y1.toNat
    have p4 : 8 * (y1.toNat : Int) ≤ pSum Ax0_2 y1.toNat := pSum_le (fun j => (c2 j).1) _
    have p5 : (y1 + 1).toNat = y1.toNat + 1 := by omega
    simp only [eJ1]
    refine ⟨?_, ?_, l3, l4, l5, l6, l7, l8, l9, (arr_at hH (by kernel_rfl)), m5, m6, ?_, trivial⟩
    all_goals
      try simp only [e55, e83, e84, e85, e86, e87, e88, e89, e90, eV, i_v, i_lit, i_add, i_sub, i_sel, a_av, a_tab, a_upd, List.getD_cons_zero, List.getD_cons_succ]
      first
        | omega
        | (rw [p5]; omega)
  simp only [eBase] at hB
  obtain ⟨b0, c0, c1, c2, c3, en, ea0, ea1, ea2, ea3, hs, _⟩ := hB
  simp only [eJ1] at hJ
  obtain ⟨l1, l2, l3, l4, l5, l6, l7, l8, l9, m4, m5, m6, i1, _⟩ := hJ
  simp only [emu, Env.app, setAll, List.map_cons, List.map_nil, List.set, e55, e83, e84, e85, e86, e87, e88, e89, e90, eV, i_v, i_lit, i_add, i_sub, i_sel, a_av, a_tab, a_upd, List.getD_cons_zero, List.getD_cons_succ]
  omega
noncomputable def eH1_w2 : Hyp := { eh1.H with e := [((.v 8), (0, 0)), (e82, (2, 2))] ++ eh1.H.e, b := [(e54, true)] ++ eh1.H.b }
set_option maxHeartbeats 40000000 in
theorem esg1_w2 : segL Try.prog G Gh eD ehs [] 3000 0 3 { eh1 with H := eH1_w2 } = some (.jump 1 eT1 ⟨[(8, (.v 8)), (2, e91), (1, e55)], [], [(4, e98)]⟩) := by kernel_rfl
theorem evc1_w2 (x0 : Ext) (Y0 : Nat → Ext) (nx0 y1 y2 y3 y4 y5 y6 y7 y8 y9 : Int) (Ax0_0 Ax0_1 Ax0_2 Ax0_3 Z4 Z5 Z6 : Nat → Int) (hB : eBase x0 Y0 nx0 Ax0_0 Ax0_1 Ax0_2 Ax0_3) (hJ : eJ1 nx0 y1 y2 y3 y4 y5 y6 y7 y8 y9 Ax0_0 Ax0_1 Ax0_2 Ax0_3 Z4 Z5 Z6) (hH : Hyp.ok eH1_w2 (eV x0 Y0 nx0 y1 y2 y3 y4 y5 y6 y7 y8 y9 Ax0_0 Ax0_1 Ax0_2 Ax0_3 Z4 Z5 Z6)) (hF0 : 0 ≤ y8 ∧ y8 ≤ 0) (hF1 : 2 ≤ Ax0_0 y1.toNat ∧ Ax0_0 y1.toNat ≤ 2) (hG0 : y1 < nx0) :
    LT.holds (eV x0 Y0 nx0 y1 y2 y3 y4 y5 y6 y7 y8 y9 Ax0_0 Ax0_1 Ax0_2 Ax0_3 Z4 Z5 Z6) (fun v _ => retTrue (eV x0 Y0 nx0 y1 y2 y3 y4 y5 y6 y7 y8 y9 Ax0_0 Ax0_1 Ax0_2 Ax0_3 Z4 Z5 Z6) v) (fun j' todo ρ' => (ehs[j']?.map (·.todo)) = some todo ∧ eInv x0 Y0 j' ρ' ∧ emu j' ρ' < emu 1 (eV x0 Y0 nx0 y1 y2 y3 y4 y5 y6 y7 y8 y9 Ax0_0 Ax0_1 Ax0_2 Ax0_3 Z4 Z5 Z6)) (.jump 1 eT1 ⟨[(8, (.v 8)), (2, e91), (1, e55)], [], [(4, e98)]⟩) := by
  simp only [LT.holds, retTrue]
  refine ⟨ehT1, ⟨nx0, (_root_.Go.Sx.E.i (eV x0 Y0 nx0 y1 y2 y3 y4 y5 y6 y7 y8 y9 Ax0_0 Ax0_1 Ax0_2 Ax0_3 Z4 Z5 Z6) e55), (_root_.Go.Sx.E.i (eV x0 Y0 nx0 y1 y2 y3 y4 y5 y6 y7 y8 y9 Ax0_0 Ax0_1 Ax0_2 Ax0_3 Z4 Z5 Z6) e91), y3, y4, y5, y6, y7, y8, y9, Ax0_0, Ax0_1, Ax0_2, Ax0_3, (_root_.Go.Sx.E.a (eV x0 Y0 nx0 y1 y2 y3 y4 y5 y6 y7 y8 y9 Ax0_0 Ax0_1 Ax0_2 Ax0_3 Z4 Z5 Z6) e98), Z5, Z6, (by kernel_rfl), hB, ?_⟩, ?_⟩
  ·
    simp only [eBase] at hB
    obtain ⟨b0, c0, c1, c2, c3, en, ea0, ea1, ea2, ea3, hs, _⟩ := hB
    simp only [eJ1] at hJ
    obtain ⟨l1, l2, l3, l4, l5, l6, l7, l8, l9, m4, m5, m6, i1, _⟩ := hJ
    have p1 := hs (y1.toNat + 1) (by omega)
    rw [← ea2] at p1
    have p2 : pSum Ax0_2 (y1.toNat + 1) = pSum Ax0_2 y1.toNat + 8 + 2 * Ax0_2 y1.toNat := rfl
    have p3 := c2 y1.toNat
    have p4 : 8 * (y1.toNat : Int) ≤ pSum Ax0_2 y1.toNat := pSum_le (fun j => (c2 j).1) _
    have p5 : (y1 + 1).toNat = y1.toNat + 1 := by omega
    simp only [eJ1]
    refine ⟨?_, ?_, l3, l4, l5, l6, l7, l8, l9, (arr_at hH (by kernel_rfl)), m5, m6, ?_, trivial⟩
    all_goals
      try simp only [e55, e83, e84, e85, e86, e87, e88, e89, e90, e91, e92, e93, e94, e95, e96, e97, e98, eV, i_v, i_lit, i_add, i_sub, i_sel, a_av, a_tab, a_upd, List.getD_cons_zero, List.getD_cons_succ]
      first
        | omega
        | (rw [p5]; omega)
  simp only [eBase] at hB
  obtain ⟨b0, c0, c1, c2, c3, en, ea0, ea1, ea2, ea3, hs, _⟩ := hB
  simp only [eJ1] at hJ
  obtain ⟨l1, l2, l3, l4, l5, l6, l7, l8, l9, m4, m5, m6, i1, _⟩ := hJ
  simp only [emu, Env.app, setAll, List.map_cons, List.map_nil, List.set, e55, e83, e84, e85, e86, e87, e88, e89, e90, e91, e92, e93, e94, e95, e96, e97, e98, eV, i_v, i_lit, i_add, i_sub, i_sel, a_av, a_tab, a_upd, List.getD_cons_zero, List.getD_cons_succ]
  omega
noncomputable def eH1_w3 : Hyp := { eh1.H with e := [((.v 8), (0, 0)), (e82, (3, 3))] ++ eh1.H.e, b := [(e54, true)] ++ eh1.H.b }
set_option maxHeartbeats 40000000 in
theorem esg1_w3 : segL Try.prog G Gh eD ehs [] 3000 0 3 { eh1 with H := eH1_w3 } = some (.jump 1 eT1 ⟨[(8, (.v 8)), (2, e99), (1, e55)], [], [(4, e114)]⟩) := by kernel_rfl
theorem evc1_w3 (x0 : Ext) (Y0 : Nat → Ext) (nx0 y1 y2 y3 y4 y5 y6 y7 y8 y9 : Int) (Ax0_0 Ax0_1 Ax0_2 Ax0_3 Z4 Z5 Z6 : Nat → Int) (hB : eBase x0 Y0 nx0 Ax0_0 Ax0_1 Ax0_2 Ax0_3) (hJ : eJ1 nx0 y1 y2 y3 y4 y5 y6 y7 y8 y9 Ax0_0 Ax0_1 Ax0_2 Ax0_3 Z4 Z5 Z6) (hH : Hyp.ok eH1_w3 (eV x0 Y0 nx0 y1 y2 y3 y4 y5 y6 y7 y8 y9 Ax0_0 Ax0_1 Ax0_2 Ax0_3 Z4 Z5 Z6)) (hF0 : 0 ≤ y8 ∧ y8 ≤ 0) (hF1 : 3 ≤ Ax0_0 y1.toNat ∧ Ax0_0 y1.toNat ≤ 3) (hG0 : y1 < nx0) :
    LT.holds (eV x0 Y0 nx0 y1 y2 y3 y4 y5 y6 y7 y8 y9 Ax0_0 Ax0_1 Ax0_2 Ax0_3 Z4 Z5 Z6) (fun v _ => retTrue (eV x0 Y0 nx0 y1 y2 y3 y4 y5 y6 y7 y8 y9 Ax0_0 Ax0_1 Ax0_2 Ax0_3 Z4 Z5 Z6) v) (fun j' todo ρ' => (ehs[j']?.map (·.todo)) = some todo ∧ eInv x0 Y0 j' ρ' ∧ emu j' ρ' < emu 1 (eV x0 Y0 nx0 y1 y2 y3 y4 y5 y6 y7 y8 y9 Ax0_0 Ax0_1 Ax0_2 Ax0_3 Z4 Z5 Z6)) (.jump 1 eT1 ⟨[(8, (.v 8)), (2, e99), (1, e55)], [], [(4, e114)]⟩) := by
  simp only [LT.holds, retTrue]
  refine ⟨ehT1, ⟨nx0, (_root_.Go.Sx.E.i (eV x0 Y0 nx0 y1 y2 y3 y4 y5 y6 y7 y8 y9 Ax0_0 Ax0_1 Ax0_2 Ax0_3 Z4 Z5 Z6) e55), (_root_.Go.Sx.E.i (eV x0 Y0 nx0 y1 y2 y3 y4 y5 y6 y7 y8 y9 Ax0_0 Ax0_1 Ax0_2 Ax0_3 Z4 Z5 Z6) e99), y3, y4, y5, y6, y7, y8, y9, Ax0_0, Ax0_1, Ax0_2, Ax0_3, (_root_.Go.Sx.E.a (eV x0 Y0 nx0 y1 y2 y3 y4 y5 y6 y7 y8 y9 Ax0_0 Ax0_1 Ax0_2 Ax0_3 Z4 Z5 Z6) e114), Z5, Z6, (by kernel_rfl), hB, ?_⟩, ?_⟩
  ·
    simp only [eBase] at hB
    obtain ⟨b0, c0, c1, c2, c3, en, ea0, ea1, ea2, ea3, hs, _⟩ := hB
    simp only [eJ1] at hJ
    obtain ⟨l1, l2, l3, l4, l5, l6, l7, l8, l9, m4, m5, m6, i1, _⟩ := hJ
    have p1 := hs (y1.toNat + 1) (by omega)
    rw [← ea2] at p1
    have p2 : pSum Ax0_2 (y1.toNat + 1) = pSum Ax0_2 y1.toNat + 8 + 2 * Ax0_2 y1.toNat := rfl
    have p3 := c2 y1.toNat
    have p4 : 8 * (y1.toNat : Int) ≤ pSum Ax0_2 y1.toNat := pSum_le (fun j => (c2 j).1) _
    have p5 : (y1 + 1).toNat = y1.toNat + 1 := by omega
    simp only [eJ1]
    refine ⟨?_, ?_, l3, l4, l5, l6, l7, l8, l9, (arr_at hH (by kernel_rfl)), m5, m6, ?_, trivial⟩
    all_goals
      try simp only [e55, e83, e84, e85, e86, e87, e88, e89, e90, e91, e92, e93, e94, e95, e96, e97, e98, e99, e100, e101, e102, e103, e104, e105, e106, e107, e108, e109, e110, e111, e112, e113, e114, eV, i_v, i_lit, i_add, i_sub, i_sel, a_av, a_tab, a_upd, List.getD_cons_zero, List.getD_cons_succ]
      first
        | omega
        | (rw [p5]; omega)
  simp only [eBase] at hB
  obtain ⟨b0, c0, c1, c2, c3, en, ea0, ea1, ea2, ea3, hs, _⟩ := hB
  simp only [eJ1] at hJ
  obtain ⟨l1, l2, l3, l4, l5, l6, l7, l8, l9, m4, m5, m6, i1, _⟩ := hJ
  simp only [emu, Env.app, setAll, List.map_cons, List.map_nil, List.set, e55, e83, e84, e85, e86, e87, e88, e89, e90, e91, e92, e93, e94, e95, e96, e97, e98, e99, e100, e101, e102, e103, e104, e105, e106, e107, e108, e109, e110, e111, e112, e113, e114, eV, i_v, i_lit, i_add, i_sub, i_sel, a_av, a_tab, a_upd, List.getD_cons_zero, List.getD_cons_succ]
  omega
noncomputable def eH1_w4 : Hyp := { eh1.H with e := [((.v 8), (0, 0)), (e82, (4, 4))] ++ eh1.H.e, b := [(e54, true)] ++ eh1.H.b }
set_option maxHeartbeats 40000000 in
theorem esg1_w4 : segL Try.prog G Gh eD ehs [] 3000 0 3 { eh1 with H := eH1_w4 } = some (.jump 1 eT1 ⟨[(8, (.v 8)), (2, e83), (1, e55)], [], [(4, e116)]⟩) := by kernel_rfl
theorem evc1_w4 (x0 : Ext) (Y0 : Nat → Ext) (nx0 y1 y2 y3 y4 y5 y6 y7 y8 y9 : Int) (Ax0_0 Ax0_1 Ax0_2 Ax0_3 Z4 Z5 Z6 : Nat → Int) (hB : eBase x0 Y0 nx0 Ax0_0 Ax0_1 Ax0_2 Ax0_3) (hJ : eJ1 nx0 y1 y2 y3 y4 y5 y6 y7 y8 y9 Ax0_0 Ax0_1 Ax0_2 Ax0_3 Z4 Z5 Z6) (hH : Hyp.ok eH1_w4 (eV x0 Y0 nx0 y1 y2 y3 y4 y5 y6 y7 y8 y9 Ax0_0 Ax0_1 Ax0_2 Ax0_3 Z4 Z5 Z6)) (hF0 : 0 ≤ y8 ∧ y8 ≤ 0) (hF1 : 4 ≤ Ax0_0 y1.toNat ∧ Ax0_0 y1.toNat ≤ 4) (hG0 : y1 < nx0) :
    LT.holds (eV x0 Y0 nx0 y1 y2 y3 y4 y5 y6 y7 y8 y9 Ax0_0 Ax0_1 Ax0_2 Ax0_3 Z4 Z5 Z6) (fun v _ => retTrue (eV x0 Y0 nx0 y1 y2 y3 y4 y5 y6 y7 y8 y9 Ax0_0 Ax0_1 Ax0_2 Ax0_3 Z4 Z5 Z6) v) (fun j' todo ρ' => (ehs[j']?.map (·.todo)) = some todo ∧ eInv x0 Y0 j' ρ' ∧ emu j' ρ' < emu 1 (eV x0 Y0 nx0 y1 y2 y3 y4 y5 y6 y7 y8 y9 Ax0_0 Ax0_1 Ax0_2 Ax0_3 Z4 Z5 Z6)) (.jump 1 eT1 ⟨[(8, (.v 8)), (2, e83), (1, e55)], [], [(4, e116)]⟩) := by
  simp only [LT.holds, retTrue]
  refine ⟨ehT1, ⟨nx0, (_root_.Go.Sx.E.i (eV x0 Y0 nx0 y1 y2 y3 y4 y5 y6 y7 y8 y9 Ax0_0 Ax0_1 Ax0_2 Ax0_3 Z4 Z5 Z6) e55), (_root_.Go.Sx.E.i (eV x0 Y0 nx0 y1 y2 y3 y4 y5 y6 y7 y8 y9 Ax0_0 Ax0_1 Ax0_2 Ax0_3 Z4 Z5 Z6) e83), y3, y4, y5, y6, y7, y8, y9, Ax0_0, Ax0_1, Ax0_2, Ax0_3, (_root_.Go.Sx.E.a (eV x0 Y0 nx0 y1 y2 y3 y4 y5 y6 y7 y8 y9 Ax0_0 Ax0_1 Ax0_2 Ax0_3 Z4 Z5 Z6) e116), Z5, Z6, (by kernel_rfl), hB, ?_⟩, ?_⟩
  ·
    simp only [eBase] at hB
    obtain ⟨b0, c0, c1, c2, c3, en, ea0, ea1, ea2, ea3, hs, _⟩ := hB
    simp only [eJ1] at hJ
    obtain ⟨l1, l2, l3, l4, l5, l6, l7, l8, l9, m4, m5, m6, i1, _⟩ := hJ
    have p1 := hs (y1.toNat + 1) (by omega)
    rw [← ea2] at p1
    have p2 : pSum Ax0_2 (y1.toNat + 1) = pSum Ax0_2 y1.toNat + 8 + 2 * Ax0_2 y1.toNat := rfl
    have p3 := c2 y1.toNat
    have p4 : 8 * (y1.toNat : Int) ≤ pSum Ax0_2 y1.toNat := pSum_le (fun j => (c2 j).1) _
    have p5 : (y1 + 1).toNat = y1.toNat + 1 := by omega
    simp only [eJ1]
    refine ⟨?_, ?_, l3, l4, l5, l6, l7, l8, l9, (arr_at hH (by kernel_rfl)), m5, m6, ?_, trivial⟩
    all_goals
      try simp only [e55, e83, e84, e115, e116, eV, i_v, i_lit, i_add, i_sub, i_sel, a_av, a_tab, a_upd, List.getD_cons_zero, List.getD_cons_succ]
      first
        | omega
        | (rw [p5]; omega)
  simp only [eBase] at hB
  obtain ⟨b0, c0, c1, c2, c3, en, ea0, ea1, ea2, ea3, hs, _⟩ := hB
  simp only [eJ1] at hJ
  obtain ⟨l1, l2, l3, l4, l5, l6, l7, l8, l9, m4, m5, m6, i1, _⟩ := hJ
  simp only [emu, Env.app, setAll, List.map_cons, List.map_nil, List.set, e55, e83, e84, e115, e116, eV, i_v, i_lit, i_add, i_sub, i_sel, a_av, a_tab, a_upd, List.getD_cons_zero, List.getD_cons_succ]
  omega
noncomputable def eH1_w5 : Hyp := { eh1.H with e := [((.v 8), (0, 0)), (e82, (5, 5))] ++ eh1.H.e, b := [(e54, true)] ++ eh1.H.b }
set_option maxHeartbeats 40000000 in
theorem esg1_w5 : segL Try.prog G Gh eD ehs [] 3000 0 3 { eh1 with H := eH1_w5 } = some (.jump 1 eT1 ⟨[(8, (.v 8)), (2, e119), (1, e55)], [], [(4, e132)]⟩) := by kernel_rfl
theorem evc1_w5 (x0 : Ext) (Y0 : Nat → Ext) (nx0 y1 y2 y3 y4 y5 y6 y7 y8 y9 : Int) (Ax0_0 Ax0_1 Ax0_2 Ax0_3 Z4 Z5 Z6 : Nat → Int) (hB : eBase x0 Y0 nx0 Ax0_0 Ax0_1 Ax0_2 Ax0_3) (hJ : eJ1 nx0 y1 y2 y3 y4 y5 y6 y7 y8 y9 Ax0_0 Ax0_1 Ax0_2 Ax0_3 Z4 Z5 Z6) (hH : Hyp.ok eH1_w5 (eV x0 Y0 nx0 y1 y2 y3 y4 y5 y6 y7 y8 y9 Ax0_0 Ax0_1 Ax0_2 Ax0_3 Z4 Z5 Z6)) (hF0 : 0 ≤ y8 ∧ y8 ≤ 0) (hF1 : 5 ≤ Ax0_0 y1.toNat ∧ Ax0_0 y1.toNat ≤ 5) (hG0 : y1 < nx0) :
    LT.holds (eV x0 Y0 nx0 y1 y2 y3 y4 y5 y6 y7 y8 y9 Ax0_0 Ax0_1 Ax0_2 Ax0_3 Z4 Z5 Z6) (fun v _ => retTrue (eV x0 Y0 nx0 y1 y2 y3 y4 y5 y6 y7 y8 y9 Ax0_0 Ax0_1 Ax0_2 Ax0_3 Z4 Z5 Z6) v) (fun j' todo ρ' => (ehs[j']?.map (·.todo)) = some todo ∧ eInv x0 Y0 j' ρ' ∧ emu j' ρ' < emu 1 (eV x0 Y0 nx0 y1 y2 y3 y4 y5 y6 y7 y8 y9 Ax0_0 Ax0_1 Ax0_2 Ax0_3 Z4 Z5 Z6)) (.jump 1 eT1 ⟨[(8, (.v 8)), (2, e119), (1, e55)], [], [(4, e132)]⟩) := by
  simp only [LT.holds, retTrue]
  refine ⟨ehT1, ⟨nx0, (_root_.Go.Sx.E.i (eV x0 Y0 nx0 y1 y2 y3 y4 y5 y6 y7 y8 y9 Ax0_0 Ax0_1 Ax0_2 Ax0_3 Z4 Z5 Z6) e55), (_root_.Go.Sx.E.i (eV x0 Y0 nx0 y1 y2 y3 y4 y5 y6 y7 y8 y9 Ax0_0 Ax0_1 Ax0_2 Ax0_3 Z4 Z5 Z6) e119), y3, y4, y5, y6, y7, y8, y9, Ax0_0, Ax0_1, Ax0_2, Ax0_3, (_root_.Go.Sx.E.a (eV x0 Y0 nx0 y1 y2 y3 y4 y5 y6 y7 y8 y9 Ax0_0 Ax0_1 Ax0_2 Ax0_3 Z4 Z5 Z6) e132), Z5, Z6, (by kernel_rfl), hB, ?_⟩, ?_⟩
  ·
    simp only [eBase] at hB
    obtain ⟨b0, c0, c1, c2, c3, en, ea0, ea1, ea2, ea3, hs, _⟩ := hB
    simp only [eJ1] at hJ
    obtain ⟨l1, l2, l3, l4, l5, l6, l7, l8, l9, m4, m5, m6, i1, _⟩ := hJ
    have p1 := hs (y1.toNat + 1) (by omega)
    rw [← ea2] at p1
    have p2 : pSum Ax0_2 (y1.toNat + 1) = pSum Ax0_2 y1.toNat + 8 + 2 * Ax0_2 y1.toNat := rfl
    have p3 := c2 y1.toNat
    have p4 : 8 * (y1.toNat : Int) ≤ pSum Ax0_2 y1.toNat := pSum_le (fun j => (c2 j).1) _
    have p5 : (y1 + 1).toNat = y1.toNat + 1 := by omega
    simp only [eJ1]
    refine ⟨?_, ?_, l3, l4, l5, l6, l7, l8, l9, (arr_at hH (by kernel_rfl)), m5, m6, ?_, trivial⟩
    all_goals
      try simp only [e55, e117, e118, e119, e120, e121, e122, e123, e124, e125, e126, e127, e128, e129, e130, e131, e132, eV, i_v, i_lit, i_add, i_sub, i_sel, a_av, a_tab, a_upd, List.getD_cons_zero, List.getD_cons_succ]
      first
        | omega
        | (rw [p5]; omega)
  simp only [eBase] at hB
  obtain ⟨b0, c0, c1, c2, c3, en, ea0, ea1, ea2, ea3, hs, _⟩ := hB
  simp only [eJ1] at hJ
  obtain ⟨l1, l2, l3, l4, l5, l6, l7, l8, l9, m4, m5, m6, i1, _⟩ := hJ
  simp only [emu, Env.app, setAll, List.map_cons, List.map_nil, List.set, e55, e117, e118, e119, e120, e121, e122, e123, e124, e125, e126, e127, e128, e129, e130, e131, e132, eV, i_v, i_lit, i_add, i_sub, i_sel, a_av, a_tab, a_upd, List.getD_cons_zero, List.getD_cons_succ]
  omega
noncomputable def eH1_w6 : Hyp := { eh1.H with e := [((.v 8), (0, 0)), (e82, (6, 6))] ++ eh1.H.e, b := [(e54, true)] ++ eh1.H.b }
set_option maxHeartbeats 40000000 in
theorem esg1_w6 : segL Try.prog G Gh eD ehs [] 3000 0 3 { eh1 with H := eH1_w6 } = some (.jump 2 eT2 ⟨[(9, (.v 8)), (7, (.lit 1)), (3, e103), (4, e55)], [], [(6, e136), (5, e137)]⟩) := by kernel_rfl
theorem evc1_w6 (x0 : Ext) (Y0 : Nat → Ext) (nx0 y1 y2 y3 y4 y5 y6 y7 y8 y9 : Int) (Ax0_0 Ax0_1 Ax0_2 Ax0_3 Z4 Z5 Z6 : Nat → Int) (hB : eBase x0 Y0 nx0 Ax0_0 Ax0_1 Ax0_2 Ax0_3) (hJ : eJ1 nx0 y1 y2 y3 y4 y5 y6 y7 y8 y9 Ax0_0 Ax0_1 Ax0_2 Ax0_3 Z4 Z5 Z6) (hH : Hyp.ok eH1_w6 (eV x0 Y0 nx0 y1 y2 y3 y4 y5 y6 y7 y8 y9 Ax0_0 Ax0_1 Ax0_2 Ax0_3 Z4 Z5 Z6)) (hF0 : 0 ≤ y8 ∧ y8 ≤ 0) (hF1 : 6 ≤ Ax0_0 y1.toNat ∧ Ax0_0 y1.toNat ≤ 6) (hG0 : y1 < nx0) :
    LT.holds (eV x0 Y0 nx0 y1 y2 y3 y4 y5 y6 y7 y8 y9 Ax0_0 Ax0_1 Ax0_2 Ax0_3 Z4 Z5 Z6) (fun v _ => retTrue (eV x0 Y0 nx0 y1 y2 y3 y4 y5 y6 y7 y8 y9 Ax0_0 Ax0_1 Ax0_2 Ax0_3 Z4 Z5 Z6) v) (fun j' todo ρ' => (ehs[j']?.map (·.todo)) = some todo ∧ eInv x0 Y0 j' ρ' ∧ emu j' ρ' < emu 1 (eV x0 Y0 nx0 y1 y2 y3 y4 y5 y6 y7 y8 y9 Ax0_0 Ax0_1 Ax0_2 Ax0_3 Z4 Z5 Z6)) (.jump 2 eT2 ⟨[(9, (.v 8)), (7, (.lit 1)), (3, e103), (4, e55)], [], [(6, e136), (5, e137)]⟩) := by
  simp only [LT.holds, retTrue]
  refine ⟨ehT2, ⟨nx0, y1, y2, (_root_.Go.Sx.E.i (eV x0 Y0 nx0 y1 y2 y3 y4 y5 y6 y7 y8 y9 Ax0_0 Ax0_1 Ax0_2 Ax0_3 Z4 Z5 Z6) e103), (_root_.Go.Sx.E.i (eV x0 Y0 nx0 y1 y2 y3 y4 y5 y6 y7 y8 y9 Ax0_0 Ax0_1 Ax0_2 Ax0_3 Z4 Z5 Z6) e55), y5, y6, (_root_.Go.Sx.E.i (eV x0 Y0 nx0 y1 y2 y3 y4 y5 y6 y7 y8 y9 Ax0_0 Ax0_1 Ax0_2 Ax0_3 Z4 Z5 Z6) (.lit 1)), y8, y8, Ax0_0, Ax0_1, Ax0_2, Ax0_3, Z4, (_root_.Go.Sx.E.a (eV x0 Y0 nx0 y1 y2 y3 y4 y5 y6 y7 y8 y9 Ax0_0 Ax0_1 Ax0_2 Ax0_3 Z4 Z5 Z6) e137), (_root_.Go.Sx.E.a (eV x0 Y0 nx0 y1 y2 y3 y4 y5 y6 y7 y8 y9 Ax0_0 Ax0_1 Ax0_2 Ax0_3 Z4 Z5 Z6) e136), (by kernel_rfl), hB, ?_⟩, ?_⟩
  ·
    simp only [eBase] at hB
    obtain ⟨b0, c0, c1, c2, c3, en, ea0, ea1, ea2, ea3, hs, _⟩ := hB
    simp only [eJ1] at hJ
    obtain ⟨l1, l2, l3, l4, l5, l6, l7, l8, l9, m4, m5, m6, i1, _⟩ := hJ
    have p1 := hs (y1.toNat + 1) (by omega)
    rw [← ea2] at p1
    have p2 : pSum Ax0_2 (y1.toNat + 1) = pSum Ax0_2 y1.toNat + 8 + 2 * Ax0_2 y1.toNat := rfl
    have p3 := c2 y1.toNat
    have p4 : 8 * (y1.toNat : Int) ≤ pSum Ax0_2 y1.toNat := pSum_le (fun j => (c2 j).1) _
    have p5 : (y1 + 1).toNat = y1.toNat + 1 := by omega
    simp only [eJ2]
    refine ⟨l1, l2, ?_, ?_, l5, l6, ?_, l8, ?_, m4, (arr_at hH (by kernel_rfl)), (arr_at hH (by kernel_rfl)), ?_, ?_, trivial⟩
    all_goals
      try simp only [e55, e83, e84, e85, e86, e87, e91, e95, e103, e133, e134, e135, e136, e137, eV, i_v, i_lit, i_add, i_sub, i_sel, a_av, a_tab, a_upd, List.getD_cons_zero, List.getD_cons_succ]
      first
        | omega
        | (rw [p5]; omega)
        | (intro j hj; have : j = 0 := by omega
           subst this; simp; omega)
  simp only [eBase] at hB
  obtain ⟨b0, c0, c1, c2, c3, en, ea0, ea1, ea2, ea3, hs, _⟩ := hB
  simp only [eJ1] at hJ
  obtain ⟨l1, l2, l3, l4, l5, l6, l7, l8, l9, m4, m5, m6, i1, _⟩ := hJ
  simp only [emu, Env.app, setAll, List.map_cons, List.map_nil, List.set, e55, e83, e84, e85, e86, e87, e91, e95, e103, e133, e134, e135, e136, e137, eV, i_v, i_lit, i_add, i_sub, i_sel, a_av, a_tab, a_upd, List.getD_cons_zero, List.getD_cons_succ]
  omega
noncomputable def eH1_w7 : Hyp := { eh1.H with e := [((.v 8), (0, 0)), (e82, (7, 9223372036854775807))] ++ eh1.H.e, b := [(e54, true)] ++ eh1.H.b }
set_option maxHeartbeats 40000000 in
theorem esg1_w7 : segL Try.prog G Gh eD ehs [] 3000 0 3 { eh1 with H := eH1_w7 } = some (.jump 1 eT1 ⟨[(8, (.lit 2)), (2, (.v 2)), (1, e55)], [], [(4, (.av 4))]⟩) := by kernel_rfl
theorem evc1_w7 (x0 : Ext) (Y0 : Nat → Ext) (nx0 y1 y2 y3 y4 y5 y6 y7 y8 y9 : Int) (Ax0_0 Ax0_1 Ax0_2 Ax0_3 Z4 Z5 Z6 : Nat → Int) (hB : eBase x0 Y0 nx0 Ax0_0 Ax0_1 Ax0_2 Ax0_3) (hJ : eJ1 nx0 y1 y2 y3 y4 y5 y6 y7 y8 y9 Ax0_0 Ax0_1 Ax0_2 Ax0_3 Z4 Z5 Z6) (hH : Hyp.ok eH1_w7 (eV x0 Y0 nx0 y1 y2 y3 y4 y5 y6 y7 y8 y9 Ax0_0 Ax0_1 Ax0_2 Ax0_3 Z4 Z5 Z6)) (hF0 : 0 ≤ y8 ∧ y8 ≤ 0) (hF1 : 7 ≤ Ax0_0 y1.toNat ∧ Ax0_0 y1.toNat ≤ 9223372036854775807) (hG0 : y1 < nx0) :
    LT.holds (eV x0 Y0 nx0 y1 y2 y3 y4 y5 y6 y7 y8 y9 Ax0_0 Ax0_1 Ax0_2 Ax0_3 Z4 Z5 Z6) (fun v _ => retTrue (eV x0 Y0 nx0 y1 y2 y3 y4 y5 y6 y7 y8 y9 Ax0_0 Ax0_1 Ax0_2 Ax0_3 Z4 Z5 Z6) v) (fun j' todo ρ' => (ehs[j']?.map (·.todo)) = some todo ∧ eInv x0 Y0 j' ρ' ∧ emu j' ρ' < emu 1 (eV x0 Y0 nx0 y1 y2 y3 y4 y5 y6 y7 y8 y9 Ax0_0 Ax0_1 Ax0_2 Ax0_3 Z4 Z5 Z6)) (.jump 1 eT1 ⟨[(8, (.lit 2)), (2, (.v 2)), (1, e55)], [], [(4, (.av 4))]⟩) := by
  simp only [LT.holds, retTrue]
  refine ⟨ehT1, ⟨nx0, (_root_.Go.Sx.E.i (eV x0 Y0 nx0 y1 y2 y3 y4 y5 y6 y7 y8 y9 Ax0_0 Ax0_1 Ax0_2 Ax0_3 Z4 Z5 Z6) e55), y2, y3, y4, y5, y6, y7, (_root_.Go.Sx.E.i (eV x0 Y0 nx0 y1 y2 y3 y4 y5 y6 y7 y8 y9 Ax0_0 Ax0_1 Ax0_2 Ax0_3 Z4 Z5 Z6) (.lit 2)), y9, Ax0_0, Ax0_1, Ax0_2, Ax0_3, Z4, Z5, Z6, (by kernel_rfl), hB, ?_⟩, ?_⟩
  ·
    simp only [eBase] at hB
    obtain ⟨b0, c0, c1, c2, c3, en, ea0, ea1, ea2, ea3, hs, _⟩ := hB
    simp only [eJ1] at hJ
    obtain ⟨l1, l2, l3, l4, l5, l6, l7, l8, l9, m4, m5, m6, i1, _⟩ := hJ
    have p1 := hs (y1.toNat + 1) (by omega)
    rw [← ea2] at p1
    have p2 : pSum Ax0_2 (y1.toNat + 1) = pSum Ax0_2 y1.toNat + 8 + 2 * Ax0_2 y1.toNat := rfl
    have p3 := c2 y1.toNat
    have p4 : 8 * (y1.toNat : Int) ≤ pSum Ax0_2 y1.toNat := pSum_le (fun j => (c2 j).1) _
    have p5 : (y1 + 1).toNat = y1.toNat + 1 := by omega
    simp only [eJ1]
    refine ⟨?_, l2, l3, l4, l5, l6, l7, ?_, l9, m4, m5, m6, ?_, trivial⟩
    all_goals
      try simp only [e55, eV, i_v, i_lit, i_add, i_sub, i_sel, a_av, a_tab, a_upd, List.getD_cons_zero, List.getD_cons_succ]
      first
        | omega
        | (rw [p5]; omega)
  simp only [eBase] at hB
  obtain ⟨b0, c0, c1, c2, c3, en, ea0, ea1, ea2, ea3, hs, _⟩ := hB
  simp only [eJ1] at hJ
  obtain ⟨l1, l2, l3, l4, l5, l6, l7, l8, l9, m4, m5, m6, i1, _⟩ := hJ
  simp only [emu, Env.app, setAll, List.map_cons, List.map_nil, List.set, e55, eV, i_v, i_lit, i_add, i_sub, i_sel, a_av, a_tab, a_upd, List.getD_cons_zero, List.getD_cons_succ]
  omega
noncomputable def eH1_wm : Hyp := { eh1.H with e := [((.v 8), (0, 0)), (e82, ((-9223372036854775808), (-1)))] ++ eh1.H.e, b := [(e54, true)] ++ eh1.H.b }
set_option maxHeartbeats 40000000 in
theorem esg1_wm : segL Try.prog G Gh eD ehs [] 3000 0 3 { eh1 with H := eH1_wm } = some (.jump 1 eT1 ⟨[(8, (.lit 2)), (2, (.v 2)), (1, e55)], [], [(4, (.av 4))]⟩) := by kernel_rfl
theorem evc1_wm (x0 : Ext) (Y0 : Nat → Ext) (nx0 y1 y2 y3 y4 y5 y6 y7 y8 y9 : Int) (Ax0_0 Ax0_1 Ax0_2 Ax0_3 Z4 Z5 Z6 : Nat → Int) (hB : eBase x0 Y0 nx0 Ax0_0 Ax0_1 Ax0_2 Ax0_3) (hJ : eJ1 nx0 y1 y2 y3 y4 y5 y6 y7 y8 y9 Ax0_0 Ax0_1 Ax0_2 Ax0_3 Z4 Z5 Z6) (hH : Hyp.ok eH1_wm (eV x0 Y0 nx0 y1 y2 y3 y4 y5 y6 y7 y8 y9 Ax0_0 Ax0_1 Ax0_2 Ax0_3 Z4 Z5 Z6)) (hF0 : 0 ≤ y8 ∧ y8 ≤ 0) (hF1 : -9223372036854775808 ≤ Ax0_0 y1.toNat ∧ Ax0_0 y1.toNat ≤ -1) (hG0 : y1 < nx0) :
    LT.holds (eV x0 Y0 nx0 y1 y2 y3 y4 y5 y6 y7 y8 y9 Ax0_0 Ax0_1 Ax0_2 Ax0_3 Z4 Z5 Z6) (fun v _ => retTrue (eV x0 Y0 nx0 y1 y2 y3 y4 y5 y6 y7 y8 y9 Ax0_0 Ax0_1 Ax0_2 Ax0_3 Z4 Z5 Z6) v) (fun j' todo ρ' => (ehs[j']?.map (·.todo)) = some todo ∧ eInv x0 Y0 j' ρ' ∧ emu j' ρ' < emu 1 (eV x0 Y0 nx0 y1 y2 y3 y4 y5 y6 y7 y8 y9 Ax0_0 Ax0_1 Ax0_2 Ax0_3 Z4 Z5 Z6)) (.jump 1 eT1 ⟨[(8, (.lit 2)), (2, (.v 2)), (1, e55)], [], [(4, (.av 4))]⟩) := by
  simp only [LT.holds, retTrue]
  refine ⟨ehT1, ⟨nx0, (_root_.Go.Sx.E.i (eV x0 Y0 nx0 y1 y2 y3 y4 y5 y6 y7 y8 y9 Ax0_0 Ax0_1 Ax0_2 Ax0_3 Z4 Z5 Z6) e55), y2, y3, y4, y5, y6, y7, (_root_.Go.Sx.E.i (eV x0 Y0 nx0 y1 y2 y3 y4 y5 y6 y7 y8 y9 Ax0_0 Ax0_1 Ax0_2 Ax0_3 Z4 Z5 Z6) (.lit 2)), y9, Ax0_0, Ax0_1, Ax0_2, Ax0_3, Z4, Z5, Z6, (by kernel_rfl), hB, ?_⟩, ?_⟩
  ·
    simp only [eBase] at hB
    obtain ⟨b0, c0, c1, c2, c3, en, ea0, ea1, ea2, ea3, hs, _⟩ := hB
    simp only [eJ1] at hJ
    obtain ⟨l1, l2, l3, l4, l5, l6, l7, l8, l9, m4, m5, m6, i1, _⟩ := hJ
    have p1 := hs (y1.toNat + 1) (by omega)
    rw [← ea2] at p1
    have p2 : pSum Ax0_2 (y1.toNat + 1) = pSum Ax0_2 y1.toNat + 8 + 2 * Ax0_2 y1.toNat := rfl
    have p3 := c2 y1.toNat
    have p4 : 8 * (y1.toNat : Int) ≤ pSum Ax0_2 y1.toNat := pSum_le (fun j => (c2 j).1) _
    have p5 : (y1 + 1).toNat = y1.toNat + 1 := by omega
    simp only [eJ1]
    refine ⟨?_, l2, l3, l4, l5, l6, l7, ?_, l9, m4, m5, m6, ?_, trivial⟩
    all_goals
      try simp only [e55, eV, i_v, i_lit, i_add, i_sub, i_sel, a_av, a_tab, a_upd, List.getD_cons_zero, List.getD_cons_succ]
      first
        | omega
        | (rw [p5]; omega)
  simp only [eBase] at hB
  obtain ⟨b0, c0, c1, c2, c3, en, ea0, ea1, ea2, ea3, hs, _⟩ := hB
  simp only [eJ1] at hJ
  obtain ⟨l1, l2, l3, l4, l5, l6, l7, l8, l9, m4, m5, m6, i1, _⟩ := hJ
  simp only [emu, Env.app, setAll, List.map_cons, List.map_nil, List.set, e55, eV, i_v, i_lit, i_add, i_sub, i_sel, a_av, a_tab, a_upd, List.getD_cons_zero, List.getD_cons_succ]
  omega
end Go.Proofs.Ytflamojcdfmimaa.SaveWrites
