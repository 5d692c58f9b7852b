/- A part of the law SaveWrites, which returns true for every input. A writer that is told values and parts, in every order, gives just the document's bytes, whenever it is asked. No condition. -/
import Derived.Test.YtflamojcdfmimaaSaveWritesB
namespace Go.Proofs.Ytflamojcdfmimaa.SaveWrites
open Go.Sx Go.ChangeShapes Go.WideShapes Go.ChangeAt Go.RowKit
set_option linter.unusedVariables false
set_option linter.unusedSimpArgs false
set_option maxRecDepth 100000
noncomputable def eH0_xe : Hyp := { eh0.H with e := [((.v 6), (1, 255))] ++ eh0.H.e, b := [(e0, false)] ++ eh0.H.b }
set_option maxHeartbeats 40000000 in
theorem esg0_xe : segL Try.prog G Gh eD ehs [] 3000 0 3 { eh0 with H := eH0_xe } = some (.ret (.s (.bool (.blit true))) [⟨69, [.one (.nilSlc), .run .i64 (.lit 16) (.tab []) 0, .one (.int .i64 (.lit 0)), .one (.int .i64 (.v 6))], true, none, false⟩, ⟨29, [.one (.nilSlc), .one (.nilSlc), .one (.int .i64 (.v 6))], true, none, false⟩]) := by kernel_rfl
theorem evc0_xe (x0 : Ext) (Y0 : Nat → Ext) (nx0 y1 y2 y3 y4 y5 y6 y7 y8 y9 : Int) (Ax0_0 Ax0_1 Ax0_2 Ax0_3 Z4 Z5 Z6 : Nat → Int) (hB : eBase x0 Y0 nx0 Ax0_0 Ax0_1 Ax0_2 Ax0_3) (hJ : eJ0 nx0 y1 y2 y3 y4 y5 y6 y7 y8 y9 Ax0_0 Ax0_1 Ax0_2 Ax0_3 Z4 Z5 Z6) (hH : Hyp.ok eH0_xe (eV x0 Y0 nx0 y1 y2 y3 y4 y5 y6 y7 y8 y9 Ax0_0 Ax0_1 Ax0_2 Ax0_3 Z4 Z5 Z6)) (hF0 : 1 ≤ y6 ∧ y6 ≤ 255) (hG0 : ¬ y5 < nx0) :
    LT.holds (eV x0 Y0 nx0 y1 y2 y3 y4 y5 y6 y7 y8 y9 Ax0_0 Ax0_1 Ax0_2 Ax0_3 Z4 Z5 Z6) (fun v _ => retTrue (eV x0 Y0 nx0 y1 y2 y3 y4 y5 y6 y7 y8 y9 Ax0_0 Ax0_1 Ax0_2 Ax0_3 Z4 Z5 Z6) v) (fun j' todo ρ' => (ehs[j']?.map (·.todo)) = some todo ∧ eInv x0 Y0 j' ρ' ∧ emu j' ρ' < emu 0 (eV x0 Y0 nx0 y1 y2 y3 y4 y5 y6 y7 y8 y9 Ax0_0 Ax0_1 Ax0_2 Ax0_3 Z4 Z5 Z6)) (.ret (.s (.bool (.blit true))) [⟨69, [.one (.nilSlc), .run .i64 (.lit 16) (.tab []) 0, .one (.int .i64 (.lit 0)), .one (.int .i64 (.v 6))], true, none, false⟩, ⟨29, [.one (.nilSlc), .one (.nilSlc), .one (.int .i64 (.v 6))], true, none, false⟩]) := by
  simp only [LT.holds, retTrue]
  rfl
noncomputable def eH0_ge : Hyp := { eh0.H with e := [((.v 6), (1, 255))] ++ eh0.H.e, b := [(e0, true)] ++ eh0.H.b }
set_option maxHeartbeats 40000000 in
theorem esg0_ge : segL Try.prog G Gh eD ehs [] 3000 0 3 { eh0 with H := eH0_ge } = some (.jump 0 eT0 ⟨[(6, (.v 6)), (5, e1)], [], []⟩) := by kernel_rfl
theorem evc0_ge (x0 : Ext) (Y0 : Nat → Ext) (nx0 y1 y2 y3 y4 y5 y6 y7 y8 y9 : Int) (Ax0_0 Ax0_1 Ax0_2 Ax0_3 Z4 Z5 Z6 : Nat → Int) (hB : eBase x0 Y0 nx0 Ax0_0 Ax0_1 Ax0_2 Ax0_3) (hJ : eJ0 nx0 y1 y2 y3 y4 y5 y6 y7 y8 y9 Ax0_0 Ax0_1 Ax0_2 Ax0_3 Z4 Z5 Z6) (hH : Hyp.ok eH0_ge (eV x0 Y0 nx0 y1 y2 y3 y4 y5 y6 y7 y8 y9 Ax0_0 Ax0_1 Ax0_2 Ax0_3 Z4 Z5 Z6)) (hF0 : 1 ≤ y6 ∧ y6 ≤ 255) (hG0 : y5 < nx0) :
    LT.holds (eV x0 Y0 nx0 y1 y2 y3 y4 y5 y6 y7 y8 y9 Ax0_0 Ax0_1 Ax0_2 Ax0_3 Z4 Z5 Z6) (fun v _ => retTrue (eV x0 Y0 nx0 y1 y2 y3 y4 y5 y6 y7 y8 y9 Ax0_0 Ax0_1 Ax0_2 Ax0_3 Z4 Z5 Z6) v) (fun j' todo ρ' => (ehs[j']?.map (·.todo)) = some todo ∧ eInv x0 Y0 j' ρ' ∧ emu j' ρ' < emu 0 (eV x0 Y0 nx0 y1 y2 y3 y4 y5 y6 y7 y8 y9 Ax0_0 Ax0_1 Ax0_2 Ax0_3 Z4 Z5 Z6)) (.jump 0 eT0 ⟨[(6, (.v 6)), (5, e1)], [], []⟩) := by
  simp only [LT.holds, retTrue]
  refine ⟨ehT0, ⟨nx0, y1, y2, y3, y4, (_root_.Go.Sx.E.i (eV x0 Y0 nx0 y1 y2 y3 y4 y5 y6 y7 y8 y9 Ax0_0 Ax0_1 Ax0_2 Ax0_3 Z4 Z5 Z6) e1), y6, y7, y8, y9, Ax0_0, Ax0_1, Ax0_2, Ax0_3, Z4, Z5, Z6, (by kernel_rfl), hB, ?_⟩, ?_⟩
  ·
    simp only [eBase] at hB
    obtain ⟨b0, c0, c1, c2, c3, en, ea0, ea1, ea2, ea3, hs, _⟩ := hB
    simp only [eJ0] at hJ
    obtain ⟨l1, l2, l3, l4, l5, l6, l7, l8, l9, m4, m5, m6, _⟩ := hJ
    have p1 := hs (y5.toNat + 1) (by omega)
    rw [← ea2] at p1
    have p2 : pSum Ax0_2 (y5.toNat + 1) = pSum Ax0_2 y5.toNat + 8 + 2 * Ax0_2 y5.toNat := rfl
    have p3 := c2 y5.toNat
    have p4 : 8 * (y5.toNat : Int) ≤ pSum Ax0_2 y5.toNat := pSum_le (fun j => (c2 j).1) _
    have p5 : (y5 + 1).toNat = y5.toNat + 1 := by omega
    simp only [eJ0]
    refine ⟨l1, l2, l3, l4, ?_, l6, l7, l8, l9, m4, m5, m6, trivial⟩
    all_goals
      try simp only [e1, eV, i_v, i_lit, i_add, i_sub, i_sel, a_av, a_tab, a_upd, List.getD_cons_zero, List.getD_cons_succ]
      first
        | omega
        | (rw [p5]; omega)
  simp only [eBase] at hB
  obtain ⟨b0, c0, c1, c2, c3, en, ea0, ea1, ea2, ea3, hs, _⟩ := hB
  simp only [eJ0] at hJ
  obtain ⟨l1, l2, l3, l4, l5, l6, l7, l8, l9, m4, m5, m6, _⟩ := hJ
  simp only [emu, Env.app, setAll, List.map_cons, List.map_nil, List.set, e1, eV, i_v, i_lit, i_add, i_sub, i_sel, a_av, a_tab, a_upd, List.getD_cons_zero, List.getD_cons_succ]
  omega
noncomputable def eH0_x0 : Hyp := { eh0.H with e := [((.v 6), (0, 0))] ++ eh0.H.e, b := [(e0, false)] ++ eh0.H.b }
set_option maxHeartbeats 40000000 in
theorem esg0_x0 : segL Try.prog G Gh eD ehs [] 3000 0 3 { eh0 with H := eH0_x0 } = some (.ret (.s (.bool (.blit true))) [⟨69, [.one (.nilSlc), .run .i64 (.lit 16) (.tab []) 0, .one (.int .i64 (.lit 0)), .one (.int .i64 (.v 6))], true, none, false⟩, ⟨29, [.one (.nilSlc), .one (.nilSlc), .one (.int .i64 (.v 6))], true, none, false⟩, ⟨5, [.one (.int .u8 (.lit 76)), .one (.int .u8 (.lit 65)), .one (.int .u8 (.lit 78)), .one (.int .u8 (.lit 84)), .one (.int .u8 (.lit 1)), .one (.int .u8 (.lit 0)), .one (.int .u8 (.lit 0)), .one (.int .u8 (.lit 0)), .one (.int .u8 (.lit 0)), .one (.int .u8 e3), .one (.int .u8 e5), .one (.int .u8 e7), .one (.int .u8 e8)], true, some 1, false⟩, ⟨5, [.one (.int .u8 (.lit 76)), .one (.int .u8 (.lit 65)), .one (.int .u8 (.lit 78)), .one (.int .u8 (.lit 84)), .one (.int .u8 (.lit 1)), .one (.int .u8 (.lit 0)), .one (.int .u8 (.lit 0)), .one (.int .u8 (.lit 0)), .one (.int .u8 (.lit 0)), .one (.int .u8 e3), .one (.int .u8 e5), .one (.int .u8 e7), .one (.int .u8 e8)], true, some 1, false⟩]) := by kernel_rfl
theorem evc0_x0 (x0 : Ext) (Y0 : Nat → Ext) (nx0 y1 y2 y3 y4 y5 y6 y7 y8 y9 : Int) (Ax0_0 Ax0_1 Ax0_2 Ax0_3 Z4 Z5 Z6 : Nat → Int) (hB : eBase x0 Y0 nx0 Ax0_0 Ax0_1 Ax0_2 Ax0_3) (hJ : eJ0 nx0 y1 y2 y3 y4 y5 y6 y7 y8 y9 Ax0_0 Ax0_1 Ax0_2 Ax0_3 Z4 Z5 Z6) (hH : Hyp.ok eH0_x0 (eV x0 Y0 nx0 y1 y2 y3 y4 y5 y6 y7 y8 y9 Ax0_0 Ax0_1 Ax0_2 Ax0_3 Z4 Z5 Z6)) (hF0 : 0 ≤ y6 ∧ y6 ≤ 0) (hG0 : ¬ y5 < nx0) :
    LT.holds (eV x0 Y0 nx0 y1 y2 y3 y4 y5 y6 y7 y8 y9 Ax0_0 Ax0_1 Ax0_2 Ax0_3 Z4 Z5 Z6) (fun v _ => retTrue (eV x0 Y0 nx0 y1 y2 y3 y4 y5 y6 y7 y8 y9 Ax0_0 Ax0_1 Ax0_2 Ax0_3 Z4 Z5 Z6) v) (fun j' todo ρ' => (ehs[j']?.map (·.todo)) = some todo ∧ eInv x0 Y0 j' ρ' ∧ emu j' ρ' < emu 0 (eV x0 Y0 nx0 y1 y2 y3 y4 y5 y6 y7 y8 y9 Ax0_0 Ax0_1 Ax0_2 Ax0_3 Z4 Z5 Z6)) (.ret (.s (.bool (.blit true))) [⟨69, [.one (.nilSlc), .run .i64 (.lit 16) (.tab []) 0, .one (.int .i64 (.lit 0)), .one (.int .i64 (.v 6))], true, none, false⟩, ⟨29, [.one (.nilSlc), .one (.nilSlc), .one (.int .i64 (.v 6))], true, none, false⟩, ⟨5, [.one (.int .u8 (.lit 76)), .one (.int .u8 (.lit 65)), .one (.int .u8 (.lit 78)), .one (.int .u8 (.lit 84)), .one (.int .u8 (.lit 1)), .one (.int .u8 (.lit 0)), .one (.int .u8 (.lit 0)), .one (.int .u8 (.lit 0)), .one (.int .u8 (.lit 0)), .one (.int .u8 e3), .one (.int .u8 e5), .one (.int .u8 e7), .one (.int .u8 e8)], true, some 1, false⟩, ⟨5, [.one (.int .u8 (.lit 76)), .one (.int .u8 (.lit 65)), .one (.int .u8 (.lit 78)), .one (.int .u8 (.lit 84)), .one (.int .u8 (.lit 1)), .one (.int .u8 (.lit 0)), .one (.int .u8 (.lit 0)), .one (.int .u8 (.lit 0)), .one (.int .u8 (.lit 0)), .one (.int .u8 e3), .one (.int .u8 e5), .one (.int .u8 e7), .one (.int .u8 e8)], true, some 1, false⟩]) := by
  simp only [LT.holds, retTrue]
  rfl
noncomputable def eH0_w0 : Hyp := { eh0.H with e := [((.v 6), (0, 0)), (e9, (0, 0))] ++ eh0.H.e, b := [(e0, true)] ++ eh0.H.b }
set_option maxHeartbeats 40000000 in
theorem esg0_w0 : segL Try.prog G Gh eD ehs [] 3000 0 3 { eh0 with H := eH0_w0 } = some (.jump 1 eT1 ⟨[(8, (.v 6)), (2, (.lit 1)), (1, e1)], [], [(4, e12)]⟩) := by kernel_rfl
theorem evc0_w0 (x0 : Ext) (Y0 : Nat → Ext) (nx0 y1 y2 y3 y4 y5 y6 y7 y8 y9 : Int) (Ax0_0 Ax0_1 Ax0_2 Ax0_3 Z4 Z5 Z6 : Nat → Int) (hB : eBase x0 Y0 nx0 Ax0_0 Ax0_1 Ax0_2 Ax0_3) (hJ : eJ0 nx0 y1 y2 y3 y4 y5 y6 y7 y8 y9 Ax0_0 Ax0_1 Ax0_2 Ax0_3 Z4 Z5 Z6) (hH : Hyp.ok eH0_w0 (eV x0 Y0 nx0 y1 y2 y3 y4 y5 y6 y7 y8 y9 Ax0_0 Ax0_1 Ax0_2 Ax0_3 Z4 Z5 Z6)) (hF0 : 0 ≤ y6 ∧ y6 ≤ 0) (hF1 : 0 ≤ Ax0_0 y5.toNat ∧ Ax0_0 y5.toNat ≤ 0) (hG0 : y5 < nx0) :
    LT.holds (eV x0 Y0 nx0 y1 y2 y3 y4 y5 y6 y7 y8 y9 Ax0_0 Ax0_1 Ax0_2 Ax0_3 Z4 Z5 Z6) (fun v _ => retTrue (eV x0 Y0 nx0 y1 y2 y3 y4 y5 y6 y7 y8 y9 Ax0_0 Ax0_1 Ax0_2 Ax0_3 Z4 Z5 Z6) v) (fun j' todo ρ' => (ehs[j']?.map (·.todo)) = some todo ∧ eInv x0 Y0 j' ρ' ∧ emu j' ρ' < emu 0 (eV x0 Y0 nx0 y1 y2 y3 y4 y5 y6 y7 y8 y9 Ax0_0 Ax0_1 Ax0_2 Ax0_3 Z4 Z5 Z6)) (.jump 1 eT1 ⟨[(8, (.v 6)), (2, (.lit 1)), (1, e1)], [], [(4, e12)]⟩) := by
  simp only [LT.holds, retTrue]
  refine ⟨ehT1, ⟨nx0, (_root_.Go.Sx.E.i (eV x0 Y0 nx0 y1 y2 y3 y4 y5 y6 y7 y8 y9 Ax0_0 Ax0_1 Ax0_2 Ax0_3 Z4 Z5 Z6) e1), (_root_.Go.Sx.E.i (eV x0 Y0 nx0 y1 y2 y3 y4 y5 y6 y7 y8 y9 Ax0_0 Ax0_1 Ax0_2 Ax0_3 Z4 Z5 Z6) (.lit 1)), y3, y4, y5, y6, y7, y6, y9, Ax0_0, Ax0_1, Ax0_2, Ax0_3, (_root_.Go.Sx.E.a (eV x0 Y0 nx0 y1 y2 y3 y4 y5 y6 y7 y8 y9 Ax0_0 Ax0_1 Ax0_2 Ax0_3 Z4 Z5 Z6) e12), Z5, Z6, (by kernel_rfl), hB, ?_⟩, ?_⟩
  ·
    simp only [eBase] at hB
    obtain ⟨b0, c0, c1, c2, c3, en, ea0, ea1, ea2, ea3, hs, _⟩ := hB
    simp only [eJ0] at hJ
    obtain ⟨l1, l2, l3, l4, l5, l6, l7, l8, l9, m4, m5, m6, _⟩ := hJ
    have p1 := hs (y5.toNat + 1) (by omega)
    rw [← ea2] at p1
    have p2 : pSum Ax0_2 (y5.toNat + 1) = pSum Ax0_2 y5.toNat + 8 + 2 * Ax0_2 y5.toNat := rfl
    have p3 := c2 y5.toNat
    have p4 : 8 * (y5.toNat : Int) ≤ pSum Ax0_2 y5.toNat := pSum_le (fun j => (c2 j).1) _
    have p5 : (y5 + 1).toNat = y5.toNat + 1 := by omega
    simp only [eJ1]
    refine ⟨?_, ?_, l3, l4, l5, l6, l7, ?_, l9, (arr_at hH (by kernel_rfl)), m5, m6, ?_, trivial⟩
    all_goals
      try simp only [e1, e10, e11, e12, eV, i_v, i_lit, i_add, i_sub, i_sel, a_av, a_tab, a_upd, List.getD_cons_zero, List.getD_cons_succ]
      first
        | omega
        | (rw [p5]; omega)
  simp only [eBase] at hB
  obtain ⟨b0, c0, c1, c2, c3, en, ea0, ea1, ea2, ea3, hs, _⟩ := hB
  simp only [eJ0] at hJ
  obtain ⟨l1, l2, l3, l4, l5, l6, l7, l8, l9, m4, m5, m6, _⟩ := hJ
  simp only [emu, Env.app, setAll, List.map_cons, List.map_nil, List.set, e1, e10, e11, e12, eV, i_v, i_lit, i_add, i_sub, i_sel, a_av, a_tab, a_upd, List.getD_cons_zero, List.getD_cons_succ]
  omega
noncomputable def eH0_w1 : Hyp := { eh0.H with e := [((.v 6), (0, 0)), (e9, (1, 1))] ++ eh0.H.e, b := [(e0, true)] ++ eh0.H.b }
set_option maxHeartbeats 40000000 in
theorem esg0_w1 : segL Try.prog G Gh eD ehs [] 3000 0 3 { eh0 with H := eH0_w1 } = some (.jump 1 eT1 ⟨[(8, (.v 6)), (2, (.lit 2)), (1, e1)], [], [(4, e15)]⟩) := by kernel_rfl
theorem evc0_w1 (x0 : Ext) (Y0 : Nat → Ext) (nx0 y1 y2 y3 y4 y5 y6 y7 y8 y9 : Int) (Ax0_0 Ax0_1 Ax0_2 Ax0_3 Z4 Z5 Z6 : Nat → Int) (hB : eBase x0 Y0 nx0 Ax0_0 Ax0_1 Ax0_2 Ax0_3) (hJ : eJ0 nx0 y1 y2 y3 y4 y5 y6 y7 y8 y9 Ax0_0 Ax0_1 Ax0_2 Ax0_3 Z4 Z5 Z6) (hH : Hyp.ok eH0_w1 (eV x0 Y0 nx0 y1 y2 y3 y4 y5 y6 y7 y8 y9 Ax0_0 Ax0_1 Ax0_2 Ax0_3 Z4 Z5 Z6)) (hF0 : 0 ≤ y6 ∧ y6 ≤ 0) (hF1 : 1 ≤ Ax0_0 y5.toNat ∧ Ax0_0 y5.toNat ≤ 1) (hG0 : y5 < nx0) :
    LT.holds (eV x0 Y0 nx0 y1 y2 y3 y4 y5 y6 y7 y8 y9 Ax0_0 Ax0_1 Ax0_2 Ax0_3 Z4 Z5 Z6) (fun v _ => retTrue (eV x0 Y0 nx0 y1 y2 y3 y4 y5 y6 y7 y8 y9 Ax0_0 Ax0_1 Ax0_2 Ax0_3 Z4 Z5 Z6) v) (fun j' todo ρ' => (ehs[j']?.map (·.todo)) = some todo ∧ eInv x0 Y0 j' ρ' ∧ emu j' ρ' < emu 0 (eV x0 Y0 nx0 y1 y2 y3 y4 y5 y6 y7 y8 y9 Ax0_0 Ax0_1 Ax0_2 Ax0_3 Z4 Z5 Z6)) (.jump 1 eT1 ⟨[(8, (.v 6)), (2, (.lit 2)), (1, e1)], [], [(4, e15)]⟩) := by
  simp only [LT.holds, retTrue]
  refine ⟨ehT1, ⟨nx0, (_root_.Go.Sx.E.i (eV x0 Y0 nx0 y1 y2 y3 y4 y5 y6 y7 y8 y9 Ax0_0 Ax0_1 Ax0_2 Ax0_3 Z4 Z5 Z6) e1), (_root_.Go.Sx.E.i (eV x0 Y0 nx0 y1 y2 y3 y4 y5 y6 y7 y8 y9 Ax0_0 Ax0_1 Ax0_2 Ax0_3 Z4 Z5 Z6) (.lit 2)), y3, y4, y5, y6, y7, y6, y9, Ax0_0, Ax0_1, Ax0_2, Ax0_3, (_root_.Go.Sx.E.a (eV x0 Y0 nx0 y1 y2 y3 y4 y5 y6 y7 y8 y9 Ax0_0 Ax0_1 Ax0_2 Ax0_3 Z4 Z5 Z6) e15), Z5, Z6, (by kernel_rfl), hB, ?_⟩, ?_⟩
  ·
    simp only [eBase] at hB
    obtain ⟨b0, c0, c1, c2, c3, en, ea0, ea1, ea2, ea3, hs, _⟩ := hB
    simp only [eJ0] at hJ
    obtain ⟨l1, l2, l3, l4, l5, l6, l7, l8, l9, m4, m5, m6, _⟩ := hJ
    have p1 := hs (y5.toNat + 1) (by omega)
    rw [← ea2] at p1
    have p2 : pSum Ax0_2 (y5.toNat + 1) = pSum Ax0_2 y5.toNat + 8 + 2 * Ax0_2 y5.toNat := rfl
    have p3 := c2 y5.toNat
    have p4 : 8 * (y5.toNat : Int) ≤ pSum Ax0_2 y5.toNat := pSum_le (fun j => (c2 j).1) _
    have p5 : (y5 + 1).toNat = y5.toNat + 1 := by omega
    simp only [eJ1]
    refine ⟨?_, ?_, l3, l4, l5, l6, l7, ?_, l9, (arr_at hH (by kernel_rfl)), m5, m6, ?_, trivial⟩
    all_goals
      try simp only [e1, e10, e11, e12, e13, e14, e15, eV, i_v, i_lit, i_add, i_sub, i_sel, a_av, a_tab, a_upd, List.getD_cons_zero, List.getD_cons_succ]
      first
        | omega
        | (rw [p5]; omega)
  simp only [eBase] at hB
  obtain ⟨b0, c0, c1, c2, c3, en, ea0, ea1, ea2, ea3, hs, _⟩ := hB
  simp only [eJ0] at hJ
  obtain ⟨l1, l2, l3, l4, l5, l6, l7, l8, l9, m4, m5, m6, _⟩ := hJ
  simp only [emu, Env.app, setAll, List.map_cons, List.map_nil, List.set, e1, e10, e11, e12, e13, e14, e15, eV, i_v, i_lit, i_add, i_sub, i_sel, a_av, a_tab, a_upd, List.getD_cons_zero, List.getD_cons_succ]
  omega
noncomputable def eH0_w2 : Hyp := { eh0.H with e := [((.v 6), (0, 0)), (e9, (2, 2))] ++ eh0.H.e, b := [(e0, true)] ++ eh0.H.b }
set_option maxHeartbeats 40000000 in
theorem esg0_w2 : segL Try.prog G Gh eD ehs [] 3000 0 3 { eh0 with H := eH0_w2 } = some (.jump 1 eT1 ⟨[(8, (.v 6)), (2, (.lit 4)), (1, e1)], [], [(4, e21)]⟩) := by kernel_rfl
theorem evc0_w2 (x0 : Ext) (Y0 : Nat → Ext) (nx0 y1 y2 y3 y4 y5 y6 y7 y8 y9 : Int) (Ax0_0 Ax0_1 Ax0_2 Ax0_3 Z4 Z5 Z6 : Nat → Int) (hB : eBase x0 Y0 nx0 Ax0_0 Ax0_1 Ax0_2 Ax0_3) (hJ : eJ0 nx0 y1 y2 y3 y4 y5 y6 y7 y8 y9 Ax0_0 Ax0_1 Ax0_2 Ax0_3 Z4 Z5 Z6) (hH : Hyp.ok eH0_w2 (eV x0 Y0 nx0 y1 y2 y3 y4 y5 y6 y7 y8 y9 Ax0_0 Ax0_1 Ax0_2 Ax0_3 Z4 Z5 Z6)) (hF0 : 0 ≤ y6 ∧ y6 ≤ 0) (hF1 : 2 ≤ Ax0_0 y5.toNat ∧ Ax0_0 y5.toNat ≤ 2) (hG0 : y5 < nx0) :
    LT.holds (eV x0 Y0 nx0 y1 y2 y3 y4 y5 y6 y7 y8 y9 Ax0_0 Ax0_1 Ax0_2 Ax0_3 Z4 Z5 Z6) (fun v _ => retTrue (eV x0 Y0 nx0 y1 y2 y3 y4 y5 y6 y7 y8 y9 Ax0_0 Ax0_1 Ax0_2 Ax0_3 Z4 Z5 Z6) v) (fun j' todo ρ' => (ehs[j']?.map (·.todo)) = some todo ∧ eInv x0 Y0 j' ρ' ∧ emu j' ρ' < emu 0 (eV x0 Y0 nx0 y1 y2 y3 y4 y5 y6 y7 y8 y9 Ax0_0 Ax0_1 Ax0_2 Ax0_3 Z4 Z5 Z6)) (.jump 1 eT1 ⟨[(8, (.v 6)), (2, (.lit 4)), (1, e1)], [], [(4, e21)]⟩) := by
  simp only [LT.holds, retTrue]
  refine ⟨ehT1, ⟨nx0, (_root_.Go.Sx.E.i (eV x0 Y0 nx0 y1 y2 y3 y4 y5 y6 y7 y8 y9 Ax0_0 Ax0_1 Ax0_2 Ax0_3 Z4 Z5 Z6) e1), (_root_.Go.Sx.E.i (eV x0 Y0 nx0 y1 y2 y3 y4 y5 y6 y7 y8 y9 Ax0_0 Ax0_1 Ax0_2 Ax0_3 Z4 Z5 Z6) (.lit 4)), y3, y4, y5, y6, y7, y6, y9, Ax0_0, Ax0_1, Ax0_2, Ax0_3, (_root_.Go.Sx.E.a (eV x0 Y0 nx0 y1 y2 y3 y4 y5 y6 y7 y8 y9 Ax0_0 Ax0_1 Ax0_2 Ax0_3 Z4 Z5 Z6) e21), Z5, Z6, (by kernel_rfl), hB, ?_⟩, ?_⟩
  ·
    simp only [eBase] at hB
    obtain ⟨b0, c0, c1, c2, c3, en, ea0, ea1, ea2, ea3, hs, _⟩ := hB
    simp only [eJ0] at hJ
    obtain ⟨l1, l2, l3, l4, l5, l6, l7, l8, l9, m4, m5, m6, _⟩ := hJ
    have p1 := hs (y5.toNat + 1) (by omega)
    rw [← ea2] at p1
    have p2 : pSum Ax0_2 (y5.toNat + 1) = pSum Ax0_2 y5.toNat + 8 + 2 * Ax0_2 y5.toNat := rfl
    have p3 := c2 y5.toNat
    have p4 : 8 * (y5.toNat : Int) ≤ pSum Ax0_2 y5.toNat := pSum_le (fun j => (c2 j).1) _
    have p5 : (y5 + 1).toNat = y5.toNat + 1 := by omega
    simp only [eJ1]
    refine ⟨?_, ?_, l3, l4, l5, l6, l7, ?_, l9, (arr_at hH (by kernel_rfl)), m5, m6, ?_, trivial⟩
    all_goals
      try simp only [e1, e10, e11, e12, e13, e14, e15, e16, e17, e18, e19, e20, e21, eV, i_v, i_lit, i_add, i_sub, i_sel, a_av, a_tab, a_upd, List.getD_cons_zero, List.getD_cons_succ]
      first
        | omega
        | (rw [p5]; omega)
  simp only [eBase] at hB
  obtain ⟨b0, c0, c1, c2, c3, en, ea0, ea1, ea2, ea3, hs, _⟩ := hB
  simp only [eJ0] at hJ
  obtain ⟨l1, l2, l3, l4, l5, l6, l7, l8, l9, m4, m5, m6, _⟩ := hJ
  simp only [emu, Env.app, setAll, List.map_cons, List.map_nil, List.set, e1, e10, e11, e12, e13, e14, e15, e16, e17, e18, e19, e20, e21, eV, i_v, i_lit, i_add, i_sub, i_sel, a_av, a_tab, a_upd, List.getD_cons_zero, List.getD_cons_succ]
  omega
noncomputable def eH0_w3 : Hyp := { eh0.H with e := [((.v 6), (0, 0)), (e9, (3, 3))] ++ eh0.H.e, b := [(e0, true)] ++ eh0.H.b }
set_option maxHeartbeats 40000000 in
theorem esg0_w3 : segL Try.prog G Gh eD ehs [] 3000 0 3 { eh0 with H := eH0_w3 } = some (.jump 1 eT1 ⟨[(8, (.v 6)), (2, (.lit 8)), (1, e1)], [], [(4, e33)]⟩) := by kernel_rfl
theorem evc0_w3 (x0 : Ext) (Y0 : Nat → Ext) (nx0 y1 y2 y3 y4 y5 y6 y7 y8 y9 : Int) (Ax0_0 Ax0_1 Ax0_2 Ax0_3 Z4 Z5 Z6 : Nat → Int) (hB : eBase x0 Y0 nx0 Ax0_0 Ax0_1 Ax0_2 Ax0_3) (hJ : eJ0 nx0 y1 y2 y3 y4 y5 y6 y7 y8 y9 Ax0_0 Ax0_1 Ax0_2 Ax0_3 Z4 Z5 Z6) (hH : Hyp.ok eH0_w3 (eV x0 Y0 nx0 y1 y2 y3 y4 y5 y6 y7 y8 y9 Ax0_0 Ax0_1 Ax0_2 Ax0_3 Z4 Z5 Z6)) (hF0 : 0 ≤ y6 ∧ y6 ≤ 0) (hF1 : 3 ≤ Ax0_0 y5.toNat ∧ Ax0_0 y5.toNat ≤ 3) (hG0 : y5 < nx0) :
    LT.holds (eV x0 Y0 nx0 y1 y2 y3 y4 y5 y6 y7 y8 y9 Ax0_0 Ax0_1 Ax0_2 Ax0_3 Z4 Z5 Z6) (fun v _ => retTrue (eV x0 Y0 nx0 y1 y2 y3 y4 y5 y6 y7 y8 y9 Ax0_0 Ax0_1 Ax0_2 Ax0_3 Z4 Z5 Z6) v) (fun j' todo ρ' => (ehs[j']?.map (·.todo)) = some todo ∧ eInv x0 Y0 j' ρ' ∧ emu j' ρ' < emu 0 (eV x0 Y0 nx0 y1 y2 y3 y4 y5 y6 y7 y8 y9 Ax0_0 Ax0_1 Ax0_2 Ax0_3 Z4 Z5 Z6)) (.jump 1 eT1 ⟨[(8, (.v 6)), (2, (.lit 8)), (1, e1)], [], [(4, e33)]⟩) := by
  simp only [LT.holds, retTrue]
  refine ⟨ehT1, ⟨nx0, (_root_.Go.Sx.E.i (eV x0 Y0 nx0 y1 y2 y3 y4 y5 y6 y7 y8 y9 Ax0_0 Ax0_1 Ax0_2 Ax0_3 Z4 Z5 Z6) e1), (_root_.Go.Sx.E.i (eV x0 Y0 nx0 y1 y2 y3 y4 y5 y6 y7 y8 y9 Ax0_0 Ax0_1 Ax0_2 Ax0_3 Z4 Z5 Z6) (.lit 8)), y3, y4, y5, y6, y7, y6, y9, Ax0_0, Ax0_1, Ax0_2, Ax0_3, (_root_.Go.Sx.E.a (eV x0 Y0 nx0 y1 y2 y3 y4 y5 y6 y7 y8 y9 Ax0_0 Ax0_1 Ax0_2 Ax0_3 Z4 Z5 Z6) e33), Z5, Z6, (by kernel_rfl), hB, ?_⟩, ?_⟩
  ·
    simp only [eBase] at hB
    obtain ⟨b0, c0, c1, c2, c3, en, ea0, ea1, ea2, ea3, hs, _⟩ := hB
    simp only [eJ0] at hJ
    obtain ⟨l1, l2, l3, l4, l5, l6, l7, l8, l9, m4, m5, m6, _⟩ := hJ
    have p1 := hs (y5.toNat + 1) (by omega)
    rw [← ea2] at p1
    have p2 : pSum Ax0_2 (y5.toNat + 1) = pSum Ax0_2 y5.toNat + 8 + 2 * Ax0_2 y5.toNat := rfl
    have p3 := c2 y5.toNat
    have p4 : 8 * (y5.toNat : Int) ≤ pSum Ax0_2 y5.toNat := pSum_le (fun j => (c2 j).1) _
    have p5 : (y5 + 1).toNat = y5.toNat + 1 := by omega
    simp only [eJ1]
    refine ⟨?_, ?_, l3, l4, l5, l6, l7, ?_, l9, (arr_at hH (by kernel_rfl)), m5, m6, ?_, trivial⟩
    all_goals
      try simp only [e1, e10, e11, e12, e13, e14, e15, e16, e17, e18, e19, e20, e21, e22, e23, e24, e25, e26, e27, e28, e29, e30, e31, e32, e33, eV, i_v, i_lit, i_add, i_sub, i_sel, a_av, a_tab, a_upd, List.getD_cons_zero, List.getD_cons_succ]
      first
        | omega
        | (rw [p5]; omega)
  simp only [eBase] at hB
  obtain ⟨b0, c0, c1, c2, c3, en, ea0, ea1, ea2, ea3, hs, _⟩ := hB
  simp only [eJ0] at hJ
  obtain ⟨l1, l2, l3, l4, l5, l6, l7, l8, l9, m4, m5, m6, _⟩ := hJ
  simp only [emu, Env.app, setAll, List.map_cons, List.map_nil, List.set, e1, e10, e11, e12, e13, e14, e15, e16, e17, e18, e19, e20, e21, e22, e23, e24, e25, e26, e27, e28, e29, e30, e31, e32, e33, eV, i_v, i_lit, i_add, i_sub, i_sel, a_av, a_tab, a_upd, List.getD_cons_zero, List.getD_cons_succ]
  omega
noncomputable def eH0_w4 : Hyp := { eh0.H with e := [((.v 6), (0, 0)), (e9, (4, 4))] ++ eh0.H.e, b := [(e0, true)] ++ eh0.H.b }
set_option maxHeartbeats 40000000 in
theorem esg0_w4 : segL Try.prog G Gh eD ehs [] 3000 0 3 { eh0 with H := eH0_w4 } = some (.jump 1 eT1 ⟨[(8, (.v 6)), (2, (.lit 1)), (1, e1)], [], [(4, e35)]⟩) := by kernel_rfl
theorem evc0_w4 (x0 : Ext) (Y0 : Nat → Ext) (nx0 y1 y2 y3 y4 y5 y6 y7 y8 y9 : Int) (Ax0_0 Ax0_1 Ax0_2 Ax0_3 Z4 Z5 Z6 : Nat → Int) (hB : eBase x0 Y0 nx0 Ax0_0 Ax0_1 Ax0_2 Ax0_3) (hJ : eJ0 nx0 y1 y2 y3 y4 y5 y6 y7 y8 y9 Ax0_0 Ax0_1 Ax0_2 Ax0_3 Z4 Z5 Z6) (hH : Hyp.ok eH0_w4 (eV x0 Y0 nx0 y1 y2 y3 y4 y5 y6 y7 y8 y9 Ax0_0 Ax0_1 Ax0_2 Ax0_3 Z4 Z5 Z6)) (hF0 : 0 ≤ y6 ∧ y6 ≤ 0) (hF1 : 4 ≤ Ax0_0 y5.toNat ∧ Ax0_0 y5.toNat ≤ 4) (hG0 : y5 < nx0) :
    LT.holds (eV x0 Y0 nx0 y1 y2 y3 y4 y5 y6 y7 y8 y9 Ax0_0 Ax0_1 Ax0_2 Ax0_3 Z4 Z5 Z6) (fun v _ => retTrue (eV x0 Y0 nx0 y1 y2 y3 y4 y5 y6 y7 y8 y9 Ax0_0 Ax0_1 Ax0_2 Ax0_3 Z4 Z5 Z6) v) (fun j' todo ρ' => (ehs[j']?.map (·.todo)) = some todo ∧ eInv x0 Y0 j' ρ' ∧ emu j' ρ' < emu 0 (eV x0 Y0 nx0 y1 y2 y3 y4 y5 y6 y7 y8 y9 Ax0_0 Ax0_1 Ax0_2 Ax0_3 Z4 Z5 Z6)) (.jump 1 eT1 ⟨[(8, (.v 6)), (2, (.lit 1)), (1, e1)], [], [(4, e35)]⟩) := by
  simp only [LT.holds, retTrue]
  refine ⟨ehT1, ⟨nx0, (_root_.Go.Sx.E.i (eV x0 Y0 nx0 y1 y2 y3 y4 y5 y6 y7 y8 y9 Ax0_0 Ax0_1 Ax0_2 Ax0_3 Z4 Z5 Z6) e1), (_root_.Go.Sx.E.i (eV x0 Y0 nx0 y1 y2 y3 y4 y5 y6 y7 y8 y9 Ax0_0 Ax0_1 Ax0_2 Ax0_3 Z4 Z5 Z6) (.lit 1)), y3, y4, y5, y6, y7, y6, y9, Ax0_0, Ax0_1, Ax0_2, Ax0_3, (_root_.Go.Sx.E.a (eV x0 Y0 nx0 y1 y2 y3 y4 y5 y6 y7 y8 y9 Ax0_0 Ax0_1 Ax0_2 Ax0_3 Z4 Z5 Z6) e35), Z5, Z6, (by kernel_rfl), hB, ?_⟩, ?_⟩
  ·
    simp only [eBase] at hB
    obtain ⟨b0, c0, c1, c2, c3, en, ea0, ea1, ea2, ea3, hs, _⟩ := hB
    simp only [eJ0] at hJ
    obtain ⟨l1, l2, l3, l4, l5, l6, l7, l8, l9, m4, m5, m6, _⟩ := hJ
    have p1 := hs (y5.toNat + 1) (by omega)
    rw [← ea2] at p1
    have p2 : pSum Ax0_2 (y5.toNat + 1) = pSum Ax0_2 y5.toNat + 8 + 2 * Ax0_2 y5.toNat := rfl
    have p3 := c2 y5.toNat
    have p4 : 8 * (y5.toNat : Int) ≤ pSum Ax0_2 y5.toNat := pSum_le (fun j => (c2 j).1) _
    have p5 : (y5 + 1).toNat = y5.toNat + 1 := by omega
    simp only [eJ1]
    refine ⟨?_, ?_, l3, l4, l5, l6, l7, ?_, l9, (arr_at hH (by kernel_rfl)), m5, m6, ?_, trivial⟩
    all_goals
      try simp only [e1, e10, e34, e35, eV, i_v, i_lit, i_add, i_sub, i_sel, a_av, a_tab, a_upd, List.getD_cons_zero, List.getD_cons_succ]
      first
        | omega
        | (rw [p5]; omega)
  simp only [eBase] at hB
  obtain ⟨b0, c0, c1, c2, c3, en, ea0, ea1, ea2, ea3, hs, _⟩ := hB
  simp only [eJ0] at hJ
  obtain ⟨l1, l2, l3, l4, l5, l6, l7, l8, l9, m4, m5, m6, _⟩ := hJ
  simp only [emu, Env.app, setAll, List.map_cons, List.map_nil, List.set, e1, e10, e34, e35, eV, i_v, i_lit, i_add, i_sub, i_sel, a_av, a_tab, a_upd, List.getD_cons_zero, List.getD_cons_succ]
  omega
noncomputable def eH0_w5 : Hyp := { eh0.H with e := [((.v 6), (0, 0)), (e9, (5, 5))] ++ eh0.H.e, b := [(e0, true)] ++ eh0.H.b }
set_option maxHeartbeats 40000000 in
theorem esg0_w5 : segL Try.prog G Gh eD ehs [] 3000 0 3 { eh0 with H := eH0_w5 } = some (.jump 1 eT1 ⟨[(8, (.v 6)), (2, e37), (1, e1)], [], [(4, e48)]⟩) := by kernel_rfl
theorem evc0_w5 (x0 : Ext) (Y0 : Nat → Ext) (nx0 y1 y2 y3 y4 y5 y6 y7 y8 y9 : Int) (Ax0_0 Ax0_1 Ax0_2 Ax0_3 Z4 Z5 Z6 : Nat → Int) (hB : eBase x0 Y0 nx0 Ax0_0 Ax0_1 Ax0_2 Ax0_3) (hJ : eJ0 nx0 y1 y2 y3 y4 y5 y6 y7 y8 y9 Ax0_0 Ax0_1 Ax0_2 Ax0_3 Z4 Z5 Z6) (hH : Hyp.ok eH0_w5 (eV x0 Y0 nx0 y1 y2 y3 y4 y5 y6 y7 y8 y9 Ax0_0 Ax0_1 Ax0_2 Ax0_3 Z4 Z5 Z6)) (hF0 : 0 ≤ y6 ∧ y6 ≤ 0) (hF1 : 5 ≤ Ax0_0 y5.toNat ∧ Ax0_0 y5.toNat ≤ 5) (hG0 : y5 < nx0) :
    LT.holds (eV x0 Y0 nx0 y1 y2 y3 y4 y5 y6 y7 y8 y9 Ax0_0 Ax0_1 Ax0_2 Ax0_3 Z4 Z5 Z6) (fun v _ => retTrue (eV x0 Y0 nx0 y1 y2 y3 y4 y5 y6 y7 y8 y9 Ax0_0 Ax0_1 Ax0_2 Ax0_3 Z4 Z5 Z6) v) (fun j' todo ρ' => (ehs[j']?.map (·.todo)) = some todo ∧ eInv x0 Y0 j' ρ' ∧ emu j' ρ' < emu 0 (eV x0 Y0 nx0 y1 y2 y3 y4 y5 y6 y7 y8 y9 Ax0_0 Ax0_1 Ax0_2 Ax0_3 Z4 Z5 Z6)) (.jump 1 eT1 ⟨[(8, (.v 6)), (2, e37), (1, e1)], [], [(4, e48)]⟩) := by
  simp only [LT.holds, retTrue]
  refine ⟨ehT1, ⟨nx0, (_root_.Go.Sx.E.i (eV x0 Y0 nx0 y1 y2 y3 y4 y5 y6 y7 y8 y9 Ax0_0 Ax0_1 Ax0_2 Ax0_3 Z4 Z5 Z6) e1), (_root_.Go.Sx.E.i (eV x0 Y0 nx0 y1 y2 y3 y4 y5 y6 y7 y8 y9 Ax0_0 Ax0_1 Ax0_2 Ax0_3 Z4 Z5 Z6) e37), y3, y4, y5, y6, y7, y6, y9, Ax0_0, Ax0_1, Ax0_2, Ax0_3, (_root_.Go.Sx.E.a (eV x0 Y0 nx0 y1 y2 y3 y4 y5 y6 y7 y8 y9 Ax0_0 Ax0_1 Ax0_2 Ax0_3 Z4 Z5 Z6) e48), Z5, Z6, (by kernel_rfl), hB, ?_⟩, ?_⟩
  ·
    simp only [eBase] at hB
    obtain ⟨b0, c0, c1, c2, c3, en, ea0, ea1, ea2, ea3, hs, _⟩ := hB
    simp only [eJ0] at hJ
    obtain ⟨l1, l2, l3, l4, l5, l6, l7, l8, l9, m4, m5, m6, _⟩ := hJ
    have p1 := hs (y5.toNat + 1) (by omega)
    rw [← ea2] at p1
    have p2 : pSum Ax0_2 (y5.toNat + 1) = pSum Ax0_2 y5.toNat + 8 + 2 * Ax0_2 y5.toNat := rfl
    have p3 := c2 y5.toNat
    have p4 : 8 * (y5.toNat : Int) ≤ pSum Ax0_2 y5.toNat := pSum_le (fun j => (c2 j).1) _
    have p5 : (y5 + 1).toNat = y5.toNat + 1 := by omega
    simp only [eJ1]
    refine ⟨?_, ?_, l3, l4, l5, l6, l7, ?_, l9, (arr_at hH (by kernel_rfl)), m5, m6, ?_, trivial⟩
    all_goals
      try simp only [e1, e36, e37, e38, e39, e40, e41, e42, e43, e44, e45, e46, e47, e48, eV, i_v, i_lit, i_add, i_sub, i_sel, a_av, a_tab, a_upd, List.getD_cons_zero, List.getD_cons_succ]
      first
        | omega
        | (rw [p5]; omega)
  simp only [eBase] at hB
  obtain ⟨b0, c0, c1, c2, c3, en, ea0, ea1, ea2, ea3, hs, _⟩ := hB
  simp only [eJ0] at hJ
  obtain ⟨l1, l2, l3, l4, l5, l6, l7, l8, l9, m4, m5, m6, _⟩ := hJ
  simp only [emu, Env.app, setAll, List.map_cons, List.map_nil, List.set, e1, e36, e37, e38, e39, e40, e41, e42, e43, e44, e45, e46, e47, e48, eV, i_v, i_lit, i_add, i_sub, i_sel, a_av, a_tab, a_upd, List.getD_cons_zero, List.getD_cons_succ]
  omega
noncomputable def eH0_w6 : Hyp := { eh0.H with e := [((.v 6), (0, 0)), (e9, (6, 6))] ++ eh0.H.e, b := [(e0, true)] ++ eh0.H.b }
set_option maxHeartbeats 40000000 in
theorem esg0_w6 : segL Try.prog G Gh eD ehs [] 3000 0 3 { eh0 with H := eH0_w6 } = some (.jump 2 eT2 ⟨[(9, (.v 6)), (7, (.lit 1)), (3, (.lit 5)), (4, e1)], [], [(6, e52), (5, e53)]⟩) := by kernel_rfl
theorem evc0_w6 (x0 : Ext) (Y0 : Nat → Ext) (nx0 y1 y2 y3 y4 y5 y6 y7 y8 y9 : Int) (Ax0_0 Ax0_1 Ax0_2 Ax0_3 Z4 Z5 Z6 : Nat → Int) (hB : eBase x0 Y0 nx0 Ax0_0 Ax0_1 Ax0_2 Ax0_3) (hJ : eJ0 nx0 y1 y2 y3 y4 y5 y6 y7 y8 y9 Ax0_0 Ax0_1 Ax0_2 Ax0_3 Z4 Z5 Z6) (hH : Hyp.ok eH0_w6 (eV x0 Y0 nx0 y1 y2 y3 y4 y5 y6 y7 y8 y9 Ax0_0 Ax0_1 Ax0_2 Ax0_3 Z4 Z5 Z6)) (hF0 : 0 ≤ y6 ∧ y6 ≤ 0) (hF1 : 6 ≤ Ax0_0 y5.toNat ∧ Ax0_0 y5.toNat ≤ 6) (hG0 : y5 < nx0) :
    LT.holds (eV x0 Y0 nx0 y1 y2 y3 y4 y5 y6 y7 y8 y9 Ax0_0 Ax0_1 Ax0_2 Ax0_3 Z4 Z5 Z6) (fun v _ => retTrue (eV x0 Y0 nx0 y1 y2 y3 y4 y5 y6 y7 y8 y9 Ax0_0 Ax0_1 Ax0_2 Ax0_3 Z4 Z5 Z6) v) (fun j' todo ρ' => (ehs[j']?.map (·.todo)) = some todo ∧ eInv x0 Y0 j' ρ' ∧ emu j' ρ' < emu 0 (eV x0 Y0 nx0 y1 y2 y3 y4 y5 y6 y7 y8 y9 Ax0_0 Ax0_1 Ax0_2 Ax0_3 Z4 Z5 Z6)) (.jump 2 eT2 ⟨[(9, (.v 6)), (7, (.lit 1)), (3, (.lit 5)), (4, e1)], [], [(6, e52), (5, e53)]⟩) := by
  simp only [LT.holds, retTrue]
  refine ⟨ehT2, ⟨nx0, y1, y2, (_root_.Go.Sx.E.i (eV x0 Y0 nx0 y1 y2 y3 y4 y5 y6 y7 y8 y9 Ax0_0 Ax0_1 Ax0_2 Ax0_3 Z4 Z5 Z6) (.lit 5)), (_root_.Go.Sx.E.i (eV x0 Y0 nx0 y1 y2 y3 y4 y5 y6 y7 y8 y9 Ax0_0 Ax0_1 Ax0_2 Ax0_3 Z4 Z5 Z6) e1), y5, y6, (_root_.Go.Sx.E.i (eV x0 Y0 nx0 y1 y2 y3 y4 y5 y6 y7 y8 y9 Ax0_0 Ax0_1 Ax0_2 Ax0_3 Z4 Z5 Z6) (.lit 1)), y8, y6, Ax0_0, Ax0_1, Ax0_2, Ax0_3, Z4, (_root_.Go.Sx.E.a (eV x0 Y0 nx0 y1 y2 y3 y4 y5 y6 y7 y8 y9 Ax0_0 Ax0_1 Ax0_2 Ax0_3 Z4 Z5 Z6) e53), (_root_.Go.Sx.E.a (eV x0 Y0 nx0 y1 y2 y3 y4 y5 y6 y7 y8 y9 Ax0_0 Ax0_1 Ax0_2 Ax0_3 Z4 Z5 Z6) e52), (by kernel_rfl), hB, ?_⟩, ?_⟩
  ·
    simp only [eBase] at hB
    obtain ⟨b0, c0, c1, c2, c3, en, ea0, ea1, ea2, ea3, hs, _⟩ := hB
    simp only [eJ0] at hJ
    obtain ⟨l1, l2, l3, l4, l5, l6, l7, l8, l9, m4, m5, m6, _⟩ := hJ
    have p1 := hs (y5.toNat + 1) (by omega)
    rw [← ea2] at p1
    have p2 : pSum Ax0_2 (y5.toNat + 1) = pSum Ax0_2 y5.toNat + 8 + 2 * Ax0_2 y5.toNat := rfl
    have p3 := c2 y5.toNat
    have p4 : 8 * (y5.toNat : Int) ≤ pSum Ax0_2 y5.toNat := pSum_le (fun j => (c2 j).1) _
    have p5 : (y5 + 1).toNat = y5.toNat + 1 := by omega
    simp only [eJ2]
    refine ⟨l1, l2, ?_, ?_, l5, l6, ?_, l8, ?_, m4, (arr_at hH (by kernel_rfl)), (arr_at hH (by kernel_rfl)), ?_, ?_, trivial⟩
    all_goals
      try simp only [e1, e10, e11, e12, e49, e50, e51, e52, e53, eV, i_v, i_lit, i_add, i_sub, i_sel, a_av, a_tab, a_upd, List.getD_cons_zero, List.getD_cons_succ]
      first
        | omega
        | (rw [p5]; omega)
        | (intro j hj; have : j = 0 := by omega
           subst this; simp; omega)
  simp only [eBase] at hB
  obtain ⟨b0, c0, c1, c2, c3, en, ea0, ea1, ea2, ea3, hs, _⟩ := hB
  simp only [eJ0] at hJ
  obtain ⟨l1, l2, l3, l4, l5, l6, l7, l8, l9, m4, m5, m6, _⟩ := hJ
  simp only [emu, Env.app, setAll, List.map_cons, List.map_nil, List.set, e1, e10, e11, e12, e49, e50, e51, e52, e53, eV, i_v, i_lit, i_add, i_sub, i_sel, a_av, a_tab, a_upd, List.getD_cons_zero, List.getD_cons_succ]
  omega
noncomputable def eH0_w7 : Hyp := { eh0.H with e := [((.v 6), (0, 0)), (e9, (7, 9223372036854775807))] ++ eh0.H.e, b := [(e0, true)] ++ eh0.H.b }
set_option maxHeartbeats 40000000 in
theorem esg0_w7 : segL Try.prog G Gh eD ehs [] 3000 0 3 { eh0 with H := eH0_w7 } = some (.jump 0 eT0 ⟨[(6, (.lit 2)), (5, e1)], [], []⟩) := by kernel_rfl
theorem evc0_w7 (x0 : Ext) (Y0 : Nat → Ext) (nx0 y1 y2 y3 y4 y5 y6 y7 y8 y9 : Int) (Ax0_0 Ax0_1 Ax0_2 Ax0_3 Z4 Z5 Z6 : Nat → Int) (hB : eBase x0 Y0 nx0 Ax0_0 Ax0_1 Ax0_2 Ax0_3) (hJ : eJ0 nx0 y1 y2 y3 y4 y5 y6 y7 y8 y9 Ax0_0 Ax0_1 Ax0_2 Ax0_3 Z4 Z5 Z6) (hH : Hyp.ok eH0_w7 (eV x0 Y0 nx0 y1 y2 y3 y4 y5 y6 y7 y8 y9 Ax0_0 Ax0_1 Ax0_2 Ax0_3 Z4 Z5 Z6)) (hF0 : 0 ≤ y6 ∧ y6 ≤ 0) (hF1 : 7 ≤ Ax0_0 y5.toNat ∧ Ax0_0 y5.toNat ≤ 9223372036854775807) (hG0 : y5 < nx0) :
    LT.holds (eV x0 Y0 nx0 y1 y2 y3 y4 y5 y6 y7 y8 y9 Ax0_0 Ax0_1 Ax0_2 Ax0_3 Z4 Z5 Z6) (fun v _ => retTrue (eV x0 Y0 nx0 y1 y2 y3 y4 y5 y6 y7 y8 y9 Ax0_0 Ax0_1 Ax0_2 Ax0_3 Z4 Z5 Z6) v) (fun j' todo ρ' => (ehs[j']?.map (·.todo)) = some todo ∧ eInv x0 Y0 j' ρ' ∧ emu j' ρ' < emu 0 (eV x0 Y0 nx0 y1 y2 y3 y4 y5 y6 y7 y8 y9 Ax0_0 Ax0_1 Ax0_2 Ax0_3 Z4 Z5 Z6)) (.jump 0 eT0 ⟨[(6, (.lit 2)), (5, e1)], [], []⟩) := by
  simp only [LT.holds, retTrue]
  refine ⟨ehT0, ⟨nx0, y1, y2, y3, y4, (_root_.Go.Sx.E.i (eV x0 Y0 nx0 y1 y2 y3 y4 y5 y6 y7 y8 y9 Ax0_0 Ax0_1 Ax0_2 Ax0_3 Z4 Z5 Z6) e1), (_root_.Go.Sx.E.i (eV x0 Y0 nx0 y1 y2 y3 y4 y5 y6 y7 y8 y9 Ax0_0 Ax0_1 Ax0_2 Ax0_3 Z4 Z5 Z6) (.lit 2)), y7, y8, y9, Ax0_0, Ax0_1, Ax0_2, Ax0_3, Z4, Z5, Z6, (by kernel_rfl), hB, ?_⟩, ?_⟩
  ·
    simp only [eBase] at hB
    obtain ⟨b0, c0, c1, c2, c3, en, ea0, ea1, ea2, ea3, hs, _⟩ := hB
    simp only [eJ0] at hJ
    obtain ⟨l1, l2, l3, l4, l5, l6, l7, l8, l9, m4, m5, m6, _⟩ := hJ
    have p1 := hs (y5.toNat + 1) (by omega)
    rw [← ea2] at p1
    have p2 : pSum Ax0_2 (y5.toNat + 1) = pSum Ax0_2 y5.toNat + 8 + 2 * Ax0_2 y5.toNat := rfl
    have p3 := c2 y5.toNat
    have p4 : 8 * (y5.toNat : Int) ≤ pSum Ax0_2 y5.toNat := pSum_le (fun j => (c2 j).1) _
    have p5 : (y5 + 1).toNat = y5.toNat + 1 := by omega
    simp only [eJ0]
    refine ⟨l1, l2, l3, l4, ?_, ?_, l7, l8, l9, m4, m5, m6, trivial⟩
    all_goals
      try simp only [e1, eV, i_v, i_lit, i_add, i_sub, i_sel, a_av, a_tab, a_upd, List.getD_cons_zero, List.getD_cons_succ]
      first
        | omega
        | (rw [p5]; omega)
  simp only [eBase] at hB
  obtain ⟨b0, c0, c1, c2, c3, en, ea0, ea1, ea2, ea3, hs, _⟩ := hB
  simp only [eJ0] at hJ
  obtain ⟨l1, l2, l3, l4, l5, l6, l7, l8, l9, m4, m5, m6, _⟩ := hJ
  simp only [emu, Env.app, setAll, List.map_cons, List.map_nil, List.set, e1, eV, i_v, i_lit, i_add, i_sub, i_sel, a_av, a_tab, a_upd, List.getD_cons_zero, List.getD_cons_succ]
  omega
noncomputable def eH0_wm : Hyp := { eh0.H with e := [((.v 6), (0, 0)), (e9, ((-9223372036854775808), (-1)))] ++ eh0.H.e, b := [(e0, true)] ++ eh0.H.b }
set_option maxHeartbeats 40000000 in
theorem esg0_wm : segL Try.prog G Gh eD ehs [] 3000 0 3 { eh0 with H := eH0_wm } = some (.jump 0 eT0 ⟨[(6, (.lit 2)), (5, e1)], [], []⟩) := by kernel_rfl
theorem evc0_wm (x0 : Ext) (Y0 : Nat → Ext) (nx0 y1 y2 y3 y4 y5 y6 y7 y8 y9 : Int) (Ax0_0 Ax0_1 Ax0_2 Ax0_3 Z4 Z5 Z6 : Nat → Int) (hB : eBase x0 Y0 nx0 Ax0_0 Ax0_1 Ax0_2 Ax0_3) (hJ : eJ0 nx0 y1 y2 y3 y4 y5 y6 y7 y8 y9 Ax0_0 Ax0_1 Ax0_2 Ax0_3 Z4 Z5 Z6) (hH : Hyp.ok eH0_wm (eV x0 Y0 nx0 y1 y2 y3 y4 y5 y6 y7 y8 y9 Ax0_0 Ax0_1 Ax0_2 Ax0_3 Z4 Z5 Z6)) (hF0 : 0 ≤ y6 ∧ y6 ≤ 0) (hF1 : -9223372036854775808 ≤ Ax0_0 y5.toNat ∧ Ax0_0 y5.toNat ≤ -1) (hG0 : y5 < nx0) :
    LT.holds (eV x0 Y0 nx0 y1 y2 y3 y4 y5 y6 y7 y8 y9 Ax0_0 Ax0_1 Ax0_2 Ax0_3 Z4 Z5 Z6) (fun v _ => retTrue (eV x0 Y0 nx0 y1 y2 y3 y4 y5 y6 y7 y8 y9 Ax0_0 Ax0_1 Ax0_2 Ax0_3 Z4 Z5 Z6) v) (fun j' todo ρ' => (ehs[j']?.map (·.todo)) = some todo ∧ eInv x0 Y0 j' ρ' ∧ emu j' ρ' < emu 0 (eV x0 Y0 nx0 y1 y2 y3 y4 y5 y6 y7 y8 y9 Ax0_0 Ax0_1 Ax0_2 Ax0_3 Z4 Z5 Z6)) (.jump 0 eT0 ⟨[(6, (.lit 2)), (5, e1)], [], []⟩) := by
  simp only [LT.holds, retTrue]
  refine ⟨ehT0, ⟨nx0, y1, y2, y3, y4, (_root_.Go.Sx.E.i (eV x0 Y0 nx0 y1 y2 y3 y4 y5 y6 y7 y8 y9 Ax0_0 Ax0_1 Ax0_2 Ax0_3 Z4 Z5 Z6) e1), (_root_.Go.Sx.E.i (eV x0 Y0 nx0 y1 y2 y3 y4 y5 y6 y7 y8 y9 Ax0_0 Ax0_1 Ax0_2 Ax0_3 Z4 Z5 Z6) (.lit 2)), y7, y8, y9, Ax0_0, Ax0_1, Ax0_2, Ax0_3, Z4, Z5, Z6, (by kernel_rfl), hB, ?_⟩, ?_⟩
  ·
    simp only [eBase] at hB
    obtain ⟨b0, c0, c1, c2, c3, en, ea0, ea1, ea2, ea3, hs, _⟩ := hB
    simp only [eJ0] at hJ
    obtain ⟨l1, l2, l3, l4, l5, l6, l7, l8, l9, m4, m5, m6, _⟩ := hJ
    have p1 := hs (y5.toNat + 1) (by omega)
    rw [← ea2] at p1
    have p2 : pSum Ax0_2 (y5.toNat + 1) = pSum Ax0_2 y5.toNat + 8 + 2 * Ax0_2 y5.toNat := rfl
    have p3 := c2 y5.toNat
    have p4 : 8 * (y5.toNat : Int) ≤ pSum Ax0_2 y5.toNat := pSum_le (fun j => (c2 j).1) _
    have p5 : (y5 + 1).toNat = y5.toNat + 1 := by omega
    simp only [eJ0]
    refine ⟨l1, l2, l3, l4, ?_, ?_, l7, l8, l9, m4, m5, m6, trivial⟩
    all_goals
      try simp only [e1, eV, i_v, i_lit, i_add, i_sub, i_sel, a_av, a_tab, a_upd, List.getD_cons_zero, List.getD_cons_succ]
      first
        | omega
        | (rw [p5]; omega)
  simp only [eBase] at hB
  obtain ⟨b0, c0, c1, c2, c3, en, ea0, ea1, ea2, ea3, hs, _⟩ := hB
  simp only [eJ0] at hJ
  obtain ⟨l1, l2, l3, l4, l5, l6, l7, l8, l9, m4, m5, m6, _⟩ := hJ
  simp only [emu, Env.app, setAll, List.map_cons, List.map_nil, List.set, e1, eV, i_v, i_lit, i_add, i_sub, i_sel, a_av, a_tab, a_upd, List.getD_cons_zero, List.getD_cons_succ]
  omega
end Go.Proofs.Ytflamojcdfmimaa.SaveWrites
