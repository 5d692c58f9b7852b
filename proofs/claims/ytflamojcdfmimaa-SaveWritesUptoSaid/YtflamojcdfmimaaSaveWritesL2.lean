/- A part of the law SaveWrites, which returns true for every input. A writer that is told values and parts, in every order, gives just the document's bytes, whenever it is asked. No condition. -/
import Derived.Test.YtflamojcdfmimaaSaveWritesB
namespace Go.Proofs.Ytflamojcdfmimaa.SaveWrites
open Go.Sx Go.ChangeShapes Go.WideShapes Go.ChangeAt Go.RowKit
set_option linter.unusedVariables false
set_option linter.unusedSimpArgs false
set_option maxRecDepth 100000
noncomputable def eH2_xe : Hyp := { eh2.H with e := [((.v 9), (1, 255))] ++ eh2.H.e, b := [(e138, false)] ++ eh2.H.b }
set_option maxHeartbeats 40000000 in
theorem esg2_xe : segL Try.prog G Gh eD ehs [] 3000 0 3 { eh2 with H := eH2_xe } = some (.ret (.s (.bool (.blit true))) [⟨69, [.one (.slc 2 (.lit 0) (.v 3) (.op (.lit 0))), .run .i64 (.lit 16) (.av 5) 0, .one (.int .i64 (.v 7)), .one (.int .i64 (.v 9))], true, none, false⟩, ⟨29, [.one (.slc 3 (.lit 0) (.v 3) (.op (.lit 0))), .one (.slc 4 (.lit 0) (.v 7) (.op (.lit 0))), .one (.int .i64 (.v 9))], true, none, false⟩, ⟨5, [.run .u8 (.v 3) (.av 6) 0], true, some 1, false⟩, ⟨5, [.run .u8 (.v 3) (.av 6) 0], true, some 1, false⟩, ⟨3, [.run .i64 (.v 7) (.av 5) 0], true, some 1, false⟩]) := by kernel_rfl
theorem evc2_xe (x0 : Ext) (Y0 : Nat → Ext) (nx0 y1 y2 y3 y4 y5 y6 y7 y8 y9 : Int) (Ax0_0 Ax0_1 Ax0_2 Ax0_3 Z4 Z5 Z6 : Nat → Int) (hB : eBase x0 Y0 nx0 Ax0_0 Ax0_1 Ax0_2 Ax0_3) (hJ : eJ2 nx0 y1 y2 y3 y4 y5 y6 y7 y8 y9 Ax0_0 Ax0_1 Ax0_2 Ax0_3 Z4 Z5 Z6) (hH : Hyp.ok eH2_xe (eV x0 Y0 nx0 y1 y2 y3 y4 y5 y6 y7 y8 y9 Ax0_0 Ax0_1 Ax0_2 Ax0_3 Z4 Z5 Z6)) (hF0 : 1 ≤ y9 ∧ y9 ≤ 255) (hG0 : ¬ y4 < nx0) :
    LT.holds (eV x0 Y0 nx0 y1 y2 y3 y4 y5 y6 y7 y8 y9 Ax0_0 Ax0_1 Ax0_2 Ax0_3 Z4 Z5 Z6) (fun v _ => retTrue (eV x0 Y0 nx0 y1 y2 y3 y4 y5 y6 y7 y8 y9 Ax0_0 Ax0_1 Ax0_2 Ax0_3 Z4 Z5 Z6) v) (fun j' todo ρ' => (ehs[j']?.map (·.todo)) = some todo ∧ eInv x0 Y0 j' ρ' ∧ emu j' ρ' < emu 2 (eV x0 Y0 nx0 y1 y2 y3 y4 y5 y6 y7 y8 y9 Ax0_0 Ax0_1 Ax0_2 Ax0_3 Z4 Z5 Z6)) (.ret (.s (.bool (.blit true))) [⟨69, [.one (.slc 2 (.lit 0) (.v 3) (.op (.lit 0))), .run .i64 (.lit 16) (.av 5) 0, .one (.int .i64 (.v 7)), .one (.int .i64 (.v 9))], true, none, false⟩, ⟨29, [.one (.slc 3 (.lit 0) (.v 3) (.op (.lit 0))), .one (.slc 4 (.lit 0) (.v 7) (.op (.lit 0))), .one (.int .i64 (.v 9))], true, none, false⟩, ⟨5, [.run .u8 (.v 3) (.av 6) 0], true, some 1, false⟩, ⟨5, [.run .u8 (.v 3) (.av 6) 0], true, some 1, false⟩, ⟨3, [.run .i64 (.v 7) (.av 5) 0], true, some 1, false⟩]) := by
  simp only [LT.holds, retTrue]
  rfl
noncomputable def eH2_ge : Hyp := { eh2.H with e := [((.v 9), (1, 255))] ++ eh2.H.e, b := [(e138, true)] ++ eh2.H.b }
set_option maxHeartbeats 40000000 in
theorem esg2_ge : segL Try.prog G Gh eD ehs [] 3000 0 3 { eh2 with H := eH2_ge } = some (.jump 2 eT2 ⟨[(9, (.v 9)), (7, (.v 7)), (3, (.v 3)), (4, e139)], [], [(6, (.av 6)), (5, (.av 5))]⟩) := by kernel_rfl
theorem evc2_ge (x0 : Ext) (Y0 : Nat → Ext) (nx0 y1 y2 y3 y4 y5 y6 y7 y8 y9 : Int) (Ax0_0 Ax0_1 Ax0_2 Ax0_3 Z4 Z5 Z6 : Nat → Int) (hB : eBase x0 Y0 nx0 Ax0_0 Ax0_1 Ax0_2 Ax0_3) (hJ : eJ2 nx0 y1 y2 y3 y4 y5 y6 y7 y8 y9 Ax0_0 Ax0_1 Ax0_2 Ax0_3 Z4 Z5 Z6) (hH : Hyp.ok eH2_ge (eV x0 Y0 nx0 y1 y2 y3 y4 y5 y6 y7 y8 y9 Ax0_0 Ax0_1 Ax0_2 Ax0_3 Z4 Z5 Z6)) (hF0 : 1 ≤ y9 ∧ y9 ≤ 255) (hG0 : y4 < nx0) :
    LT.holds (eV x0 Y0 nx0 y1 y2 y3 y4 y5 y6 y7 y8 y9 Ax0_0 Ax0_1 Ax0_2 Ax0_3 Z4 Z5 Z6) (fun v _ => retTrue (eV x0 Y0 nx0 y1 y2 y3 y4 y5 y6 y7 y8 y9 Ax0_0 Ax0_1 Ax0_2 Ax0_3 Z4 Z5 Z6) v) (fun j' todo ρ' => (ehs[j']?.map (·.todo)) = some todo ∧ eInv x0 Y0 j' ρ' ∧ emu j' ρ' < emu 2 (eV x0 Y0 nx0 y1 y2 y3 y4 y5 y6 y7 y8 y9 Ax0_0 Ax0_1 Ax0_2 Ax0_3 Z4 Z5 Z6)) (.jump 2 eT2 ⟨[(9, (.v 9)), (7, (.v 7)), (3, (.v 3)), (4, e139)], [], [(6, (.av 6)), (5, (.av 5))]⟩) := by
  simp only [LT.holds, retTrue]
  refine ⟨ehT2, ⟨nx0, y1, y2, y3, (_root_.Go.Sx.E.i (eV x0 Y0 nx0 y1 y2 y3 y4 y5 y6 y7 y8 y9 Ax0_0 Ax0_1 Ax0_2 Ax0_3 Z4 Z5 Z6) e139), y5, y6, y7, y8, y9, Ax0_0, Ax0_1, Ax0_2, Ax0_3, Z4, Z5, Z6, (by kernel_rfl), hB, ?_⟩, ?_⟩
  ·
    simp only [eBase] at hB
    obtain ⟨b0, c0, c1, c2, c3, en, ea0, ea1, ea2, ea3, hs, _⟩ := hB
    simp only [eJ2] at hJ
    obtain ⟨l1, l2, l3, l4, l5, l6, l7, l8, l9, m4, m5, m6, i1, i2, _⟩ := hJ
    have p1 := hs (y4.toNat + 1) (by omega)
    rw [← ea2] at p1
    have p2 : pSum Ax0_2 (y4.toNat + 1) = pSum Ax0_2 y4.toNat + 8 + 2 * Ax0_2 y4.toNat := rfl
    have p3 := c2 y4.toNat
    have p4 : 8 * (y4.toNat : Int) ≤ pSum Ax0_2 y4.toNat := pSum_le (fun j => (c2 j).1) _
    have p5 : (y4 + 1).toNat = y4.toNat + 1 := by omega
    simp only [eJ2]
    refine ⟨l1, l2, l3, ?_, l5, l6, l7, l8, l9, m4, m5, m6, ?_, ?_, trivial⟩
    all_goals
      try simp only [e139, eV, i_v, i_lit, i_add, i_sub, i_sel, a_av, a_tab, a_upd, List.getD_cons_zero, List.getD_cons_succ]
      first
        | omega
        | (rw [p5]; omega)
        | (intro j hj; first | (have := i2 j (by omega); omega) | (split <;> first | omega | (have := i2 j (by omega); omega)) | omega)
  simp only [eBase] at hB
  obtain ⟨b0, c0, c1, c2, c3, en, ea0, ea1, ea2, ea3, hs, _⟩ := hB
  simp only [eJ2] at hJ
  obtain ⟨l1, l2, l3, l4, l5, l6, l7, l8, l9, m4, m5, m6, i1, i2, _⟩ := hJ
  simp only [emu, Env.app, setAll, List.map_cons, List.map_nil, List.set, e139, eV, i_v, i_lit, i_add, i_sub, i_sel, a_av, a_tab, a_upd, List.getD_cons_zero, List.getD_cons_succ]
  omega
noncomputable def eH2_x0 : Hyp := { eh2.H with e := [((.v 9), (0, 0)), ((.v 7), (0, 0))] ++ eh2.H.e, b := [(e138, false)] ++ eh2.H.b }
set_option maxHeartbeats 40000000 in
theorem esg2_x0 : segL Try.prog G Gh eD ehs [] 3000 0 3 { eh2 with H := eH2_x0 } = some (.ret (.s (.bool (.blit true))) [⟨69, [.one (.slc 2 (.lit 0) (.v 3) (.op (.lit 0))), .run .i64 (.lit 16) (.av 5) 0, .one (.int .i64 (.v 7)), .one (.int .i64 (.v 9))], true, none, false⟩, ⟨29, [.one (.slc 3 (.lit 0) (.v 3) (.op (.lit 0))), .one (.slc 4 (.lit 0) (.v 7) (.op (.lit 0))), .one (.int .i64 (.v 9))], true, none, false⟩, ⟨5, [.run .u8 (.v 3) (.av 6) 0], true, some 1, false⟩, ⟨5, [.run .u8 (.v 3) (.av 6) 0], true, some 1, false⟩, ⟨3, [.run .i64 (.v 7) (.av 5) 0], true, some 1, false⟩, ⟨5, [.run .u8 e140 e160 0], true, some 1, false⟩, ⟨5, [.run .u8 e140 e160 0], true, some 1, false⟩]) := by kernel_rfl
theorem evc2_x0 (x0 : Ext) (Y0 : Nat → Ext) (nx0 y1 y2 y3 y4 y5 y6 y7 y8 y9 : Int) (Ax0_0 Ax0_1 Ax0_2 Ax0_3 Z4 Z5 Z6 : Nat → Int) (hB : eBase x0 Y0 nx0 Ax0_0 Ax0_1 Ax0_2 Ax0_3) (hJ : eJ2 nx0 y1 y2 y3 y4 y5 y6 y7 y8 y9 Ax0_0 Ax0_1 Ax0_2 Ax0_3 Z4 Z5 Z6) (hH : Hyp.ok eH2_x0 (eV x0 Y0 nx0 y1 y2 y3 y4 y5 y6 y7 y8 y9 Ax0_0 Ax0_1 Ax0_2 Ax0_3 Z4 Z5 Z6)) (hF0 : 0 ≤ y9 ∧ y9 ≤ 0) (hF1 : 0 ≤ y7 ∧ y7 ≤ 0) (hG0 : ¬ y4 < nx0) :
    LT.holds (eV x0 Y0 nx0 y1 y2 y3 y4 y5 y6 y7 y8 y9 Ax0_0 Ax0_1 Ax0_2 Ax0_3 Z4 Z5 Z6) (fun v _ => retTrue (eV x0 Y0 nx0 y1 y2 y3 y4 y5 y6 y7 y8 y9 Ax0_0 Ax0_1 Ax0_2 Ax0_3 Z4 Z5 Z6) v) (fun j' todo ρ' => (ehs[j']?.map (·.todo)) = some todo ∧ eInv x0 Y0 j' ρ' ∧ emu j' ρ' < emu 2 (eV x0 Y0 nx0 y1 y2 y3 y4 y5 y6 y7 y8 y9 Ax0_0 Ax0_1 Ax0_2 Ax0_3 Z4 Z5 Z6)) (.ret (.s (.bool (.blit true))) [⟨69, [.one (.slc 2 (.lit 0) (.v 3) (.op (.lit 0))), .run .i64 (.lit 16) (.av 5) 0, .one (.int .i64 (.v 7)), .one (.int .i64 (.v 9))], true, none, false⟩, ⟨29, [.one (.slc 3 (.lit 0) (.v 3) (.op (.lit 0))), .one (.slc 4 (.lit 0) (.v 7) (.op (.lit 0))), .one (.int .i64 (.v 9))], true, none, false⟩, ⟨5, [.run .u8 (.v 3) (.av 6) 0], true, some 1, false⟩, ⟨5, [.run .u8 (.v 3) (.av 6) 0], true, some 1, false⟩, ⟨3, [.run .i64 (.v 7) (.av 5) 0], true, some 1, false⟩, ⟨5, [.run .u8 e140 e160 0], true, some 1, false⟩, ⟨5, [.run .u8 e140 e160 0], true, some 1, false⟩]) := by
  simp only [LT.holds, retTrue]
  rfl
noncomputable def eH2_x1 : Hyp := { eh2.H with e := [((.v 9), (0, 0)), ((.v 7), (1, 16))] ++ eh2.H.e, b := [(e138, false)] ++ eh2.H.b }
set_option maxHeartbeats 40000000 in
theorem esg2_x1 : segL Try.prog G Gh eD ehs [] 3000 0 3 { eh2 with H := eH2_x1 } = some (.ret (.s (.bool (.blit true))) [⟨69, [.one (.slc 2 (.lit 0) (.v 3) (.op (.lit 0))), .run .i64 (.lit 16) (.av 5) 0, .one (.int .i64 (.v 7)), .one (.int .i64 (.v 9))], true, none, false⟩, ⟨29, [.one (.slc 3 (.lit 0) (.v 3) (.op (.lit 0))), .one (.slc 4 (.lit 0) (.v 7) (.op (.lit 0))), .one (.int .i64 (.v 9))], true, none, false⟩, ⟨5, [.run .u8 (.v 3) (.av 6) 0], true, some 1, false⟩, ⟨5, [.run .u8 (.v 3) (.av 6) 0], true, some 1, false⟩, ⟨3, [.run .i64 (.v 7) (.av 5) 0], true, some 1, false⟩]) := by kernel_rfl
theorem evc2_x1 (x0 : Ext) (Y0 : Nat → Ext) (nx0 y1 y2 y3 y4 y5 y6 y7 y8 y9 : Int) (Ax0_0 Ax0_1 Ax0_2 Ax0_3 Z4 Z5 Z6 : Nat → Int) (hB : eBase x0 Y0 nx0 Ax0_0 Ax0_1 Ax0_2 Ax0_3) (hJ : eJ2 nx0 y1 y2 y3 y4 y5 y6 y7 y8 y9 Ax0_0 Ax0_1 Ax0_2 Ax0_3 Z4 Z5 Z6) (hH : Hyp.ok eH2_x1 (eV x0 Y0 nx0 y1 y2 y3 y4 y5 y6 y7 y8 y9 Ax0_0 Ax0_1 Ax0_2 Ax0_3 Z4 Z5 Z6)) (hF0 : 0 ≤ y9 ∧ y9 ≤ 0) (hF1 : 1 ≤ y7 ∧ y7 ≤ 16) (hG0 : ¬ y4 < nx0) :
    LT.holds (eV x0 Y0 nx0 y1 y2 y3 y4 y5 y6 y7 y8 y9 Ax0_0 Ax0_1 Ax0_2 Ax0_3 Z4 Z5 Z6) (fun v _ => retTrue (eV x0 Y0 nx0 y1 y2 y3 y4 y5 y6 y7 y8 y9 Ax0_0 Ax0_1 Ax0_2 Ax0_3 Z4 Z5 Z6) v) (fun j' todo ρ' => (ehs[j']?.map (·.todo)) = some todo ∧ eInv x0 Y0 j' ρ' ∧ emu j' ρ' < emu 2 (eV x0 Y0 nx0 y1 y2 y3 y4 y5 y6 y7 y8 y9 Ax0_0 Ax0_1 Ax0_2 Ax0_3 Z4 Z5 Z6)) (.ret (.s (.bool (.blit true))) [⟨69, [.one (.slc 2 (.lit 0) (.v 3) (.op (.lit 0))), .run .i64 (.lit 16) (.av 5) 0, .one (.int .i64 (.v 7)), .one (.int .i64 (.v 9))], true, none, false⟩, ⟨29, [.one (.slc 3 (.lit 0) (.v 3) (.op (.lit 0))), .one (.slc 4 (.lit 0) (.v 7) (.op (.lit 0))), .one (.int .i64 (.v 9))], true, none, false⟩, ⟨5, [.run .u8 (.v 3) (.av 6) 0], true, some 1, false⟩, ⟨5, [.run .u8 (.v 3) (.av 6) 0], true, some 1, false⟩, ⟨3, [.run .i64 (.v 7) (.av 5) 0], true, some 1, false⟩]) := by
  simp only [LT.holds, retTrue]
  rfl
noncomputable def eH2_w0_0 : Hyp := { eh2.H with e := [((.v 9), (0, 0)), (e161, (0, 0)), ((.v 7), (0, 0))] ++ eh2.H.e, b := [(e138, true)] ++ eh2.H.b }
set_option maxHeartbeats 40000000 in
theorem esg2_w0_0 : segL Try.prog G Gh eD ehs [] 3000 0 3 { eh2 with H := eH2_w0_0 } = some (.jump 2 eT2 ⟨[(9, (.v 9)), (7, (.v 7)), (3, e162), (4, e139)], [], [(6, e165), (5, (.av 5))]⟩) := by kernel_rfl
theorem evc2_w0_0 (x0 : Ext) (Y0 : Nat → Ext) (nx0 y1 y2 y3 y4 y5 y6 y7 y8 y9 : Int) (Ax0_0 Ax0_1 Ax0_2 Ax0_3 Z4 Z5 Z6 : Nat → Int) (hB : eBase x0 Y0 nx0 Ax0_0 Ax0_1 Ax0_2 Ax0_3) (hJ : eJ2 nx0 y1 y2 y3 y4 y5 y6 y7 y8 y9 Ax0_0 Ax0_1 Ax0_2 Ax0_3 Z4 Z5 Z6) (hH : Hyp.ok eH2_w0_0 (eV x0 Y0 nx0 y1 y2 y3 y4 y5 y6 y7 y8 y9 Ax0_0 Ax0_1 Ax0_2 Ax0_3 Z4 Z5 Z6)) (hF0 : 0 ≤ y9 ∧ y9 ≤ 0) (hF1 : 0 ≤ Ax0_0 y4.toNat ∧ Ax0_0 y4.toNat ≤ 0) (hF2 : 0 ≤ y7 ∧ y7 ≤ 0) (hG0 : y4 < nx0) :
    LT.holds (eV x0 Y0 nx0 y1 y2 y3 y4 y5 y6 y7 y8 y9 Ax0_0 Ax0_1 Ax0_2 Ax0_3 Z4 Z5 Z6) (fun v _ => retTrue (eV x0 Y0 nx0 y1 y2 y3 y4 y5 y6 y7 y8 y9 Ax0_0 Ax0_1 Ax0_2 Ax0_3 Z4 Z5 Z6) v) (fun j' todo ρ' => (ehs[j']?.map (·.todo)) = some todo ∧ eInv x0 Y0 j' ρ' ∧ emu j' ρ' < emu 2 (eV x0 Y0 nx0 y1 y2 y3 y4 y5 y6 y7 y8 y9 Ax0_0 Ax0_1 Ax0_2 Ax0_3 Z4 Z5 Z6)) (.jump 2 eT2 ⟨[(9, (.v 9)), (7, (.v 7)), (3, e162), (4, e139)], [], [(6, e165), (5, (.av 5))]⟩) := by
  simp only [LT.holds, retTrue]
  refine ⟨ehT2, ⟨nx0, y1, y2, (_root_.Go.Sx.E.i (eV x0 Y0 nx0 y1 y2 y3 y4 y5 y6 y7 y8 y9 Ax0_0 Ax0_1 Ax0_2 Ax0_3 Z4 Z5 Z6) e162), (_root_.Go.Sx.E.i (eV x0 Y0 nx0 y1 y2 y3 y4 y5 y6 y7 y8 y9 Ax0_0 Ax0_1 Ax0_2 Ax0_3 Z4 Z5 Z6) e139), y5, y6, y7, y8, y9, Ax0_0, Ax0_1, Ax0_2, Ax0_3, Z4, Z5, (_root_.Go.Sx.E.a (eV x0 Y0 nx0 y1 y2 y3 y4 y5 y6 y7 y8 y9 Ax0_0 Ax0_1 Ax0_2 Ax0_3 Z4 Z5 Z6) e165), (by kernel_rfl), hB, ?_⟩, ?_⟩
  ·
    simp only [eBase] at hB
    obtain ⟨b0, c0, c1, c2, c3, en, ea0, ea1, ea2, ea3, hs, _⟩ := hB
    simp only [eJ2] at hJ
    obtain ⟨l1, l2, l3, l4, l5, l6, l7, l8, l9, m4, m5, m6, i1, i2, _⟩ := hJ
    have p1 := hs (y4.toNat + 1) (by omega)
    rw [← ea2] at p1
    have p2 : pSum Ax0_2 (y4.toNat + 1) = pSum Ax0_2 y4.toNat + 8 + 2 * Ax0_2 y4.toNat := rfl
    have p3 := c2 y4.toNat
    have p4 : 8 * (y4.toNat : Int) ≤ pSum Ax0_2 y4.toNat := pSum_le (fun j => (c2 j).1) _
    have p5 : (y4 + 1).toNat = y4.toNat + 1 := by omega
    simp only [eJ2]
    refine ⟨l1, l2, ?_, ?_, l5, l6, l7, l8, l9, m4, m5, (arr_at hH (by kernel_rfl)), ?_, ?_, trivial⟩
    all_goals
      try simp only [e139, e162, e163, e164, e165, eV, i_v, i_lit, i_add, i_sub, i_sel, a_av, a_tab, a_upd, List.getD_cons_zero, List.getD_cons_succ]
      first
        | omega
        | (rw [p5]; omega)
        | (intro j hj; first | (have := i2 j (by omega); omega) | (split <;> first | omega | (have := i2 j (by omega); omega)) | omega)
  simp only [eBase] at hB
  obtain ⟨b0, c0, c1, c2, c3, en, ea0, ea1, ea2, ea3, hs, _⟩ := hB
  simp only [eJ2] at hJ
  obtain ⟨l1, l2, l3, l4, l5, l6, l7, l8, l9, m4, m5, m6, i1, i2, _⟩ := hJ
  simp only [emu, Env.app, setAll, List.map_cons, List.map_nil, List.set, e139, e162, e163, e164, e165, eV, i_v, i_lit, i_add, i_sub, i_sel, a_av, a_tab, a_upd, List.getD_cons_zero, List.getD_cons_succ]
  omega
noncomputable def eH2_w0_1 : Hyp := { eh2.H with e := [((.v 9), (0, 0)), (e161, (0, 0)), ((.v 7), (1, 16))] ++ eh2.H.e, b := [(e138, true)] ++ eh2.H.b }
set_option maxHeartbeats 40000000 in
theorem esg2_w0_1 : segL Try.prog G Gh eD ehs [] 3000 0 3 { eh2 with H := eH2_w0_1 } = some (.jump 2 eT2 ⟨[(9, (.v 9)), (7, (.v 7)), (3, e162), (4, e139)], [], [(6, e165), (5, (.av 5))]⟩) := by kernel_rfl
theorem evc2_w0_1 (x0 : Ext) (Y0 : Nat → Ext) (nx0 y1 y2 y3 y4 y5 y6 y7 y8 y9 : Int) (Ax0_0 Ax0_1 Ax0_2 Ax0_3 Z4 Z5 Z6 : Nat → Int) (hB : eBase x0 Y0 nx0 Ax0_0 Ax0_1 Ax0_2 Ax0_3) (hJ : eJ2 nx0 y1 y2 y3 y4 y5 y6 y7 y8 y9 Ax0_0 Ax0_1 Ax0_2 Ax0_3 Z4 Z5 Z6) (hH : Hyp.ok eH2_w0_1 (eV x0 Y0 nx0 y1 y2 y3 y4 y5 y6 y7 y8 y9 Ax0_0 Ax0_1 Ax0_2 Ax0_3 Z4 Z5 Z6)) (hF0 : 0 ≤ y9 ∧ y9 ≤ 0) (hF1 : 0 ≤ Ax0_0 y4.toNat ∧ Ax0_0 y4.toNat ≤ 0) (hF2 : 1 ≤ y7 ∧ y7 ≤ 16) (hG0 : y4 < nx0) :
    LT.holds (eV x0 Y0 nx0 y1 y2 y3 y4 y5 y6 y7 y8 y9 Ax0_0 Ax0_1 Ax0_2 Ax0_3 Z4 Z5 Z6) (fun v _ => retTrue (eV x0 Y0 nx0 y1 y2 y3 y4 y5 y6 y7 y8 y9 Ax0_0 Ax0_1 Ax0_2 Ax0_3 Z4 Z5 Z6) v) (fun j' todo ρ' => (ehs[j']?.map (·.todo)) = some todo ∧ eInv x0 Y0 j' ρ' ∧ emu j' ρ' < emu 2 (eV x0 Y0 nx0 y1 y2 y3 y4 y5 y6 y7 y8 y9 Ax0_0 Ax0_1 Ax0_2 Ax0_3 Z4 Z5 Z6)) (.jump 2 eT2 ⟨[(9, (.v 9)), (7, (.v 7)), (3, e162), (4, e139)], [], [(6, e165), (5, (.av 5))]⟩) := by
  simp only [LT.holds, retTrue]
  refine ⟨ehT2, ⟨nx0, y1, y2, (_root_.Go.Sx.E.i (eV x0 Y0 nx0 y1 y2 y3 y4 y5 y6 y7 y8 y9 Ax0_0 Ax0_1 Ax0_2 Ax0_3 Z4 Z5 Z6) e162), (_root_.Go.Sx.E.i (eV x0 Y0 nx0 y1 y2 y3 y4 y5 y6 y7 y8 y9 Ax0_0 Ax0_1 Ax0_2 Ax0_3 Z4 Z5 Z6) e139), y5, y6, y7, y8, y9, Ax0_0, Ax0_1, Ax0_2, Ax0_3, Z4, Z5, (_root_.Go.Sx.E.a (eV x0 Y0 nx0 y1 y2 y3 y4 y5 y6 y7 y8 y9 Ax0_0 Ax0_1 Ax0_2 Ax0_3 Z4 Z5 Z6) e165), (by kernel_rfl), hB, ?_⟩, ?_⟩
  ·
    simp only [eBase] at hB
    obtain ⟨b0, c0, c1, c2, c3, en, ea0, ea1, ea2, ea3, hs, _⟩ := hB
    simp only [eJ2] at hJ
    obtain ⟨l1, l2, l3, l4, l5, l6, l7, l8, l9, m4, m5, m6, i1, i2, _⟩ := hJ
    have p1 := hs (y4.toNat + 1) (by omega)
    rw [← ea2] at p1
    have p2 : pSum Ax0_2 (y4.toNat + 1) = pSum Ax0_2 y4.toNat + 8 + 2 * Ax0_2 y4.toNat := rfl
    have p3 := c2 y4.toNat
    have p4 : 8 * (y4.toNat : Int) ≤ pSum Ax0_2 y4.toNat := pSum_le (fun j => (c2 j).1) _
    have p5 : (y4 + 1).toNat = y4.toNat + 1 := by omega
    simp only [eJ2]
    refine ⟨l1, l2, ?_, ?_, l5, l6, l7, l8, l9, m4, m5, (arr_at hH (by kernel_rfl)), ?_, ?_, trivial⟩
    all_goals
      try simp only [e139, e162, e163, e164, e165, eV, i_v, i_lit, i_add, i_sub, i_sel, a_av, a_tab, a_upd, List.getD_cons_zero, List.getD_cons_succ]
      first
        | omega
        | (rw [p5]; omega)
        | (intro j hj; first | (have := i2 j (by omega); omega) | (split <;> first | omega | (have := i2 j (by omega); omega)) | omega)
  simp only [eBase] at hB
  obtain ⟨b0, c0, c1, c2, c3, en, ea0, ea1, ea2, ea3, hs, _⟩ := hB
  simp only [eJ2] at hJ
  obtain ⟨l1, l2, l3, l4, l5, l6, l7, l8, l9, m4, m5, m6, i1, i2, _⟩ := hJ
  simp only [emu, Env.app, setAll, List.map_cons, List.map_nil, List.set, e139, e162, e163, e164, e165, eV, i_v, i_lit, i_add, i_sub, i_sel, a_av, a_tab, a_upd, List.getD_cons_zero, List.getD_cons_succ]
  omega
noncomputable def eH2_w1_0 : Hyp := { eh2.H with e := [((.v 9), (0, 0)), (e161, (1, 1)), ((.v 7), (0, 0))] ++ eh2.H.e, b := [(e138, true)] ++ eh2.H.b }
set_option maxHeartbeats 40000000 in
theorem esg2_w1_0 : segL Try.prog G Gh eD ehs [] 3000 0 3 { eh2 with H := eH2_w1_0 } = some (.jump 2 eT2 ⟨[(9, (.v 9)), (7, (.v 7)), (3, e166), (4, e139)], [], [(6, e169), (5, (.av 5))]⟩) := by kernel_rfl
theorem evc2_w1_0 (x0 : Ext) (Y0 : Nat → Ext) (nx0 y1 y2 y3 y4 y5 y6 y7 y8 y9 : Int) (Ax0_0 Ax0_1 Ax0_2 Ax0_3 Z4 Z5 Z6 : Nat → Int) (hB : eBase x0 Y0 nx0 Ax0_0 Ax0_1 Ax0_2 Ax0_3) (hJ : eJ2 nx0 y1 y2 y3 y4 y5 y6 y7 y8 y9 Ax0_0 Ax0_1 Ax0_2 Ax0_3 Z4 Z5 Z6) (hH : Hyp.ok eH2_w1_0 (eV x0 Y0 nx0 y1 y2 y3 y4 y5 y6 y7 y8 y9 Ax0_0 Ax0_1 Ax0_2 Ax0_3 Z4 Z5 Z6)) (hF0 : 0 ≤ y9 ∧ y9 ≤ 0) (hF1 : 1 ≤ Ax0_0 y4.toNat ∧ Ax0_0 y4.toNat ≤ 1) (hF2 : 0 ≤ y7 ∧ y7 ≤ 0) (hG0 : y4 < nx0) :
    LT.holds (eV x0 Y0 nx0 y1 y2 y3 y4 y5 y6 y7 y8 y9 Ax0_0 Ax0_1 Ax0_2 Ax0_3 Z4 Z5 Z6) (fun v _ => retTrue (eV x0 Y0 nx0 y1 y2 y3 y4 y5 y6 y7 y8 y9 Ax0_0 Ax0_1 Ax0_2 Ax0_3 Z4 Z5 Z6) v) (fun j' todo ρ' => (ehs[j']?.map (·.todo)) = some todo ∧ eInv x0 Y0 j' ρ' ∧ emu j' ρ' < emu 2 (eV x0 Y0 nx0 y1 y2 y3 y4 y5 y6 y7 y8 y9 Ax0_0 Ax0_1 Ax0_2 Ax0_3 Z4 Z5 Z6)) (.jump 2 eT2 ⟨[(9, (.v 9)), (7, (.v 7)), (3, e166), (4, e139)], [], [(6, e169), (5, (.av 5))]⟩) := by
  simp only [LT.holds, retTrue]
  refine ⟨ehT2, ⟨nx0, y1, y2, (_root_.Go.Sx.E.i (eV x0 Y0 nx0 y1 y2 y3 y4 y5 y6 y7 y8 y9 Ax0_0 Ax0_1 Ax0_2 Ax0_3 Z4 Z5 Z6) e166), (_root_.Go.Sx.E.i (eV x0 Y0 nx0 y1 y2 y3 y4 y5 y6 y7 y8 y9 Ax0_0 Ax0_1 Ax0_2 Ax0_3 Z4 Z5 Z6) e139), y5, y6, y7, y8, y9, Ax0_0, Ax0_1, Ax0_2, Ax0_3, Z4, Z5, (_root_.Go.Sx.E.a (eV x0 Y0 nx0 y1 y2 y3 y4 y5 y6 y7 y8 y9 Ax0_0 Ax0_1 Ax0_2 Ax0_3 Z4 Z5 Z6) e169), (by kernel_rfl), hB, ?_⟩, ?_⟩
  ·
    simp only [eBase] at hB
    obtain ⟨b0, c0, c1, c2, c3, en, ea0, ea1, ea2, ea3, hs, _⟩ := hB
    simp only [eJ2] at hJ
    obtain ⟨l1, l2, l3, l4, l5, l6, l7, l8, l9, m4, m5, m6, i1, i2, _⟩ := hJ
    have p1 := hs (y4.toNat + 1) (by omega)
    rw [← ea2] at p1
    have p2 : pSum Ax0_2 (y4.toNat + 1) = pSum Ax0_2 y4.toNat + 8 + 2 * Ax0_2 y4.toNat := rfl
    have p3 := c2 y4.toNat
    have p4 : 8 * (y4.toNat : Int) ≤ pSum Ax0_2 y4.toNat := pSum_le (fun j => (c2 j).1) _
    have p5 : (y4 + 1).toNat = y4.toNat + 1 := by omega
    simp only [eJ2]
    refine ⟨l1, l2, ?_, ?_, l5, l6, l7, l8, l9, m4, m5, (arr_at hH (by kernel_rfl)), ?_, ?_, trivial⟩
    all_goals
      try simp only [e139, e162, e163, e164, e165, e166, e167, e168, e169, eV, i_v, i_lit, i_add, i_sub, i_sel, a_av, a_tab, a_upd, List.getD_cons_zero, List.getD_cons_succ]
      first
        | omega
        | (rw [p5]; omega)
        | (intro j hj; first | (have := i2 j (by omega); omega) | (split <;> first | omega | (have := i2 j (by omega); omega)) | omega)
  simp only [eBase] at hB
  obtain ⟨b0, c0, c1, c2, c3, en, ea0, ea1, ea2, ea3, hs, _⟩ := hB
  simp only [eJ2] at hJ
  obtain ⟨l1, l2, l3, l4, l5, l6, l7, l8, l9, m4, m5, m6, i1, i2, _⟩ := hJ
  simp only [emu, Env.app, setAll, List.map_cons, List.map_nil, List.set, e139, e162, e163, e164, e165, e166, e167, e168, e169, eV, i_v, i_lit, i_add, i_sub, i_sel, a_av, a_tab, a_upd, List.getD_cons_zero, List.getD_cons_succ]
  omega
noncomputable def eH2_w1_1 : Hyp := { eh2.H with e := [((.v 9), (0, 0)), (e161, (1, 1)), ((.v 7), (1, 16))] ++ eh2.H.e, b := [(e138, true)] ++ eh2.H.b }
set_option maxHeartbeats 40000000 in
theorem esg2_w1_1 : segL Try.prog G Gh eD ehs [] 3000 0 3 { eh2 with H := eH2_w1_1 } = some (.jump 2 eT2 ⟨[(9, (.v 9)), (7, (.v 7)), (3, e166), (4, e139)], [], [(6, e169), (5, (.av 5))]⟩) := by kernel_rfl
theorem evc2_w1_1 (x0 : Ext) (Y0 : Nat → Ext) (nx0 y1 y2 y3 y4 y5 y6 y7 y8 y9 : Int) (Ax0_0 Ax0_1 Ax0_2 Ax0_3 Z4 Z5 Z6 : Nat → Int) (hB : eBase x0 Y0 nx0 Ax0_0 Ax0_1 Ax0_2 Ax0_3) (hJ : eJ2 nx0 y1 y2 y3 y4 y5 y6 y7 y8 y9 Ax0_0 Ax0_1 Ax0_2 Ax0_3 Z4 Z5 Z6) (hH : Hyp.ok eH2_w1_1 (eV x0 Y0 nx0 y1 y2 y3 y4 y5 y6 y7 y8 y9 Ax0_0 Ax0_1 Ax0_2 Ax0_3 Z4 Z5 Z6)) (hF0 : 0 ≤ y9 ∧ y9 ≤ 0) (hF1 : 1 ≤ Ax0_0 y4.toNat ∧ Ax0_0 y4.toNat ≤ 1) (hF2 : 1 ≤ y7 ∧ y7 ≤ 16) (hG0 : y4 < nx0) :
    LT.holds (eV x0 Y0 nx0 y1 y2 y3 y4 y5 y6 y7 y8 y9 Ax0_0 Ax0_1 Ax0_2 Ax0_3 Z4 Z5 Z6) (fun v _ => retTrue (eV x0 Y0 nx0 y1 y2 y3 y4 y5 y6 y7 y8 y9 Ax0_0 Ax0_1 Ax0_2 Ax0_3 Z4 Z5 Z6) v) (fun j' todo ρ' => (ehs[j']?.map (·.todo)) = some todo ∧ eInv x0 Y0 j' ρ' ∧ emu j' ρ' < emu 2 (eV x0 Y0 nx0 y1 y2 y3 y4 y5 y6 y7 y8 y9 Ax0_0 Ax0_1 Ax0_2 Ax0_3 Z4 Z5 Z6)) (.jump 2 eT2 ⟨[(9, (.v 9)), (7, (.v 7)), (3, e166), (4, e139)], [], [(6, e169), (5, (.av 5))]⟩) := by
  simp only [LT.holds, retTrue]
  refine ⟨ehT2, ⟨nx0, y1, y2, (_root_.Go.Sx.E.i (eV x0 Y0 nx0 y1 y2 y3 y4 y5 y6 y7 y8 y9 Ax0_0 Ax0_1 Ax0_2 Ax0_3 Z4 Z5 Z6) e166), (_root_.Go.Sx.E.i (eV x0 Y0 nx0 y1 y2 y3 y4 y5 y6 y7 y8 y9 Ax0_0 Ax0_1 Ax0_2 Ax0_3 Z4 Z5 Z6) e139), y5, y6, y7, y8, y9, Ax0_0, Ax0_1, Ax0_2, Ax0_3, Z4, Z5, (_root_.Go.Sx.E.a (eV x0 Y0 nx0 y1 y2 y3 y4 y5 y6 y7 y8 y9 Ax0_0 Ax0_1 Ax0_2 Ax0_3 Z4 Z5 Z6) e169), (by kernel_rfl), hB, ?_⟩, ?_⟩
  ·
    simp only [eBase] at hB
    obtain ⟨b0, c0, c1, c2, c3, en, ea0, ea1, ea2, ea3, hs, _⟩ := hB
    simp only [eJ2] at hJ
    obtain ⟨l1, l2, l3, l4, l5, l6, l7, l8, l9, m4, m5, m6, i1, i2, _⟩ := hJ
    have p1 := hs (y4.toNat + 1) (by omega)
    rw [← ea2] at p1
    have p2 : pSum Ax0_2 (y4.toNat + 1) = pSum Ax0_2 y4.toNat + 8 + 2 * Ax0_2 y4.toNat := rfl
    have p3 := c2 y4.toNat
    have p4 : 8 * (y4.toNat : Int) ≤ pSum Ax0_2 y4.toNat := pSum_le (fun j => (c2 j).1) _
    have p5 : (y4 + 1).toNat = y4.toNat + 1 := by omega
    simp only [eJ2]
    refine ⟨l1, l2, ?_, ?_, l5, l6, l7, l8, l9, m4, m5, (arr_at hH (by kernel_rfl)), ?_, ?_, trivial⟩
    all_goals
      try simp only [e139, e162, e163, e164, e165, e166, e167, e168, e169, eV, i_v, i_lit, i_add, i_sub, i_sel, a_av, a_tab, a_upd, List.getD_cons_zero, List.getD_cons_succ]
      first
        | omega
        | (rw [p5]; omega)
        | (intro j hj; first | (have := i2 j (by omega); omega) | (split <;> first | omega | (have := i2 j (by omega); omega)) | omega)
  simp only [eBase] at hB
  obtain ⟨b0, c0, c1, c2, c3, en, ea0, ea1, ea2, ea3, hs, _⟩ := hB
  simp only [eJ2] at hJ
  obtain ⟨l1, l2, l3, l4, l5, l6, l7, l8, l9, m4, m5, m6, i1, i2, _⟩ := hJ
  simp only [emu, Env.app, setAll, List.map_cons, List.map_nil, List.set, e139, e162, e163, e164, e165, e166, e167, e168, e169, eV, i_v, i_lit, i_add, i_sub, i_sel, a_av, a_tab, a_upd, List.getD_cons_zero, List.getD_cons_succ]
  omega
noncomputable def eH2_w2_0 : Hyp := { eh2.H with e := [((.v 9), (0, 0)), (e161, (2, 2)), ((.v 7), (0, 0))] ++ eh2.H.e, b := [(e138, true)] ++ eh2.H.b }
set_option maxHeartbeats 40000000 in
theorem esg2_w2_0 : segL Try.prog G Gh eD ehs [] 3000 0 3 { eh2 with H := eH2_w2_0 } = some (.jump 2 eT2 ⟨[(9, (.v 9)), (7, (.v 7)), (3, e170), (4, e139)], [], [(6, e177), (5, (.av 5))]⟩) := by kernel_rfl
theorem evc2_w2_0 (x0 : Ext) (Y0 : Nat → Ext) (nx0 y1 y2 y3 y4 y5 y6 y7 y8 y9 : Int) (Ax0_0 Ax0_1 Ax0_2 Ax0_3 Z4 Z5 Z6 : Nat → Int) (hB : eBase x0 Y0 nx0 Ax0_0 Ax0_1 Ax0_2 Ax0_3) (hJ : eJ2 nx0 y1 y2 y3 y4 y5 y6 y7 y8 y9 Ax0_0 Ax0_1 Ax0_2 Ax0_3 Z4 Z5 Z6) (hH : Hyp.ok eH2_w2_0 (eV x0 Y0 nx0 y1 y2 y3 y4 y5 y6 y7 y8 y9 Ax0_0 Ax0_1 Ax0_2 Ax0_3 Z4 Z5 Z6)) (hF0 : 0 ≤ y9 ∧ y9 ≤ 0) (hF1 : 2 ≤ Ax0_0 y4.toNat ∧ Ax0_0 y4.toNat ≤ 2) (hF2 : 0 ≤ y7 ∧ y7 ≤ 0) (hG0 : y4 < nx0) :
    LT.holds (eV x0 Y0 nx0 y1 y2 y3 y4 y5 y6 y7 y8 y9 Ax0_0 Ax0_1 Ax0_2 Ax0_3 Z4 Z5 Z6) (fun v _ => retTrue (eV x0 Y0 nx0 y1 y2 y3 y4 y5 y6 y7 y8 y9 Ax0_0 Ax0_1 Ax0_2 Ax0_3 Z4 Z5 Z6) v) (fun j' todo ρ' => (ehs[j']?.map (·.todo)) = some todo ∧ eInv x0 Y0 j' ρ' ∧ emu j' ρ' < emu 2 (eV x0 Y0 nx0 y1 y2 y3 y4 y5 y6 y7 y8 y9 Ax0_0 Ax0_1 Ax0_2 Ax0_3 Z4 Z5 Z6)) (.jump 2 eT2 ⟨[(9, (.v 9)), (7, (.v 7)), (3, e170), (4, e139)], [], [(6, e177), (5, (.av 5))]⟩) := by
  simp only [LT.holds, retTrue]
  refine ⟨ehT2, ⟨nx0, y1, y2, (_root_.Go.Sx.E.i (eV x0 Y0 nx0 y1 y2 y3 y4 y5 y6 y7 y8 y9 Ax0_0 Ax0_1 Ax0_2 Ax0_3 Z4 Z5 Z6) e170), (_root_.Go.Sx.E.i (eV x0 Y0 nx0 y1 y2 y3 y4 y5 y6 y7 y8 y9 Ax0_0 Ax0_1 Ax0_2 Ax0_3 Z4 Z5 Z6) e139), y5, y6, y7, y8, y9, Ax0_0, Ax0_1, Ax0_2, Ax0_3, Z4, Z5, (_root_.Go.Sx.E.a (eV x0 Y0 nx0 y1 y2 y3 y4 y5 y6 y7 y8 y9 Ax0_0 Ax0_1 Ax0_2 Ax0_3 Z4 Z5 Z6) e177), (by kernel_rfl), hB, ?_⟩, ?_⟩
  ·
    simp only [eBase] at hB
    obtain ⟨b0, c0, c1, c2, c3, en, ea0, ea1, ea2, ea3, hs, _⟩ := hB
    simp only [eJ2] at hJ
    obtain ⟨l1, l2, l3, l4, l5, l6, l7, l8, l9, m4, m5, m6, i1, i2, _⟩ := hJ
    have p1 := hs (y4.toNat + 1) (by omega)
    rw [← ea2] at p1
    have p2 : pSum Ax0_2 (y4.toNat + 1) = pSum Ax0_2 y4.toNat + 8 + 2 * Ax0_2 y4.toNat := rfl
    have p3 := c2 y4.toNat
    have p4 : 8 * (y4.toNat : Int) ≤ pSum Ax0_2 y4.toNat := pSum_le (fun j => (c2 j).1) _
    have p5 : (y4 + 1).toNat = y4.toNat + 1 := by omega
    simp only [eJ2]
    refine ⟨l1, l2, ?_, ?_, l5, l6, l7, l8, l9, m4, m5, (arr_at hH (by kernel_rfl)), ?_, ?_, trivial⟩
    all_goals
      try simp only [e139, e162, e163, e164, e165, e166, e167, e168, e169, e170, e171, e172, e173, e174, e175, e176, e177, eV, i_v, i_lit, i_add, i_sub, i_sel, a_av, a_tab, a_upd, List.getD_cons_zero, List.getD_cons_succ]
      first
        | omega
        | (rw [p5]; omega)
        | (intro j hj; first | (have := i2 j (by omega); omega) | (split <;> first | omega | (have := i2 j (by omega); omega)) | omega)
  simp only [eBase] at hB
  obtain ⟨b0, c0, c1, c2, c3, en, ea0, ea1, ea2, ea3, hs, _⟩ := hB
  simp only [eJ2] at hJ
  obtain ⟨l1, l2, l3, l4, l5, l6, l7, l8, l9, m4, m5, m6, i1, i2, _⟩ := hJ
  simp only [emu, Env.app, setAll, List.map_cons, List.map_nil, List.set, e139, e162, e163, e164, e165, e166, e167, e168, e169, e170, e171, e172, e173, e174, e175, e176, e177, eV, i_v, i_lit, i_add, i_sub, i_sel, a_av, a_tab, a_upd, List.getD_cons_zero, List.getD_cons_succ]
  omega
noncomputable def eH2_w2_1 : Hyp := { eh2.H with e := [((.v 9), (0, 0)), (e161, (2, 2)), ((.v 7), (1, 16))] ++ eh2.H.e, b := [(e138, true)] ++ eh2.H.b }
set_option maxHeartbeats 40000000 in
theorem esg2_w2_1 : segL Try.prog G Gh eD ehs [] 3000 0 3 { eh2 with H := eH2_w2_1 } = some (.jump 2 eT2 ⟨[(9, (.v 9)), (7, (.v 7)), (3, e170), (4, e139)], [], [(6, e177), (5, (.av 5))]⟩) := by kernel_rfl
theorem evc2_w2_1 (x0 : Ext) (Y0 : Nat → Ext) (nx0 y1 y2 y3 y4 y5 y6 y7 y8 y9 : Int) (Ax0_0 Ax0_1 Ax0_2 Ax0_3 Z4 Z5 Z6 : Nat → Int) (hB : eBase x0 Y0 nx0 Ax0_0 Ax0_1 Ax0_2 Ax0_3) (hJ : eJ2 nx0 y1 y2 y3 y4 y5 y6 y7 y8 y9 Ax0_0 Ax0_1 Ax0_2 Ax0_3 Z4 Z5 Z6) (hH : Hyp.ok eH2_w2_1 (eV x0 Y0 nx0 y1 y2 y3 y4 y5 y6 y7 y8 y9 Ax0_0 Ax0_1 Ax0_2 Ax0_3 Z4 Z5 Z6)) (hF0 : 0 ≤ y9 ∧ y9 ≤ 0) (hF1 : 2 ≤ Ax0_0 y4.toNat ∧ Ax0_0 y4.toNat ≤ 2) (hF2 : 1 ≤ y7 ∧ y7 ≤ 16) (hG0 : y4 < nx0) :
    LT.holds (eV x0 Y0 nx0 y1 y2 y3 y4 y5 y6 y7 y8 y9 Ax0_0 Ax0_1 Ax0_2 Ax0_3 Z4 Z5 Z6) (fun v _ => retTrue (eV x0 Y0 nx0 y1 y2 y3 y4 y5 y6 y7 y8 y9 Ax0_0 Ax0_1 Ax0_2 Ax0_3 Z4 Z5 Z6) v) (fun j' todo ρ' => (ehs[j']?.map (·.todo)) = some todo ∧ eInv x0 Y0 j' ρ' ∧ emu j' ρ' < emu 2 (eV x0 Y0 nx0 y1 y2 y3 y4 y5 y6 y7 y8 y9 Ax0_0 Ax0_1 Ax0_2 Ax0_3 Z4 Z5 Z6)) (.jump 2 eT2 ⟨[(9, (.v 9)), (7, (.v 7)), (3, e170), (4, e139)], [], [(6, e177), (5, (.av 5))]⟩) := by
  simp only [LT.holds, retTrue]
  refine ⟨ehT2, ⟨nx0, y1, y2, (_root_.Go.Sx.E.i (eV x0 Y0 nx0 y1 y2 y3 y4 y5 y6 y7 y8 y9 Ax0_0 Ax0_1 Ax0_2 Ax0_3 Z4 Z5 Z6) e170), (_root_.Go.Sx.E.i (eV x0 Y0 nx0 y1 y2 y3 y4 y5 y6 y7 y8 y9 Ax0_0 Ax0_1 Ax0_2 Ax0_3 Z4 Z5 Z6) e139), y5, y6, y7, y8, y9, Ax0_0, Ax0_1, Ax0_2, Ax0_3, Z4, Z5, (_root_.Go.Sx.E.a (eV x0 Y0 nx0 y1 y2 y3 y4 y5 y6 y7 y8 y9 Ax0_0 Ax0_1 Ax0_2 Ax0_3 Z4 Z5 Z6) e177), (by kernel_rfl), hB, ?_⟩, ?_⟩
  ·
    simp only [eBase] at hB
    obtain ⟨b0, c0, c1, c2, c3, en, ea0, ea1, ea2, ea3, hs, _⟩ := hB
    simp only [eJ2] at hJ
    obtain ⟨l1, l2, l3, l4, l5, l6, l7, l8, l9, m4, m5, m6, i1, i2, _⟩ := hJ
    have p1 := hs (y4.toNat + 1) (by omega)
    rw [← ea2] at p1
    have p2 : pSum Ax0_2 (y4.toNat + 1) = pSum Ax0_2 y4.toNat + 8 + 2 * Ax0_2 y4.toNat := rfl
    have p3 := c2 y4.toNat
    have p4 : 8 * (y4.toNat : Int) ≤ pSum Ax0_2 y4.toNat := pSum_le (fun j => (c2 j).1) _
    have p5 : (y4 + 1).toNat = y4.toNat + 1 := by omega
    simp only [eJ2]
    refine ⟨l1, l2, ?_, ?_, l5, l6, l7, l8, l9, m4, m5, (arr_at hH (by kernel_rfl)), ?_, ?_, trivial⟩
    all_goals
      try simp only [e139, e162, e163, e164, e165, e166, e167, e168, e169, e170, e171, e172, e173, e174, e175, e176, e177, eV, i_v, i_lit, i_add, i_sub, i_sel, a_av, a_tab, a_upd, List.getD_cons_zero, List.getD_cons_succ]
      first
        | omega
        | (rw [p5]; omega)
        | (intro j hj; first | (have := i2 j (by omega); omega) | (split <;> first | omega | (have := i2 j (by omega); omega)) | omega)
  simp only [eBase] at hB
  obtain ⟨b0, c0, c1, c2, c3, en, ea0, ea1, ea2, ea3, hs, _⟩ := hB
  simp only [eJ2] at hJ
  obtain ⟨l1, l2, l3, l4, l5, l6, l7, l8, l9, m4, m5, m6, i1, i2, _⟩ := hJ
  simp only [emu, Env.app, setAll, List.map_cons, List.map_nil, List.set, e139, e162, e163, e164, e165, e166, e167, e168, e169, e170, e171, e172, e173, e174, e175, e176, e177, eV, i_v, i_lit, i_add, i_sub, i_sel, a_av, a_tab, a_upd, List.getD_cons_zero, List.getD_cons_succ]
  omega
noncomputable def eH2_w3_0 : Hyp := { eh2.H with e := [((.v 9), (0, 0)), (e161, (3, 3)), ((.v 7), (0, 0))] ++ eh2.H.e, b := [(e138, true)] ++ eh2.H.b }
set_option maxHeartbeats 40000000 in
theorem esg2_w3_0 : segL Try.prog G Gh eD ehs [] 3000 0 3 { eh2 with H := eH2_w3_0 } = some (.jump 2 eT2 ⟨[(9, (.v 9)), (7, (.v 7)), (3, e178), (4, e139)], [], [(6, e193), (5, (.av 5))]⟩) := by kernel_rfl
theorem evc2_w3_0 (x0 : Ext) (Y0 : Nat → Ext) (nx0 y1 y2 y3 y4 y5 y6 y7 y8 y9 : Int) (Ax0_0 Ax0_1 Ax0_2 Ax0_3 Z4 Z5 Z6 : Nat → Int) (hB : eBase x0 Y0 nx0 Ax0_0 Ax0_1 Ax0_2 Ax0_3) (hJ : eJ2 nx0 y1 y2 y3 y4 y5 y6 y7 y8 y9 Ax0_0 Ax0_1 Ax0_2 Ax0_3 Z4 Z5 Z6) (hH : Hyp.ok eH2_w3_0 (eV x0 Y0 nx0 y1 y2 y3 y4 y5 y6 y7 y8 y9 Ax0_0 Ax0_1 Ax0_2 Ax0_3 Z4 Z5 Z6)) (hF0 : 0 ≤ y9 ∧ y9 ≤ 0) (hF1 : 3 ≤ Ax0_0 y4.toNat ∧ Ax0_0 y4.toNat ≤ 3) (hF2 : 0 ≤ y7 ∧ y7 ≤ 0) (hG0 : y4 < nx0) :
    LT.holds (eV x0 Y0 nx0 y1 y2 y3 y4 y5 y6 y7 y8 y9 Ax0_0 Ax0_1 Ax0_2 Ax0_3 Z4 Z5 Z6) (fun v _ => retTrue (eV x0 Y0 nx0 y1 y2 y3 y4 y5 y6 y7 y8 y9 Ax0_0 Ax0_1 Ax0_2 Ax0_3 Z4 Z5 Z6) v) (fun j' todo ρ' => (ehs[j']?.map (·.todo)) = some todo ∧ eInv x0 Y0 j' ρ' ∧ emu j' ρ' < emu 2 (eV x0 Y0 nx0 y1 y2 y3 y4 y5 y6 y7 y8 y9 Ax0_0 Ax0_1 Ax0_2 Ax0_3 Z4 Z5 Z6)) (.jump 2 eT2 ⟨[(9, (.v 9)), (7, (.v 7)), (3, e178), (4, e139)], [], [(6, e193), (5, (.av 5))]⟩) := by
  simp only [LT.holds, retTrue]
  refine ⟨ehT2, ⟨nx0, y1, y2, (_root_.Go.Sx.E.i (eV x0 Y0 nx0 y1 y2 y3 y4 y5 y6 y7 y8 y9 Ax0_0 Ax0_1 Ax0_2 Ax0_3 Z4 Z5 Z6) e178), (_root_.Go.Sx.E.i (eV x0 Y0 nx0 y1 y2 y3 y4 y5 y6 y7 y8 y9 Ax0_0 Ax0_1 Ax0_2 Ax0_3 Z4 Z5 Z6) e139), y5, y6, y7, y8, y9, Ax0_0, Ax0_1, Ax0_2, Ax0_3, Z4, Z5, (_root_.Go.Sx.E.a (eV x0 Y0 nx0 y1 y2 y3 y4 y5 y6 y7 y8 y9 Ax0_0 Ax0_1 Ax0_2 Ax0_3 Z4 Z5 Z6) e193), (by kernel_rfl), hB, ?_⟩, ?_⟩
  ·
    simp only [eBase] at hB
    obtain ⟨b0, c0, c1, c2, c3, en, ea0, ea1, ea2, ea3, hs, _⟩ := hB
    simp only [eJ2] at hJ
    obtain ⟨l1, l2, l3, l4, l5, l6, l7, l8, l9, m4, m5, m6, i1, i2, _⟩ := hJ
    have p1 := hs (y4.toNat + 1) (by omega)
    rw [← ea2] at p1
    have p2 : pSum Ax0_2 (y4.toNat + 1) = pSum Ax0_2 y4.toNat + 8 + 2 * Ax0_2 y4.toNat := rfl
    have p3 := c2 y4.toNat
    have p4 : 8 * (y4.toNat : Int) ≤ pSum Ax0_2 y4.toNat := pSum_le (fun j => (c2 j).1) _
    have p5 : (y4 + 1).toNat = y4.toNat + 1 := by omega
    simp only [eJ2]
    refine ⟨l1, l2, ?_, ?_, l5, l6, l7, l8, l9, m4, m5, (arr_at hH (by kernel_rfl)), ?_, ?_, trivial⟩
    all_goals
      try simp only [e139, e162, e163, e164, e165, e166, e167, e168, e169, e170, e171, e172, e173, e174, e175, e176, e177, e178, e179, e180, e181, e182, e183, e184, e185, e186, e187, e188, e189, e190, e191, e192, e193, eV, i_v, i_lit, i_add, i_sub, i_sel, a_av, a_tab, a_upd, List.getD_cons_zero, List.getD_cons_succ]
      first
        | omega
        | (rw [p5]; omega)
        | (intro j hj; first | (have := i2 j (by omega); omega) | (split <;> first | omega | (have := i2 j (by omega); omega)) | omega)
  simp only [eBase] at hB
  obtain ⟨b0, c0, c1, c2, c3, en, ea0, ea1, ea2, ea3, hs, _⟩ := hB
  simp only [eJ2] at hJ
  obtain ⟨l1, l2, l3, l4, l5, l6, l7, l8, l9, m4, m5, m6, i1, i2, _⟩ := hJ
  simp only [emu, Env.app, setAll, List.map_cons, List.map_nil, List.set, e139, e162, e163, e164, e165, e166, e167, e168, e169, e170, e171, e172, e173, e174, e175, e176, e177, e178, e179, e180, e181, e182, e183, e184, e185, e186, e187, e188, e189, e190, e191, e192, e193, eV, i_v, i_lit, i_add, i_sub, i_sel, a_av, a_tab, a_upd, List.getD_cons_zero, List.getD_cons_succ]
  omega
noncomputable def eH2_w3_1 : Hyp := { eh2.H with e := [((.v 9), (0, 0)), (e161, (3, 3)), ((.v 7), (1, 16))] ++ eh2.H.e, b := [(e138, true)] ++ eh2.H.b }
set_option maxHeartbeats 40000000 in
theorem esg2_w3_1 : segL Try.prog G Gh eD ehs [] 3000 0 3 { eh2 with H := eH2_w3_1 } = some (.jump 2 eT2 ⟨[(9, (.v 9)), (7, (.v 7)), (3, e178), (4, e139)], [], [(6, e193), (5, (.av 5))]⟩) := by kernel_rfl
theorem evc2_w3_1 (x0 : Ext) (Y0 : Nat → Ext) (nx0 y1 y2 y3 y4 y5 y6 y7 y8 y9 : Int) (Ax0_0 Ax0_1 Ax0_2 Ax0_3 Z4 Z5 Z6 : Nat → Int) (hB : eBase x0 Y0 nx0 Ax0_0 Ax0_1 Ax0_2 Ax0_3) (hJ : eJ2 nx0 y1 y2 y3 y4 y5 y6 y7 y8 y9 Ax0_0 Ax0_1 Ax0_2 Ax0_3 Z4 Z5 Z6) (hH : Hyp.ok eH2_w3_1 (eV x0 Y0 nx0 y1 y2 y3 y4 y5 y6 y7 y8 y9 Ax0_0 Ax0_1 Ax0_2 Ax0_3 Z4 Z5 Z6)) (hF0 : 0 ≤ y9 ∧ y9 ≤ 0) (hF1 : 3 ≤ Ax0_0 y4.toNat ∧ Ax0_0 y4.toNat ≤ 3) (hF2 : 1 ≤ y7 ∧ y7 ≤ 16) (hG0 : y4 < nx0) :
    LT.holds (eV x0 Y0 nx0 y1 y2 y3 y4 y5 y6 y7 y8 y9 Ax0_0 Ax0_1 Ax0_2 Ax0_3 Z4 Z5 Z6) (fun v _ => retTrue (eV x0 Y0 nx0 y1 y2 y3 y4 y5 y6 y7 y8 y9 Ax0_0 Ax0_1 Ax0_2 Ax0_3 Z4 Z5 Z6) v) (fun j' todo ρ' => (ehs[j']?.map (·.todo)) = some todo ∧ eInv x0 Y0 j' ρ' ∧ emu j' ρ' < emu 2 (eV x0 Y0 nx0 y1 y2 y3 y4 y5 y6 y7 y8 y9 Ax0_0 Ax0_1 Ax0_2 Ax0_3 Z4 Z5 Z6)) (.jump 2 eT2 ⟨[(9, (.v 9)), (7, (.v 7)), (3, e178), (4, e139)], [], [(6, e193), (5, (.av 5))]⟩) := by
  simp only [LT.holds, retTrue]
  refine ⟨ehT2, ⟨nx0, y1, y2, (_root_.Go.Sx.E.i (eV x0 Y0 nx0 y1 y2 y3 y4 y5 y6 y7 y8 y9 Ax0_0 Ax0_1 Ax0_2 Ax0_3 Z4 Z5 Z6) e178), (_root_.Go.Sx.E.i (eV x0 Y0 nx0 y1 y2 y3 y4 y5 y6 y7 y8 y9 Ax0_0 Ax0_1 Ax0_2 Ax0_3 Z4 Z5 Z6) e139), y5, y6, y7, y8, y9, Ax0_0, Ax0_1, Ax0_2, Ax0_3, Z4, Z5, (_root_.Go.Sx.E.a (eV x0 Y0 nx0 y1 y2 y3 y4 y5 y6 y7 y8 y9 Ax0_0 Ax0_1 Ax0_2 Ax0_3 Z4 Z5 Z6) e193), (by kernel_rfl), hB, ?_⟩, ?_⟩
  ·
    simp only [eBase] at hB
    obtain ⟨b0, c0, c1, c2, c3, en, ea0, ea1, ea2, ea3, hs, _⟩ := hB
    simp only [eJ2] at hJ
    obtain ⟨l1, l2, l3, l4, l5, l6, l7, l8, l9, m4, m5, m6, i1, i2, _⟩ := hJ
    have p1 := hs (y4.toNat + 1) (by omega)
    rw [← ea2] at p1
    have p2 : pSum Ax0_2 (y4.toNat + 1) = pSum Ax0_2 y4.toNat + 8 + 2 * Ax0_2 y4.toNat := rfl
    have p3 := c2 y4.toNat
    have p4 : 8 * (y4.toNat : Int) ≤ pSum Ax0_2 y4.toNat := pSum_le (fun j => (c2 j).1) _
    have p5 : (y4 + 1).toNat = y4.toNat + 1 := by omega
    simp only [eJ2]
    refine ⟨l1, l2, ?_, ?_, l5, l6, l7, l8, l9, m4, m5, (arr_at hH (by kernel_rfl)), ?_, ?_, trivial⟩
    all_goals
      try simp only [e139, e162, e163, e164, e165, e166, e167, e168, e169, e170, e171, e172, e173, e174, e175, e176, e177, e178, e179, e180, e181, e182, e183, e184, e185, e186, e187, e188, e189, e190, e191, e192, e193, eV, i_v, i_lit, i_add, i_sub, i_sel, a_av, a_tab, a_upd, List.getD_cons_zero, List.getD_cons_succ]
      first
        | omega
        | (rw [p5]; omega)
        | (intro j hj; first | (have := i2 j (by omega); omega) | (split <;> first | omega | (have := i2 j (by omega); omega)) | omega)
  simp only [eBase] at hB
  obtain ⟨b0, c0, c1, c2, c3, en, ea0, ea1, ea2, ea3, hs, _⟩ := hB
  simp only [eJ2] at hJ
  obtain ⟨l1, l2, l3, l4, l5, l6, l7, l8, l9, m4, m5, m6, i1, i2, _⟩ := hJ
  simp only [emu, Env.app, setAll, List.map_cons, List.map_nil, List.set, e139, e162, e163, e164, e165, e166, e167, e168, e169, e170, e171, e172, e173, e174, e175, e176, e177, e178, e179, e180, e181, e182, e183, e184, e185, e186, e187, e188, e189, e190, e191, e192, e193, eV, i_v, i_lit, i_add, i_sub, i_sel, a_av, a_tab, a_upd, List.getD_cons_zero, List.getD_cons_succ]
  omega
end Go.Proofs.Ytflamojcdfmimaa.SaveWrites
