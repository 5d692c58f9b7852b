/- A part of the law SaveChanged, which returns true for every input. Saved bytes of which any one byte is changed, or some are left out at the end, or more stand behind, are refused. Where what comes in is of bulk at most 1048576. No condition. -/
import Derived.Test.YtflamojcdfmimaaSaveChangedB
namespace Go.Proofs.Ytflamojcdfmimaa.SaveChanged
open Go.Sx Go.ChangeShapes Go.WideShapes Go.ChangeAt Go.RowKit
set_option linter.unusedVariables false
set_option linter.unusedSimpArgs false
set_option maxRecDepth 100000
set_option maxHeartbeats 40000000
variable {x0 : Ext} {Y0 : Nat → Ext} {x2 : Ext} {n u r s q a b c d f g h : Int} {A B C F K L M N : Nat → Int}
noncomputable def eH1_w1_1 : Hyp := { eh1.H with e := [((.v 11), (0, 0)), (e118, (1, 1)), ((.v 7), (1, 16))] ++ eh1.H.e, b := [(e91, true)] ++ eh1.H.b }
noncomputable def eR1_w1_1 : LT := (.jump 1 eT1 ⟨[(11, (.v 11)), (7, (.v 7)), (6, e123), (5, e92)], [], [(5, e126), (6, (.av 6))]⟩)
theorem esg1_w1_1 : (segL Try.prog G Gh eD ehs [17, 23, 27] 3000 0 4 { eh1 with H := eH1_w1_1 }).map LT.bare = some eR1_w1_1 := by kernel_rfl
theorem evc1_w1_1 (hB : eBase x0 Y0 x2 n u r s q A B C F K) (hJ : eJ1 n u r s q a b c d f g h A B C F K L M N) (hH : Hyp.ok eH1_w1_1 (eV x0 Y0 x2 n u r s q a b c d f g h A B C F K L M N)) (hF0 : 0 ≤ h ∧ h ≤ 0) (hF1 : 1 ≤ A a.toNat ∧ A a.toNat ≤ 1) (hF2 : 1 ≤ c ∧ c ≤ 16) (hG0 : a < n) :
    eW1 x0 Y0 x2 (eV x0 Y0 x2 n u r s q a b c d f g h A B C F K L M N) eR1_w1_1 := by
  simp only [eW1, eR1_w1_1, LT.holds, retTrue]
  have hB3 := hB
  have hJ3 := hJ
  simp only [eBase] at hB3
  obtain ⟨b0, b1, b2, b3, b4, c0, c1, c2, c3, c4, en0, en2, ea0, ea1, ea2, ea3, ea4, hs, hx0, _⟩ := hB3
  simp only [eJ1] at hJ3
  obtain ⟨l5, l6, l7, l8, l9, l10, l11, m5, m6, m7, i1, i2, _⟩ := hJ3
  have p1 := hs (a.toNat + 1) (by omega)
  rw [← ea2] at p1
  have p2 : pSum C (a.toNat + 1) = pSum C a.toNat + 8 + 2 * C a.toNat := rfl
  have p3 := c2 a.toNat
  have p4 : 8 * (a.toNat : Int) ≤ pSum C a.toNat := pSum_le (fun j => (c2 j).1) _
  have p5 : (a + 1).toNat = a.toNat + 1 := by omega
  refine ⟨ehT1, ⟨n, u, r, s, q, (_root_.Go.Sx.E.i (eV x0 Y0 x2 n u r s q a b c d f g h A B C F K L M N) e92), (_root_.Go.Sx.E.i (eV x0 Y0 x2 n u r s q a b c d f g h A B C F K L M N) e123), c, d, f, g, h, A, B, C, F, K, (_root_.Go.Sx.E.a (eV x0 Y0 x2 n u r s q a b c d f g h A B C F K L M N) e126), M, N, (by kernel_rfl), hB, ?_⟩, ?_⟩
  ·
    simp only [eJ1]
    refine ⟨?_, ?_, l7, l8, l9, l10, l11, (arr_at hH (by kernel_rfl)), m6, m7, ?_, ?_, trivial⟩
    all_goals
      try simp only [nd, eV, i_v, i_lit, i_add, i_sub, i_sel, a_av, a_tab, a_upd, b_le, decide_eq_true_eq, List.getD_cons_zero, List.getD_cons_succ]
      first
        | omega
        | (rw [p5]; omega)
        | (intro j hj; first | (have := i2 j (by omega); omega) | (split <;> first | omega | (have := i2 j (by omega); omega)) | omega)
  simp only [emu, Env.app, setAll, List.map_cons, List.map_nil, List.set, nd, eV, i_v, i_lit, i_add, i_sub, i_sel, a_av, a_tab, a_upd, b_le, decide_eq_true_eq, List.getD_cons_zero, List.getD_cons_succ]
  omega
noncomputable def eH1_w2_0 : Hyp := { eh1.H with e := [((.v 11), (0, 0)), (e118, (2, 2)), ((.v 7), (0, 0))] ++ eh1.H.e, b := [(e91, true)] ++ eh1.H.b }
noncomputable def eR1_w2_0 : LT := (.jump 1 eT1 ⟨[(11, (.v 11)), (7, (.v 7)), (6, e127), (5, e92)], [], [(5, e134), (6, (.av 6))]⟩)
theorem esg1_w2_0 : (segL Try.prog G Gh eD ehs [17, 23, 27] 3000 0 4 { eh1 with H := eH1_w2_0 }).map LT.bare = some eR1_w2_0 := by kernel_rfl
theorem evc1_w2_0 (hB : eBase x0 Y0 x2 n u r s q A B C F K) (hJ : eJ1 n u r s q a b c d f g h A B C F K L M N) (hH : Hyp.ok eH1_w2_0 (eV x0 Y0 x2 n u r s q a b c d f g h A B C F K L M N)) (hF0 : 0 ≤ h ∧ h ≤ 0) (hF1 : 2 ≤ A a.toNat ∧ A a.toNat ≤ 2) (hF2 : 0 ≤ c ∧ c ≤ 0) (hG0 : a < n) :
    eW1 x0 Y0 x2 (eV x0 Y0 x2 n u r s q a b c d f g h A B C F K L M N) eR1_w2_0 := by
  simp only [eW1, eR1_w2_0, LT.holds, retTrue]
  have hB3 := hB
  have hJ3 := hJ
  simp only [eBase] at hB3
  obtain ⟨b0, b1, b2, b3, b4, c0, c1, c2, c3, c4, en0, en2, ea0, ea1, ea2, ea3, ea4, hs, hx0, _⟩ := hB3
  simp only [eJ1] at hJ3
  obtain ⟨l5, l6, l7, l8, l9, l10, l11, m5, m6, m7, i1, i2, _⟩ := hJ3
  have p1 := hs (a.toNat + 1) (by omega)
  rw [← ea2] at p1
  have p2 : pSum C (a.toNat + 1) = pSum C a.toNat + 8 + 2 * C a.toNat := rfl
  have p3 := c2 a.toNat
  have p4 : 8 * (a.toNat : Int) ≤ pSum C a.toNat := pSum_le (fun j => (c2 j).1) _
  have p5 : (a + 1).toNat = a.toNat + 1 := by omega
  refine ⟨ehT1, ⟨n, u, r, s, q, (_root_.Go.Sx.E.i (eV x0 Y0 x2 n u r s q a b c d f g h A B C F K L M N) e92), (_root_.Go.Sx.E.i (eV x0 Y0 x2 n u r s q a b c d f g h A B C F K L M N) e127), c, d, f, g, h, A, B, C, F, K, (_root_.Go.Sx.E.a (eV x0 Y0 x2 n u r s q a b c d f g h A B C F K L M N) e134), M, N, (by kernel_rfl), hB, ?_⟩, ?_⟩
  ·
    simp only [eJ1]
    refine ⟨?_, ?_, l7, l8, l9, l10, l11, (arr_at hH (by kernel_rfl)), m6, m7, ?_, ?_, trivial⟩
    all_goals
      try simp only [nd, eV, i_v, i_lit, i_add, i_sub, i_sel, a_av, a_tab, a_upd, b_le, decide_eq_true_eq, List.getD_cons_zero, List.getD_cons_succ]
      first
        | omega
        | (rw [p5]; omega)
        | (intro j hj; first | (have := i2 j (by omega); omega) | (split <;> first | omega | (have := i2 j (by omega); omega)) | omega)
  simp only [emu, Env.app, setAll, List.map_cons, List.map_nil, List.set, nd, eV, i_v, i_lit, i_add, i_sub, i_sel, a_av, a_tab, a_upd, b_le, decide_eq_true_eq, List.getD_cons_zero, List.getD_cons_succ]
  omega
noncomputable def eH1_w2_1 : Hyp := { eh1.H with e := [((.v 11), (0, 0)), (e118, (2, 2)), ((.v 7), (1, 16))] ++ eh1.H.e, b := [(e91, true)] ++ eh1.H.b }
noncomputable def eR1_w2_1 : LT := (.jump 1 eT1 ⟨[(11, (.v 11)), (7, (.v 7)), (6, e127), (5, e92)], [], [(5, e134), (6, (.av 6))]⟩)
theorem esg1_w2_1 : (segL Try.prog G Gh eD ehs [17, 23, 27] 3000 0 4 { eh1 with H := eH1_w2_1 }).map LT.bare = some eR1_w2_1 := by kernel_rfl
theorem evc1_w2_1 (hB : eBase x0 Y0 x2 n u r s q A B C F K) (hJ : eJ1 n u r s q a b c d f g h A B C F K L M N) (hH : Hyp.ok eH1_w2_1 (eV x0 Y0 x2 n u r s q a b c d f g h A B C F K L M N)) (hF0 : 0 ≤ h ∧ h ≤ 0) (hF1 : 2 ≤ A a.toNat ∧ A a.toNat ≤ 2) (hF2 : 1 ≤ c ∧ c ≤ 16) (hG0 : a < n) :
    eW1 x0 Y0 x2 (eV x0 Y0 x2 n u r s q a b c d f g h A B C F K L M N) eR1_w2_1 := by
  simp only [eW1, eR1_w2_1, LT.holds, retTrue]
  have hB3 := hB
  have hJ3 := hJ
  simp only [eBase] at hB3
  obtain ⟨b0, b1, b2, b3, b4, c0, c1, c2, c3, c4, en0, en2, ea0, ea1, ea2, ea3, ea4, hs, hx0, _⟩ := hB3
  simp only [eJ1] at hJ3
  obtain ⟨l5, l6, l7, l8, l9, l10, l11, m5, m6, m7, i1, i2, _⟩ := hJ3
  have p1 := hs (a.toNat + 1) (by omega)
  rw [← ea2] at p1
  have p2 : pSum C (a.toNat + 1) = pSum C a.toNat + 8 + 2 * C a.toNat := rfl
  have p3 := c2 a.toNat
  have p4 : 8 * (a.toNat : Int) ≤ pSum C a.toNat := pSum_le (fun j => (c2 j).1) _
  have p5 : (a + 1).toNat = a.toNat + 1 := by omega
  refine ⟨ehT1, ⟨n, u, r, s, q, (_root_.Go.Sx.E.i (eV x0 Y0 x2 n u r s q a b c d f g h A B C F K L M N) e92), (_root_.Go.Sx.E.i (eV x0 Y0 x2 n u r s q a b c d f g h A B C F K L M N) e127), c, d, f, g, h, A, B, C, F, K, (_root_.Go.Sx.E.a (eV x0 Y0 x2 n u r s q a b c d f g h A B C F K L M N) e134), M, N, (by kernel_rfl), hB, ?_⟩, ?_⟩
  ·
    simp only [eJ1]
    refine ⟨?_, ?_, l7, l8, l9, l10, l11, (arr_at hH (by kernel_rfl)), m6, m7, ?_, ?_, trivial⟩
    all_goals
      try simp only [nd, eV, i_v, i_lit, i_add, i_sub, i_sel, a_av, a_tab, a_upd, b_le, decide_eq_true_eq, List.getD_cons_zero, List.getD_cons_succ]
      first
        | omega
        | (rw [p5]; omega)
        | (intro j hj; first | (have := i2 j (by omega); omega) | (split <;> first | omega | (have := i2 j (by omega); omega)) | omega)
  simp only [emu, Env.app, setAll, List.map_cons, List.map_nil, List.set, nd, eV, i_v, i_lit, i_add, i_sub, i_sel, a_av, a_tab, a_upd, b_le, decide_eq_true_eq, List.getD_cons_zero, List.getD_cons_succ]
  omega
noncomputable def eH1_w3_0 : Hyp := { eh1.H with e := [((.v 11), (0, 0)), (e118, (3, 3)), ((.v 7), (0, 0))] ++ eh1.H.e, b := [(e91, true)] ++ eh1.H.b }
noncomputable def eR1_w3_0 : LT := (.jump 1 eT1 ⟨[(11, (.v 11)), (7, (.v 7)), (6, e135), (5, e92)], [], [(5, e150), (6, (.av 6))]⟩)
theorem esg1_w3_0 : (segL Try.prog G Gh eD ehs [17, 23, 27] 3000 0 4 { eh1 with H := eH1_w3_0 }).map LT.bare = some eR1_w3_0 := by kernel_rfl
theorem evc1_w3_0 (hB : eBase x0 Y0 x2 n u r s q A B C F K) (hJ : eJ1 n u r s q a b c d f g h A B C F K L M N) (hH : Hyp.ok eH1_w3_0 (eV x0 Y0 x2 n u r s q a b c d f g h A B C F K L M N)) (hF0 : 0 ≤ h ∧ h ≤ 0) (hF1 : 3 ≤ A a.toNat ∧ A a.toNat ≤ 3) (hF2 : 0 ≤ c ∧ c ≤ 0) (hG0 : a < n) :
    eW1 x0 Y0 x2 (eV x0 Y0 x2 n u r s q a b c d f g h A B C F K L M N) eR1_w3_0 := by
  simp only [eW1, eR1_w3_0, LT.holds, retTrue]
  have hB3 := hB
  have hJ3 := hJ
  simp only [eBase] at hB3
  obtain ⟨b0, b1, b2, b3, b4, c0, c1, c2, c3, c4, en0, en2, ea0, ea1, ea2, ea3, ea4, hs, hx0, _⟩ := hB3
  simp only [eJ1] at hJ3
  obtain ⟨l5, l6, l7, l8, l9, l10, l11, m5, m6, m7, i1, i2, _⟩ := hJ3
  have p1 := hs (a.toNat + 1) (by omega)
  rw [← ea2] at p1
  have p2 : pSum C (a.toNat + 1) = pSum C a.toNat + 8 + 2 * C a.toNat := rfl
  have p3 := c2 a.toNat
  have p4 : 8 * (a.toNat : Int) ≤ pSum C a.toNat := pSum_le (fun j => (c2 j).1) _
  have p5 : (a + 1).toNat = a.toNat + 1 := by omega
  refine ⟨ehT1, ⟨n, u, r, s, q, (_root_.Go.Sx.E.i (eV x0 Y0 x2 n u r s q a b c d f g h A B C F K L M N) e92), (_root_.Go.Sx.E.i (eV x0 Y0 x2 n u r s q a b c d f g h A B C F K L M N) e135), c, d, f, g, h, A, B, C, F, K, (_root_.Go.Sx.E.a (eV x0 Y0 x2 n u r s q a b c d f g h A B C F K L M N) e150), M, N, (by kernel_rfl), hB, ?_⟩, ?_⟩
  ·
    simp only [eJ1]
    refine ⟨?_, ?_, l7, l8, l9, l10, l11, (arr_at hH (by kernel_rfl)), m6, m7, ?_, ?_, trivial⟩
    all_goals
      try simp only [nd, eV, i_v, i_lit, i_add, i_sub, i_sel, a_av, a_tab, a_upd, b_le, decide_eq_true_eq, List.getD_cons_zero, List.getD_cons_succ]
      first
        | omega
        | (rw [p5]; omega)
        | (intro j hj; first | (have := i2 j (by omega); omega) | (split <;> first | omega | (have := i2 j (by omega); omega)) | omega)
  simp only [emu, Env.app, setAll, List.map_cons, List.map_nil, List.set, nd, eV, i_v, i_lit, i_add, i_sub, i_sel, a_av, a_tab, a_upd, b_le, decide_eq_true_eq, List.getD_cons_zero, List.getD_cons_succ]
  omega
noncomputable def eH1_w3_1 : Hyp := { eh1.H with e := [((.v 11), (0, 0)), (e118, (3, 3)), ((.v 7), (1, 16))] ++ eh1.H.e, b := [(e91, true)] ++ eh1.H.b }
noncomputable def eR1_w3_1 : LT := (.jump 1 eT1 ⟨[(11, (.v 11)), (7, (.v 7)), (6, e135), (5, e92)], [], [(5, e150), (6, (.av 6))]⟩)
theorem esg1_w3_1 : (segL Try.prog G Gh eD ehs [17, 23, 27] 3000 0 4 { eh1 with H := eH1_w3_1 }).map LT.bare = some eR1_w3_1 := by kernel_rfl
theorem evc1_w3_1 (hB : eBase x0 Y0 x2 n u r s q A B C F K) (hJ : eJ1 n u r s q a b c d f g h A B C F K L M N) (hH : Hyp.ok eH1_w3_1 (eV x0 Y0 x2 n u r s q a b c d f g h A B C F K L M N)) (hF0 : 0 ≤ h ∧ h ≤ 0) (hF1 : 3 ≤ A a.toNat ∧ A a.toNat ≤ 3) (hF2 : 1 ≤ c ∧ c ≤ 16) (hG0 : a < n) :
    eW1 x0 Y0 x2 (eV x0 Y0 x2 n u r s q a b c d f g h A B C F K L M N) eR1_w3_1 := by
  simp only [eW1, eR1_w3_1, LT.holds, retTrue]
  have hB3 := hB
  have hJ3 := hJ
  simp only [eBase] at hB3
  obtain ⟨b0, b1, b2, b3, b4, c0, c1, c2, c3, c4, en0, en2, ea0, ea1, ea2, ea3, ea4, hs, hx0, _⟩ := hB3
  simp only [eJ1] at hJ3
  obtain ⟨l5, l6, l7, l8, l9, l10, l11, m5, m6, m7, i1, i2, _⟩ := hJ3
  have p1 := hs (a.toNat + 1) (by omega)
  rw [← ea2] at p1
  have p2 : pSum C (a.toNat + 1) = pSum C a.toNat + 8 + 2 * C a.toNat := rfl
  have p3 := c2 a.toNat
  have p4 : 8 * (a.toNat : Int) ≤ pSum C a.toNat := pSum_le (fun j => (c2 j).1) _
  have p5 : (a + 1).toNat = a.toNat + 1 := by omega
  refine ⟨ehT1, ⟨n, u, r, s, q, (_root_.Go.Sx.E.i (eV x0 Y0 x2 n u r s q a b c d f g h A B C F K L M N) e92), (_root_.Go.Sx.E.i (eV x0 Y0 x2 n u r s q a b c d f g h A B C F K L M N) e135), c, d, f, g, h, A, B, C, F, K, (_root_.Go.Sx.E.a (eV x0 Y0 x2 n u r s q a b c d f g h A B C F K L M N) e150), M, N, (by kernel_rfl), hB, ?_⟩, ?_⟩
  ·
    simp only [eJ1]
    refine ⟨?_, ?_, l7, l8, l9, l10, l11, (arr_at hH (by kernel_rfl)), m6, m7, ?_, ?_, trivial⟩
    all_goals
      try simp only [nd, eV, i_v, i_lit, i_add, i_sub, i_sel, a_av, a_tab, a_upd, b_le, decide_eq_true_eq, List.getD_cons_zero, List.getD_cons_succ]
      first
        | omega
        | (rw [p5]; omega)
        | (intro j hj; first | (have := i2 j (by omega); omega) | (split <;> first | omega | (have := i2 j (by omega); omega)) | omega)
  simp only [emu, Env.app, setAll, List.map_cons, List.map_nil, List.set, nd, eV, i_v, i_lit, i_add, i_sub, i_sel, a_av, a_tab, a_upd, b_le, decide_eq_true_eq, List.getD_cons_zero, List.getD_cons_succ]
  omega
noncomputable def eH1_w4_0 : Hyp := { eh1.H with e := [((.v 11), (0, 0)), (e118, (4, 4)), ((.v 7), (0, 0))] ++ eh1.H.e, b := [(e91, true)] ++ eh1.H.b }
noncomputable def eR1_w4_0 : LT := (.jump 1 eT1 ⟨[(11, (.v 11)), (7, (.v 7)), (6, e119), (5, e92)], [], [(5, e152), (6, (.av 6))]⟩)
theorem esg1_w4_0 : (segL Try.prog G Gh eD ehs [17, 23, 27] 3000 0 4 { eh1 with H := eH1_w4_0 }).map LT.bare = some eR1_w4_0 := by kernel_rfl
theorem evc1_w4_0 (hB : eBase x0 Y0 x2 n u r s q A B C F K) (hJ : eJ1 n u r s q a b c d f g h A B C F K L M N) (hH : Hyp.ok eH1_w4_0 (eV x0 Y0 x2 n u r s q a b c d f g h A B C F K L M N)) (hF0 : 0 ≤ h ∧ h ≤ 0) (hF1 : 4 ≤ A a.toNat ∧ A a.toNat ≤ 4) (hF2 : 0 ≤ c ∧ c ≤ 0) (hG0 : a < n) :
    eW1 x0 Y0 x2 (eV x0 Y0 x2 n u r s q a b c d f g h A B C F K L M N) eR1_w4_0 := by
  simp only [eW1, eR1_w4_0, LT.holds, retTrue]
  have hB3 := hB
  have hJ3 := hJ
  simp only [eBase] at hB3
  obtain ⟨b0, b1, b2, b3, b4, c0, c1, c2, c3, c4, en0, en2, ea0, ea1, ea2, ea3, ea4, hs, hx0, _⟩ := hB3
  simp only [eJ1] at hJ3
  obtain ⟨l5, l6, l7, l8, l9, l10, l11, m5, m6, m7, i1, i2, _⟩ := hJ3
  have p1 := hs (a.toNat + 1) (by omega)
  rw [← ea2] at p1
  have p2 : pSum C (a.toNat + 1) = pSum C a.toNat + 8 + 2 * C a.toNat := rfl
  have p3 := c2 a.toNat
  have p4 : 8 * (a.toNat : Int) ≤ pSum C a.toNat := pSum_le (fun j => (c2 j).1) _
  have p5 : (a + 1).toNat = a.toNat + 1 := by omega
  refine ⟨ehT1, ⟨n, u, r, s, q, (_root_.Go.Sx.E.i (eV x0 Y0 x2 n u r s q a b c d f g h A B C F K L M N) e92), (_root_.Go.Sx.E.i (eV x0 Y0 x2 n u r s q a b c d f g h A B C F K L M N) e119), c, d, f, g, h, A, B, C, F, K, (_root_.Go.Sx.E.a (eV x0 Y0 x2 n u r s q a b c d f g h A B C F K L M N) e152), M, N, (by kernel_rfl), hB, ?_⟩, ?_⟩
  ·
    simp only [eJ1]
    refine ⟨?_, ?_, l7, l8, l9, l10, l11, (arr_at hH (by kernel_rfl)), m6, m7, ?_, ?_, trivial⟩
    all_goals
      try simp only [e92, e119, e120, e151, e152, eV, i_v, i_lit, i_add, i_sub, i_sel, a_av, a_tab, a_upd, b_le, decide_eq_true_eq, List.getD_cons_zero, List.getD_cons_succ]
      first
        | omega
        | (rw [p5]; omega)
        | (intro j hj; first | (have := i2 j (by omega); omega) | (split <;> first | omega | (have := i2 j (by omega); omega)) | omega)
  simp only [emu, Env.app, setAll, List.map_cons, List.map_nil, List.set, e92, e119, e120, e151, e152, eV, i_v, i_lit, i_add, i_sub, i_sel, a_av, a_tab, a_upd, b_le, decide_eq_true_eq, List.getD_cons_zero, List.getD_cons_succ]
  omega
noncomputable def eH1_w4_1 : Hyp := { eh1.H with e := [((.v 11), (0, 0)), (e118, (4, 4)), ((.v 7), (1, 16))] ++ eh1.H.e, b := [(e91, true)] ++ eh1.H.b }
noncomputable def eR1_w4_1 : LT := (.jump 1 eT1 ⟨[(11, (.v 11)), (7, (.v 7)), (6, e119), (5, e92)], [], [(5, e152), (6, (.av 6))]⟩)
theorem esg1_w4_1 : (segL Try.prog G Gh eD ehs [17, 23, 27] 3000 0 4 { eh1 with H := eH1_w4_1 }).map LT.bare = some eR1_w4_1 := by kernel_rfl
theorem evc1_w4_1 (hB : eBase x0 Y0 x2 n u r s q A B C F K) (hJ : eJ1 n u r s q a b c d f g h A B C F K L M N) (hH : Hyp.ok eH1_w4_1 (eV x0 Y0 x2 n u r s q a b c d f g h A B C F K L M N)) (hF0 : 0 ≤ h ∧ h ≤ 0) (hF1 : 4 ≤ A a.toNat ∧ A a.toNat ≤ 4) (hF2 : 1 ≤ c ∧ c ≤ 16) (hG0 : a < n) :
    eW1 x0 Y0 x2 (eV x0 Y0 x2 n u r s q a b c d f g h A B C F K L M N) eR1_w4_1 := by
  simp only [eW1, eR1_w4_1, LT.holds, retTrue]
  have hB3 := hB
  have hJ3 := hJ
  simp only [eBase] at hB3
  obtain ⟨b0, b1, b2, b3, b4, c0, c1, c2, c3, c4, en0, en2, ea0, ea1, ea2, ea3, ea4, hs, hx0, _⟩ := hB3
  simp only [eJ1] at hJ3
  obtain ⟨l5, l6, l7, l8, l9, l10, l11, m5, m6, m7, i1, i2, _⟩ := hJ3
  have p1 := hs (a.toNat + 1) (by omega)
  rw [← ea2] at p1
  have p2 : pSum C (a.toNat + 1) = pSum C a.toNat + 8 + 2 * C a.toNat := rfl
  have p3 := c2 a.toNat
  have p4 : 8 * (a.toNat : Int) ≤ pSum C a.toNat := pSum_le (fun j => (c2 j).1) _
  have p5 : (a + 1).toNat = a.toNat + 1 := by omega
  refine ⟨ehT1, ⟨n, u, r, s, q, (_root_.Go.Sx.E.i (eV x0 Y0 x2 n u r s q a b c d f g h A B C F K L M N) e92), (_root_.Go.Sx.E.i (eV x0 Y0 x2 n u r s q a b c d f g h A B C F K L M N) e119), c, d, f, g, h, A, B, C, F, K, (_root_.Go.Sx.E.a (eV x0 Y0 x2 n u r s q a b c d f g h A B C F K L M N) e152), M, N, (by kernel_rfl), hB, ?_⟩, ?_⟩
  ·
    simp only [eJ1]
    refine ⟨?_, ?_, l7, l8, l9, l10, l11, (arr_at hH (by kernel_rfl)), m6, m7, ?_, ?_, trivial⟩
    all_goals
      try simp only [e92, e119, e120, e151, e152, eV, i_v, i_lit, i_add, i_sub, i_sel, a_av, a_tab, a_upd, b_le, decide_eq_true_eq, List.getD_cons_zero, List.getD_cons_succ]
      first
        | omega
        | (rw [p5]; omega)
        | (intro j hj; first | (have := i2 j (by omega); omega) | (split <;> first | omega | (have := i2 j (by omega); omega)) | omega)
  simp only [emu, Env.app, setAll, List.map_cons, List.map_nil, List.set, e92, e119, e120, e151, e152, eV, i_v, i_lit, i_add, i_sub, i_sel, a_av, a_tab, a_upd, b_le, decide_eq_true_eq, List.getD_cons_zero, List.getD_cons_succ]
  omega
noncomputable def eH1_w5_0 : Hyp := { eh1.H with e := [((.v 11), (0, 0)), (e118, (5, 5)), ((.v 7), (0, 0))] ++ eh1.H.e, b := [(e91, true)] ++ eh1.H.b }
noncomputable def eR1_w5_0 : LT := (.jump 1 eT1 ⟨[(11, (.v 11)), (7, (.v 7)), (6, e155), (5, e92)], [], [(5, e168), (6, (.av 6))]⟩)
theorem esg1_w5_0 : (segL Try.prog G Gh eD ehs [17, 23, 27] 3000 0 4 { eh1 with H := eH1_w5_0 }).map LT.bare = some eR1_w5_0 := by kernel_rfl
theorem evc1_w5_0 (hB : eBase x0 Y0 x2 n u r s q A B C F K) (hJ : eJ1 n u r s q a b c d f g h A B C F K L M N) (hH : Hyp.ok eH1_w5_0 (eV x0 Y0 x2 n u r s q a b c d f g h A B C F K L M N)) (hF0 : 0 ≤ h ∧ h ≤ 0) (hF1 : 5 ≤ A a.toNat ∧ A a.toNat ≤ 5) (hF2 : 0 ≤ c ∧ c ≤ 0) (hG0 : a < n) :
    eW1 x0 Y0 x2 (eV x0 Y0 x2 n u r s q a b c d f g h A B C F K L M N) eR1_w5_0 := by
  simp only [eW1, eR1_w5_0, LT.holds, retTrue]
  have hB3 := hB
  have hJ3 := hJ
  simp only [eBase] at hB3
  obtain ⟨b0, b1, b2, b3, b4, c0, c1, c2, c3, c4, en0, en2, ea0, ea1, ea2, ea3, ea4, hs, hx0, _⟩ := hB3
  simp only [eJ1] at hJ3
  obtain ⟨l5, l6, l7, l8, l9, l10, l11, m5, m6, m7, i1, i2, _⟩ := hJ3
  have p1 := hs (a.toNat + 1) (by omega)
  rw [← ea2] at p1
  have p2 : pSum C (a.toNat + 1) = pSum C a.toNat + 8 + 2 * C a.toNat := rfl
  have p3 := c2 a.toNat
  have p4 : 8 * (a.toNat : Int) ≤ pSum C a.toNat := pSum_le (fun j => (c2 j).1) _
  have p5 : (a + 1).toNat = a.toNat + 1 := by omega
  refine ⟨ehT1, ⟨n, u, r, s, q, (_root_.Go.Sx.E.i (eV x0 Y0 x2 n u r s q a b c d f g h A B C F K L M N) e92), (_root_.Go.Sx.E.i (eV x0 Y0 x2 n u r s q a b c d f g h A B C F K L M N) e155), c, d, f, g, h, A, B, C, F, K, (_root_.Go.Sx.E.a (eV x0 Y0 x2 n u r s q a b c d f g h A B C F K L M N) e168), M, N, (by kernel_rfl), hB, ?_⟩, ?_⟩
  ·
    simp only [eJ1]
    refine ⟨?_, ?_, l7, l8, l9, l10, l11, (arr_at hH (by kernel_rfl)), m6, m7, ?_, ?_, trivial⟩
    all_goals
      try simp only [nd, eV, i_v, i_lit, i_add, i_sub, i_sel, a_av, a_tab, a_upd, b_le, decide_eq_true_eq, List.getD_cons_zero, List.getD_cons_succ]
      first
        | omega
        | (rw [p5]; omega)
        | (intro j hj; first | (have := i2 j (by omega); omega) | (split <;> first | omega | (have := i2 j (by omega); omega)) | omega)
  simp only [emu, Env.app, setAll, List.map_cons, List.map_nil, List.set, nd, eV, i_v, i_lit, i_add, i_sub, i_sel, a_av, a_tab, a_upd, b_le, decide_eq_true_eq, List.getD_cons_zero, List.getD_cons_succ]
  omega
noncomputable def eH1_w5_1 : Hyp := { eh1.H with e := [((.v 11), (0, 0)), (e118, (5, 5)), ((.v 7), (1, 16))] ++ eh1.H.e, b := [(e91, true)] ++ eh1.H.b }
noncomputable def eR1_w5_1 : LT := (.jump 1 eT1 ⟨[(11, (.v 11)), (7, (.v 7)), (6, e155), (5, e92)], [], [(5, e168), (6, (.av 6))]⟩)
theorem esg1_w5_1 : (segL Try.prog G Gh eD ehs [17, 23, 27] 3000 0 4 { eh1 with H := eH1_w5_1 }).map LT.bare = some eR1_w5_1 := by kernel_rfl
theorem evc1_w5_1 (hB : eBase x0 Y0 x2 n u r s q A B C F K) (hJ : eJ1 n u r s q a b c d f g h A B C F K L M N) (hH : Hyp.ok eH1_w5_1 (eV x0 Y0 x2 n u r s q a b c d f g h A B C F K L M N)) (hF0 : 0 ≤ h ∧ h ≤ 0) (hF1 : 5 ≤ A a.toNat ∧ A a.toNat ≤ 5) (hF2 : 1 ≤ c ∧ c ≤ 16) (hG0 : a < n) :
    eW1 x0 Y0 x2 (eV x0 Y0 x2 n u r s q a b c d f g h A B C F K L M N) eR1_w5_1 := by
  simp only [eW1, eR1_w5_1, LT.holds, retTrue]
  have hB3 := hB
  have hJ3 := hJ
  simp only [eBase] at hB3
  obtain ⟨b0, b1, b2, b3, b4, c0, c1, c2, c3, c4, en0, en2, ea0, ea1, ea2, ea3, ea4, hs, hx0, _⟩ := hB3
  simp only [eJ1] at hJ3
  obtain ⟨l5, l6, l7, l8, l9, l10, l11, m5, m6, m7, i1, i2, _⟩ := hJ3
  have p1 := hs (a.toNat + 1) (by omega)
  rw [← ea2] at p1
  have p2 : pSum C (a.toNat + 1) = pSum C a.toNat + 8 + 2 * C a.toNat := rfl
  have p3 := c2 a.toNat
  have p4 : 8 * (a.toNat : Int) ≤ pSum C a.toNat := pSum_le (fun j => (c2 j).1) _
  have p5 : (a + 1).toNat = a.toNat + 1 := by omega
  refine ⟨ehT1, ⟨n, u, r, s, q, (_root_.Go.Sx.E.i (eV x0 Y0 x2 n u r s q a b c d f g h A B C F K L M N) e92), (_root_.Go.Sx.E.i (eV x0 Y0 x2 n u r s q a b c d f g h A B C F K L M N) e155), c, d, f, g, h, A, B, C, F, K, (_root_.Go.Sx.E.a (eV x0 Y0 x2 n u r s q a b c d f g h A B C F K L M N) e168), M, N, (by kernel_rfl), hB, ?_⟩, ?_⟩
  ·
    simp only [eJ1]
    refine ⟨?_, ?_, l7, l8, l9, l10, l11, (arr_at hH (by kernel_rfl)), m6, m7, ?_, ?_, trivial⟩
    all_goals
      try simp only [nd, eV, i_v, i_lit, i_add, i_sub, i_sel, a_av, a_tab, a_upd, b_le, decide_eq_true_eq, List.getD_cons_zero, List.getD_cons_succ]
      first
        | omega
        | (rw [p5]; omega)
        | (intro j hj; first | (have := i2 j (by omega); omega) | (split <;> first | omega | (have := i2 j (by omega); omega)) | omega)
  simp only [emu, Env.app, setAll, List.map_cons, List.map_nil, List.set, nd, eV, i_v, i_lit, i_add, i_sub, i_sel, a_av, a_tab, a_upd, b_le, decide_eq_true_eq, List.getD_cons_zero, List.getD_cons_succ]
  omega
noncomputable def eH1_w6_0 : Hyp := { eh1.H with e := [((.v 11), (0, 0)), (e118, (6, 6)), ((.v 7), (0, 15))] ++ eh1.H.e, b := [(e91, true)] ++ eh1.H.b }
noncomputable def eR1_w6_0 : LT := (.jump 1 eT1 ⟨[(11, (.v 11)), (7, e169), (6, e139), (5, e92)], [], [(5, e173), (6, e174)]⟩)
theorem esg1_w6_0 : (segL Try.prog G Gh eD ehs [17, 23, 27] 3000 0 4 { eh1 with H := eH1_w6_0 }).map LT.bare = some eR1_w6_0 := by kernel_rfl
theorem evc1_w6_0 (hB : eBase x0 Y0 x2 n u r s q A B C F K) (hJ : eJ1 n u r s q a b c d f g h A B C F K L M N) (hH : Hyp.ok eH1_w6_0 (eV x0 Y0 x2 n u r s q a b c d f g h A B C F K L M N)) (hF0 : 0 ≤ h ∧ h ≤ 0) (hF1 : 6 ≤ A a.toNat ∧ A a.toNat ≤ 6) (hF2 : 0 ≤ c ∧ c ≤ 15) (hG0 : a < n) :
    eW1 x0 Y0 x2 (eV x0 Y0 x2 n u r s q a b c d f g h A B C F K L M N) eR1_w6_0 := by
  simp only [eW1, eR1_w6_0, LT.holds, retTrue]
  have hB3 := hB
  have hJ3 := hJ
  simp only [eBase] at hB3
  obtain ⟨b0, b1, b2, b3, b4, c0, c1, c2, c3, c4, en0, en2, ea0, ea1, ea2, ea3, ea4, hs, hx0, _⟩ := hB3
  simp only [eJ1] at hJ3
  obtain ⟨l5, l6, l7, l8, l9, l10, l11, m5, m6, m7, i1, i2, _⟩ := hJ3
  have p1 := hs (a.toNat + 1) (by omega)
  rw [← ea2] at p1
  have p2 : pSum C (a.toNat + 1) = pSum C a.toNat + 8 + 2 * C a.toNat := rfl
  have p3 := c2 a.toNat
  have p4 : 8 * (a.toNat : Int) ≤ pSum C a.toNat := pSum_le (fun j => (c2 j).1) _
  have p5 : (a + 1).toNat = a.toNat + 1 := by omega
  refine ⟨ehT1, ⟨n, u, r, s, q, (_root_.Go.Sx.E.i (eV x0 Y0 x2 n u r s q a b c d f g h A B C F K L M N) e92), (_root_.Go.Sx.E.i (eV x0 Y0 x2 n u r s q a b c d f g h A B C F K L M N) e139), (_root_.Go.Sx.E.i (eV x0 Y0 x2 n u r s q a b c d f g h A B C F K L M N) e169), d, f, g, h, A, B, C, F, K, (_root_.Go.Sx.E.a (eV x0 Y0 x2 n u r s q a b c d f g h A B C F K L M N) e173), (_root_.Go.Sx.E.a (eV x0 Y0 x2 n u r s q a b c d f g h A B C F K L M N) e174), N, (by kernel_rfl), hB, ?_⟩, ?_⟩
  ·
    simp only [eJ1]
    refine ⟨?_, ?_, ?_, l8, l9, l10, l11, (arr_at hH (by kernel_rfl)), (arr_at hH (by kernel_rfl)), m7, ?_, ?_, trivial⟩
    all_goals
      try simp only [nd, eV, i_v, i_lit, i_add, i_sub, i_sel, a_av, a_tab, a_upd, b_le, decide_eq_true_eq, List.getD_cons_zero, List.getD_cons_succ]
      first
        | omega
        | (rw [p5]; omega)
        | (intro j hj; first | (have := i2 j (by omega); omega) | (split <;> first | omega | (have := i2 j (by omega); omega)) | omega)
  simp only [emu, Env.app, setAll, List.map_cons, List.map_nil, List.set, nd, eV, i_v, i_lit, i_add, i_sub, i_sel, a_av, a_tab, a_upd, b_le, decide_eq_true_eq, List.getD_cons_zero, List.getD_cons_succ]
  omega
noncomputable def eH1_w6_16 : Hyp := { eh1.H with e := [((.v 11), (0, 0)), (e118, (6, 6)), ((.v 7), (16, 16))] ++ eh1.H.e, b := [(e91, true)] ++ eh1.H.b }
noncomputable def eR1_w6_16 : LT := (.jump 1 eT1 ⟨[(11, (.lit 4)), (7, (.v 7)), (6, (.v 6)), (5, e92)], [], [(5, (.av 5)), (6, (.av 6))]⟩)
theorem esg1_w6_16 : (segL Try.prog G Gh eD ehs [17, 23, 27] 3000 0 4 { eh1 with H := eH1_w6_16 }).map LT.bare = some eR1_w6_16 := by kernel_rfl
theorem evc1_w6_16 (hB : eBase x0 Y0 x2 n u r s q A B C F K) (hJ : eJ1 n u r s q a b c d f g h A B C F K L M N) (hH : Hyp.ok eH1_w6_16 (eV x0 Y0 x2 n u r s q a b c d f g h A B C F K L M N)) (hF0 : 0 ≤ h ∧ h ≤ 0) (hF1 : 6 ≤ A a.toNat ∧ A a.toNat ≤ 6) (hF2 : 16 ≤ c ∧ c ≤ 16) (hG0 : a < n) :
    eW1 x0 Y0 x2 (eV x0 Y0 x2 n u r s q a b c d f g h A B C F K L M N) eR1_w6_16 := by
  simp only [eW1, eR1_w6_16, LT.holds, retTrue]
  have hB3 := hB
  have hJ3 := hJ
  simp only [eBase] at hB3
  obtain ⟨b0, b1, b2, b3, b4, c0, c1, c2, c3, c4, en0, en2, ea0, ea1, ea2, ea3, ea4, hs, hx0, _⟩ := hB3
  simp only [eJ1] at hJ3
  obtain ⟨l5, l6, l7, l8, l9, l10, l11, m5, m6, m7, i1, i2, _⟩ := hJ3
  have p1 := hs (a.toNat + 1) (by omega)
  rw [← ea2] at p1
  have p2 : pSum C (a.toNat + 1) = pSum C a.toNat + 8 + 2 * C a.toNat := rfl
  have p3 := c2 a.toNat
  have p4 : 8 * (a.toNat : Int) ≤ pSum C a.toNat := pSum_le (fun j => (c2 j).1) _
  have p5 : (a + 1).toNat = a.toNat + 1 := by omega
  refine ⟨ehT1, ⟨n, u, r, s, q, (_root_.Go.Sx.E.i (eV x0 Y0 x2 n u r s q a b c d f g h A B C F K L M N) e92), b, c, d, f, g, (_root_.Go.Sx.E.i (eV x0 Y0 x2 n u r s q a b c d f g h A B C F K L M N) (.lit 4)), A, B, C, F, K, L, M, N, (by kernel_rfl), hB, ?_⟩, ?_⟩
  ·
    simp only [eJ1]
    refine ⟨?_, l6, l7, l8, l9, l10, ?_, m5, m6, m7, ?_, ?_, trivial⟩
    all_goals
      try simp only [e92, eV, i_v, i_lit, i_add, i_sub, i_sel, a_av, a_tab, a_upd, b_le, decide_eq_true_eq, List.getD_cons_zero, List.getD_cons_succ]
      first
        | omega
        | (rw [p5]; omega)
        | (intro j hj; first | (have := i2 j (by omega); omega) | (split <;> first | omega | (have := i2 j (by omega); omega)) | omega)
  simp only [emu, Env.app, setAll, List.map_cons, List.map_nil, List.set, e92, eV, i_v, i_lit, i_add, i_sub, i_sel, a_av, a_tab, a_upd, b_le, decide_eq_true_eq, List.getD_cons_zero, List.getD_cons_succ]
  omega
noncomputable def eH1_w7_0 : Hyp := { eh1.H with e := [((.v 11), (0, 0)), (e118, (7, 9223372036854775807)), ((.v 7), (0, 0))] ++ eh1.H.e, b := [(e91, true)] ++ eh1.H.b }
noncomputable def eR1_w7_0 : LT := (.jump 1 eT1 ⟨[(11, (.lit 2)), (7, (.v 7)), (6, (.v 6)), (5, e92)], [], [(5, (.av 5)), (6, (.av 6))]⟩)
theorem esg1_w7_0 : (segL Try.prog G Gh eD ehs [17, 23, 27] 3000 0 4 { eh1 with H := eH1_w7_0 }).map LT.bare = some eR1_w7_0 := by kernel_rfl
theorem evc1_w7_0 (hB : eBase x0 Y0 x2 n u r s q A B C F K) (hJ : eJ1 n u r s q a b c d f g h A B C F K L M N) (hH : Hyp.ok eH1_w7_0 (eV x0 Y0 x2 n u r s q a b c d f g h A B C F K L M N)) (hF0 : 0 ≤ h ∧ h ≤ 0) (hF1 : 7 ≤ A a.toNat ∧ A a.toNat ≤ 9223372036854775807) (hF2 : 0 ≤ c ∧ c ≤ 0) (hG0 : a < n) :
    eW1 x0 Y0 x2 (eV x0 Y0 x2 n u r s q a b c d f g h A B C F K L M N) eR1_w7_0 := by
  simp only [eW1, eR1_w7_0, LT.holds, retTrue]
  have hB3 := hB
  have hJ3 := hJ
  simp only [eBase] at hB3
  obtain ⟨b0, b1, b2, b3, b4, c0, c1, c2, c3, c4, en0, en2, ea0, ea1, ea2, ea3, ea4, hs, hx0, _⟩ := hB3
  simp only [eJ1] at hJ3
  obtain ⟨l5, l6, l7, l8, l9, l10, l11, m5, m6, m7, i1, i2, _⟩ := hJ3
  have p1 := hs (a.toNat + 1) (by omega)
  rw [← ea2] at p1
  have p2 : pSum C (a.toNat + 1) = pSum C a.toNat + 8 + 2 * C a.toNat := rfl
  have p3 := c2 a.toNat
  have p4 : 8 * (a.toNat : Int) ≤ pSum C a.toNat := pSum_le (fun j => (c2 j).1) _
  have p5 : (a + 1).toNat = a.toNat + 1 := by omega
  refine ⟨ehT1, ⟨n, u, r, s, q, (_root_.Go.Sx.E.i (eV x0 Y0 x2 n u r s q a b c d f g h A B C F K L M N) e92), b, c, d, f, g, (_root_.Go.Sx.E.i (eV x0 Y0 x2 n u r s q a b c d f g h A B C F K L M N) (.lit 2)), A, B, C, F, K, L, M, N, (by kernel_rfl), hB, ?_⟩, ?_⟩
  ·
    simp only [eJ1]
    refine ⟨?_, l6, l7, l8, l9, l10, ?_, m5, m6, m7, ?_, ?_, trivial⟩
    all_goals
      try simp only [e92, eV, i_v, i_lit, i_add, i_sub, i_sel, a_av, a_tab, a_upd, b_le, decide_eq_true_eq, List.getD_cons_zero, List.getD_cons_succ]
      first
        | omega
        | (rw [p5]; omega)
        | (intro j hj; first | (have := i2 j (by omega); omega) | (split <;> first | omega | (have := i2 j (by omega); omega)) | omega)
  simp only [emu, Env.app, setAll, List.map_cons, List.map_nil, List.set, e92, eV, i_v, i_lit, i_add, i_sub, i_sel, a_av, a_tab, a_upd, b_le, decide_eq_true_eq, List.getD_cons_zero, List.getD_cons_succ]
  omega
noncomputable def eH1_w7_1 : Hyp := { eh1.H with e := [((.v 11), (0, 0)), (e118, (7, 9223372036854775807)), ((.v 7), (1, 1))] ++ eh1.H.e, b := [(e91, true)] ++ eh1.H.b }
noncomputable def eR1_w7_1 : LT := (.need e178 (.need e181 (.jump 1 eT1 ⟨[(11, (.v 11)), (7, e175), (6, (.v 6)), (5, e92)], [], [(5, e196), (6, (.av 6))]⟩)))
theorem esg1_w7_1 : (segL Try.prog G Gh eD ehs [17, 23, 27] 3000 0 4 { eh1 with H := eH1_w7_1 }).map LT.bare = some eR1_w7_1 := by kernel_rfl
theorem evc1_w7_1 (hB : eBase x0 Y0 x2 n u r s q A B C F K) (hJ : eJ1 n u r s q a b c d f g h A B C F K L M N) (hH : Hyp.ok eH1_w7_1 (eV x0 Y0 x2 n u r s q a b c d f g h A B C F K L M N)) (hF0 : 0 ≤ h ∧ h ≤ 0) (hF1 : 7 ≤ A a.toNat ∧ A a.toNat ≤ 9223372036854775807) (hF2 : 1 ≤ c ∧ c ≤ 1) (hG0 : a < n) :
    eW1 x0 Y0 x2 (eV x0 Y0 x2 n u r s q a b c d f g h A B C F K L M N) eR1_w7_1 := by
  simp only [eW1, eR1_w7_1, LT.holds, retTrue]
  have hB3 := hB
  have hJ3 := hJ
  simp only [eBase] at hB3
  obtain ⟨b0, b1, b2, b3, b4, c0, c1, c2, c3, c4, en0, en2, ea0, ea1, ea2, ea3, ea4, hs, hx0, _⟩ := hB3
  simp only [eJ1] at hJ3
  obtain ⟨l5, l6, l7, l8, l9, l10, l11, m5, m6, m7, i1, i2, _⟩ := hJ3
  have p1 := hs (a.toNat + 1) (by omega)
  rw [← ea2] at p1
  have p2 : pSum C (a.toNat + 1) = pSum C a.toNat + 8 + 2 * C a.toNat := rfl
  have p3 := c2 a.toNat
  have p4 : 8 * (a.toNat : Int) ≤ pSum C a.toNat := pSum_le (fun j => (c2 j).1) _
  have p5 : (a + 1).toNat = a.toNat + 1 := by omega
  have q0 := i2 (c + -1).toNat (by omega)
  have q1 := i2 0 (by omega)
  refine ⟨?_, fun hc0 => ?_⟩
  ·
    first
      | exact decide_eq_true hG0
      | (simp only [e175, e176, e177, e178, eV, i_v, i_lit, i_add, i_sub, i_sel, a_av, b_le, b_lt, b_or, b_and, b_not, Bool.or_eq_true, Bool.and_eq_true, Bool.not_eq_true', decide_eq_true_eq, decide_eq_false_iff_not, List.getD_cons_zero, List.getD_cons_succ]; first | omega | (simp only [Int.toNat_zero] at *; omega))
  ·
    refine ⟨?_, fun hc1 => ?_⟩
    ·
      first
        | exact decide_eq_true hG0
        | (simp only [nd, eV, i_v, i_lit, i_add, i_sub, i_sel, a_av, b_le, b_lt, b_or, b_and, b_not, Bool.or_eq_true, Bool.and_eq_true, Bool.not_eq_true', decide_eq_true_eq, decide_eq_false_iff_not, List.getD_cons_zero, List.getD_cons_succ]; first | omega | (simp only [Int.toNat_zero] at *; omega))
    ·
      refine ⟨ehT1, ⟨n, u, r, s, q, (_root_.Go.Sx.E.i (eV x0 Y0 x2 n u r s q a b c d f g h A B C F K L M N) e92), b, (_root_.Go.Sx.E.i (eV x0 Y0 x2 n u r s q a b c d f g h A B C F K L M N) e175), d, f, g, h, A, B, C, F, K, (_root_.Go.Sx.E.a (eV x0 Y0 x2 n u r s q a b c d f g h A B C F K L M N) e196), M, N, (by kernel_rfl), hB, ?_⟩, ?_⟩
      ·
        simp only [eJ1]
        refine ⟨?_, l6, ?_, l8, l9, l10, l11, (arr_at hH (by kernel_rfl)), m6, m7, ?_, ?_, trivial⟩
        all_goals
          try simp only [nd, eV, i_v, i_lit, i_add, i_sub, i_sel, a_av, a_tab, a_upd, b_le, decide_eq_true_eq, List.getD_cons_zero, List.getD_cons_succ]
          first
            | omega
            | (rw [p5]; omega)
            | (intro j hj; first | (have := i2 j (by omega); omega) | (split <;> first | omega | (have := i2 j (by omega); omega)) | omega)
      simp only [emu, Env.app, setAll, List.map_cons, List.map_nil, List.set, nd, eV, i_v, i_lit, i_add, i_sub, i_sel, a_av, a_tab, a_upd, b_le, decide_eq_true_eq, List.getD_cons_zero, List.getD_cons_succ]
      omega
noncomputable def eH1_w7_2 : Hyp := { eh1.H with e := [((.v 11), (0, 0)), (e118, (7, 9223372036854775807)), ((.v 7), (2, 16))] ++ eh1.H.e, b := [(e91, true)] ++ eh1.H.b }
noncomputable def eR1_w7_2 : LT := (.need e178 (.need e181 (.jump 1 eT1 ⟨[(11, (.v 11)), (7, e175), (6, (.v 6)), (5, e92)], [], [(5, e196), (6, (.av 6))]⟩)))
theorem esg1_w7_2 : (segL Try.prog G Gh eD ehs [17, 23, 27] 3000 0 4 { eh1 with H := eH1_w7_2 }).map LT.bare = some eR1_w7_2 := by kernel_rfl
theorem evc1_w7_2 (hB : eBase x0 Y0 x2 n u r s q A B C F K) (hJ : eJ1 n u r s q a b c d f g h A B C F K L M N) (hH : Hyp.ok eH1_w7_2 (eV x0 Y0 x2 n u r s q a b c d f g h A B C F K L M N)) (hF0 : 0 ≤ h ∧ h ≤ 0) (hF1 : 7 ≤ A a.toNat ∧ A a.toNat ≤ 9223372036854775807) (hF2 : 2 ≤ c ∧ c ≤ 16) (hG0 : a < n) :
    eW1 x0 Y0 x2 (eV x0 Y0 x2 n u r s q a b c d f g h A B C F K L M N) eR1_w7_2 := by
  simp only [eW1, eR1_w7_2, LT.holds, retTrue]
  have hB3 := hB
  have hJ3 := hJ
  simp only [eBase] at hB3
  obtain ⟨b0, b1, b2, b3, b4, c0, c1, c2, c3, c4, en0, en2, ea0, ea1, ea2, ea3, ea4, hs, hx0, _⟩ := hB3
  simp only [eJ1] at hJ3
  obtain ⟨l5, l6, l7, l8, l9, l10, l11, m5, m6, m7, i1, i2, _⟩ := hJ3
  have p1 := hs (a.toNat + 1) (by omega)
  rw [← ea2] at p1
  have p2 : pSum C (a.toNat + 1) = pSum C a.toNat + 8 + 2 * C a.toNat := rfl
  have p3 := c2 a.toNat
  have p4 : 8 * (a.toNat : Int) ≤ pSum C a.toNat := pSum_le (fun j => (c2 j).1) _
  have p5 : (a + 1).toNat = a.toNat + 1 := by omega
  have q0 := i2 (c + -1).toNat (by omega)
  have q1 := i2 0 (by omega)
  refine ⟨?_, fun hc0 => ?_⟩
  ·
    first
      | exact decide_eq_true hG0
      | (simp only [e175, e176, e177, e178, eV, i_v, i_lit, i_add, i_sub, i_sel, a_av, b_le, b_lt, b_or, b_and, b_not, Bool.or_eq_true, Bool.and_eq_true, Bool.not_eq_true', decide_eq_true_eq, decide_eq_false_iff_not, List.getD_cons_zero, List.getD_cons_succ]; first | omega | (simp only [Int.toNat_zero] at *; omega))
  ·
    refine ⟨?_, fun hc1 => ?_⟩
    ·
      first
        | exact decide_eq_true hG0
        | (simp only [nd, eV, i_v, i_lit, i_add, i_sub, i_sel, a_av, b_le, b_lt, b_or, b_and, b_not, Bool.or_eq_true, Bool.and_eq_true, Bool.not_eq_true', decide_eq_true_eq, decide_eq_false_iff_not, List.getD_cons_zero, List.getD_cons_succ]; first | omega | (simp only [Int.toNat_zero] at *; omega))
    ·
      refine ⟨ehT1, ⟨n, u, r, s, q, (_root_.Go.Sx.E.i (eV x0 Y0 x2 n u r s q a b c d f g h A B C F K L M N) e92), b, (_root_.Go.Sx.E.i (eV x0 Y0 x2 n u r s q a b c d f g h A B C F K L M N) e175), d, f, g, h, A, B, C, F, K, (_root_.Go.Sx.E.a (eV x0 Y0 x2 n u r s q a b c d f g h A B C F K L M N) e196), M, N, (by kernel_rfl), hB, ?_⟩, ?_⟩
      ·
        simp only [eJ1]
        refine ⟨?_, l6, ?_, l8, l9, l10, l11, (arr_at hH (by kernel_rfl)), m6, m7, ?_, ?_, trivial⟩
        all_goals
          try simp only [nd, eV, i_v, i_lit, i_add, i_sub, i_sel, a_av, a_tab, a_upd, b_le, decide_eq_true_eq, List.getD_cons_zero, List.getD_cons_succ]
          first
            | omega
            | (rw [p5]; omega)
            | (intro j hj; first | (have := i2 j (by omega); omega) | (split <;> first | omega | (have := i2 j (by omega); omega)) | omega)
      simp only [emu, Env.app, setAll, List.map_cons, List.map_nil, List.set, nd, eV, i_v, i_lit, i_add, i_sub, i_sel, a_av, a_tab, a_upd, b_le, decide_eq_true_eq, List.getD_cons_zero, List.getD_cons_succ]
      omega
noncomputable def eH1_wm_0 : Hyp := { eh1.H with e := [((.v 11), (0, 0)), (e118, ((-9223372036854775808), (-1))), ((.v 7), (0, 0))] ++ eh1.H.e, b := [(e91, true)] ++ eh1.H.b }
noncomputable def eR1_wm_0 : LT := (.jump 1 eT1 ⟨[(11, (.lit 2)), (7, (.v 7)), (6, (.v 6)), (5, e92)], [], [(5, (.av 5)), (6, (.av 6))]⟩)
theorem esg1_wm_0 : (segL Try.prog G Gh eD ehs [17, 23, 27] 3000 0 4 { eh1 with H := eH1_wm_0 }).map LT.bare = some eR1_wm_0 := by kernel_rfl
theorem evc1_wm_0 (hB : eBase x0 Y0 x2 n u r s q A B C F K) (hJ : eJ1 n u r s q a b c d f g h A B C F K L M N) (hH : Hyp.ok eH1_wm_0 (eV x0 Y0 x2 n u r s q a b c d f g h A B C F K L M N)) (hF0 : 0 ≤ h ∧ h ≤ 0) (hF1 : -9223372036854775808 ≤ A a.toNat ∧ A a.toNat ≤ -1) (hF2 : 0 ≤ c ∧ c ≤ 0) (hG0 : a < n) :
    eW1 x0 Y0 x2 (eV x0 Y0 x2 n u r s q a b c d f g h A B C F K L M N) eR1_wm_0 := by
  simp only [eW1, eR1_wm_0, LT.holds, retTrue]
  have hB3 := hB
  have hJ3 := hJ
  simp only [eBase] at hB3
  obtain ⟨b0, b1, b2, b3, b4, c0, c1, c2, c3, c4, en0, en2, ea0, ea1, ea2, ea3, ea4, hs, hx0, _⟩ := hB3
  simp only [eJ1] at hJ3
  obtain ⟨l5, l6, l7, l8, l9, l10, l11, m5, m6, m7, i1, i2, _⟩ := hJ3
  have p1 := hs (a.toNat + 1) (by omega)
  rw [← ea2] at p1
  have p2 : pSum C (a.toNat + 1) = pSum C a.toNat + 8 + 2 * C a.toNat := rfl
  have p3 := c2 a.toNat
  have p4 : 8 * (a.toNat : Int) ≤ pSum C a.toNat := pSum_le (fun j => (c2 j).1) _
  have p5 : (a + 1).toNat = a.toNat + 1 := by omega
  refine ⟨ehT1, ⟨n, u, r, s, q, (_root_.Go.Sx.E.i (eV x0 Y0 x2 n u r s q a b c d f g h A B C F K L M N) e92), b, c, d, f, g, (_root_.Go.Sx.E.i (eV x0 Y0 x2 n u r s q a b c d f g h A B C F K L M N) (.lit 2)), A, B, C, F, K, L, M, N, (by kernel_rfl), hB, ?_⟩, ?_⟩
  ·
    simp only [eJ1]
    refine ⟨?_, l6, l7, l8, l9, l10, ?_, m5, m6, m7, ?_, ?_, trivial⟩
    all_goals
      try simp only [e92, eV, i_v, i_lit, i_add, i_sub, i_sel, a_av, a_tab, a_upd, b_le, decide_eq_true_eq, List.getD_cons_zero, List.getD_cons_succ]
      first
        | omega
        | (rw [p5]; omega)
        | (intro j hj; first | (have := i2 j (by omega); omega) | (split <;> first | omega | (have := i2 j (by omega); omega)) | omega)
  simp only [emu, Env.app, setAll, List.map_cons, List.map_nil, List.set, e92, eV, i_v, i_lit, i_add, i_sub, i_sel, a_av, a_tab, a_upd, b_le, decide_eq_true_eq, List.getD_cons_zero, List.getD_cons_succ]
  omega
noncomputable def eH1_wm_1 : Hyp := { eh1.H with e := [((.v 11), (0, 0)), (e118, ((-9223372036854775808), (-1))), ((.v 7), (1, 1))] ++ eh1.H.e, b := [(e91, true)] ++ eh1.H.b }
noncomputable def eR1_wm_1 : LT := (.need e178 (.need e181 (.jump 1 eT1 ⟨[(11, (.v 11)), (7, e175), (6, (.v 6)), (5, e92)], [], [(5, e196), (6, (.av 6))]⟩)))
theorem esg1_wm_1 : (segL Try.prog G Gh eD ehs [17, 23, 27] 3000 0 4 { eh1 with H := eH1_wm_1 }).map LT.bare = some eR1_wm_1 := by kernel_rfl
theorem evc1_wm_1 (hB : eBase x0 Y0 x2 n u r s q A B C F K) (hJ : eJ1 n u r s q a b c d f g h A B C F K L M N) (hH : Hyp.ok eH1_wm_1 (eV x0 Y0 x2 n u r s q a b c d f g h A B C F K L M N)) (hF0 : 0 ≤ h ∧ h ≤ 0) (hF1 : -9223372036854775808 ≤ A a.toNat ∧ A a.toNat ≤ -1) (hF2 : 1 ≤ c ∧ c ≤ 1) (hG0 : a < n) :
    eW1 x0 Y0 x2 (eV x0 Y0 x2 n u r s q a b c d f g h A B C F K L M N) eR1_wm_1 := by
  simp only [eW1, eR1_wm_1, LT.holds, retTrue]
  have hB3 := hB
  have hJ3 := hJ
  simp only [eBase] at hB3
  obtain ⟨b0, b1, b2, b3, b4, c0, c1, c2, c3, c4, en0, en2, ea0, ea1, ea2, ea3, ea4, hs, hx0, _⟩ := hB3
  simp only [eJ1] at hJ3
  obtain ⟨l5, l6, l7, l8, l9, l10, l11, m5, m6, m7, i1, i2, _⟩ := hJ3
  have p1 := hs (a.toNat + 1) (by omega)
  rw [← ea2] at p1
  have p2 : pSum C (a.toNat + 1) = pSum C a.toNat + 8 + 2 * C a.toNat := rfl
  have p3 := c2 a.toNat
  have p4 : 8 * (a.toNat : Int) ≤ pSum C a.toNat := pSum_le (fun j => (c2 j).1) _
  have p5 : (a + 1).toNat = a.toNat + 1 := by omega
  have q0 := i2 (c + -1).toNat (by omega)
  have q1 := i2 0 (by omega)
  refine ⟨?_, fun hc0 => ?_⟩
  ·
    first
      | exact decide_eq_true hG0
      | (simp only [e175, e176, e177, e178, eV, i_v, i_lit, i_add, i_sub, i_sel, a_av, b_le, b_lt, b_or, b_and, b_not, Bool.or_eq_true, Bool.and_eq_true, Bool.not_eq_true', decide_eq_true_eq, decide_eq_false_iff_not, List.getD_cons_zero, List.getD_cons_succ]; first | omega | (simp only [Int.toNat_zero] at *; omega))
  ·
    refine ⟨?_, fun hc1 => ?_⟩
    ·
      first
        | exact decide_eq_true hG0
        | (simp only [nd, eV, i_v, i_lit, i_add, i_sub, i_sel, a_av, b_le, b_lt, b_or, b_and, b_not, Bool.or_eq_true, Bool.and_eq_true, Bool.not_eq_true', decide_eq_true_eq, decide_eq_false_iff_not, List.getD_cons_zero, List.getD_cons_succ]; first | omega | (simp only [Int.toNat_zero] at *; omega))
    ·
      refine ⟨ehT1, ⟨n, u, r, s, q, (_root_.Go.Sx.E.i (eV x0 Y0 x2 n u r s q a b c d f g h A B C F K L M N) e92), b, (_root_.Go.Sx.E.i (eV x0 Y0 x2 n u r s q a b c d f g h A B C F K L M N) e175), d, f, g, h, A, B, C, F, K, (_root_.Go.Sx.E.a (eV x0 Y0 x2 n u r s q a b c d f g h A B C F K L M N) e196), M, N, (by kernel_rfl), hB, ?_⟩, ?_⟩
      ·
        simp only [eJ1]
        refine ⟨?_, l6, ?_, l8, l9, l10, l11, (arr_at hH (by kernel_rfl)), m6, m7, ?_, ?_, trivial⟩
        all_goals
          try simp only [nd, eV, i_v, i_lit, i_add, i_sub, i_sel, a_av, a_tab, a_upd, b_le, decide_eq_true_eq, List.getD_cons_zero, List.getD_cons_succ]
          first
            | omega
            | (rw [p5]; omega)
            | (intro j hj; first | (have := i2 j (by omega); omega) | (split <;> first | omega | (have := i2 j (by omega); omega)) | omega)
      simp only [emu, Env.app, setAll, List.map_cons, List.map_nil, List.set, nd, eV, i_v, i_lit, i_add, i_sub, i_sel, a_av, a_tab, a_upd, b_le, decide_eq_true_eq, List.getD_cons_zero, List.getD_cons_succ]
      omega
noncomputable def eH1_wm_2 : Hyp := { eh1.H with e := [((.v 11), (0, 0)), (e118, ((-9223372036854775808), (-1))), ((.v 7), (2, 16))] ++ eh1.H.e, b := [(e91, true)] ++ eh1.H.b }
noncomputable def eR1_wm_2 : LT := (.need e178 (.need e181 (.jump 1 eT1 ⟨[(11, (.v 11)), (7, e175), (6, (.v 6)), (5, e92)], [], [(5, e196), (6, (.av 6))]⟩)))
theorem esg1_wm_2 : (segL Try.prog G Gh eD ehs [17, 23, 27] 3000 0 4 { eh1 with H := eH1_wm_2 }).map LT.bare = some eR1_wm_2 := by kernel_rfl
theorem evc1_wm_2 (hB : eBase x0 Y0 x2 n u r s q A B C F K) (hJ : eJ1 n u r s q a b c d f g h A B C F K L M N) (hH : Hyp.ok eH1_wm_2 (eV x0 Y0 x2 n u r s q a b c d f g h A B C F K L M N)) (hF0 : 0 ≤ h ∧ h ≤ 0) (hF1 : -9223372036854775808 ≤ A a.toNat ∧ A a.toNat ≤ -1) (hF2 : 2 ≤ c ∧ c ≤ 16) (hG0 : a < n) :
    eW1 x0 Y0 x2 (eV x0 Y0 x2 n u r s q a b c d f g h A B C F K L M N) eR1_wm_2 := by
  simp only [eW1, eR1_wm_2, LT.holds, retTrue]
  have hB3 := hB
  have hJ3 := hJ
  simp only [eBase] at hB3
  obtain ⟨b0, b1, b2, b3, b4, c0, c1, c2, c3, c4, en0, en2, ea0, ea1, ea2, ea3, ea4, hs, hx0, _⟩ := hB3
  simp only [eJ1] at hJ3
  obtain ⟨l5, l6, l7, l8, l9, l10, l11, m5, m6, m7, i1, i2, _⟩ := hJ3
  have p1 := hs (a.toNat + 1) (by omega)
  rw [← ea2] at p1
  have p2 : pSum C (a.toNat + 1) = pSum C a.toNat + 8 + 2 * C a.toNat := rfl
  have p3 := c2 a.toNat
  have p4 : 8 * (a.toNat : Int) ≤ pSum C a.toNat := pSum_le (fun j => (c2 j).1) _
  have p5 : (a + 1).toNat = a.toNat + 1 := by omega
  have q0 := i2 (c + -1).toNat (by omega)
  have q1 := i2 0 (by omega)
  refine ⟨?_, fun hc0 => ?_⟩
  ·
    first
      | exact decide_eq_true hG0
      | (simp only [e175, e176, e177, e178, eV, i_v, i_lit, i_add, i_sub, i_sel, a_av, b_le, b_lt, b_or, b_and, b_not, Bool.or_eq_true, Bool.and_eq_true, Bool.not_eq_true', decide_eq_true_eq, decide_eq_false_iff_not, List.getD_cons_zero, List.getD_cons_succ]; first | omega | (simp only [Int.toNat_zero] at *; omega))
  ·
    refine ⟨?_, fun hc1 => ?_⟩
    ·
      first
        | exact decide_eq_true hG0
        | (simp only [nd, eV, i_v, i_lit, i_add, i_sub, i_sel, a_av, b_le, b_lt, b_or, b_and, b_not, Bool.or_eq_true, Bool.and_eq_true, Bool.not_eq_true', decide_eq_true_eq, decide_eq_false_iff_not, List.getD_cons_zero, List.getD_cons_succ]; first | omega | (simp only [Int.toNat_zero] at *; omega))
    ·
      refine ⟨ehT1, ⟨n, u, r, s, q, (_root_.Go.Sx.E.i (eV x0 Y0 x2 n u r s q a b c d f g h A B C F K L M N) e92), b, (_root_.Go.Sx.E.i (eV x0 Y0 x2 n u r s q a b c d f g h A B C F K L M N) e175), d, f, g, h, A, B, C, F, K, (_root_.Go.Sx.E.a (eV x0 Y0 x2 n u r s q a b c d f g h A B C F K L M N) e196), M, N, (by kernel_rfl), hB, ?_⟩, ?_⟩
      ·
        simp only [eJ1]
        refine ⟨?_, l6, ?_, l8, l9, l10, l11, (arr_at hH (by kernel_rfl)), m6, m7, ?_, ?_, trivial⟩
        all_goals
          try simp only [nd, eV, i_v, i_lit, i_add, i_sub, i_sel, a_av, a_tab, a_upd, b_le, decide_eq_true_eq, List.getD_cons_zero, List.getD_cons_succ]
          first
            | omega
            | (rw [p5]; omega)
            | (intro j hj; first | (have := i2 j (by omega); omega) | (split <;> first | omega | (have := i2 j (by omega); omega)) | omega)
      simp only [emu, Env.app, setAll, List.map_cons, List.map_nil, List.set, nd, eV, i_v, i_lit, i_add, i_sub, i_sel, a_av, a_tab, a_upd, b_le, decide_eq_true_eq, List.getD_cons_zero, List.getD_cons_succ]
      omega
noncomputable def eH2_b0 : Hyp := { eh2.H with e := [((.v 2), (0, 0))] ++ eh2.H.e, b := [] ++ eh2.H.b }
noncomputable def eR2_b0 : LT := (.jump 3 eT3 ⟨[(10, (.v 10))], [], [(7, (.av 7))]⟩)
theorem esg2_b0 : (segL Try.prog G Gh eD ehs [17, 23, 27] 3000 0 4 { eh2 with H := eH2_b0 }).map LT.bare = some eR2_b0 := by kernel_rfl
theorem evc2_b0 (hB : eBase x0 Y0 x2 n u r s q A B C F K) (hJ : eJ2 n u r s q a b c d f g h A B C F K L M N) (hH : Hyp.ok eH2_b0 (eV x0 Y0 x2 n u r s q a b c d f g h A B C F K L M N)) (hF0 : 0 ≤ r ∧ r ≤ 0)  :
    eW2 x0 Y0 x2 (eV x0 Y0 x2 n u r s q a b c d f g h A B C F K L M N) eR2_b0 := by
  simp only [eW2, eR2_b0, LT.holds, retTrue]
  refine ⟨ehT3, ⟨n, u, r, s, q, a, b, c, d, f, g, h, A, B, C, F, K, L, M, N, (by kernel_rfl), hB, ?_⟩, ?_⟩
  · exact hJ
  exact Nat.lt_succ_self _
noncomputable def eH2_an : Hyp := { eh2.H with e := [((.v 2), (1, 255)), ((.v 1), ((-9223372036854775808), (-1)))] ++ eh2.H.e, b := [] ++ eh2.H.b }
noncomputable def eR2_an : LT := (.jump 3 eT3 ⟨[(10, (.v 10))], [], [(7, (.av 7))]⟩)
theorem esg2_an : (segL Try.prog G Gh eD ehs [17, 23, 27] 3000 0 4 { eh2 with H := eH2_an }).map LT.bare = some eR2_an := by kernel_rfl
theorem evc2_an (hB : eBase x0 Y0 x2 n u r s q A B C F K) (hJ : eJ2 n u r s q a b c d f g h A B C F K L M N) (hH : Hyp.ok eH2_an (eV x0 Y0 x2 n u r s q a b c d f g h A B C F K L M N)) (hF0 : 1 ≤ r ∧ r ≤ 255) (hF1 : -9223372036854775808 ≤ u ∧ u ≤ -1)  :
    eW2 x0 Y0 x2 (eV x0 Y0 x2 n u r s q a b c d f g h A B C F K L M N) eR2_an := by
  simp only [eW2, eR2_an, LT.holds, retTrue]
  refine ⟨ehT3, ⟨n, u, r, s, q, a, b, c, d, f, g, h, A, B, C, F, K, L, M, N, (by kernel_rfl), hB, ?_⟩, ?_⟩
  · exact hJ
  exact Nat.lt_succ_self _
end Go.Proofs.Ytflamojcdfmimaa.SaveChanged
