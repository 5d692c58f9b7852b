/- A part of the law SaveChanged, which returns true for every input. Saved bytes of which any one byte is changed, or some are left out at the end, or more stand behind, are refused. Where what comes in is of bulk at most 1048576. No condition. -/
import Derived.Test.YtflamojcdfmimaaSaveChangedB
namespace Go.Proofs.Ytflamojcdfmimaa.SaveChanged
open Go.Sx Go.ChangeShapes Go.WideShapes Go.ChangeAt Go.RowKit
set_option linter.unusedVariables false
set_option linter.unusedSimpArgs false
set_option maxRecDepth 100000
set_option maxHeartbeats 40000000
variable {x0 : Ext} {Y0 : Nat → Ext} {x2 : Ext} {n u r s q a b c d f g h : Int} {A B C F K L M N : Nat → Int}
noncomputable def eH0_xe : Hyp := { eh0.H with e := [((.v 9), (1, 255))] ++ eh0.H.e, b := [(e29, false)] ++ eh0.H.b }
noncomputable def eR0_xe : LT := (.jump 2 eT2 ⟨[(10, (.lit 21))], [], [(7, e28)]⟩)
theorem esg0_xe : (segL Try.prog G Gh eD ehs [17, 23, 27] 3000 0 4 { eh0 with H := eH0_xe }).map LT.bare = some eR0_xe := by kernel_rfl
theorem evc0_xe (hB : eBase x0 Y0 x2 n u r s q A B C F K) (hJ : eJ0 n u r s q a b c d f g h A B C F K L M N) (hH : Hyp.ok eH0_xe (eV x0 Y0 x2 n u r s q a b c d f g h A B C F K L M N)) (hF0 : 1 ≤ f ∧ f ≤ 255) (hG0 : ¬ d < n) :
    eW0 x0 Y0 x2 (eV x0 Y0 x2 n u r s q a b c d f g h A B C F K L M N) eR0_xe := by
  simp only [eW0, eR0_xe, LT.holds, retTrue]
  have hB3 := hB
  have hJ3 := hJ
  simp only [eBase] at hB3
  obtain ⟨b0, b1, b2, b3, b4, c0, c1, c2, c3, c4, en0, en2, ea0, ea1, ea2, ea3, ea4, hs, hx0, _⟩ := hB3
  simp only [eJ0] at hJ3
  obtain ⟨l5, l6, l7, l8, l9, l10, l11, m5, m6, m7, _⟩ := hJ3
  refine ⟨ehT2, ⟨n, u, r, s, q, a, b, c, d, f, (_root_.Go.Sx.E.i (eV x0 Y0 x2 n u r s q a b c d f g h A B C F K L M N) (.lit 21)), h, A, B, C, F, K, L, M, (_root_.Go.Sx.E.a (eV x0 Y0 x2 n u r s q a b c d f g h A B C F K L M N) e28), (by kernel_rfl), hB, ?_⟩, ?_⟩
  ·
    simp only [eJ2]
    refine ⟨l5, l6, l7, l8, l9, ?_, l11, m5, m6, (arr_at hH (by kernel_rfl)), ?_, trivial⟩
    rotate_left 1
    have h1 : _root_.Go.Sx.E.i (eV x0 Y0 x2 n u r s q a b c d f g h A B C F K L M N) e17 = sumF 8 (_root_.Go.Sx.E.a (eV x0 Y0 x2 n u r s q a b c d f g h A B C F K L M N) e16) := app_sum rfl _ _
    have h0 := sumF_rng 8 (_root_.Go.Sx.E.a (eV x0 Y0 x2 n u r s q a b c d f g h A B C F K L M N) e16)
    have h2 : sumF 8 (_root_.Go.Sx.E.a (eV x0 Y0 x2 n u r s q a b c d f g h A B C F K L M N) e16) = sumF 8 (shf (_root_.Go.Sx.E.a (eV x0 Y0 x2 n u r s q a b c d f g h A B C F K L M N) e28)) := by
      refine sum_cut _ _ _ fun k hk => ?_
      rcases (show k = 0 ∨ k = 1 ∨ k = 2 ∨ k = 3 ∨ k = 4 ∨ k = 5 ∨ k = 6 ∨ k = 7 by omega) with rfl | rfl | rfl | rfl | rfl | rfl | rfl | rfl
      all_goals simp (config := { decide := true }) [nd, sm, sn, sxx, eV]
    refine ⟨?_, ?_, ?_, ?_, ?_, ?_, ?_⟩
    all_goals (try simp only [nd, sm, sn, sxx, eV])
    all_goals (try simp (config := { decide := true }) only [if_true, if_false])
    all_goals first
      | rfl
      | (rw [h1]; rw [h1] at h0; omega)
      | (rw [h1, show ((21 : Int) - 13).toNat = 8 from rfl, ← h2]; omega)
    all_goals
      try simp only [nd, eV, i_v, i_lit, i_add, i_sub, i_sel, a_av, a_tab, a_upd, b_le, decide_eq_true_eq, List.getD_cons_zero, List.getD_cons_succ]
      omega
  simp only [emu, Env.app, setAll, List.map_cons, List.map_nil, List.set, nd, eV, i_v, i_lit, i_add, i_sub, i_sel, a_av, a_tab, a_upd, b_le, decide_eq_true_eq, List.getD_cons_zero, List.getD_cons_succ]
  omega
noncomputable def eH0_ge : Hyp := { eh0.H with e := [((.v 9), (1, 255))] ++ eh0.H.e, b := [(e29, true)] ++ eh0.H.b }
noncomputable def eR0_ge : LT := (.jump 0 eT0 ⟨[(9, (.v 9)), (8, e30)], [], []⟩)
theorem esg0_ge : (segL Try.prog G Gh eD ehs [17, 23, 27] 3000 0 4 { eh0 with H := eH0_ge }).map LT.bare = some eR0_ge := by kernel_rfl
theorem evc0_ge (hB : eBase x0 Y0 x2 n u r s q A B C F K) (hJ : eJ0 n u r s q a b c d f g h A B C F K L M N) (hH : Hyp.ok eH0_ge (eV x0 Y0 x2 n u r s q a b c d f g h A B C F K L M N)) (hF0 : 1 ≤ f ∧ f ≤ 255) (hG0 : d < n) :
    eW0 x0 Y0 x2 (eV x0 Y0 x2 n u r s q a b c d f g h A B C F K L M N) eR0_ge := by
  simp only [eW0, eR0_ge, LT.holds, retTrue]
  have hB3 := hB
  have hJ3 := hJ
  simp only [eBase] at hB3
  obtain ⟨b0, b1, b2, b3, b4, c0, c1, c2, c3, c4, en0, en2, ea0, ea1, ea2, ea3, ea4, hs, hx0, _⟩ := hB3
  simp only [eJ0] at hJ3
  obtain ⟨l5, l6, l7, l8, l9, l10, l11, m5, m6, m7, _⟩ := hJ3
  have p1 := hs (d.toNat + 1) (by omega)
  rw [← ea2] at p1
  have p2 : pSum C (d.toNat + 1) = pSum C d.toNat + 8 + 2 * C d.toNat := rfl
  have p3 := c2 d.toNat
  have p4 : 8 * (d.toNat : Int) ≤ pSum C d.toNat := pSum_le (fun j => (c2 j).1) _
  have p5 : (d + 1).toNat = d.toNat + 1 := by omega
  refine ⟨ehT0, ⟨n, u, r, s, q, a, b, c, (_root_.Go.Sx.E.i (eV x0 Y0 x2 n u r s q a b c d f g h A B C F K L M N) e30), f, g, h, A, B, C, F, K, L, M, N, (by kernel_rfl), hB, ?_⟩, ?_⟩
  ·
    simp only [eJ0]
    refine ⟨l5, l6, l7, ?_, l9, l10, l11, m5, m6, m7, trivial⟩
    all_goals
      try simp only [e30, eV, i_v, i_lit, i_add, i_sub, i_sel, a_av, a_tab, a_upd, b_le, decide_eq_true_eq, List.getD_cons_zero, List.getD_cons_succ]
      first
        | omega
        | (rw [p5]; omega)
  simp only [emu, Env.app, setAll, List.map_cons, List.map_nil, List.set, e30, eV, i_v, i_lit, i_add, i_sub, i_sel, a_av, a_tab, a_upd, b_le, decide_eq_true_eq, List.getD_cons_zero, List.getD_cons_succ]
  omega
noncomputable def eH0_x0 : Hyp := { eh0.H with e := [((.v 9), (0, 0))] ++ eh0.H.e, b := [(e29, false)] ++ eh0.H.b }
noncomputable def eR0_x0 : LT := (.jump 2 eT2 ⟨[(10, (.lit 13))], [], [(7, e45)]⟩)
theorem esg0_x0 : (segL Try.prog G Gh eD ehs [17, 23, 27] 3000 0 4 { eh0 with H := eH0_x0 }).map LT.bare = some eR0_x0 := by kernel_rfl
theorem evc0_x0 (hB : eBase x0 Y0 x2 n u r s q A B C F K) (hJ : eJ0 n u r s q a b c d f g h A B C F K L M N) (hH : Hyp.ok eH0_x0 (eV x0 Y0 x2 n u r s q a b c d f g h A B C F K L M N)) (hF0 : 0 ≤ f ∧ f ≤ 0) (hG0 : ¬ d < n) :
    eW0 x0 Y0 x2 (eV x0 Y0 x2 n u r s q a b c d f g h A B C F K L M N) eR0_x0 := by
  simp only [eW0, eR0_x0, LT.holds, retTrue]
  have hB3 := hB
  have hJ3 := hJ
  simp only [eBase] at hB3
  obtain ⟨b0, b1, b2, b3, b4, c0, c1, c2, c3, c4, en0, en2, ea0, ea1, ea2, ea3, ea4, hs, hx0, _⟩ := hB3
  simp only [eJ0] at hJ3
  obtain ⟨l5, l6, l7, l8, l9, l10, l11, m5, m6, m7, _⟩ := hJ3
  refine ⟨ehT2, ⟨n, u, r, s, q, a, b, c, d, f, (_root_.Go.Sx.E.i (eV x0 Y0 x2 n u r s q a b c d f g h A B C F K L M N) (.lit 13)), h, A, B, C, F, K, L, M, (_root_.Go.Sx.E.a (eV x0 Y0 x2 n u r s q a b c d f g h A B C F K L M N) e45), (by kernel_rfl), hB, ?_⟩, ?_⟩
  ·
    simp only [eJ2]
    refine ⟨l5, l6, l7, l8, l9, ?_, l11, m5, m6, (arr_at hH (by kernel_rfl)), ?_, trivial⟩
    rotate_left 1
    have h1 : _root_.Go.Sx.E.i (eV x0 Y0 x2 n u r s q a b c d f g h A B C F K L M N) e35 = 1 := by
      have := app_sum (ρ := (eV x0 Y0 x2 n u r s q a b c d f g h A B C F K L M N)) rfl (.lit 0) (.tab [])
      exact this
    refine ⟨?_, ?_, ?_, ?_, ?_, ?_, ?_⟩
    all_goals (try simp only [nd, sm, sn, sxx, eV])
    all_goals (try simp (config := { decide := true }) only [if_true, if_false])
    all_goals first
      | rfl
      | (rw [h1]; rfl)
      | (rw [h1]; omega)
    all_goals
      try simp only [nd, eV, i_v, i_lit, i_add, i_sub, i_sel, a_av, a_tab, a_upd, b_le, decide_eq_true_eq, List.getD_cons_zero, List.getD_cons_succ]
      omega
  simp only [emu, Env.app, setAll, List.map_cons, List.map_nil, List.set, nd, eV, i_v, i_lit, i_add, i_sub, i_sel, a_av, a_tab, a_upd, b_le, decide_eq_true_eq, List.getD_cons_zero, List.getD_cons_succ]
  omega
noncomputable def eH0_w0 : Hyp := { eh0.H with e := [((.v 9), (0, 0)), (e46, (0, 0))] ++ eh0.H.e, b := [(e29, true)] ++ eh0.H.b }
noncomputable def eR0_w0 : LT := (.jump 1 eT1 ⟨[(11, (.v 9)), (7, (.lit 0)), (6, (.lit 1)), (5, e30)], [], [(5, e49), (6, (.tab []))]⟩)
theorem esg0_w0 : (segL Try.prog G Gh eD ehs [17, 23, 27] 3000 0 4 { eh0 with H := eH0_w0 }).map LT.bare = some eR0_w0 := by kernel_rfl
theorem evc0_w0 (hB : eBase x0 Y0 x2 n u r s q A B C F K) (hJ : eJ0 n u r s q a b c d f g h A B C F K L M N) (hH : Hyp.ok eH0_w0 (eV x0 Y0 x2 n u r s q a b c d f g h A B C F K L M N)) (hF0 : 0 ≤ f ∧ f ≤ 0) (hF1 : 0 ≤ A d.toNat ∧ A d.toNat ≤ 0) (hG0 : d < n) :
    eW0 x0 Y0 x2 (eV x0 Y0 x2 n u r s q a b c d f g h A B C F K L M N) eR0_w0 := by
  simp only [eW0, eR0_w0, LT.holds, retTrue]
  have hB3 := hB
  have hJ3 := hJ
  simp only [eBase] at hB3
  obtain ⟨b0, b1, b2, b3, b4, c0, c1, c2, c3, c4, en0, en2, ea0, ea1, ea2, ea3, ea4, hs, hx0, _⟩ := hB3
  simp only [eJ0] at hJ3
  obtain ⟨l5, l6, l7, l8, l9, l10, l11, m5, m6, m7, _⟩ := hJ3
  have p1 := hs (d.toNat + 1) (by omega)
  rw [← ea2] at p1
  have p2 : pSum C (d.toNat + 1) = pSum C d.toNat + 8 + 2 * C d.toNat := rfl
  have p3 := c2 d.toNat
  have p4 : 8 * (d.toNat : Int) ≤ pSum C d.toNat := pSum_le (fun j => (c2 j).1) _
  have p5 : (d + 1).toNat = d.toNat + 1 := by omega
  refine ⟨ehT1, ⟨n, u, r, s, q, (_root_.Go.Sx.E.i (eV x0 Y0 x2 n u r s q a b c d f g h A B C F K L M N) e30), (_root_.Go.Sx.E.i (eV x0 Y0 x2 n u r s q a b c d f g h A B C F K L M N) (.lit 1)), (_root_.Go.Sx.E.i (eV x0 Y0 x2 n u r s q a b c d f g h A B C F K L M N) (.lit 0)), d, f, g, f, A, B, C, F, K, (_root_.Go.Sx.E.a (eV x0 Y0 x2 n u r s q a b c d f g h A B C F K L M N) e49), (_root_.Go.Sx.E.a (eV x0 Y0 x2 n u r s q a b c d f g h A B C F K L M N) (.tab [])), N, (by kernel_rfl), hB, ?_⟩, ?_⟩
  ·
    simp only [eJ1]
    refine ⟨?_, ?_, ?_, l8, l9, l10, ?_, (arr_at hH (by kernel_rfl)), (arr_at hH (by kernel_rfl)), m7, ?_, ?_, trivial⟩
    all_goals
      try simp only [e30, e47, e48, e49, eV, i_v, i_lit, i_add, i_sub, i_sel, a_av, a_tab, a_upd, b_le, decide_eq_true_eq, List.getD_cons_zero, List.getD_cons_succ]
      first
        | omega
        | (rw [p5]; omega)
        | (intro j hj; have : j = 0 := by omega
           subst this; simp; omega)
  simp only [emu, Env.app, setAll, List.map_cons, List.map_nil, List.set, e30, e47, e48, e49, eV, i_v, i_lit, i_add, i_sub, i_sel, a_av, a_tab, a_upd, b_le, decide_eq_true_eq, List.getD_cons_zero, List.getD_cons_succ]
  omega
noncomputable def eH0_w1 : Hyp := { eh0.H with e := [((.v 9), (0, 0)), (e46, (1, 1))] ++ eh0.H.e, b := [(e29, true)] ++ eh0.H.b }
noncomputable def eR0_w1 : LT := (.jump 1 eT1 ⟨[(11, (.v 9)), (7, (.lit 0)), (6, (.lit 2)), (5, e30)], [], [(5, e52), (6, (.tab []))]⟩)
theorem esg0_w1 : (segL Try.prog G Gh eD ehs [17, 23, 27] 3000 0 4 { eh0 with H := eH0_w1 }).map LT.bare = some eR0_w1 := by kernel_rfl
theorem evc0_w1 (hB : eBase x0 Y0 x2 n u r s q A B C F K) (hJ : eJ0 n u r s q a b c d f g h A B C F K L M N) (hH : Hyp.ok eH0_w1 (eV x0 Y0 x2 n u r s q a b c d f g h A B C F K L M N)) (hF0 : 0 ≤ f ∧ f ≤ 0) (hF1 : 1 ≤ A d.toNat ∧ A d.toNat ≤ 1) (hG0 : d < n) :
    eW0 x0 Y0 x2 (eV x0 Y0 x2 n u r s q a b c d f g h A B C F K L M N) eR0_w1 := by
  simp only [eW0, eR0_w1, LT.holds, retTrue]
  have hB3 := hB
  have hJ3 := hJ
  simp only [eBase] at hB3
  obtain ⟨b0, b1, b2, b3, b4, c0, c1, c2, c3, c4, en0, en2, ea0, ea1, ea2, ea3, ea4, hs, hx0, _⟩ := hB3
  simp only [eJ0] at hJ3
  obtain ⟨l5, l6, l7, l8, l9, l10, l11, m5, m6, m7, _⟩ := hJ3
  have p1 := hs (d.toNat + 1) (by omega)
  rw [← ea2] at p1
  have p2 : pSum C (d.toNat + 1) = pSum C d.toNat + 8 + 2 * C d.toNat := rfl
  have p3 := c2 d.toNat
  have p4 : 8 * (d.toNat : Int) ≤ pSum C d.toNat := pSum_le (fun j => (c2 j).1) _
  have p5 : (d + 1).toNat = d.toNat + 1 := by omega
  refine ⟨ehT1, ⟨n, u, r, s, q, (_root_.Go.Sx.E.i (eV x0 Y0 x2 n u r s q a b c d f g h A B C F K L M N) e30), (_root_.Go.Sx.E.i (eV x0 Y0 x2 n u r s q a b c d f g h A B C F K L M N) (.lit 2)), (_root_.Go.Sx.E.i (eV x0 Y0 x2 n u r s q a b c d f g h A B C F K L M N) (.lit 0)), d, f, g, f, A, B, C, F, K, (_root_.Go.Sx.E.a (eV x0 Y0 x2 n u r s q a b c d f g h A B C F K L M N) e52), (_root_.Go.Sx.E.a (eV x0 Y0 x2 n u r s q a b c d f g h A B C F K L M N) (.tab [])), N, (by kernel_rfl), hB, ?_⟩, ?_⟩
  ·
    simp only [eJ1]
    refine ⟨?_, ?_, ?_, l8, l9, l10, ?_, (arr_at hH (by kernel_rfl)), (arr_at hH (by kernel_rfl)), m7, ?_, ?_, trivial⟩
    all_goals
      try simp only [nd, eV, i_v, i_lit, i_add, i_sub, i_sel, a_av, a_tab, a_upd, b_le, decide_eq_true_eq, List.getD_cons_zero, List.getD_cons_succ]
      first
        | omega
        | (rw [p5]; omega)
        | (intro j hj; have : j = 0 := by omega
           subst this; simp; omega)
  simp only [emu, Env.app, setAll, List.map_cons, List.map_nil, List.set, nd, eV, i_v, i_lit, i_add, i_sub, i_sel, a_av, a_tab, a_upd, b_le, decide_eq_true_eq, List.getD_cons_zero, List.getD_cons_succ]
  omega
noncomputable def eH0_w2 : Hyp := { eh0.H with e := [((.v 9), (0, 0)), (e46, (2, 2))] ++ eh0.H.e, b := [(e29, true)] ++ eh0.H.b }
noncomputable def eR0_w2 : LT := (.jump 1 eT1 ⟨[(11, (.v 9)), (7, (.lit 0)), (6, (.lit 4)), (5, e30)], [], [(5, e58), (6, (.tab []))]⟩)
theorem esg0_w2 : (segL Try.prog G Gh eD ehs [17, 23, 27] 3000 0 4 { eh0 with H := eH0_w2 }).map LT.bare = some eR0_w2 := by kernel_rfl
theorem evc0_w2 (hB : eBase x0 Y0 x2 n u r s q A B C F K) (hJ : eJ0 n u r s q a b c d f g h A B C F K L M N) (hH : Hyp.ok eH0_w2 (eV x0 Y0 x2 n u r s q a b c d f g h A B C F K L M N)) (hF0 : 0 ≤ f ∧ f ≤ 0) (hF1 : 2 ≤ A d.toNat ∧ A d.toNat ≤ 2) (hG0 : d < n) :
    eW0 x0 Y0 x2 (eV x0 Y0 x2 n u r s q a b c d f g h A B C F K L M N) eR0_w2 := by
  simp only [eW0, eR0_w2, LT.holds, retTrue]
  have hB3 := hB
  have hJ3 := hJ
  simp only [eBase] at hB3
  obtain ⟨b0, b1, b2, b3, b4, c0, c1, c2, c3, c4, en0, en2, ea0, ea1, ea2, ea3, ea4, hs, hx0, _⟩ := hB3
  simp only [eJ0] at hJ3
  obtain ⟨l5, l6, l7, l8, l9, l10, l11, m5, m6, m7, _⟩ := hJ3
  have p1 := hs (d.toNat + 1) (by omega)
  rw [← ea2] at p1
  have p2 : pSum C (d.toNat + 1) = pSum C d.toNat + 8 + 2 * C d.toNat := rfl
  have p3 := c2 d.toNat
  have p4 : 8 * (d.toNat : Int) ≤ pSum C d.toNat := pSum_le (fun j => (c2 j).1) _
  have p5 : (d + 1).toNat = d.toNat + 1 := by omega
  refine ⟨ehT1, ⟨n, u, r, s, q, (_root_.Go.Sx.E.i (eV x0 Y0 x2 n u r s q a b c d f g h A B C F K L M N) e30), (_root_.Go.Sx.E.i (eV x0 Y0 x2 n u r s q a b c d f g h A B C F K L M N) (.lit 4)), (_root_.Go.Sx.E.i (eV x0 Y0 x2 n u r s q a b c d f g h A B C F K L M N) (.lit 0)), d, f, g, f, A, B, C, F, K, (_root_.Go.Sx.E.a (eV x0 Y0 x2 n u r s q a b c d f g h A B C F K L M N) e58), (_root_.Go.Sx.E.a (eV x0 Y0 x2 n u r s q a b c d f g h A B C F K L M N) (.tab [])), N, (by kernel_rfl), hB, ?_⟩, ?_⟩
  ·
    simp only [eJ1]
    refine ⟨?_, ?_, ?_, l8, l9, l10, ?_, (arr_at hH (by kernel_rfl)), (arr_at hH (by kernel_rfl)), m7, ?_, ?_, trivial⟩
    all_goals
      try simp only [nd, eV, i_v, i_lit, i_add, i_sub, i_sel, a_av, a_tab, a_upd, b_le, decide_eq_true_eq, List.getD_cons_zero, List.getD_cons_succ]
      first
        | omega
        | (rw [p5]; omega)
        | (intro j hj; have : j = 0 := by omega
           subst this; simp; omega)
  simp only [emu, Env.app, setAll, List.map_cons, List.map_nil, List.set, nd, eV, i_v, i_lit, i_add, i_sub, i_sel, a_av, a_tab, a_upd, b_le, decide_eq_true_eq, List.getD_cons_zero, List.getD_cons_succ]
  omega
noncomputable def eH0_w3 : Hyp := { eh0.H with e := [((.v 9), (0, 0)), (e46, (3, 3))] ++ eh0.H.e, b := [(e29, true)] ++ eh0.H.b }
noncomputable def eR0_w3 : LT := (.jump 1 eT1 ⟨[(11, (.v 9)), (7, (.lit 0)), (6, (.lit 8)), (5, e30)], [], [(5, e70), (6, (.tab []))]⟩)
theorem esg0_w3 : (segL Try.prog G Gh eD ehs [17, 23, 27] 3000 0 4 { eh0 with H := eH0_w3 }).map LT.bare = some eR0_w3 := by kernel_rfl
theorem evc0_w3 (hB : eBase x0 Y0 x2 n u r s q A B C F K) (hJ : eJ0 n u r s q a b c d f g h A B C F K L M N) (hH : Hyp.ok eH0_w3 (eV x0 Y0 x2 n u r s q a b c d f g h A B C F K L M N)) (hF0 : 0 ≤ f ∧ f ≤ 0) (hF1 : 3 ≤ A d.toNat ∧ A d.toNat ≤ 3) (hG0 : d < n) :
    eW0 x0 Y0 x2 (eV x0 Y0 x2 n u r s q a b c d f g h A B C F K L M N) eR0_w3 := by
  simp only [eW0, eR0_w3, LT.holds, retTrue]
  have hB3 := hB
  have hJ3 := hJ
  simp only [eBase] at hB3
  obtain ⟨b0, b1, b2, b3, b4, c0, c1, c2, c3, c4, en0, en2, ea0, ea1, ea2, ea3, ea4, hs, hx0, _⟩ := hB3
  simp only [eJ0] at hJ3
  obtain ⟨l5, l6, l7, l8, l9, l10, l11, m5, m6, m7, _⟩ := hJ3
  have p1 := hs (d.toNat + 1) (by omega)
  rw [← ea2] at p1
  have p2 : pSum C (d.toNat + 1) = pSum C d.toNat + 8 + 2 * C d.toNat := rfl
  have p3 := c2 d.toNat
  have p4 : 8 * (d.toNat : Int) ≤ pSum C d.toNat := pSum_le (fun j => (c2 j).1) _
  have p5 : (d + 1).toNat = d.toNat + 1 := by omega
  refine ⟨ehT1, ⟨n, u, r, s, q, (_root_.Go.Sx.E.i (eV x0 Y0 x2 n u r s q a b c d f g h A B C F K L M N) e30), (_root_.Go.Sx.E.i (eV x0 Y0 x2 n u r s q a b c d f g h A B C F K L M N) (.lit 8)), (_root_.Go.Sx.E.i (eV x0 Y0 x2 n u r s q a b c d f g h A B C F K L M N) (.lit 0)), d, f, g, f, A, B, C, F, K, (_root_.Go.Sx.E.a (eV x0 Y0 x2 n u r s q a b c d f g h A B C F K L M N) e70), (_root_.Go.Sx.E.a (eV x0 Y0 x2 n u r s q a b c d f g h A B C F K L M N) (.tab [])), N, (by kernel_rfl), hB, ?_⟩, ?_⟩
  ·
    simp only [eJ1]
    refine ⟨?_, ?_, ?_, l8, l9, l10, ?_, (arr_at hH (by kernel_rfl)), (arr_at hH (by kernel_rfl)), m7, ?_, ?_, trivial⟩
    all_goals
      try simp only [nd, eV, i_v, i_lit, i_add, i_sub, i_sel, a_av, a_tab, a_upd, b_le, decide_eq_true_eq, List.getD_cons_zero, List.getD_cons_succ]
      first
        | omega
        | (rw [p5]; omega)
        | (intro j hj; have : j = 0 := by omega
           subst this; simp; omega)
  simp only [emu, Env.app, setAll, List.map_cons, List.map_nil, List.set, nd, eV, i_v, i_lit, i_add, i_sub, i_sel, a_av, a_tab, a_upd, b_le, decide_eq_true_eq, List.getD_cons_zero, List.getD_cons_succ]
  omega
noncomputable def eH0_w4 : Hyp := { eh0.H with e := [((.v 9), (0, 0)), (e46, (4, 4))] ++ eh0.H.e, b := [(e29, true)] ++ eh0.H.b }
noncomputable def eR0_w4 : LT := (.jump 1 eT1 ⟨[(11, (.v 9)), (7, (.lit 0)), (6, (.lit 1)), (5, e30)], [], [(5, e72), (6, (.tab []))]⟩)
theorem esg0_w4 : (segL Try.prog G Gh eD ehs [17, 23, 27] 3000 0 4 { eh0 with H := eH0_w4 }).map LT.bare = some eR0_w4 := by kernel_rfl
theorem evc0_w4 (hB : eBase x0 Y0 x2 n u r s q A B C F K) (hJ : eJ0 n u r s q a b c d f g h A B C F K L M N) (hH : Hyp.ok eH0_w4 (eV x0 Y0 x2 n u r s q a b c d f g h A B C F K L M N)) (hF0 : 0 ≤ f ∧ f ≤ 0) (hF1 : 4 ≤ A d.toNat ∧ A d.toNat ≤ 4) (hG0 : d < n) :
    eW0 x0 Y0 x2 (eV x0 Y0 x2 n u r s q a b c d f g h A B C F K L M N) eR0_w4 := by
  simp only [eW0, eR0_w4, LT.holds, retTrue]
  have hB3 := hB
  have hJ3 := hJ
  simp only [eBase] at hB3
  obtain ⟨b0, b1, b2, b3, b4, c0, c1, c2, c3, c4, en0, en2, ea0, ea1, ea2, ea3, ea4, hs, hx0, _⟩ := hB3
  simp only [eJ0] at hJ3
  obtain ⟨l5, l6, l7, l8, l9, l10, l11, m5, m6, m7, _⟩ := hJ3
  have p1 := hs (d.toNat + 1) (by omega)
  rw [← ea2] at p1
  have p2 : pSum C (d.toNat + 1) = pSum C d.toNat + 8 + 2 * C d.toNat := rfl
  have p3 := c2 d.toNat
  have p4 : 8 * (d.toNat : Int) ≤ pSum C d.toNat := pSum_le (fun j => (c2 j).1) _
  have p5 : (d + 1).toNat = d.toNat + 1 := by omega
  refine ⟨ehT1, ⟨n, u, r, s, q, (_root_.Go.Sx.E.i (eV x0 Y0 x2 n u r s q a b c d f g h A B C F K L M N) e30), (_root_.Go.Sx.E.i (eV x0 Y0 x2 n u r s q a b c d f g h A B C F K L M N) (.lit 1)), (_root_.Go.Sx.E.i (eV x0 Y0 x2 n u r s q a b c d f g h A B C F K L M N) (.lit 0)), d, f, g, f, A, B, C, F, K, (_root_.Go.Sx.E.a (eV x0 Y0 x2 n u r s q a b c d f g h A B C F K L M N) e72), (_root_.Go.Sx.E.a (eV x0 Y0 x2 n u r s q a b c d f g h A B C F K L M N) (.tab [])), N, (by kernel_rfl), hB, ?_⟩, ?_⟩
  ·
    simp only [eJ1]
    refine ⟨?_, ?_, ?_, l8, l9, l10, ?_, (arr_at hH (by kernel_rfl)), (arr_at hH (by kernel_rfl)), m7, ?_, ?_, trivial⟩
    all_goals
      try simp only [e30, e47, e71, e72, eV, i_v, i_lit, i_add, i_sub, i_sel, a_av, a_tab, a_upd, b_le, decide_eq_true_eq, List.getD_cons_zero, List.getD_cons_succ]
      first
        | omega
        | (rw [p5]; omega)
        | (intro j hj; have : j = 0 := by omega
           subst this; simp; omega)
  simp only [emu, Env.app, setAll, List.map_cons, List.map_nil, List.set, e30, e47, e71, e72, eV, i_v, i_lit, i_add, i_sub, i_sel, a_av, a_tab, a_upd, b_le, decide_eq_true_eq, List.getD_cons_zero, List.getD_cons_succ]
  omega
noncomputable def eH0_w5 : Hyp := { eh0.H with e := [((.v 9), (0, 0)), (e46, (5, 5))] ++ eh0.H.e, b := [(e29, true)] ++ eh0.H.b }
noncomputable def eR0_w5 : LT := (.jump 1 eT1 ⟨[(11, (.v 9)), (7, (.lit 0)), (6, e74), (5, e30)], [], [(5, e85), (6, (.tab []))]⟩)
theorem esg0_w5 : (segL Try.prog G Gh eD ehs [17, 23, 27] 3000 0 4 { eh0 with H := eH0_w5 }).map LT.bare = some eR0_w5 := by kernel_rfl
theorem evc0_w5 (hB : eBase x0 Y0 x2 n u r s q A B C F K) (hJ : eJ0 n u r s q a b c d f g h A B C F K L M N) (hH : Hyp.ok eH0_w5 (eV x0 Y0 x2 n u r s q a b c d f g h A B C F K L M N)) (hF0 : 0 ≤ f ∧ f ≤ 0) (hF1 : 5 ≤ A d.toNat ∧ A d.toNat ≤ 5) (hG0 : d < n) :
    eW0 x0 Y0 x2 (eV x0 Y0 x2 n u r s q a b c d f g h A B C F K L M N) eR0_w5 := by
  simp only [eW0, eR0_w5, LT.holds, retTrue]
  have hB3 := hB
  have hJ3 := hJ
  simp only [eBase] at hB3
  obtain ⟨b0, b1, b2, b3, b4, c0, c1, c2, c3, c4, en0, en2, ea0, ea1, ea2, ea3, ea4, hs, hx0, _⟩ := hB3
  simp only [eJ0] at hJ3
  obtain ⟨l5, l6, l7, l8, l9, l10, l11, m5, m6, m7, _⟩ := hJ3
  have p1 := hs (d.toNat + 1) (by omega)
  rw [← ea2] at p1
  have p2 : pSum C (d.toNat + 1) = pSum C d.toNat + 8 + 2 * C d.toNat := rfl
  have p3 := c2 d.toNat
  have p4 : 8 * (d.toNat : Int) ≤ pSum C d.toNat := pSum_le (fun j => (c2 j).1) _
  have p5 : (d + 1).toNat = d.toNat + 1 := by omega
  refine ⟨ehT1, ⟨n, u, r, s, q, (_root_.Go.Sx.E.i (eV x0 Y0 x2 n u r s q a b c d f g h A B C F K L M N) e30), (_root_.Go.Sx.E.i (eV x0 Y0 x2 n u r s q a b c d f g h A B C F K L M N) e74), (_root_.Go.Sx.E.i (eV x0 Y0 x2 n u r s q a b c d f g h A B C F K L M N) (.lit 0)), d, f, g, f, A, B, C, F, K, (_root_.Go.Sx.E.a (eV x0 Y0 x2 n u r s q a b c d f g h A B C F K L M N) e85), (_root_.Go.Sx.E.a (eV x0 Y0 x2 n u r s q a b c d f g h A B C F K L M N) (.tab [])), N, (by kernel_rfl), hB, ?_⟩, ?_⟩
  ·
    simp only [eJ1]
    refine ⟨?_, ?_, ?_, l8, l9, l10, ?_, (arr_at hH (by kernel_rfl)), (arr_at hH (by kernel_rfl)), m7, ?_, ?_, trivial⟩
    all_goals
      try simp only [nd, eV, i_v, i_lit, i_add, i_sub, i_sel, a_av, a_tab, a_upd, b_le, decide_eq_true_eq, List.getD_cons_zero, List.getD_cons_succ]
      first
        | omega
        | (rw [p5]; omega)
        | (intro j hj; have : j = 0 := by omega
           subst this; simp; omega)
  simp only [emu, Env.app, setAll, List.map_cons, List.map_nil, List.set, nd, eV, i_v, i_lit, i_add, i_sub, i_sel, a_av, a_tab, a_upd, b_le, decide_eq_true_eq, List.getD_cons_zero, List.getD_cons_succ]
  omega
noncomputable def eH0_w6 : Hyp := { eh0.H with e := [((.v 9), (0, 0)), (e46, (6, 6))] ++ eh0.H.e, b := [(e29, true)] ++ eh0.H.b }
noncomputable def eR0_w6 : LT := (.jump 1 eT1 ⟨[(11, (.v 9)), (7, (.lit 1)), (6, (.lit 5)), (5, e30)], [], [(5, e89), (6, e90)]⟩)
theorem esg0_w6 : (segL Try.prog G Gh eD ehs [17, 23, 27] 3000 0 4 { eh0 with H := eH0_w6 }).map LT.bare = some eR0_w6 := by kernel_rfl
theorem evc0_w6 (hB : eBase x0 Y0 x2 n u r s q A B C F K) (hJ : eJ0 n u r s q a b c d f g h A B C F K L M N) (hH : Hyp.ok eH0_w6 (eV x0 Y0 x2 n u r s q a b c d f g h A B C F K L M N)) (hF0 : 0 ≤ f ∧ f ≤ 0) (hF1 : 6 ≤ A d.toNat ∧ A d.toNat ≤ 6) (hG0 : d < n) :
    eW0 x0 Y0 x2 (eV x0 Y0 x2 n u r s q a b c d f g h A B C F K L M N) eR0_w6 := by
  simp only [eW0, eR0_w6, LT.holds, retTrue]
  have hB3 := hB
  have hJ3 := hJ
  simp only [eBase] at hB3
  obtain ⟨b0, b1, b2, b3, b4, c0, c1, c2, c3, c4, en0, en2, ea0, ea1, ea2, ea3, ea4, hs, hx0, _⟩ := hB3
  simp only [eJ0] at hJ3
  obtain ⟨l5, l6, l7, l8, l9, l10, l11, m5, m6, m7, _⟩ := hJ3
  have p1 := hs (d.toNat + 1) (by omega)
  rw [← ea2] at p1
  have p2 : pSum C (d.toNat + 1) = pSum C d.toNat + 8 + 2 * C d.toNat := rfl
  have p3 := c2 d.toNat
  have p4 : 8 * (d.toNat : Int) ≤ pSum C d.toNat := pSum_le (fun j => (c2 j).1) _
  have p5 : (d + 1).toNat = d.toNat + 1 := by omega
  refine ⟨ehT1, ⟨n, u, r, s, q, (_root_.Go.Sx.E.i (eV x0 Y0 x2 n u r s q a b c d f g h A B C F K L M N) e30), (_root_.Go.Sx.E.i (eV x0 Y0 x2 n u r s q a b c d f g h A B C F K L M N) (.lit 5)), (_root_.Go.Sx.E.i (eV x0 Y0 x2 n u r s q a b c d f g h A B C F K L M N) (.lit 1)), d, f, g, f, A, B, C, F, K, (_root_.Go.Sx.E.a (eV x0 Y0 x2 n u r s q a b c d f g h A B C F K L M N) e89), (_root_.Go.Sx.E.a (eV x0 Y0 x2 n u r s q a b c d f g h A B C F K L M N) e90), N, (by kernel_rfl), hB, ?_⟩, ?_⟩
  ·
    simp only [eJ1]
    refine ⟨?_, ?_, ?_, l8, l9, l10, ?_, (arr_at hH (by kernel_rfl)), (arr_at hH (by kernel_rfl)), m7, ?_, ?_, trivial⟩
    all_goals
      try simp only [nd, eV, i_v, i_lit, i_add, i_sub, i_sel, a_av, a_tab, a_upd, b_le, decide_eq_true_eq, List.getD_cons_zero, List.getD_cons_succ]
      first
        | omega
        | (rw [p5]; omega)
        | (intro j hj; have : j = 0 := by omega
           subst this; simp; omega)
  simp only [emu, Env.app, setAll, List.map_cons, List.map_nil, List.set, nd, eV, i_v, i_lit, i_add, i_sub, i_sel, a_av, a_tab, a_upd, b_le, decide_eq_true_eq, List.getD_cons_zero, List.getD_cons_succ]
  omega
noncomputable def eH0_w7 : Hyp := { eh0.H with e := [((.v 9), (0, 0)), (e46, (7, 9223372036854775807))] ++ eh0.H.e, b := [(e29, true)] ++ eh0.H.b }
noncomputable def eR0_w7 : LT := (.jump 0 eT0 ⟨[(9, (.lit 2)), (8, e30)], [], []⟩)
theorem esg0_w7 : (segL Try.prog G Gh eD ehs [17, 23, 27] 3000 0 4 { eh0 with H := eH0_w7 }).map LT.bare = some eR0_w7 := by kernel_rfl
theorem evc0_w7 (hB : eBase x0 Y0 x2 n u r s q A B C F K) (hJ : eJ0 n u r s q a b c d f g h A B C F K L M N) (hH : Hyp.ok eH0_w7 (eV x0 Y0 x2 n u r s q a b c d f g h A B C F K L M N)) (hF0 : 0 ≤ f ∧ f ≤ 0) (hF1 : 7 ≤ A d.toNat ∧ A d.toNat ≤ 9223372036854775807) (hG0 : d < n) :
    eW0 x0 Y0 x2 (eV x0 Y0 x2 n u r s q a b c d f g h A B C F K L M N) eR0_w7 := by
  simp only [eW0, eR0_w7, LT.holds, retTrue]
  have hB3 := hB
  have hJ3 := hJ
  simp only [eBase] at hB3
  obtain ⟨b0, b1, b2, b3, b4, c0, c1, c2, c3, c4, en0, en2, ea0, ea1, ea2, ea3, ea4, hs, hx0, _⟩ := hB3
  simp only [eJ0] at hJ3
  obtain ⟨l5, l6, l7, l8, l9, l10, l11, m5, m6, m7, _⟩ := hJ3
  have p1 := hs (d.toNat + 1) (by omega)
  rw [← ea2] at p1
  have p2 : pSum C (d.toNat + 1) = pSum C d.toNat + 8 + 2 * C d.toNat := rfl
  have p3 := c2 d.toNat
  have p4 : 8 * (d.toNat : Int) ≤ pSum C d.toNat := pSum_le (fun j => (c2 j).1) _
  have p5 : (d + 1).toNat = d.toNat + 1 := by omega
  refine ⟨ehT0, ⟨n, u, r, s, q, a, b, c, (_root_.Go.Sx.E.i (eV x0 Y0 x2 n u r s q a b c d f g h A B C F K L M N) e30), (_root_.Go.Sx.E.i (eV x0 Y0 x2 n u r s q a b c d f g h A B C F K L M N) (.lit 2)), g, h, A, B, C, F, K, L, M, N, (by kernel_rfl), hB, ?_⟩, ?_⟩
  ·
    simp only [eJ0]
    refine ⟨l5, l6, l7, ?_, ?_, l10, l11, m5, m6, m7, trivial⟩
    all_goals
      try simp only [e30, eV, i_v, i_lit, i_add, i_sub, i_sel, a_av, a_tab, a_upd, b_le, decide_eq_true_eq, List.getD_cons_zero, List.getD_cons_succ]
      first
        | omega
        | (rw [p5]; omega)
  simp only [emu, Env.app, setAll, List.map_cons, List.map_nil, List.set, e30, eV, i_v, i_lit, i_add, i_sub, i_sel, a_av, a_tab, a_upd, b_le, decide_eq_true_eq, List.getD_cons_zero, List.getD_cons_succ]
  omega
noncomputable def eH0_wm : Hyp := { eh0.H with e := [((.v 9), (0, 0)), (e46, ((-9223372036854775808), (-1)))] ++ eh0.H.e, b := [(e29, true)] ++ eh0.H.b }
noncomputable def eR0_wm : LT := (.jump 0 eT0 ⟨[(9, (.lit 2)), (8, e30)], [], []⟩)
theorem esg0_wm : (segL Try.prog G Gh eD ehs [17, 23, 27] 3000 0 4 { eh0 with H := eH0_wm }).map LT.bare = some eR0_wm := by kernel_rfl
theorem evc0_wm (hB : eBase x0 Y0 x2 n u r s q A B C F K) (hJ : eJ0 n u r s q a b c d f g h A B C F K L M N) (hH : Hyp.ok eH0_wm (eV x0 Y0 x2 n u r s q a b c d f g h A B C F K L M N)) (hF0 : 0 ≤ f ∧ f ≤ 0) (hF1 : -9223372036854775808 ≤ A d.toNat ∧ A d.toNat ≤ -1) (hG0 : d < n) :
    eW0 x0 Y0 x2 (eV x0 Y0 x2 n u r s q a b c d f g h A B C F K L M N) eR0_wm := by
  simp only [eW0, eR0_wm, LT.holds, retTrue]
  have hB3 := hB
  have hJ3 := hJ
  simp only [eBase] at hB3
  obtain ⟨b0, b1, b2, b3, b4, c0, c1, c2, c3, c4, en0, en2, ea0, ea1, ea2, ea3, ea4, hs, hx0, _⟩ := hB3
  simp only [eJ0] at hJ3
  obtain ⟨l5, l6, l7, l8, l9, l10, l11, m5, m6, m7, _⟩ := hJ3
  have p1 := hs (d.toNat + 1) (by omega)
  rw [← ea2] at p1
  have p2 : pSum C (d.toNat + 1) = pSum C d.toNat + 8 + 2 * C d.toNat := rfl
  have p3 := c2 d.toNat
  have p4 : 8 * (d.toNat : Int) ≤ pSum C d.toNat := pSum_le (fun j => (c2 j).1) _
  have p5 : (d + 1).toNat = d.toNat + 1 := by omega
  refine ⟨ehT0, ⟨n, u, r, s, q, a, b, c, (_root_.Go.Sx.E.i (eV x0 Y0 x2 n u r s q a b c d f g h A B C F K L M N) e30), (_root_.Go.Sx.E.i (eV x0 Y0 x2 n u r s q a b c d f g h A B C F K L M N) (.lit 2)), g, h, A, B, C, F, K, L, M, N, (by kernel_rfl), hB, ?_⟩, ?_⟩
  ·
    simp only [eJ0]
    refine ⟨l5, l6, l7, ?_, ?_, l10, l11, m5, m6, m7, trivial⟩
    all_goals
      try simp only [e30, eV, i_v, i_lit, i_add, i_sub, i_sel, a_av, a_tab, a_upd, b_le, decide_eq_true_eq, List.getD_cons_zero, List.getD_cons_succ]
      first
        | omega
        | (rw [p5]; omega)
  simp only [emu, Env.app, setAll, List.map_cons, List.map_nil, List.set, e30, eV, i_v, i_lit, i_add, i_sub, i_sel, a_av, a_tab, a_upd, b_le, decide_eq_true_eq, List.getD_cons_zero, List.getD_cons_succ]
  omega
noncomputable def eH1_xe : Hyp := { eh1.H with e := [((.v 11), (1, 255))] ++ eh1.H.e, b := [(e91, false)] ++ eh1.H.b }
noncomputable def eR1_xe : LT := (.jump 2 eT2 ⟨[(10, (.lit 21))], [], [(7, e28)]⟩)
theorem esg1_xe : (segL Try.prog G Gh eD ehs [17, 23, 27] 3000 0 4 { eh1 with H := eH1_xe }).map LT.bare = some eR1_xe := by kernel_rfl
theorem evc1_xe (hB : eBase x0 Y0 x2 n u r s q A B C F K) (hJ : eJ1 n u r s q a b c d f g h A B C F K L M N) (hH : Hyp.ok eH1_xe (eV x0 Y0 x2 n u r s q a b c d f g h A B C F K L M N)) (hF0 : 1 ≤ h ∧ h ≤ 255) (hG0 : ¬ a < n) :
    eW1 x0 Y0 x2 (eV x0 Y0 x2 n u r s q a b c d f g h A B C F K L M N) eR1_xe := by
  simp only [eW1, eR1_xe, LT.holds, retTrue]
  have hB3 := hB
  have hJ3 := hJ
  simp only [eBase] at hB3
  obtain ⟨b0, b1, b2, b3, b4, c0, c1, c2, c3, c4, en0, en2, ea0, ea1, ea2, ea3, ea4, hs, hx0, _⟩ := hB3
  simp only [eJ1] at hJ3
  obtain ⟨l5, l6, l7, l8, l9, l10, l11, m5, m6, m7, i1, i2, _⟩ := hJ3
  refine ⟨ehT2, ⟨n, u, r, s, q, a, b, c, d, f, (_root_.Go.Sx.E.i (eV x0 Y0 x2 n u r s q a b c d f g h A B C F K L M N) (.lit 21)), h, A, B, C, F, K, L, M, (_root_.Go.Sx.E.a (eV x0 Y0 x2 n u r s q a b c d f g h A B C F K L M N) e28), (by kernel_rfl), hB, ?_⟩, ?_⟩
  ·
    simp only [eJ2]
    refine ⟨l5, l6, l7, l8, l9, ?_, l11, m5, m6, (arr_at hH (by kernel_rfl)), ?_, trivial⟩
    rotate_left 1
    have h1 : _root_.Go.Sx.E.i (eV x0 Y0 x2 n u r s q a b c d f g h A B C F K L M N) e17 = sumF 8 (_root_.Go.Sx.E.a (eV x0 Y0 x2 n u r s q a b c d f g h A B C F K L M N) e16) := app_sum rfl _ _
    have h0 := sumF_rng 8 (_root_.Go.Sx.E.a (eV x0 Y0 x2 n u r s q a b c d f g h A B C F K L M N) e16)
    have h2 : sumF 8 (_root_.Go.Sx.E.a (eV x0 Y0 x2 n u r s q a b c d f g h A B C F K L M N) e16) = sumF 8 (shf (_root_.Go.Sx.E.a (eV x0 Y0 x2 n u r s q a b c d f g h A B C F K L M N) e28)) := by
      refine sum_cut _ _ _ fun k hk => ?_
      rcases (show k = 0 ∨ k = 1 ∨ k = 2 ∨ k = 3 ∨ k = 4 ∨ k = 5 ∨ k = 6 ∨ k = 7 by omega) with rfl | rfl | rfl | rfl | rfl | rfl | rfl | rfl
      all_goals simp (config := { decide := true }) [nd, sm, sn, sxx, eV]
    refine ⟨?_, ?_, ?_, ?_, ?_, ?_, ?_⟩
    all_goals (try simp only [nd, sm, sn, sxx, eV])
    all_goals (try simp (config := { decide := true }) only [if_true, if_false])
    all_goals first
      | rfl
      | (rw [h1]; rw [h1] at h0; omega)
      | (rw [h1, show ((21 : Int) - 13).toNat = 8 from rfl, ← h2]; omega)
    all_goals
      try simp only [nd, eV, i_v, i_lit, i_add, i_sub, i_sel, a_av, a_tab, a_upd, b_le, decide_eq_true_eq, List.getD_cons_zero, List.getD_cons_succ]
      omega
  simp only [emu, Env.app, setAll, List.map_cons, List.map_nil, List.set, nd, eV, i_v, i_lit, i_add, i_sub, i_sel, a_av, a_tab, a_upd, b_le, decide_eq_true_eq, List.getD_cons_zero, List.getD_cons_succ]
  omega
noncomputable def eH1_ge : Hyp := { eh1.H with e := [((.v 11), (1, 255))] ++ eh1.H.e, b := [(e91, true)] ++ eh1.H.b }
noncomputable def eR1_ge : LT := (.jump 1 eT1 ⟨[(11, (.v 11)), (7, (.v 7)), (6, (.v 6)), (5, e92)], [], [(5, (.av 5)), (6, (.av 6))]⟩)
theorem esg1_ge : (segL Try.prog G Gh eD ehs [17, 23, 27] 3000 0 4 { eh1 with H := eH1_ge }).map LT.bare = some eR1_ge := by kernel_rfl
theorem evc1_ge (hB : eBase x0 Y0 x2 n u r s q A B C F K) (hJ : eJ1 n u r s q a b c d f g h A B C F K L M N) (hH : Hyp.ok eH1_ge (eV x0 Y0 x2 n u r s q a b c d f g h A B C F K L M N)) (hF0 : 1 ≤ h ∧ h ≤ 255) (hG0 : a < n) :
    eW1 x0 Y0 x2 (eV x0 Y0 x2 n u r s q a b c d f g h A B C F K L M N) eR1_ge := by
  simp only [eW1, eR1_ge, LT.holds, retTrue]
  have hB3 := hB
  have hJ3 := hJ
  simp only [eBase] at hB3
  obtain ⟨b0, b1, b2, b3, b4, c0, c1, c2, c3, c4, en0, en2, ea0, ea1, ea2, ea3, ea4, hs, hx0, _⟩ := hB3
  simp only [eJ1] at hJ3
  obtain ⟨l5, l6, l7, l8, l9, l10, l11, m5, m6, m7, i1, i2, _⟩ := hJ3
  have p1 := hs (a.toNat + 1) (by omega)
  rw [← ea2] at p1
  have p2 : pSum C (a.toNat + 1) = pSum C a.toNat + 8 + 2 * C a.toNat := rfl
  have p3 := c2 a.toNat
  have p4 : 8 * (a.toNat : Int) ≤ pSum C a.toNat := pSum_le (fun j => (c2 j).1) _
  have p5 : (a + 1).toNat = a.toNat + 1 := by omega
  refine ⟨ehT1, ⟨n, u, r, s, q, (_root_.Go.Sx.E.i (eV x0 Y0 x2 n u r s q a b c d f g h A B C F K L M N) e92), b, c, d, f, g, h, A, B, C, F, K, L, M, N, (by kernel_rfl), hB, ?_⟩, ?_⟩
  ·
    simp only [eJ1]
    refine ⟨?_, l6, l7, l8, l9, l10, l11, m5, m6, m7, ?_, ?_, trivial⟩
    all_goals
      try simp only [e92, eV, i_v, i_lit, i_add, i_sub, i_sel, a_av, a_tab, a_upd, b_le, decide_eq_true_eq, List.getD_cons_zero, List.getD_cons_succ]
      first
        | omega
        | (rw [p5]; omega)
        | (intro j hj; first | (have := i2 j (by omega); omega) | (split <;> first | omega | (have := i2 j (by omega); omega)) | omega)
  simp only [emu, Env.app, setAll, List.map_cons, List.map_nil, List.set, e92, eV, i_v, i_lit, i_add, i_sub, i_sel, a_av, a_tab, a_upd, b_le, decide_eq_true_eq, List.getD_cons_zero, List.getD_cons_succ]
  omega
noncomputable def eH1_x0 : Hyp := { eh1.H with e := [((.v 11), (0, 0)), ((.v 7), (0, 0))] ++ eh1.H.e, b := [(e91, false)] ++ eh1.H.b }
noncomputable def eR1_x0 : LT := (.ite e116 (.ret (.s (.bool (.blit false))) []) (.jump 2 eT2 ⟨[(10, e117)], [], [(7, e112)]⟩))
theorem esg1_x0 : (segL Try.prog G Gh eD ehs [17, 23, 27] 3000 0 4 { eh1 with H := eH1_x0 }).map LT.bare = some eR1_x0 := by kernel_rfl
theorem evc1_x0 (hB : eBase x0 Y0 x2 n u r s q A B C F K) (hJ : eJ1 n u r s q a b c d f g h A B C F K L M N) (hH : Hyp.ok eH1_x0 (eV x0 Y0 x2 n u r s q a b c d f g h A B C F K L M N)) (hF0 : 0 ≤ h ∧ h ≤ 0) (hF1 : 0 ≤ c ∧ c ≤ 0) (hG0 : ¬ a < n) :
    eW1 x0 Y0 x2 (eV x0 Y0 x2 n u r s q a b c d f g h A B C F K L M N) eR1_x0 := by
  simp only [eW1, eR1_x0, LT.holds, retTrue]
  have hB3 := hB
  have hJ3 := hJ
  simp only [eBase] at hB3
  obtain ⟨b0, b1, b2, b3, b4, c0, c1, c2, c3, c4, en0, en2, ea0, ea1, ea2, ea3, ea4, hs, hx0, _⟩ := hB3
  simp only [eJ1] at hJ3
  obtain ⟨l5, l6, l7, l8, l9, l10, l11, m5, m6, m7, i1, i2, _⟩ := hJ3
  refine ⟨fun hc0 => ?_, fun hc0 => ?_⟩
  ·
    exfalso
    have h1 := app_sum (ρ := (eV x0 Y0 x2 n u r s q a b c d f g h A B C F K L M N)) rfl (.v 6) (.av 5)
    have h2 : _root_.Go.Sx.E.i (eV x0 Y0 x2 n u r s q a b c d f g h A B C F K L M N) e114 = sumF b.toNat (_root_.Go.Sx.E.a (eV x0 Y0 x2 n u r s q a b c d f g h A B C F K L M N) e113) := app_sum rfl _ _
    have h3 : sumF b.toNat (_root_.Go.Sx.E.a (eV x0 Y0 x2 n u r s q a b c d f g h A B C F K L M N) e113) = sumF b.toNat L := sumF_congr _ fun k hk => by
      simp only [nd, sm, sn, sxx, eV]
      rw [if_pos (by omega), if_pos (by omega)]
      first | rfl | (congr 1; omega)
    have h4 : _root_.Go.Sx.E.i (eV x0 Y0 x2 n u r s q a b c d f g h A B C F K L M N) e93 = sumF b.toNat L := h1
    simp only [nd, b_not, b_eq, Bool.not_eq_eq_eq_not, Bool.not_true, decide_eq_false_iff_not] at hc0
    exact hc0 (by rw [h4, h2, h3])
  ·
    refine ⟨ehT2, ⟨n, u, r, s, q, a, b, c, d, f, (_root_.Go.Sx.E.i (eV x0 Y0 x2 n u r s q a b c d f g h A B C F K L M N) e117), h, A, B, C, F, K, L, M, (_root_.Go.Sx.E.a (eV x0 Y0 x2 n u r s q a b c d f g h A B C F K L M N) e112), (by kernel_rfl), hB, ?_⟩, ?_⟩
    ·
      simp only [eJ2]
      refine ⟨l5, l6, l7, l8, l9, ?_, l11, m5, m6, (arr_at hH (by kernel_rfl)), ?_, trivial⟩
      rotate_left 1
      have h1 : _root_.Go.Sx.E.i (eV x0 Y0 x2 n u r s q a b c d f g h A B C F K L M N) e93 = sumF b.toNat L := app_sum (ρ := (eV x0 Y0 x2 n u r s q a b c d f g h A B C F K L M N)) rfl (.v 6) (.av 5)
      have h0 := sumF_rng b.toNat L
      have h2 : sumF b.toNat L = sumF b.toNat (shf (_root_.Go.Sx.E.a (eV x0 Y0 x2 n u r s q a b c d f g h A B C F K L M N) e112)) := by
        refine sum_cut _ _ _ fun k hk => ?_
        simp only [nd, sm, sn, sxx, eV]
        rw [if_pos (by omega)]
        first | rfl | (congr 1; omega)
      have h5 : (_root_.Go.Sx.E.i (eV x0 Y0 x2 n u r s q a b c d f g h A B C F K L M N) e117 - 13).toNat = b.toNat := by
        simp only [nd, eV, i_v, i_lit, i_add, i_sub, i_sel, a_av, a_tab, a_upd, b_le, decide_eq_true_eq, List.getD_cons_zero, List.getD_cons_succ]
        omega
      rw [← h1] at h0
      simp only [eV] at h0
      refine ⟨?_, ?_, ?_, ?_, ?_, ?_, ?w6⟩
      case w6 =>
        rw [h5, ← h2, ← h1]
        simp only [nd, sm, sn, sxx, eV]
        simp (config := { decide := true }) only [if_true, if_false, false_and]
        omega
      all_goals (try simp only [nd, sm, sn, sxx, eV])
      all_goals (try simp (config := { decide := true }) only [if_true, if_false, false_and])
      all_goals first
        | rfl
        | omega
      all_goals
        try simp only [nd, eV, i_v, i_lit, i_add, i_sub, i_sel, a_av, a_tab, a_upd, b_le, decide_eq_true_eq, List.getD_cons_zero, List.getD_cons_succ]
        omega
    simp only [emu, Env.app, setAll, List.map_cons, List.map_nil, List.set, nd, eV, i_v, i_lit, i_add, i_sub, i_sel, a_av, a_tab, a_upd, b_le, decide_eq_true_eq, List.getD_cons_zero, List.getD_cons_succ]
    omega
noncomputable def eH1_x1 : Hyp := { eh1.H with e := [((.v 11), (0, 0)), ((.v 7), (1, 16))] ++ eh1.H.e, b := [(e91, false)] ++ eh1.H.b }
noncomputable def eR1_x1 : LT := (.jump 2 eT2 ⟨[(10, (.lit 21))], [], [(7, e28)]⟩)
theorem esg1_x1 : (segL Try.prog G Gh eD ehs [17, 23, 27] 3000 0 4 { eh1 with H := eH1_x1 }).map LT.bare = some eR1_x1 := by kernel_rfl
theorem evc1_x1 (hB : eBase x0 Y0 x2 n u r s q A B C F K) (hJ : eJ1 n u r s q a b c d f g h A B C F K L M N) (hH : Hyp.ok eH1_x1 (eV x0 Y0 x2 n u r s q a b c d f g h A B C F K L M N)) (hF0 : 0 ≤ h ∧ h ≤ 0) (hF1 : 1 ≤ c ∧ c ≤ 16) (hG0 : ¬ a < n) :
    eW1 x0 Y0 x2 (eV x0 Y0 x2 n u r s q a b c d f g h A B C F K L M N) eR1_x1 := by
  simp only [eW1, eR1_x1, LT.holds, retTrue]
  have hB3 := hB
  have hJ3 := hJ
  simp only [eBase] at hB3
  obtain ⟨b0, b1, b2, b3, b4, c0, c1, c2, c3, c4, en0, en2, ea0, ea1, ea2, ea3, ea4, hs, hx0, _⟩ := hB3
  simp only [eJ1] at hJ3
  obtain ⟨l5, l6, l7, l8, l9, l10, l11, m5, m6, m7, i1, i2, _⟩ := hJ3
  refine ⟨ehT2, ⟨n, u, r, s, q, a, b, c, d, f, (_root_.Go.Sx.E.i (eV x0 Y0 x2 n u r s q a b c d f g h A B C F K L M N) (.lit 21)), h, A, B, C, F, K, L, M, (_root_.Go.Sx.E.a (eV x0 Y0 x2 n u r s q a b c d f g h A B C F K L M N) e28), (by kernel_rfl), hB, ?_⟩, ?_⟩
  ·
    simp only [eJ2]
    refine ⟨l5, l6, l7, l8, l9, ?_, l11, m5, m6, (arr_at hH (by kernel_rfl)), ?_, trivial⟩
    rotate_left 1
    have h1 : _root_.Go.Sx.E.i (eV x0 Y0 x2 n u r s q a b c d f g h A B C F K L M N) e17 = sumF 8 (_root_.Go.Sx.E.a (eV x0 Y0 x2 n u r s q a b c d f g h A B C F K L M N) e16) := app_sum rfl _ _
    have h0 := sumF_rng 8 (_root_.Go.Sx.E.a (eV x0 Y0 x2 n u r s q a b c d f g h A B C F K L M N) e16)
    have h2 : sumF 8 (_root_.Go.Sx.E.a (eV x0 Y0 x2 n u r s q a b c d f g h A B C F K L M N) e16) = sumF 8 (shf (_root_.Go.Sx.E.a (eV x0 Y0 x2 n u r s q a b c d f g h A B C F K L M N) e28)) := by
      refine sum_cut _ _ _ fun k hk => ?_
      rcases (show k = 0 ∨ k = 1 ∨ k = 2 ∨ k = 3 ∨ k = 4 ∨ k = 5 ∨ k = 6 ∨ k = 7 by omega) with rfl | rfl | rfl | rfl | rfl | rfl | rfl | rfl
      all_goals simp (config := { decide := true }) [nd, sm, sn, sxx, eV]
    refine ⟨?_, ?_, ?_, ?_, ?_, ?_, ?_⟩
    all_goals (try simp only [nd, sm, sn, sxx, eV])
    all_goals (try simp (config := { decide := true }) only [if_true, if_false])
    all_goals first
      | rfl
      | (rw [h1]; rw [h1] at h0; omega)
      | (rw [h1, show ((21 : Int) - 13).toNat = 8 from rfl, ← h2]; omega)
    all_goals
      try simp only [nd, eV, i_v, i_lit, i_add, i_sub, i_sel, a_av, a_tab, a_upd, b_le, decide_eq_true_eq, List.getD_cons_zero, List.getD_cons_succ]
      omega
  simp only [emu, Env.app, setAll, List.map_cons, List.map_nil, List.set, nd, eV, i_v, i_lit, i_add, i_sub, i_sel, a_av, a_tab, a_upd, b_le, decide_eq_true_eq, List.getD_cons_zero, List.getD_cons_succ]
  omega
noncomputable def eH1_w0_0 : Hyp := { eh1.H with e := [((.v 11), (0, 0)), (e118, (0, 0)), ((.v 7), (0, 0))] ++ eh1.H.e, b := [(e91, true)] ++ eh1.H.b }
noncomputable def eR1_w0_0 : LT := (.jump 1 eT1 ⟨[(11, (.v 11)), (7, (.v 7)), (6, e119), (5, e92)], [], [(5, e122), (6, (.av 6))]⟩)
theorem esg1_w0_0 : (segL Try.prog G Gh eD ehs [17, 23, 27] 3000 0 4 { eh1 with H := eH1_w0_0 }).map LT.bare = some eR1_w0_0 := by kernel_rfl
theorem evc1_w0_0 (hB : eBase x0 Y0 x2 n u r s q A B C F K) (hJ : eJ1 n u r s q a b c d f g h A B C F K L M N) (hH : Hyp.ok eH1_w0_0 (eV x0 Y0 x2 n u r s q a b c d f g h A B C F K L M N)) (hF0 : 0 ≤ h ∧ h ≤ 0) (hF1 : 0 ≤ A a.toNat ∧ A a.toNat ≤ 0) (hF2 : 0 ≤ c ∧ c ≤ 0) (hG0 : a < n) :
    eW1 x0 Y0 x2 (eV x0 Y0 x2 n u r s q a b c d f g h A B C F K L M N) eR1_w0_0 := by
  simp only [eW1, eR1_w0_0, LT.holds, retTrue]
  have hB3 := hB
  have hJ3 := hJ
  simp only [eBase] at hB3
  obtain ⟨b0, b1, b2, b3, b4, c0, c1, c2, c3, c4, en0, en2, ea0, ea1, ea2, ea3, ea4, hs, hx0, _⟩ := hB3
  simp only [eJ1] at hJ3
  obtain ⟨l5, l6, l7, l8, l9, l10, l11, m5, m6, m7, i1, i2, _⟩ := hJ3
  have p1 := hs (a.toNat + 1) (by omega)
  rw [← ea2] at p1
  have p2 : pSum C (a.toNat + 1) = pSum C a.toNat + 8 + 2 * C a.toNat := rfl
  have p3 := c2 a.toNat
  have p4 : 8 * (a.toNat : Int) ≤ pSum C a.toNat := pSum_le (fun j => (c2 j).1) _
  have p5 : (a + 1).toNat = a.toNat + 1 := by omega
  refine ⟨ehT1, ⟨n, u, r, s, q, (_root_.Go.Sx.E.i (eV x0 Y0 x2 n u r s q a b c d f g h A B C F K L M N) e92), (_root_.Go.Sx.E.i (eV x0 Y0 x2 n u r s q a b c d f g h A B C F K L M N) e119), c, d, f, g, h, A, B, C, F, K, (_root_.Go.Sx.E.a (eV x0 Y0 x2 n u r s q a b c d f g h A B C F K L M N) e122), M, N, (by kernel_rfl), hB, ?_⟩, ?_⟩
  ·
    simp only [eJ1]
    refine ⟨?_, ?_, l7, l8, l9, l10, l11, (arr_at hH (by kernel_rfl)), m6, m7, ?_, ?_, trivial⟩
    all_goals
      try simp only [e92, e119, e120, e121, e122, eV, i_v, i_lit, i_add, i_sub, i_sel, a_av, a_tab, a_upd, b_le, decide_eq_true_eq, List.getD_cons_zero, List.getD_cons_succ]
      first
        | omega
        | (rw [p5]; omega)
        | (intro j hj; first | (have := i2 j (by omega); omega) | (split <;> first | omega | (have := i2 j (by omega); omega)) | omega)
  simp only [emu, Env.app, setAll, List.map_cons, List.map_nil, List.set, e92, e119, e120, e121, e122, eV, i_v, i_lit, i_add, i_sub, i_sel, a_av, a_tab, a_upd, b_le, decide_eq_true_eq, List.getD_cons_zero, List.getD_cons_succ]
  omega
noncomputable def eH1_w0_1 : Hyp := { eh1.H with e := [((.v 11), (0, 0)), (e118, (0, 0)), ((.v 7), (1, 16))] ++ eh1.H.e, b := [(e91, true)] ++ eh1.H.b }
noncomputable def eR1_w0_1 : LT := (.jump 1 eT1 ⟨[(11, (.v 11)), (7, (.v 7)), (6, e119), (5, e92)], [], [(5, e122), (6, (.av 6))]⟩)
theorem esg1_w0_1 : (segL Try.prog G Gh eD ehs [17, 23, 27] 3000 0 4 { eh1 with H := eH1_w0_1 }).map LT.bare = some eR1_w0_1 := by kernel_rfl
theorem evc1_w0_1 (hB : eBase x0 Y0 x2 n u r s q A B C F K) (hJ : eJ1 n u r s q a b c d f g h A B C F K L M N) (hH : Hyp.ok eH1_w0_1 (eV x0 Y0 x2 n u r s q a b c d f g h A B C F K L M N)) (hF0 : 0 ≤ h ∧ h ≤ 0) (hF1 : 0 ≤ A a.toNat ∧ A a.toNat ≤ 0) (hF2 : 1 ≤ c ∧ c ≤ 16) (hG0 : a < n) :
    eW1 x0 Y0 x2 (eV x0 Y0 x2 n u r s q a b c d f g h A B C F K L M N) eR1_w0_1 := by
  simp only [eW1, eR1_w0_1, LT.holds, retTrue]
  have hB3 := hB
  have hJ3 := hJ
  simp only [eBase] at hB3
  obtain ⟨b0, b1, b2, b3, b4, c0, c1, c2, c3, c4, en0, en2, ea0, ea1, ea2, ea3, ea4, hs, hx0, _⟩ := hB3
  simp only [eJ1] at hJ3
  obtain ⟨l5, l6, l7, l8, l9, l10, l11, m5, m6, m7, i1, i2, _⟩ := hJ3
  have p1 := hs (a.toNat + 1) (by omega)
  rw [← ea2] at p1
  have p2 : pSum C (a.toNat + 1) = pSum C a.toNat + 8 + 2 * C a.toNat := rfl
  have p3 := c2 a.toNat
  have p4 : 8 * (a.toNat : Int) ≤ pSum C a.toNat := pSum_le (fun j => (c2 j).1) _
  have p5 : (a + 1).toNat = a.toNat + 1 := by omega
  refine ⟨ehT1, ⟨n, u, r, s, q, (_root_.Go.Sx.E.i (eV x0 Y0 x2 n u r s q a b c d f g h A B C F K L M N) e92), (_root_.Go.Sx.E.i (eV x0 Y0 x2 n u r s q a b c d f g h A B C F K L M N) e119), c, d, f, g, h, A, B, C, F, K, (_root_.Go.Sx.E.a (eV x0 Y0 x2 n u r s q a b c d f g h A B C F K L M N) e122), M, N, (by kernel_rfl), hB, ?_⟩, ?_⟩
  ·
    simp only [eJ1]
    refine ⟨?_, ?_, l7, l8, l9, l10, l11, (arr_at hH (by kernel_rfl)), m6, m7, ?_, ?_, trivial⟩
    all_goals
      try simp only [e92, e119, e120, e121, e122, eV, i_v, i_lit, i_add, i_sub, i_sel, a_av, a_tab, a_upd, b_le, decide_eq_true_eq, List.getD_cons_zero, List.getD_cons_succ]
      first
        | omega
        | (rw [p5]; omega)
        | (intro j hj; first | (have := i2 j (by omega); omega) | (split <;> first | omega | (have := i2 j (by omega); omega)) | omega)
  simp only [emu, Env.app, setAll, List.map_cons, List.map_nil, List.set, e92, e119, e120, e121, e122, eV, i_v, i_lit, i_add, i_sub, i_sel, a_av, a_tab, a_upd, b_le, decide_eq_true_eq, List.getD_cons_zero, List.getD_cons_succ]
  omega
noncomputable def eH1_w1_0 : Hyp := { eh1.H with e := [((.v 11), (0, 0)), (e118, (1, 1)), ((.v 7), (0, 0))] ++ eh1.H.e, b := [(e91, true)] ++ eh1.H.b }
noncomputable def eR1_w1_0 : LT := (.jump 1 eT1 ⟨[(11, (.v 11)), (7, (.v 7)), (6, e123), (5, e92)], [], [(5, e126), (6, (.av 6))]⟩)
theorem esg1_w1_0 : (segL Try.prog G Gh eD ehs [17, 23, 27] 3000 0 4 { eh1 with H := eH1_w1_0 }).map LT.bare = some eR1_w1_0 := by kernel_rfl
theorem evc1_w1_0 (hB : eBase x0 Y0 x2 n u r s q A B C F K) (hJ : eJ1 n u r s q a b c d f g h A B C F K L M N) (hH : Hyp.ok eH1_w1_0 (eV x0 Y0 x2 n u r s q a b c d f g h A B C F K L M N)) (hF0 : 0 ≤ h ∧ h ≤ 0) (hF1 : 1 ≤ A a.toNat ∧ A a.toNat ≤ 1) (hF2 : 0 ≤ c ∧ c ≤ 0) (hG0 : a < n) :
    eW1 x0 Y0 x2 (eV x0 Y0 x2 n u r s q a b c d f g h A B C F K L M N) eR1_w1_0 := by
  simp only [eW1, eR1_w1_0, LT.holds, retTrue]
  have hB3 := hB
  have hJ3 := hJ
  simp only [eBase] at hB3
  obtain ⟨b0, b1, b2, b3, b4, c0, c1, c2, c3, c4, en0, en2, ea0, ea1, ea2, ea3, ea4, hs, hx0, _⟩ := hB3
  simp only [eJ1] at hJ3
  obtain ⟨l5, l6, l7, l8, l9, l10, l11, m5, m6, m7, i1, i2, _⟩ := hJ3
  have p1 := hs (a.toNat + 1) (by omega)
  rw [← ea2] at p1
  have p2 : pSum C (a.toNat + 1) = pSum C a.toNat + 8 + 2 * C a.toNat := rfl
  have p3 := c2 a.toNat
  have p4 : 8 * (a.toNat : Int) ≤ pSum C a.toNat := pSum_le (fun j => (c2 j).1) _
  have p5 : (a + 1).toNat = a.toNat + 1 := by omega
  refine ⟨ehT1, ⟨n, u, r, s, q, (_root_.Go.Sx.E.i (eV x0 Y0 x2 n u r s q a b c d f g h A B C F K L M N) e92), (_root_.Go.Sx.E.i (eV x0 Y0 x2 n u r s q a b c d f g h A B C F K L M N) e123), c, d, f, g, h, A, B, C, F, K, (_root_.Go.Sx.E.a (eV x0 Y0 x2 n u r s q a b c d f g h A B C F K L M N) e126), M, N, (by kernel_rfl), hB, ?_⟩, ?_⟩
  ·
    simp only [eJ1]
    refine ⟨?_, ?_, l7, l8, l9, l10, l11, (arr_at hH (by kernel_rfl)), m6, m7, ?_, ?_, trivial⟩
    all_goals
      try simp only [nd, eV, i_v, i_lit, i_add, i_sub, i_sel, a_av, a_tab, a_upd, b_le, decide_eq_true_eq, List.getD_cons_zero, List.getD_cons_succ]
      first
        | omega
        | (rw [p5]; omega)
        | (intro j hj; first | (have := i2 j (by omega); omega) | (split <;> first | omega | (have := i2 j (by omega); omega)) | omega)
  simp only [emu, Env.app, setAll, List.map_cons, List.map_nil, List.set, nd, eV, i_v, i_lit, i_add, i_sub, i_sel, a_av, a_tab, a_upd, b_le, decide_eq_true_eq, List.getD_cons_zero, List.getD_cons_succ]
  omega
end Go.Proofs.Ytflamojcdfmimaa.SaveChanged
