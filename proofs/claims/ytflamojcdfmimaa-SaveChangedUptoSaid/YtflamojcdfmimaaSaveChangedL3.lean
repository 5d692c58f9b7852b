/- A part of the law SaveChanged, which returns true for every input. Saved bytes of which any one byte is changed, or some are left out at the end, or more stand behind, are refused. Where what comes in is of bulk at most 1048576. No condition. -/
import Derived.Test.YtflamojcdfmimaaSaveChangedB
namespace Go.Proofs.Ytflamojcdfmimaa.SaveChanged
open Go.Sx Go.ChangeShapes Go.WideShapes Go.ChangeAt Go.RowKit
set_option linter.unusedVariables false
set_option linter.unusedSimpArgs false
set_option maxRecDepth 100000
set_option maxHeartbeats 40000000
variable {x0 : Ext} {Y0 : Nat → Ext} {x2 : Ext} {n u r s q a b c d f g h : Int} {A B C F K L M N : Nat → Int}
noncomputable def eH2_z5 : Hyp := { eh2.H with e := [((.v 2), (1, 255)), ((.v 1), (5, 5)), ((.v 10), (13, 13))] ++ eh2.H.e, b := [(e197, true)] ++ eh2.H.b }
noncomputable def eR2_z5 : LT := (.ite e265 (.jump 3 eT3 ⟨[(10, (.v 10))], [], [(7, (.av 7))]⟩) (.ite e216 (.jump 3 eT3 ⟨[(10, (.v 10))], [], [(7, (.av 7))]⟩) (.ite e310 (.jump 3 eT3 ⟨[(10, (.v 10))], [], [(7, (.av 7))]⟩) (.ite e308 (.jump 3 eT3 ⟨[(10, (.v 10))], [], [(7, (.av 7))]⟩) (.ret (.s (.bool (.blit false))) [])))))
theorem esg2_z5 : (segL Try.prog G Gh eD ehs [17, 23, 27] 3000 0 4 { eh2 with H := eH2_z5 }).map LT.bare = some eR2_z5 := by kernel_rfl
theorem evc2_z5 (hB : eBase x0 Y0 x2 n u r s q A B C F K) (hJ : eJ2 n u r s q a b c d f g h A B C F K L M N) (hH : Hyp.ok eH2_z5 (eV x0 Y0 x2 n u r s q a b c d f g h A B C F K L M N)) (hF0 : 1 ≤ r ∧ r ≤ 255) (hF1 : 5 ≤ u ∧ u ≤ 5) (hF2 : 13 ≤ g ∧ g ≤ 13) (hG0 : u < g) :
    eW2 x0 Y0 x2 (eV x0 Y0 x2 n u r s q a b c d f g h A B C F K L M N) eR2_z5 := by
  simp only [eW2, eR2_z5, LT.holds, retTrue]
  refine ⟨fun hc0 => ?_, fun hc0 => ?_⟩
  ·
    refine ⟨ehT3, ⟨n, u, r, s, q, a, b, c, d, f, g, h, A, B, C, F, K, L, M, N, (by kernel_rfl), hB, ?_⟩, ?_⟩
    · exact hJ
    exact Nat.lt_succ_self _
  ·
    refine ⟨fun hc2 => ?_, fun hc2 => ?_⟩
    ·
      refine ⟨ehT3, ⟨n, u, r, s, q, a, b, c, d, f, g, h, A, B, C, F, K, L, M, N, (by kernel_rfl), hB, ?_⟩, ?_⟩
      · exact hJ
      exact Nat.lt_succ_self _
    ·
      refine ⟨fun hc4 => ?_, fun hc4 => ?_⟩
      ·
        refine ⟨ehT3, ⟨n, u, r, s, q, a, b, c, d, f, g, h, A, B, C, F, K, L, M, N, (by kernel_rfl), hB, ?_⟩, ?_⟩
        · exact hJ
        exact Nat.lt_succ_self _
      ·
        refine ⟨fun hc6 => ?_, fun hc6 => ?_⟩
        ·
          refine ⟨ehT3, ⟨n, u, r, s, q, a, b, c, d, f, g, h, A, B, C, F, K, L, M, N, (by kernel_rfl), hB, ?_⟩, ?_⟩
          · exact hJ
          exact Nat.lt_succ_self _
        ·
          exfalso
          simp only [eBase] at hB
          obtain ⟨b0, b1, b2, b3, b4, c0, c1, c2, c3, c4, en0, en2, ea0, ea1, ea2, ea3, ea4, hs, hx0, _⟩ := hB
          simp only [eJ2] at hJ
          obtain ⟨l5, l6, l7, l8, l9, l10, l11, m5, m6, m7, hw, _⟩ := hJ
          obtain ⟨w0, w1, w2, w3, w4, w5, w6⟩ := hw
          have hx := xor_ne (N u.toNat) r (m7 _) hF0
          have hat : u.toNat = 5 := by omega
          have h10 : g - 13 = 0 := by omega
          rw [h10] at w5 w6
          have hs1 : _root_.Go.Sx.E.i (eV x0 Y0 x2 n u r s q a b c d f g h A B C F K L M N) e35 = 1 := by
            have := app_sum (ρ := (eV x0 Y0 x2 n u r s q a b c d f g h A B C F K L M N)) rfl (.lit 0) (.tab [])
            exact this
          have hs2 : sumF (0 : Int).toNat (shf N) = 1 := rfl
          rw [hs2] at w6
          simp only [nd, sm, sn, sxx, eV, Bool.or_eq_false_iff, Bool.not_eq_false', decide_eq_true_eq] at hc0 hc2 hc4 hc6
          simp only [eV] at hs1
          rw [hat] at hx
          (try rw [hat] at hc0)
          (try rw [hat] at hc2)
          (try rw [hat] at hc4)
          (try rw [hat] at hc6)
          first
            | omega
            | (rw [hs1] at hc6; omega)
noncomputable def eH2_z6 : Hyp := { eh2.H with e := [((.v 2), (1, 255)), ((.v 1), (6, 6)), ((.v 10), (13, 13))] ++ eh2.H.e, b := [(e197, true)] ++ eh2.H.b }
noncomputable def eR2_z6 : LT := (.ite e265 (.jump 3 eT3 ⟨[(10, (.v 10))], [], [(7, (.av 7))]⟩) (.ite e216 (.jump 3 eT3 ⟨[(10, (.v 10))], [], [(7, (.av 7))]⟩) (.ite e312 (.jump 3 eT3 ⟨[(10, (.v 10))], [], [(7, (.av 7))]⟩) (.ite e308 (.jump 3 eT3 ⟨[(10, (.v 10))], [], [(7, (.av 7))]⟩) (.ret (.s (.bool (.blit false))) [])))))
theorem esg2_z6 : (segL Try.prog G Gh eD ehs [17, 23, 27] 3000 0 4 { eh2 with H := eH2_z6 }).map LT.bare = some eR2_z6 := by kernel_rfl
theorem evc2_z6 (hB : eBase x0 Y0 x2 n u r s q A B C F K) (hJ : eJ2 n u r s q a b c d f g h A B C F K L M N) (hH : Hyp.ok eH2_z6 (eV x0 Y0 x2 n u r s q a b c d f g h A B C F K L M N)) (hF0 : 1 ≤ r ∧ r ≤ 255) (hF1 : 6 ≤ u ∧ u ≤ 6) (hF2 : 13 ≤ g ∧ g ≤ 13) (hG0 : u < g) :
    eW2 x0 Y0 x2 (eV x0 Y0 x2 n u r s q a b c d f g h A B C F K L M N) eR2_z6 := by
  simp only [eW2, eR2_z6, LT.holds, retTrue]
  refine ⟨fun hc0 => ?_, fun hc0 => ?_⟩
  ·
    refine ⟨ehT3, ⟨n, u, r, s, q, a, b, c, d, f, g, h, A, B, C, F, K, L, M, N, (by kernel_rfl), hB, ?_⟩, ?_⟩
    · exact hJ
    exact Nat.lt_succ_self _
  ·
    refine ⟨fun hc2 => ?_, fun hc2 => ?_⟩
    ·
      refine ⟨ehT3, ⟨n, u, r, s, q, a, b, c, d, f, g, h, A, B, C, F, K, L, M, N, (by kernel_rfl), hB, ?_⟩, ?_⟩
      · exact hJ
      exact Nat.lt_succ_self _
    ·
      refine ⟨fun hc4 => ?_, fun hc4 => ?_⟩
      ·
        refine ⟨ehT3, ⟨n, u, r, s, q, a, b, c, d, f, g, h, A, B, C, F, K, L, M, N, (by kernel_rfl), hB, ?_⟩, ?_⟩
        · exact hJ
        exact Nat.lt_succ_self _
      ·
        refine ⟨fun hc6 => ?_, fun hc6 => ?_⟩
        ·
          refine ⟨ehT3, ⟨n, u, r, s, q, a, b, c, d, f, g, h, A, B, C, F, K, L, M, N, (by kernel_rfl), hB, ?_⟩, ?_⟩
          · exact hJ
          exact Nat.lt_succ_self _
        ·
          exfalso
          simp only [eBase] at hB
          obtain ⟨b0, b1, b2, b3, b4, c0, c1, c2, c3, c4, en0, en2, ea0, ea1, ea2, ea3, ea4, hs, hx0, _⟩ := hB
          simp only [eJ2] at hJ
          obtain ⟨l5, l6, l7, l8, l9, l10, l11, m5, m6, m7, hw, _⟩ := hJ
          obtain ⟨w0, w1, w2, w3, w4, w5, w6⟩ := hw
          have hx := xor_ne (N u.toNat) r (m7 _) hF0
          have hat : u.toNat = 6 := by omega
          have h10 : g - 13 = 0 := by omega
          rw [h10] at w5 w6
          have hs1 : _root_.Go.Sx.E.i (eV x0 Y0 x2 n u r s q a b c d f g h A B C F K L M N) e35 = 1 := by
            have := app_sum (ρ := (eV x0 Y0 x2 n u r s q a b c d f g h A B C F K L M N)) rfl (.lit 0) (.tab [])
            exact this
          have hs2 : sumF (0 : Int).toNat (shf N) = 1 := rfl
          rw [hs2] at w6
          simp only [nd, sm, sn, sxx, eV, Bool.or_eq_false_iff, Bool.not_eq_false', decide_eq_true_eq] at hc0 hc2 hc4 hc6
          simp only [eV] at hs1
          rw [hat] at hx
          (try rw [hat] at hc0)
          (try rw [hat] at hc2)
          (try rw [hat] at hc4)
          (try rw [hat] at hc6)
          first
            | omega
            | (rw [hs1] at hc6; omega)
noncomputable def eH2_z7 : Hyp := { eh2.H with e := [((.v 2), (1, 255)), ((.v 1), (7, 7)), ((.v 10), (13, 13))] ++ eh2.H.e, b := [(e197, true)] ++ eh2.H.b }
noncomputable def eR2_z7 : LT := (.ite e265 (.jump 3 eT3 ⟨[(10, (.v 10))], [], [(7, (.av 7))]⟩) (.ite e216 (.jump 3 eT3 ⟨[(10, (.v 10))], [], [(7, (.av 7))]⟩) (.ite e314 (.jump 3 eT3 ⟨[(10, (.v 10))], [], [(7, (.av 7))]⟩) (.ite e308 (.jump 3 eT3 ⟨[(10, (.v 10))], [], [(7, (.av 7))]⟩) (.ret (.s (.bool (.blit false))) [])))))
theorem esg2_z7 : (segL Try.prog G Gh eD ehs [17, 23, 27] 3000 0 4 { eh2 with H := eH2_z7 }).map LT.bare = some eR2_z7 := by kernel_rfl
theorem evc2_z7 (hB : eBase x0 Y0 x2 n u r s q A B C F K) (hJ : eJ2 n u r s q a b c d f g h A B C F K L M N) (hH : Hyp.ok eH2_z7 (eV x0 Y0 x2 n u r s q a b c d f g h A B C F K L M N)) (hF0 : 1 ≤ r ∧ r ≤ 255) (hF1 : 7 ≤ u ∧ u ≤ 7) (hF2 : 13 ≤ g ∧ g ≤ 13) (hG0 : u < g) :
    eW2 x0 Y0 x2 (eV x0 Y0 x2 n u r s q a b c d f g h A B C F K L M N) eR2_z7 := by
  simp only [eW2, eR2_z7, LT.holds, retTrue]
  refine ⟨fun hc0 => ?_, fun hc0 => ?_⟩
  ·
    refine ⟨ehT3, ⟨n, u, r, s, q, a, b, c, d, f, g, h, A, B, C, F, K, L, M, N, (by kernel_rfl), hB, ?_⟩, ?_⟩
    · exact hJ
    exact Nat.lt_succ_self _
  ·
    refine ⟨fun hc2 => ?_, fun hc2 => ?_⟩
    ·
      refine ⟨ehT3, ⟨n, u, r, s, q, a, b, c, d, f, g, h, A, B, C, F, K, L, M, N, (by kernel_rfl), hB, ?_⟩, ?_⟩
      · exact hJ
      exact Nat.lt_succ_self _
    ·
      refine ⟨fun hc4 => ?_, fun hc4 => ?_⟩
      ·
        refine ⟨ehT3, ⟨n, u, r, s, q, a, b, c, d, f, g, h, A, B, C, F, K, L, M, N, (by kernel_rfl), hB, ?_⟩, ?_⟩
        · exact hJ
        exact Nat.lt_succ_self _
      ·
        refine ⟨fun hc6 => ?_, fun hc6 => ?_⟩
        ·
          refine ⟨ehT3, ⟨n, u, r, s, q, a, b, c, d, f, g, h, A, B, C, F, K, L, M, N, (by kernel_rfl), hB, ?_⟩, ?_⟩
          · exact hJ
          exact Nat.lt_succ_self _
        ·
          exfalso
          simp only [eBase] at hB
          obtain ⟨b0, b1, b2, b3, b4, c0, c1, c2, c3, c4, en0, en2, ea0, ea1, ea2, ea3, ea4, hs, hx0, _⟩ := hB
          simp only [eJ2] at hJ
          obtain ⟨l5, l6, l7, l8, l9, l10, l11, m5, m6, m7, hw, _⟩ := hJ
          obtain ⟨w0, w1, w2, w3, w4, w5, w6⟩ := hw
          have hx := xor_ne (N u.toNat) r (m7 _) hF0
          have hat : u.toNat = 7 := by omega
          have h10 : g - 13 = 0 := by omega
          rw [h10] at w5 w6
          have hs1 : _root_.Go.Sx.E.i (eV x0 Y0 x2 n u r s q a b c d f g h A B C F K L M N) e35 = 1 := by
            have := app_sum (ρ := (eV x0 Y0 x2 n u r s q a b c d f g h A B C F K L M N)) rfl (.lit 0) (.tab [])
            exact this
          have hs2 : sumF (0 : Int).toNat (shf N) = 1 := rfl
          rw [hs2] at w6
          simp only [nd, sm, sn, sxx, eV, Bool.or_eq_false_iff, Bool.not_eq_false', decide_eq_true_eq] at hc0 hc2 hc4 hc6
          simp only [eV] at hs1
          rw [hat] at hx
          (try rw [hat] at hc0)
          (try rw [hat] at hc2)
          (try rw [hat] at hc4)
          (try rw [hat] at hc6)
          first
            | omega
            | (rw [hs1] at hc6; omega)
noncomputable def eH2_z8 : Hyp := { eh2.H with e := [((.v 2), (1, 255)), ((.v 1), (8, 8)), ((.v 10), (13, 13))] ++ eh2.H.e, b := [(e197, true)] ++ eh2.H.b }
noncomputable def eR2_z8 : LT := (.ite e265 (.jump 3 eT3 ⟨[(10, (.v 10))], [], [(7, (.av 7))]⟩) (.ite e216 (.jump 3 eT3 ⟨[(10, (.v 10))], [], [(7, (.av 7))]⟩) (.ite e316 (.jump 3 eT3 ⟨[(10, (.v 10))], [], [(7, (.av 7))]⟩) (.ite e308 (.jump 3 eT3 ⟨[(10, (.v 10))], [], [(7, (.av 7))]⟩) (.ret (.s (.bool (.blit false))) [])))))
theorem esg2_z8 : (segL Try.prog G Gh eD ehs [17, 23, 27] 3000 0 4 { eh2 with H := eH2_z8 }).map LT.bare = some eR2_z8 := by kernel_rfl
theorem evc2_z8 (hB : eBase x0 Y0 x2 n u r s q A B C F K) (hJ : eJ2 n u r s q a b c d f g h A B C F K L M N) (hH : Hyp.ok eH2_z8 (eV x0 Y0 x2 n u r s q a b c d f g h A B C F K L M N)) (hF0 : 1 ≤ r ∧ r ≤ 255) (hF1 : 8 ≤ u ∧ u ≤ 8) (hF2 : 13 ≤ g ∧ g ≤ 13) (hG0 : u < g) :
    eW2 x0 Y0 x2 (eV x0 Y0 x2 n u r s q a b c d f g h A B C F K L M N) eR2_z8 := by
  simp only [eW2, eR2_z8, LT.holds, retTrue]
  refine ⟨fun hc0 => ?_, fun hc0 => ?_⟩
  ·
    refine ⟨ehT3, ⟨n, u, r, s, q, a, b, c, d, f, g, h, A, B, C, F, K, L, M, N, (by kernel_rfl), hB, ?_⟩, ?_⟩
    · exact hJ
    exact Nat.lt_succ_self _
  ·
    refine ⟨fun hc2 => ?_, fun hc2 => ?_⟩
    ·
      refine ⟨ehT3, ⟨n, u, r, s, q, a, b, c, d, f, g, h, A, B, C, F, K, L, M, N, (by kernel_rfl), hB, ?_⟩, ?_⟩
      · exact hJ
      exact Nat.lt_succ_self _
    ·
      refine ⟨fun hc4 => ?_, fun hc4 => ?_⟩
      ·
        refine ⟨ehT3, ⟨n, u, r, s, q, a, b, c, d, f, g, h, A, B, C, F, K, L, M, N, (by kernel_rfl), hB, ?_⟩, ?_⟩
        · exact hJ
        exact Nat.lt_succ_self _
      ·
        refine ⟨fun hc6 => ?_, fun hc6 => ?_⟩
        ·
          refine ⟨ehT3, ⟨n, u, r, s, q, a, b, c, d, f, g, h, A, B, C, F, K, L, M, N, (by kernel_rfl), hB, ?_⟩, ?_⟩
          · exact hJ
          exact Nat.lt_succ_self _
        ·
          exfalso
          simp only [eBase] at hB
          obtain ⟨b0, b1, b2, b3, b4, c0, c1, c2, c3, c4, en0, en2, ea0, ea1, ea2, ea3, ea4, hs, hx0, _⟩ := hB
          simp only [eJ2] at hJ
          obtain ⟨l5, l6, l7, l8, l9, l10, l11, m5, m6, m7, hw, _⟩ := hJ
          obtain ⟨w0, w1, w2, w3, w4, w5, w6⟩ := hw
          have hx := xor_ne (N u.toNat) r (m7 _) hF0
          have hat : u.toNat = 8 := by omega
          have h10 : g - 13 = 0 := by omega
          rw [h10] at w5 w6
          have hs1 : _root_.Go.Sx.E.i (eV x0 Y0 x2 n u r s q a b c d f g h A B C F K L M N) e35 = 1 := by
            have := app_sum (ρ := (eV x0 Y0 x2 n u r s q a b c d f g h A B C F K L M N)) rfl (.lit 0) (.tab [])
            exact this
          have hs2 : sumF (0 : Int).toNat (shf N) = 1 := rfl
          rw [hs2] at w6
          simp only [nd, sm, sn, sxx, eV, Bool.or_eq_false_iff, Bool.not_eq_false', decide_eq_true_eq] at hc0 hc2 hc4 hc6
          simp only [eV] at hs1
          rw [hat] at hx
          (try rw [hat] at hc0)
          (try rw [hat] at hc2)
          (try rw [hat] at hc4)
          (try rw [hat] at hc6)
          first
            | omega
            | (rw [hs1] at hc6; omega)
noncomputable def eH2_z9 : Hyp := { eh2.H with e := [((.v 2), (1, 255)), ((.v 1), (9, 9)), ((.v 10), (13, 13))] ++ eh2.H.e, b := [(e197, true)] ++ eh2.H.b }
noncomputable def eR2_z9 : LT := (.ite e265 (.jump 3 eT3 ⟨[(10, (.v 10))], [], [(7, (.av 7))]⟩) (.ite e216 (.jump 3 eT3 ⟨[(10, (.v 10))], [], [(7, (.av 7))]⟩) (.ite e306 (.jump 3 eT3 ⟨[(10, (.v 10))], [], [(7, (.av 7))]⟩) (.ite e318 (.jump 3 eT3 ⟨[(10, (.v 10))], [], [(7, (.av 7))]⟩) (.ret (.s (.bool (.blit false))) [])))))
theorem esg2_z9 : (segL Try.prog G Gh eD ehs [17, 23, 27] 3000 0 4 { eh2 with H := eH2_z9 }).map LT.bare = some eR2_z9 := by kernel_rfl
theorem evc2_z9 (hB : eBase x0 Y0 x2 n u r s q A B C F K) (hJ : eJ2 n u r s q a b c d f g h A B C F K L M N) (hH : Hyp.ok eH2_z9 (eV x0 Y0 x2 n u r s q a b c d f g h A B C F K L M N)) (hF0 : 1 ≤ r ∧ r ≤ 255) (hF1 : 9 ≤ u ∧ u ≤ 9) (hF2 : 13 ≤ g ∧ g ≤ 13) (hG0 : u < g) :
    eW2 x0 Y0 x2 (eV x0 Y0 x2 n u r s q a b c d f g h A B C F K L M N) eR2_z9 := by
  simp only [eW2, eR2_z9, LT.holds, retTrue]
  refine ⟨fun hc0 => ?_, fun hc0 => ?_⟩
  ·
    refine ⟨ehT3, ⟨n, u, r, s, q, a, b, c, d, f, g, h, A, B, C, F, K, L, M, N, (by kernel_rfl), hB, ?_⟩, ?_⟩
    · exact hJ
    exact Nat.lt_succ_self _
  ·
    refine ⟨fun hc2 => ?_, fun hc2 => ?_⟩
    ·
      refine ⟨ehT3, ⟨n, u, r, s, q, a, b, c, d, f, g, h, A, B, C, F, K, L, M, N, (by kernel_rfl), hB, ?_⟩, ?_⟩
      · exact hJ
      exact Nat.lt_succ_self _
    ·
      refine ⟨fun hc4 => ?_, fun hc4 => ?_⟩
      ·
        refine ⟨ehT3, ⟨n, u, r, s, q, a, b, c, d, f, g, h, A, B, C, F, K, L, M, N, (by kernel_rfl), hB, ?_⟩, ?_⟩
        · exact hJ
        exact Nat.lt_succ_self _
      ·
        refine ⟨fun hc6 => ?_, fun hc6 => ?_⟩
        ·
          refine ⟨ehT3, ⟨n, u, r, s, q, a, b, c, d, f, g, h, A, B, C, F, K, L, M, N, (by kernel_rfl), hB, ?_⟩, ?_⟩
          · exact hJ
          exact Nat.lt_succ_self _
        ·
          exfalso
          simp only [eBase] at hB
          obtain ⟨b0, b1, b2, b3, b4, c0, c1, c2, c3, c4, en0, en2, ea0, ea1, ea2, ea3, ea4, hs, hx0, _⟩ := hB
          simp only [eJ2] at hJ
          obtain ⟨l5, l6, l7, l8, l9, l10, l11, m5, m6, m7, hw, _⟩ := hJ
          obtain ⟨w0, w1, w2, w3, w4, w5, w6⟩ := hw
          have hx := xor_ne (N u.toNat) r (m7 _) hF0
          have hat : u.toNat = 9 := by omega
          have h10 : g - 13 = 0 := by omega
          rw [h10] at w5 w6
          have hs1 : _root_.Go.Sx.E.i (eV x0 Y0 x2 n u r s q a b c d f g h A B C F K L M N) e35 = 1 := by
            have := app_sum (ρ := (eV x0 Y0 x2 n u r s q a b c d f g h A B C F K L M N)) rfl (.lit 0) (.tab [])
            exact this
          have hs2 : sumF (0 : Int).toNat (shf N) = 1 := rfl
          rw [hs2] at w6
          simp only [nd, sm, sn, sxx, eV, Bool.or_eq_false_iff, Bool.not_eq_false', decide_eq_true_eq] at hc0 hc2 hc4 hc6
          simp only [eV] at hs1
          rw [hat] at hx
          (try rw [hat] at hc0)
          (try rw [hat] at hc2)
          (try rw [hat] at hc4)
          (try rw [hat] at hc6)
          first
            | omega
            | (rw [hs1] at hc6; omega)
noncomputable def eH2_z10 : Hyp := { eh2.H with e := [((.v 2), (1, 255)), ((.v 1), (10, 10)), ((.v 10), (13, 13))] ++ eh2.H.e, b := [(e197, true)] ++ eh2.H.b }
noncomputable def eR2_z10 : LT := (.ite e265 (.jump 3 eT3 ⟨[(10, (.v 10))], [], [(7, (.av 7))]⟩) (.ite e216 (.jump 3 eT3 ⟨[(10, (.v 10))], [], [(7, (.av 7))]⟩) (.ite e306 (.jump 3 eT3 ⟨[(10, (.v 10))], [], [(7, (.av 7))]⟩) (.ite e320 (.jump 3 eT3 ⟨[(10, (.v 10))], [], [(7, (.av 7))]⟩) (.ret (.s (.bool (.blit false))) [])))))
theorem esg2_z10 : (segL Try.prog G Gh eD ehs [17, 23, 27] 3000 0 4 { eh2 with H := eH2_z10 }).map LT.bare = some eR2_z10 := by kernel_rfl
theorem evc2_z10 (hB : eBase x0 Y0 x2 n u r s q A B C F K) (hJ : eJ2 n u r s q a b c d f g h A B C F K L M N) (hH : Hyp.ok eH2_z10 (eV x0 Y0 x2 n u r s q a b c d f g h A B C F K L M N)) (hF0 : 1 ≤ r ∧ r ≤ 255) (hF1 : 10 ≤ u ∧ u ≤ 10) (hF2 : 13 ≤ g ∧ g ≤ 13) (hG0 : u < g) :
    eW2 x0 Y0 x2 (eV x0 Y0 x2 n u r s q a b c d f g h A B C F K L M N) eR2_z10 := by
  simp only [eW2, eR2_z10, LT.holds, retTrue]
  refine ⟨fun hc0 => ?_, fun hc0 => ?_⟩
  ·
    refine ⟨ehT3, ⟨n, u, r, s, q, a, b, c, d, f, g, h, A, B, C, F, K, L, M, N, (by kernel_rfl), hB, ?_⟩, ?_⟩
    · exact hJ
    exact Nat.lt_succ_self _
  ·
    refine ⟨fun hc2 => ?_, fun hc2 => ?_⟩
    ·
      refine ⟨ehT3, ⟨n, u, r, s, q, a, b, c, d, f, g, h, A, B, C, F, K, L, M, N, (by kernel_rfl), hB, ?_⟩, ?_⟩
      · exact hJ
      exact Nat.lt_succ_self _
    ·
      refine ⟨fun hc4 => ?_, fun hc4 => ?_⟩
      ·
        refine ⟨ehT3, ⟨n, u, r, s, q, a, b, c, d, f, g, h, A, B, C, F, K, L, M, N, (by kernel_rfl), hB, ?_⟩, ?_⟩
        · exact hJ
        exact Nat.lt_succ_self _
      ·
        refine ⟨fun hc6 => ?_, fun hc6 => ?_⟩
        ·
          refine ⟨ehT3, ⟨n, u, r, s, q, a, b, c, d, f, g, h, A, B, C, F, K, L, M, N, (by kernel_rfl), hB, ?_⟩, ?_⟩
          · exact hJ
          exact Nat.lt_succ_self _
        ·
          exfalso
          simp only [eBase] at hB
          obtain ⟨b0, b1, b2, b3, b4, c0, c1, c2, c3, c4, en0, en2, ea0, ea1, ea2, ea3, ea4, hs, hx0, _⟩ := hB
          simp only [eJ2] at hJ
          obtain ⟨l5, l6, l7, l8, l9, l10, l11, m5, m6, m7, hw, _⟩ := hJ
          obtain ⟨w0, w1, w2, w3, w4, w5, w6⟩ := hw
          have hx := xor_ne (N u.toNat) r (m7 _) hF0
          have hat : u.toNat = 10 := by omega
          have h10 : g - 13 = 0 := by omega
          rw [h10] at w5 w6
          have hs1 : _root_.Go.Sx.E.i (eV x0 Y0 x2 n u r s q a b c d f g h A B C F K L M N) e35 = 1 := by
            have := app_sum (ρ := (eV x0 Y0 x2 n u r s q a b c d f g h A B C F K L M N)) rfl (.lit 0) (.tab [])
            exact this
          have hs2 : sumF (0 : Int).toNat (shf N) = 1 := rfl
          rw [hs2] at w6
          simp only [nd, sm, sn, sxx, eV, Bool.or_eq_false_iff, Bool.not_eq_false', decide_eq_true_eq] at hc0 hc2 hc4 hc6
          simp only [eV] at hs1
          rw [hat] at hx
          (try rw [hat] at hc0)
          (try rw [hat] at hc2)
          (try rw [hat] at hc4)
          (try rw [hat] at hc6)
          first
            | omega
            | (rw [hs1] at hc6; omega)
noncomputable def eH2_z11 : Hyp := { eh2.H with e := [((.v 2), (1, 255)), ((.v 1), (11, 11)), ((.v 10), (13, 13))] ++ eh2.H.e, b := [(e197, true)] ++ eh2.H.b }
noncomputable def eR2_z11 : LT := (.ite e265 (.jump 3 eT3 ⟨[(10, (.v 10))], [], [(7, (.av 7))]⟩) (.ite e216 (.jump 3 eT3 ⟨[(10, (.v 10))], [], [(7, (.av 7))]⟩) (.ite e306 (.jump 3 eT3 ⟨[(10, (.v 10))], [], [(7, (.av 7))]⟩) (.ite e322 (.jump 3 eT3 ⟨[(10, (.v 10))], [], [(7, (.av 7))]⟩) (.ret (.s (.bool (.blit false))) [])))))
theorem esg2_z11 : (segL Try.prog G Gh eD ehs [17, 23, 27] 3000 0 4 { eh2 with H := eH2_z11 }).map LT.bare = some eR2_z11 := by kernel_rfl
theorem evc2_z11 (hB : eBase x0 Y0 x2 n u r s q A B C F K) (hJ : eJ2 n u r s q a b c d f g h A B C F K L M N) (hH : Hyp.ok eH2_z11 (eV x0 Y0 x2 n u r s q a b c d f g h A B C F K L M N)) (hF0 : 1 ≤ r ∧ r ≤ 255) (hF1 : 11 ≤ u ∧ u ≤ 11) (hF2 : 13 ≤ g ∧ g ≤ 13) (hG0 : u < g) :
    eW2 x0 Y0 x2 (eV x0 Y0 x2 n u r s q a b c d f g h A B C F K L M N) eR2_z11 := by
  simp only [eW2, eR2_z11, LT.holds, retTrue]
  refine ⟨fun hc0 => ?_, fun hc0 => ?_⟩
  ·
    refine ⟨ehT3, ⟨n, u, r, s, q, a, b, c, d, f, g, h, A, B, C, F, K, L, M, N, (by kernel_rfl), hB, ?_⟩, ?_⟩
    · exact hJ
    exact Nat.lt_succ_self _
  ·
    refine ⟨fun hc2 => ?_, fun hc2 => ?_⟩
    ·
      refine ⟨ehT3, ⟨n, u, r, s, q, a, b, c, d, f, g, h, A, B, C, F, K, L, M, N, (by kernel_rfl), hB, ?_⟩, ?_⟩
      · exact hJ
      exact Nat.lt_succ_self _
    ·
      refine ⟨fun hc4 => ?_, fun hc4 => ?_⟩
      ·
        refine ⟨ehT3, ⟨n, u, r, s, q, a, b, c, d, f, g, h, A, B, C, F, K, L, M, N, (by kernel_rfl), hB, ?_⟩, ?_⟩
        · exact hJ
        exact Nat.lt_succ_self _
      ·
        refine ⟨fun hc6 => ?_, fun hc6 => ?_⟩
        ·
          refine ⟨ehT3, ⟨n, u, r, s, q, a, b, c, d, f, g, h, A, B, C, F, K, L, M, N, (by kernel_rfl), hB, ?_⟩, ?_⟩
          · exact hJ
          exact Nat.lt_succ_self _
        ·
          exfalso
          simp only [eBase] at hB
          obtain ⟨b0, b1, b2, b3, b4, c0, c1, c2, c3, c4, en0, en2, ea0, ea1, ea2, ea3, ea4, hs, hx0, _⟩ := hB
          simp only [eJ2] at hJ
          obtain ⟨l5, l6, l7, l8, l9, l10, l11, m5, m6, m7, hw, _⟩ := hJ
          obtain ⟨w0, w1, w2, w3, w4, w5, w6⟩ := hw
          have hx := xor_ne (N u.toNat) r (m7 _) hF0
          have hat : u.toNat = 11 := by omega
          have h10 : g - 13 = 0 := by omega
          rw [h10] at w5 w6
          have hs1 : _root_.Go.Sx.E.i (eV x0 Y0 x2 n u r s q a b c d f g h A B C F K L M N) e35 = 1 := by
            have := app_sum (ρ := (eV x0 Y0 x2 n u r s q a b c d f g h A B C F K L M N)) rfl (.lit 0) (.tab [])
            exact this
          have hs2 : sumF (0 : Int).toNat (shf N) = 1 := rfl
          rw [hs2] at w6
          simp only [nd, sm, sn, sxx, eV, Bool.or_eq_false_iff, Bool.not_eq_false', decide_eq_true_eq] at hc0 hc2 hc4 hc6
          simp only [eV] at hs1
          rw [hat] at hx
          (try rw [hat] at hc0)
          (try rw [hat] at hc2)
          (try rw [hat] at hc4)
          (try rw [hat] at hc6)
          first
            | omega
            | (rw [hs1] at hc6; omega)
noncomputable def eH2_z12 : Hyp := { eh2.H with e := [((.v 2), (1, 255)), ((.v 1), (12, 12)), ((.v 10), (13, 13))] ++ eh2.H.e, b := [(e197, true)] ++ eh2.H.b }
noncomputable def eR2_z12 : LT := (.ite e265 (.jump 3 eT3 ⟨[(10, (.v 10))], [], [(7, (.av 7))]⟩) (.ite e216 (.jump 3 eT3 ⟨[(10, (.v 10))], [], [(7, (.av 7))]⟩) (.ite e306 (.jump 3 eT3 ⟨[(10, (.v 10))], [], [(7, (.av 7))]⟩) (.ite e324 (.jump 3 eT3 ⟨[(10, (.v 10))], [], [(7, (.av 7))]⟩) (.ret (.s (.bool (.blit false))) [])))))
theorem esg2_z12 : (segL Try.prog G Gh eD ehs [17, 23, 27] 3000 0 4 { eh2 with H := eH2_z12 }).map LT.bare = some eR2_z12 := by kernel_rfl
theorem evc2_z12 (hB : eBase x0 Y0 x2 n u r s q A B C F K) (hJ : eJ2 n u r s q a b c d f g h A B C F K L M N) (hH : Hyp.ok eH2_z12 (eV x0 Y0 x2 n u r s q a b c d f g h A B C F K L M N)) (hF0 : 1 ≤ r ∧ r ≤ 255) (hF1 : 12 ≤ u ∧ u ≤ 12) (hF2 : 13 ≤ g ∧ g ≤ 13) (hG0 : u < g) :
    eW2 x0 Y0 x2 (eV x0 Y0 x2 n u r s q a b c d f g h A B C F K L M N) eR2_z12 := by
  simp only [eW2, eR2_z12, LT.holds, retTrue]
  refine ⟨fun hc0 => ?_, fun hc0 => ?_⟩
  ·
    refine ⟨ehT3, ⟨n, u, r, s, q, a, b, c, d, f, g, h, A, B, C, F, K, L, M, N, (by kernel_rfl), hB, ?_⟩, ?_⟩
    · exact hJ
    exact Nat.lt_succ_self _
  ·
    refine ⟨fun hc2 => ?_, fun hc2 => ?_⟩
    ·
      refine ⟨ehT3, ⟨n, u, r, s, q, a, b, c, d, f, g, h, A, B, C, F, K, L, M, N, (by kernel_rfl), hB, ?_⟩, ?_⟩
      · exact hJ
      exact Nat.lt_succ_self _
    ·
      refine ⟨fun hc4 => ?_, fun hc4 => ?_⟩
      ·
        refine ⟨ehT3, ⟨n, u, r, s, q, a, b, c, d, f, g, h, A, B, C, F, K, L, M, N, (by kernel_rfl), hB, ?_⟩, ?_⟩
        · exact hJ
        exact Nat.lt_succ_self _
      ·
        refine ⟨fun hc6 => ?_, fun hc6 => ?_⟩
        ·
          refine ⟨ehT3, ⟨n, u, r, s, q, a, b, c, d, f, g, h, A, B, C, F, K, L, M, N, (by kernel_rfl), hB, ?_⟩, ?_⟩
          · exact hJ
          exact Nat.lt_succ_self _
        ·
          exfalso
          simp only [eBase] at hB
          obtain ⟨b0, b1, b2, b3, b4, c0, c1, c2, c3, c4, en0, en2, ea0, ea1, ea2, ea3, ea4, hs, hx0, _⟩ := hB
          simp only [eJ2] at hJ
          obtain ⟨l5, l6, l7, l8, l9, l10, l11, m5, m6, m7, hw, _⟩ := hJ
          obtain ⟨w0, w1, w2, w3, w4, w5, w6⟩ := hw
          have hx := xor_ne (N u.toNat) r (m7 _) hF0
          have hat : u.toNat = 12 := by omega
          have h10 : g - 13 = 0 := by omega
          rw [h10] at w5 w6
          have hs1 : _root_.Go.Sx.E.i (eV x0 Y0 x2 n u r s q a b c d f g h A B C F K L M N) e35 = 1 := by
            have := app_sum (ρ := (eV x0 Y0 x2 n u r s q a b c d f g h A B C F K L M N)) rfl (.lit 0) (.tab [])
            exact this
          have hs2 : sumF (0 : Int).toNat (shf N) = 1 := rfl
          rw [hs2] at w6
          simp only [nd, sm, sn, sxx, eV, Bool.or_eq_false_iff, Bool.not_eq_false', decide_eq_true_eq] at hc0 hc2 hc4 hc6
          simp only [eV] at hs1
          rw [hat] at hx
          (try rw [hat] at hc0)
          (try rw [hat] at hc2)
          (try rw [hat] at hc4)
          (try rw [hat] at hc6)
          first
            | omega
            | (rw [hs1] at hc6; omega)
noncomputable def eH2_ab : Hyp := { eh2.H with e := [((.v 2), (1, 255)), ((.v 1), (13, 9223372036854775807)), ((.v 10), (14, 2097165))] ++ eh2.H.e, b := [(e197, true)] ++ eh2.H.b }
noncomputable def eR2_ab : LT := (.ite e265 (.jump 3 eT3 ⟨[(10, (.v 10))], [], [(7, (.av 7))]⟩) (.ite e216 (.jump 3 eT3 ⟨[(10, (.v 10))], [], [(7, (.av 7))]⟩) (.ite e229 (.jump 3 eT3 ⟨[(10, (.v 10))], [], [(7, (.av 7))]⟩) (.ite e244 (.jump 3 eT3 ⟨[(10, (.v 10))], [], [(7, (.av 7))]⟩) (.ret (.s (.bool (.blit false))) [])))))
theorem esg2_ab : (segL Try.prog G Gh eD ehs [17, 23, 27] 3000 0 4 { eh2 with H := eH2_ab }).map LT.bare = some eR2_ab := by kernel_rfl
theorem evc2_ab (hB : eBase x0 Y0 x2 n u r s q A B C F K) (hJ : eJ2 n u r s q a b c d f g h A B C F K L M N) (hH : Hyp.ok eH2_ab (eV x0 Y0 x2 n u r s q a b c d f g h A B C F K L M N)) (hF0 : 1 ≤ r ∧ r ≤ 255) (hF1 : 13 ≤ u ∧ u ≤ 9223372036854775807) (hF2 : 14 ≤ g ∧ g ≤ 2097165) (hG0 : u < g) :
    eW2 x0 Y0 x2 (eV x0 Y0 x2 n u r s q a b c d f g h A B C F K L M N) eR2_ab := by
  simp only [eW2, eR2_ab, LT.holds, retTrue]
  refine ⟨fun hc0 => ?_, fun hc0 => ?_⟩
  ·
    refine ⟨ehT3, ⟨n, u, r, s, q, a, b, c, d, f, g, h, A, B, C, F, K, L, M, N, (by kernel_rfl), hB, ?_⟩, ?_⟩
    · exact hJ
    exact Nat.lt_succ_self _
  ·
    refine ⟨fun hc2 => ?_, fun hc2 => ?_⟩
    ·
      refine ⟨ehT3, ⟨n, u, r, s, q, a, b, c, d, f, g, h, A, B, C, F, K, L, M, N, (by kernel_rfl), hB, ?_⟩, ?_⟩
      · exact hJ
      exact Nat.lt_succ_self _
    ·
      refine ⟨fun hc4 => ?_, fun hc4 => ?_⟩
      ·
        refine ⟨ehT3, ⟨n, u, r, s, q, a, b, c, d, f, g, h, A, B, C, F, K, L, M, N, (by kernel_rfl), hB, ?_⟩, ?_⟩
        · exact hJ
        exact Nat.lt_succ_self _
      ·
        refine ⟨fun hc6 => ?_, fun hc6 => ?_⟩
        ·
          refine ⟨ehT3, ⟨n, u, r, s, q, a, b, c, d, f, g, h, A, B, C, F, K, L, M, N, (by kernel_rfl), hB, ?_⟩, ?_⟩
          · exact hJ
          exact Nat.lt_succ_self _
        ·
          exfalso
          simp only [eBase] at hB
          obtain ⟨b0, b1, b2, b3, b4, c0, c1, c2, c3, c4, en0, en2, ea0, ea1, ea2, ea3, ea4, hs, hx0, _⟩ := hB
          simp only [eJ2] at hJ
          obtain ⟨l5, l6, l7, l8, l9, l10, l11, m5, m6, m7, hw, _⟩ := hJ
          obtain ⟨w0, w1, w2, w3, w4, w5, w6⟩ := hw
          have hx := xor_ne (N u.toNat) r (m7 _) hF0
          have hs1 : _root_.Go.Sx.E.i (eV x0 Y0 x2 n u r s q a b c d f g h A B C F K L M N) e242 ≠ sumF (g - 13).toNat (shf N) := by
            have h1 : _root_.Go.Sx.E.i (eV x0 Y0 x2 n u r s q a b c d f g h A B C F K L M N) e242 = sumF (g + -13).toNat (_root_.Go.Sx.E.a (eV x0 Y0 x2 n u r s q a b c d f g h A B C F K L M N) e241) := app_sum rfl _ _
            rw [h1, show g + -13 = g - 13 by omega]
            have h2 : u.toNat = (u.toNat - 13) + 13 := by omega
            have h3 := sum_ne (u.toNat - 13) N (bitsInt .xor .u8 (N u.toNat) r) hx.2 (m7 _) (by rw [← h2]; exact hx.1) (g - 13).toNat (by omega)
            rw [← h2] at h3
            intro h4
            refine h3 (Eq.trans ?_ h4)
            refine Eq.symm (sum_cut _ _ _ fun k hk => ?_)
            simp only [nd, sm, sn, sxx, eV]
            rw [if_pos (by omega)]
            (try simp only [Nat.sub_zero])
          simp only [nd, sm, sn, sxx, eV, Bool.or_eq_false_iff, Bool.not_eq_false', decide_eq_true_eq] at hc0 hc2 hc4 hc6
          simp only [eV] at hs1
          exact hs1 (by omega)
noncomputable def eH3_l0 : Hyp := { eh3.H with e := [((.v 3), ((-9223372036854775808), 0))] ++ eh3.H.e, b := [] ++ eh3.H.b }
noncomputable def eR3_l0 : LT := (.jump 4 eT4 ⟨[(10, (.v 10))], [], [(7, (.av 7))]⟩)
theorem esg3_l0 : (segL Try.prog G Gh eD ehs [17, 23, 27] 3000 0 4 { eh3 with H := eH3_l0 }).map LT.bare = some eR3_l0 := by kernel_rfl
theorem evc3_l0 (hB : eBase x0 Y0 x2 n u r s q A B C F K) (hJ : eJ3 n u r s q a b c d f g h A B C F K L M N) (hH : Hyp.ok eH3_l0 (eV x0 Y0 x2 n u r s q a b c d f g h A B C F K L M N)) (hF0 : -9223372036854775808 ≤ s ∧ s ≤ 0)  :
    eW3 x0 Y0 x2 (eV x0 Y0 x2 n u r s q a b c d f g h A B C F K L M N) eR3_l0 := by
  simp only [eW3, eR3_l0, LT.holds, retTrue]
  refine ⟨ehT4, ⟨n, u, r, s, q, a, b, c, d, f, g, h, A, B, C, F, K, L, M, N, (by kernel_rfl), hB, ?_⟩, ?_⟩
  · exact hJ
  exact Nat.lt_succ_self _
noncomputable def eH3_lo : Hyp := { eh3.H with e := [((.v 3), (1, 9223372036854775807))] ++ eh3.H.e, b := [(e325, false)] ++ eh3.H.b }
noncomputable def eR3_lo : LT := (.jump 4 eT4 ⟨[(10, (.v 10))], [], [(7, (.av 7))]⟩)
theorem esg3_lo : (segL Try.prog G Gh eD ehs [17, 23, 27] 3000 0 4 { eh3 with H := eH3_lo }).map LT.bare = some eR3_lo := by kernel_rfl
theorem evc3_lo (hB : eBase x0 Y0 x2 n u r s q A B C F K) (hJ : eJ3 n u r s q a b c d f g h A B C F K L M N) (hH : Hyp.ok eH3_lo (eV x0 Y0 x2 n u r s q a b c d f g h A B C F K L M N)) (hF0 : 1 ≤ s ∧ s ≤ 9223372036854775807) (hG0 : ¬ s ≤ g) :
    eW3 x0 Y0 x2 (eV x0 Y0 x2 n u r s q a b c d f g h A B C F K L M N) eR3_lo := by
  simp only [eW3, eR3_lo, LT.holds, retTrue]
  refine ⟨ehT4, ⟨n, u, r, s, q, a, b, c, d, f, g, h, A, B, C, F, K, L, M, N, (by kernel_rfl), hB, ?_⟩, ?_⟩
  · exact hJ
  exact Nat.lt_succ_self _
noncomputable def eH3_ls : Hyp := { eh3.H with e := [((.v 3), (1, 9223372036854775807)), (e326, (0, 12))] ++ eh3.H.e, b := [(e325, true)] ++ eh3.H.b }
noncomputable def eR3_ls : LT := (.jump 4 eT4 ⟨[(10, (.v 10))], [], [(7, (.av 7))]⟩)
theorem esg3_ls : (segL Try.prog G Gh eD ehs [17, 23, 27] 3000 0 4 { eh3 with H := eH3_ls }).map LT.bare = some eR3_ls := by kernel_rfl
theorem evc3_ls (hB : eBase x0 Y0 x2 n u r s q A B C F K) (hJ : eJ3 n u r s q a b c d f g h A B C F K L M N) (hH : Hyp.ok eH3_ls (eV x0 Y0 x2 n u r s q a b c d f g h A B C F K L M N)) (hF0 : 1 ≤ s ∧ s ≤ 9223372036854775807) (hF1 : 0 ≤ g - s ∧ g - s ≤ 12) (hG0 : s ≤ g) :
    eW3 x0 Y0 x2 (eV x0 Y0 x2 n u r s q a b c d f g h A B C F K L M N) eR3_ls := by
  simp only [eW3, eR3_ls, LT.holds, retTrue]
  refine ⟨ehT4, ⟨n, u, r, s, q, a, b, c, d, f, g, h, A, B, C, F, K, L, M, N, (by kernel_rfl), hB, ?_⟩, ?_⟩
  · exact hJ
  exact Nat.lt_succ_self _
noncomputable def eH3_l3 : Hyp := { eh3.H with e := [((.v 3), (1, 9223372036854775807)), (e326, (13, 13))] ++ eh3.H.e, b := [(e325, true)] ++ eh3.H.b }
noncomputable def eR3_l3 : LT := (.ite e265 (.jump 4 eT4 ⟨[(10, (.v 10))], [], [(7, (.av 7))]⟩) (.ite e216 (.jump 4 eT4 ⟨[(10, (.v 10))], [], [(7, (.av 7))]⟩) (.ite e306 (.jump 4 eT4 ⟨[(10, (.v 10))], [], [(7, (.av 7))]⟩) (.ite e308 (.jump 4 eT4 ⟨[(10, (.v 10))], [], [(7, (.av 7))]⟩) (.ret (.s (.bool (.blit false))) [])))))
theorem esg3_l3 : (segL Try.prog G Gh eD ehs [17, 23, 27] 3000 0 4 { eh3 with H := eH3_l3 }).map LT.bare = some eR3_l3 := by kernel_rfl
theorem evc3_l3 (hB : eBase x0 Y0 x2 n u r s q A B C F K) (hJ : eJ3 n u r s q a b c d f g h A B C F K L M N) (hH : Hyp.ok eH3_l3 (eV x0 Y0 x2 n u r s q a b c d f g h A B C F K L M N)) (hF0 : 1 ≤ s ∧ s ≤ 9223372036854775807) (hF1 : 13 ≤ g - s ∧ g - s ≤ 13) (hG0 : s ≤ g) :
    eW3 x0 Y0 x2 (eV x0 Y0 x2 n u r s q a b c d f g h A B C F K L M N) eR3_l3 := by
  simp only [eW3, eR3_l3, LT.holds, retTrue]
  refine ⟨fun hc0 => ?_, fun hc0 => ?_⟩
  ·
    refine ⟨ehT4, ⟨n, u, r, s, q, a, b, c, d, f, g, h, A, B, C, F, K, L, M, N, (by kernel_rfl), hB, ?_⟩, ?_⟩
    · exact hJ
    exact Nat.lt_succ_self _
  ·
    refine ⟨fun hc2 => ?_, fun hc2 => ?_⟩
    ·
      refine ⟨ehT4, ⟨n, u, r, s, q, a, b, c, d, f, g, h, A, B, C, F, K, L, M, N, (by kernel_rfl), hB, ?_⟩, ?_⟩
      · exact hJ
      exact Nat.lt_succ_self _
    ·
      refine ⟨fun hc4 => ?_, fun hc4 => ?_⟩
      ·
        refine ⟨ehT4, ⟨n, u, r, s, q, a, b, c, d, f, g, h, A, B, C, F, K, L, M, N, (by kernel_rfl), hB, ?_⟩, ?_⟩
        · exact hJ
        exact Nat.lt_succ_self _
      ·
        refine ⟨fun hc6 => ?_, fun hc6 => ?_⟩
        ·
          refine ⟨ehT4, ⟨n, u, r, s, q, a, b, c, d, f, g, h, A, B, C, F, K, L, M, N, (by kernel_rfl), hB, ?_⟩, ?_⟩
          · exact hJ
          exact Nat.lt_succ_self _
        ·
          exfalso
          simp only [eBase] at hB
          obtain ⟨b0, b1, b2, b3, b4, c0, c1, c2, c3, c4, en0, en2, ea0, ea1, ea2, ea3, ea4, hs, hx0, _⟩ := hB
          simp only [eJ3] at hJ
          obtain ⟨l5, l6, l7, l8, l9, l10, l11, m5, m6, m7, hw, _⟩ := hJ
          obtain ⟨w0, w1, w2, w3, w4, w5, w6⟩ := hw
          have hs1 : _root_.Go.Sx.E.i (eV x0 Y0 x2 n u r s q a b c d f g h A B C F K L M N) e35 = 1 := by
            have := app_sum (ρ := (eV x0 Y0 x2 n u r s q a b c d f g h A B C F K L M N)) rfl (.lit 0) (.tab [])
            exact this
          simp only [nd, sm, sn, sxx, eV, Bool.or_eq_false_iff, Bool.not_eq_false', decide_eq_true_eq] at hc0 hc2 hc4 hc6
          simp only [eV] at hs1
          first
            | omega
            | (rw [hs1] at hc6; omega)
noncomputable def eH3_lb : Hyp := { eh3.H with e := [((.v 3), (1, 9223372036854775807)), (e326, (14, 2097165))] ++ eh3.H.e, b := [(e325, true)] ++ eh3.H.b }
noncomputable def eR3_lb : LT := (.ite e265 (.need e327 (.jump 4 eT4 ⟨[(10, (.v 10))], [], [(7, (.av 7))]⟩)) (.ite e216 (.need e327 (.jump 4 eT4 ⟨[(10, (.v 10))], [], [(7, (.av 7))]⟩)) (.ite e330 (.need e327 (.jump 4 eT4 ⟨[(10, (.v 10))], [], [(7, (.av 7))]⟩)) (.ite e334 (.need e327 (.jump 4 eT4 ⟨[(10, (.v 10))], [], [(7, (.av 7))]⟩)) (.need e327 (.ret (.s (.bool (.blit false))) []))))))
theorem esg3_lb : (segL Try.prog G Gh eD ehs [17, 23, 27] 3000 0 4 { eh3 with H := eH3_lb }).map LT.bare = some eR3_lb := by kernel_rfl
theorem evc3_lb (hB : eBase x0 Y0 x2 n u r s q A B C F K) (hJ : eJ3 n u r s q a b c d f g h A B C F K L M N) (hH : Hyp.ok eH3_lb (eV x0 Y0 x2 n u r s q a b c d f g h A B C F K L M N)) (hF0 : 1 ≤ s ∧ s ≤ 9223372036854775807) (hF1 : 14 ≤ g - s ∧ g - s ≤ 2097165) (hG0 : s ≤ g) :
    eW3 x0 Y0 x2 (eV x0 Y0 x2 n u r s q a b c d f g h A B C F K L M N) eR3_lb := by
  simp only [eW3, eR3_lb, LT.holds, retTrue]
  refine ⟨fun hc0 => ?_, fun hc0 => ?_⟩
  ·
    refine ⟨?_, fun hc1 => ?_⟩
    ·
      simp only [eBase] at hB
      obtain ⟨b0, b1, b2, b3, b4, c0, c1, c2, c3, c4, en0, en2, ea0, ea1, ea2, ea3, ea4, hs, hx0, _⟩ := hB
      simp only [eJ3] at hJ
      obtain ⟨l5, l6, l7, l8, l9, l10, l11, m5, m6, m7, hw, _⟩ := hJ
      simp only [e326, e327, eV, i_v, i_lit, i_add, i_sub, i_sel, a_av, a_tab, a_upd, b_le, decide_eq_true_eq, List.getD_cons_zero, List.getD_cons_succ]
      omega
    ·
      refine ⟨ehT4, ⟨n, u, r, s, q, a, b, c, d, f, g, h, A, B, C, F, K, L, M, N, (by kernel_rfl), hB, ?_⟩, ?_⟩
      · exact hJ
      exact Nat.lt_succ_self _
  ·
    refine ⟨fun hc3 => ?_, fun hc3 => ?_⟩
    ·
      refine ⟨?_, fun hc4 => ?_⟩
      ·
        simp only [eBase] at hB
        obtain ⟨b0, b1, b2, b3, b4, c0, c1, c2, c3, c4, en0, en2, ea0, ea1, ea2, ea3, ea4, hs, hx0, _⟩ := hB
        simp only [eJ3] at hJ
        obtain ⟨l5, l6, l7, l8, l9, l10, l11, m5, m6, m7, hw, _⟩ := hJ
        simp only [e326, e327, eV, i_v, i_lit, i_add, i_sub, i_sel, a_av, a_tab, a_upd, b_le, decide_eq_true_eq, List.getD_cons_zero, List.getD_cons_succ]
        omega
      ·
        refine ⟨ehT4, ⟨n, u, r, s, q, a, b, c, d, f, g, h, A, B, C, F, K, L, M, N, (by kernel_rfl), hB, ?_⟩, ?_⟩
        · exact hJ
        exact Nat.lt_succ_self _
    ·
      refine ⟨fun hc6 => ?_, fun hc6 => ?_⟩
      ·
        refine ⟨?_, fun hc7 => ?_⟩
        ·
          simp only [eBase] at hB
          obtain ⟨b0, b1, b2, b3, b4, c0, c1, c2, c3, c4, en0, en2, ea0, ea1, ea2, ea3, ea4, hs, hx0, _⟩ := hB
          simp only [eJ3] at hJ
          obtain ⟨l5, l6, l7, l8, l9, l10, l11, m5, m6, m7, hw, _⟩ := hJ
          simp only [e326, e327, eV, i_v, i_lit, i_add, i_sub, i_sel, a_av, a_tab, a_upd, b_le, decide_eq_true_eq, List.getD_cons_zero, List.getD_cons_succ]
          omega
        ·
          refine ⟨ehT4, ⟨n, u, r, s, q, a, b, c, d, f, g, h, A, B, C, F, K, L, M, N, (by kernel_rfl), hB, ?_⟩, ?_⟩
          · exact hJ
          exact Nat.lt_succ_self _
      ·
        refine ⟨fun hc9 => ?_, fun hc9 => ?_⟩
        ·
          refine ⟨?_, fun hc10 => ?_⟩
          ·
            simp only [eBase] at hB
            obtain ⟨b0, b1, b2, b3, b4, c0, c1, c2, c3, c4, en0, en2, ea0, ea1, ea2, ea3, ea4, hs, hx0, _⟩ := hB
            simp only [eJ3] at hJ
            obtain ⟨l5, l6, l7, l8, l9, l10, l11, m5, m6, m7, hw, _⟩ := hJ
            simp only [e326, e327, eV, i_v, i_lit, i_add, i_sub, i_sel, a_av, a_tab, a_upd, b_le, decide_eq_true_eq, List.getD_cons_zero, List.getD_cons_succ]
            omega
          ·
            refine ⟨ehT4, ⟨n, u, r, s, q, a, b, c, d, f, g, h, A, B, C, F, K, L, M, N, (by kernel_rfl), hB, ?_⟩, ?_⟩
            · exact hJ
            exact Nat.lt_succ_self _
        ·
          refine ⟨?_, fun hc12 => ?_⟩
          ·
            simp only [eBase] at hB
            obtain ⟨b0, b1, b2, b3, b4, c0, c1, c2, c3, c4, en0, en2, ea0, ea1, ea2, ea3, ea4, hs, hx0, _⟩ := hB
            simp only [eJ3] at hJ
            obtain ⟨l5, l6, l7, l8, l9, l10, l11, m5, m6, m7, hw, _⟩ := hJ
            simp only [e326, e327, eV, i_v, i_lit, i_add, i_sub, i_sel, a_av, a_tab, a_upd, b_le, decide_eq_true_eq, List.getD_cons_zero, List.getD_cons_succ]
            omega
          ·
            exfalso
            simp only [eBase] at hB
            obtain ⟨b0, b1, b2, b3, b4, c0, c1, c2, c3, c4, en0, en2, ea0, ea1, ea2, ea3, ea4, hs, hx0, _⟩ := hB
            simp only [eJ3] at hJ
            obtain ⟨l5, l6, l7, l8, l9, l10, l11, m5, m6, m7, hw, _⟩ := hJ
            obtain ⟨w0, w1, w2, w3, w4, w5, w6⟩ := hw
            simp only [nd, sm, sn, sxx, eV, Bool.or_eq_false_iff, Bool.not_eq_false', decide_eq_true_eq] at hc0 hc3 hc6 hc9 hc12
            first
              | omega
              | (rw [hs1] at hc12; omega)
noncomputable def eH4_m0 : Hyp := { eh4.H with e := [((.v 4), (0, 0))] ++ eh4.H.e, b := [] ++ eh4.H.b }
noncomputable def eR4_m0 : LT := (.ret (.s (.bool (.blit true))) [])
theorem esg4_m0 : (segL Try.prog G Gh eD ehs [17, 23, 27] 3000 0 4 { eh4 with H := eH4_m0 }).map LT.bare = some eR4_m0 := by kernel_rfl
theorem evc4_m0 (hB : eBase x0 Y0 x2 n u r s q A B C F K) (hJ : eJ4 n u r s q a b c d f g h A B C F K L M N) (hH : Hyp.ok eH4_m0 (eV x0 Y0 x2 n u r s q a b c d f g h A B C F K L M N)) (hF0 : 0 ≤ q ∧ q ≤ 0)  :
    eW4 x0 Y0 x2 (eV x0 Y0 x2 n u r s q a b c d f g h A B C F K L M N) eR4_m0 := by
  simp only [eW4, eR4_m0, LT.holds, retTrue]
  rfl
noncomputable def eH4_mb : Hyp := { eh4.H with e := [((.v 4), (1, 1048575))] ++ eh4.H.e, b := [] ++ eh4.H.b }
noncomputable def eR4_mb : LT := (.ite e265 (.ret (.s (.bool (.blit true))) []) (.ite e216 (.ret (.s (.bool (.blit true))) []) (.ite e339 (.ret (.s (.bool (.blit true))) []) (.ite e343 (.ret (.s (.bool (.blit true))) []) (.ret (.s (.bool (.blit false))) [])))))
theorem esg4_mb : (segL Try.prog G Gh eD ehs [17, 23, 27] 3000 0 4 { eh4 with H := eH4_mb }).map LT.bare = some eR4_mb := by kernel_rfl
theorem evc4_mb (hB : eBase x0 Y0 x2 n u r s q A B C F K) (hJ : eJ4 n u r s q a b c d f g h A B C F K L M N) (hH : Hyp.ok eH4_mb (eV x0 Y0 x2 n u r s q a b c d f g h A B C F K L M N)) (hF0 : 1 ≤ q ∧ q ≤ 1048575)  :
    eW4 x0 Y0 x2 (eV x0 Y0 x2 n u r s q a b c d f g h A B C F K L M N) eR4_mb := by
  simp only [eW4, eR4_mb, LT.holds, retTrue]
  refine ⟨fun hc0 => ?_, fun hc0 => ?_⟩
  ·
    first
      | rfl
      | (
         exfalso
         simp only [eBase] at hB
         obtain ⟨b0, b1, b2, b3, b4, c0, c1, c2, c3, c4, en0, en2, ea0, ea1, ea2, ea3, ea4, hs, hx0, _⟩ := hB
         simp only [eJ4] at hJ
         obtain ⟨l5, l6, l7, l8, l9, l10, l11, m5, m6, m7, hw, _⟩ := hJ
         obtain ⟨w0, w1, w2, w3, w4, w5, w6⟩ := hw
         simp only [nd, sm, sn, sxx, eV, Bool.or_eq_false_iff, Bool.not_eq_false', decide_eq_true_eq] at hc0
         first
           | omega
           | (rw [hs1] at hc6; omega))
  ·
    refine ⟨fun hc2 => ?_, fun hc2 => ?_⟩
    ·
      first
        | rfl
        | (
           exfalso
           simp only [eBase] at hB
           obtain ⟨b0, b1, b2, b3, b4, c0, c1, c2, c3, c4, en0, en2, ea0, ea1, ea2, ea3, ea4, hs, hx0, _⟩ := hB
           simp only [eJ4] at hJ
           obtain ⟨l5, l6, l7, l8, l9, l10, l11, m5, m6, m7, hw, _⟩ := hJ
           obtain ⟨w0, w1, w2, w3, w4, w5, w6⟩ := hw
           simp only [nd, sm, sn, sxx, eV, Bool.or_eq_false_iff, Bool.not_eq_false', decide_eq_true_eq] at hc0 hc2
           first
             | omega
             | (rw [hs1] at hc6; omega))
    ·
      refine ⟨fun hc4 => ?_, fun hc4 => ?_⟩
      ·
        first
          | rfl
          | (
             exfalso
             simp only [eBase] at hB
             obtain ⟨b0, b1, b2, b3, b4, c0, c1, c2, c3, c4, en0, en2, ea0, ea1, ea2, ea3, ea4, hs, hx0, _⟩ := hB
             simp only [eJ4] at hJ
             obtain ⟨l5, l6, l7, l8, l9, l10, l11, m5, m6, m7, hw, _⟩ := hJ
             obtain ⟨w0, w1, w2, w3, w4, w5, w6⟩ := hw
             simp only [nd, sm, sn, sxx, eV, Bool.or_eq_false_iff, Bool.not_eq_false', decide_eq_true_eq] at hc0 hc2 hc4
             first
               | omega
               | (rw [hs1] at hc6; omega))
      ·
        refine ⟨fun hc6 => ?_, fun hc6 => ?_⟩
        ·
          first
            | rfl
            | (
               exfalso
               simp only [eBase] at hB
               obtain ⟨b0, b1, b2, b3, b4, c0, c1, c2, c3, c4, en0, en2, ea0, ea1, ea2, ea3, ea4, hs, hx0, _⟩ := hB
               simp only [eJ4] at hJ
               obtain ⟨l5, l6, l7, l8, l9, l10, l11, m5, m6, m7, hw, _⟩ := hJ
               obtain ⟨w0, w1, w2, w3, w4, w5, w6⟩ := hw
               simp only [nd, sm, sn, sxx, eV, Bool.or_eq_false_iff, Bool.not_eq_false', decide_eq_true_eq] at hc0 hc2 hc4 hc6
               first
                 | omega
                 | (rw [hs1] at hc6; omega))
        ·
          first
            | rfl
            | (
               exfalso
               simp only [eBase] at hB
               obtain ⟨b0, b1, b2, b3, b4, c0, c1, c2, c3, c4, en0, en2, ea0, ea1, ea2, ea3, ea4, hs, hx0, _⟩ := hB
               simp only [eJ4] at hJ
               obtain ⟨l5, l6, l7, l8, l9, l10, l11, m5, m6, m7, hw, _⟩ := hJ
               obtain ⟨w0, w1, w2, w3, w4, w5, w6⟩ := hw
               simp only [nd, sm, sn, sxx, eV, Bool.or_eq_false_iff, Bool.not_eq_false', decide_eq_true_eq] at hc0 hc2 hc4 hc6
               first
                 | omega
                 | (rw [hs1] at hc6; omega))
end Go.Proofs.Ytflamojcdfmimaa.SaveChanged
