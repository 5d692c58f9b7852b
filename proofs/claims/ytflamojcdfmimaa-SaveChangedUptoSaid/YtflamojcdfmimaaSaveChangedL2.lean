/- A part of the law SaveChanged, which returns true for every input. Saved bytes of which any one byte is changed, or some are left out at the end, or more stand behind, are refused. Where what comes in is of bulk at most 1048576. No condition. -/
import Derived.Test.YtflamojcdfmimaaSaveChangedB
namespace Go.Proofs.Ytflamojcdfmimaa.SaveChanged
open Go.Sx Go.ChangeShapes Go.WideShapes Go.ChangeAt Go.RowKit
set_option linter.unusedVariables false
set_option linter.unusedSimpArgs false
set_option maxRecDepth 100000
set_option maxHeartbeats 40000000
variable {x0 : Ext} {Y0 : Nat → Ext} {x2 : Ext} {n u r s q a b c d f g h : Int} {A B C F K L M N : Nat → Int}
noncomputable def eH2_ao : Hyp := { eh2.H with e := [((.v 2), (1, 255)), ((.v 1), (0, 9223372036854775807))] ++ eh2.H.e, b := [(e197, false)] ++ eh2.H.b }
noncomputable def eR2_ao : LT := (.jump 3 eT3 ⟨[(10, (.v 10))], [], [(7, (.av 7))]⟩)
theorem esg2_ao : (segL Try.prog G Gh eD ehs [17, 23, 27] 3000 0 4 { eh2 with H := eH2_ao }).map LT.bare = some eR2_ao := by kernel_rfl
theorem evc2_ao (hB : eBase x0 Y0 x2 n u r s q A B C F K) (hJ : eJ2 n u r s q a b c d f g h A B C F K L M N) (hH : Hyp.ok eH2_ao (eV x0 Y0 x2 n u r s q a b c d f g h A B C F K L M N)) (hF0 : 1 ≤ r ∧ r ≤ 255) (hF1 : 0 ≤ u ∧ u ≤ 9223372036854775807) (hG0 : ¬ u < g) :
    eW2 x0 Y0 x2 (eV x0 Y0 x2 n u r s q a b c d f g h A B C F K L M N) eR2_ao := by
  simp only [eW2, eR2_ao, LT.holds, retTrue]
  refine ⟨ehT3, ⟨n, u, r, s, q, a, b, c, d, f, g, h, A, B, C, F, K, L, M, N, (by kernel_rfl), hB, ?_⟩, ?_⟩
  · exact hJ
  exact Nat.lt_succ_self _
noncomputable def eH2_a0 : Hyp := { eh2.H with e := [((.v 2), (1, 255)), ((.v 1), (0, 0)), ((.v 10), (14, 2097165))] ++ eh2.H.e, b := [(e197, true)] ++ eh2.H.b }
noncomputable def eR2_a0 : LT := (.ite e213 (.jump 3 eT3 ⟨[(10, (.v 10))], [], [(7, (.av 7))]⟩) (.ite e216 (.jump 3 eT3 ⟨[(10, (.v 10))], [], [(7, (.av 7))]⟩) (.ite e229 (.jump 3 eT3 ⟨[(10, (.v 10))], [], [(7, (.av 7))]⟩) (.ite e244 (.jump 3 eT3 ⟨[(10, (.v 10))], [], [(7, (.av 7))]⟩) (.ret (.s (.bool (.blit false))) [])))))
theorem esg2_a0 : (segL Try.prog G Gh eD ehs [17, 23, 27] 3000 0 4 { eh2 with H := eH2_a0 }).map LT.bare = some eR2_a0 := by kernel_rfl
theorem evc2_a0 (hB : eBase x0 Y0 x2 n u r s q A B C F K) (hJ : eJ2 n u r s q a b c d f g h A B C F K L M N) (hH : Hyp.ok eH2_a0 (eV x0 Y0 x2 n u r s q a b c d f g h A B C F K L M N)) (hF0 : 1 ≤ r ∧ r ≤ 255) (hF1 : 0 ≤ u ∧ u ≤ 0) (hF2 : 14 ≤ g ∧ g ≤ 2097165) (hG0 : u < g) :
    eW2 x0 Y0 x2 (eV x0 Y0 x2 n u r s q a b c d f g h A B C F K L M N) eR2_a0 := by
  simp only [eW2, eR2_a0, LT.holds, retTrue]
  refine ⟨fun hc0 => ?_, fun hc0 => ?_⟩
  ·
    refine ⟨ehT3, ⟨n, u, r, s, q, a, b, c, d, f, g, h, A, B, C, F, K, L, M, N, (by kernel_rfl), hB, ?_⟩, ?_⟩
    · exact hJ
    exact Nat.lt_succ_self _
  ·
    refine ⟨fun hc2 => ?_, fun hc2 => ?_⟩
    ·
      refine ⟨ehT3, ⟨n, u, r, s, q, a, b, c, d, f, g, h, A, B, C, F, K, L, M, N, (by kernel_rfl), hB, ?_⟩, ?_⟩
      · exact hJ
      exact Nat.lt_succ_self _
    ·
      refine ⟨fun hc4 => ?_, fun hc4 => ?_⟩
      ·
        refine ⟨ehT3, ⟨n, u, r, s, q, a, b, c, d, f, g, h, A, B, C, F, K, L, M, N, (by kernel_rfl), hB, ?_⟩, ?_⟩
        · exact hJ
        exact Nat.lt_succ_self _
      ·
        refine ⟨fun hc6 => ?_, fun hc6 => ?_⟩
        ·
          refine ⟨ehT3, ⟨n, u, r, s, q, a, b, c, d, f, g, h, A, B, C, F, K, L, M, N, (by kernel_rfl), hB, ?_⟩, ?_⟩
          · exact hJ
          exact Nat.lt_succ_self _
        ·
          exfalso
          simp only [eBase] at hB
          obtain ⟨b0, b1, b2, b3, b4, c0, c1, c2, c3, c4, en0, en2, ea0, ea1, ea2, ea3, ea4, hs, hx0, _⟩ := hB
          simp only [eJ2] at hJ
          obtain ⟨l5, l6, l7, l8, l9, l10, l11, m5, m6, m7, hw, _⟩ := hJ
          obtain ⟨w0, w1, w2, w3, w4, w5, w6⟩ := hw
          have hx := xor_ne (N u.toNat) r (m7 _) hF0
          have hat : u.toNat = 0 := by omega
          simp only [nd, sm, sn, sxx, eV, Bool.or_eq_false_iff, Bool.not_eq_false', decide_eq_true_eq] at hc0 hc2 hc4 hc6
          rw [hat] at hx
          (try rw [hat] at hc0)
          (try rw [hat] at hc2)
          (try rw [hat] at hc4)
          (try rw [hat] at hc6)
          first
            | omega
            | (rw [hs1] at hc6; omega)
noncomputable def eH2_a1 : Hyp := { eh2.H with e := [((.v 2), (1, 255)), ((.v 1), (1, 1)), ((.v 10), (14, 2097165))] ++ eh2.H.e, b := [(e197, true)] ++ eh2.H.b }
noncomputable def eR2_a1 : LT := (.ite e252 (.jump 3 eT3 ⟨[(10, (.v 10))], [], [(7, (.av 7))]⟩) (.ite e216 (.jump 3 eT3 ⟨[(10, (.v 10))], [], [(7, (.av 7))]⟩) (.ite e229 (.jump 3 eT3 ⟨[(10, (.v 10))], [], [(7, (.av 7))]⟩) (.ite e244 (.jump 3 eT3 ⟨[(10, (.v 10))], [], [(7, (.av 7))]⟩) (.ret (.s (.bool (.blit false))) [])))))
theorem esg2_a1 : (segL Try.prog G Gh eD ehs [17, 23, 27] 3000 0 4 { eh2 with H := eH2_a1 }).map LT.bare = some eR2_a1 := by kernel_rfl
theorem evc2_a1 (hB : eBase x0 Y0 x2 n u r s q A B C F K) (hJ : eJ2 n u r s q a b c d f g h A B C F K L M N) (hH : Hyp.ok eH2_a1 (eV x0 Y0 x2 n u r s q a b c d f g h A B C F K L M N)) (hF0 : 1 ≤ r ∧ r ≤ 255) (hF1 : 1 ≤ u ∧ u ≤ 1) (hF2 : 14 ≤ g ∧ g ≤ 2097165) (hG0 : u < g) :
    eW2 x0 Y0 x2 (eV x0 Y0 x2 n u r s q a b c d f g h A B C F K L M N) eR2_a1 := by
  simp only [eW2, eR2_a1, LT.holds, retTrue]
  refine ⟨fun hc0 => ?_, fun hc0 => ?_⟩
  ·
    refine ⟨ehT3, ⟨n, u, r, s, q, a, b, c, d, f, g, h, A, B, C, F, K, L, M, N, (by kernel_rfl), hB, ?_⟩, ?_⟩
    · exact hJ
    exact Nat.lt_succ_self _
  ·
    refine ⟨fun hc2 => ?_, fun hc2 => ?_⟩
    ·
      refine ⟨ehT3, ⟨n, u, r, s, q, a, b, c, d, f, g, h, A, B, C, F, K, L, M, N, (by kernel_rfl), hB, ?_⟩, ?_⟩
      · exact hJ
      exact Nat.lt_succ_self _
    ·
      refine ⟨fun hc4 => ?_, fun hc4 => ?_⟩
      ·
        refine ⟨ehT3, ⟨n, u, r, s, q, a, b, c, d, f, g, h, A, B, C, F, K, L, M, N, (by kernel_rfl), hB, ?_⟩, ?_⟩
        · exact hJ
        exact Nat.lt_succ_self _
      ·
        refine ⟨fun hc6 => ?_, fun hc6 => ?_⟩
        ·
          refine ⟨ehT3, ⟨n, u, r, s, q, a, b, c, d, f, g, h, A, B, C, F, K, L, M, N, (by kernel_rfl), hB, ?_⟩, ?_⟩
          · exact hJ
          exact Nat.lt_succ_self _
        ·
          exfalso
          simp only [eBase] at hB
          obtain ⟨b0, b1, b2, b3, b4, c0, c1, c2, c3, c4, en0, en2, ea0, ea1, ea2, ea3, ea4, hs, hx0, _⟩ := hB
          simp only [eJ2] at hJ
          obtain ⟨l5, l6, l7, l8, l9, l10, l11, m5, m6, m7, hw, _⟩ := hJ
          obtain ⟨w0, w1, w2, w3, w4, w5, w6⟩ := hw
          have hx := xor_ne (N u.toNat) r (m7 _) hF0
          have hat : u.toNat = 1 := by omega
          simp only [nd, sm, sn, sxx, eV, Bool.or_eq_false_iff, Bool.not_eq_false', decide_eq_true_eq] at hc0 hc2 hc4 hc6
          rw [hat] at hx
          (try rw [hat] at hc0)
          (try rw [hat] at hc2)
          (try rw [hat] at hc4)
          (try rw [hat] at hc6)
          first
            | omega
            | (rw [hs1] at hc6; omega)
noncomputable def eH2_a2 : Hyp := { eh2.H with e := [((.v 2), (1, 255)), ((.v 1), (2, 2)), ((.v 10), (14, 2097165))] ++ eh2.H.e, b := [(e197, true)] ++ eh2.H.b }
noncomputable def eR2_a2 : LT := (.ite e257 (.jump 3 eT3 ⟨[(10, (.v 10))], [], [(7, (.av 7))]⟩) (.ite e216 (.jump 3 eT3 ⟨[(10, (.v 10))], [], [(7, (.av 7))]⟩) (.ite e229 (.jump 3 eT3 ⟨[(10, (.v 10))], [], [(7, (.av 7))]⟩) (.ite e244 (.jump 3 eT3 ⟨[(10, (.v 10))], [], [(7, (.av 7))]⟩) (.ret (.s (.bool (.blit false))) [])))))
theorem esg2_a2 : (segL Try.prog G Gh eD ehs [17, 23, 27] 3000 0 4 { eh2 with H := eH2_a2 }).map LT.bare = some eR2_a2 := by kernel_rfl
theorem evc2_a2 (hB : eBase x0 Y0 x2 n u r s q A B C F K) (hJ : eJ2 n u r s q a b c d f g h A B C F K L M N) (hH : Hyp.ok eH2_a2 (eV x0 Y0 x2 n u r s q a b c d f g h A B C F K L M N)) (hF0 : 1 ≤ r ∧ r ≤ 255) (hF1 : 2 ≤ u ∧ u ≤ 2) (hF2 : 14 ≤ g ∧ g ≤ 2097165) (hG0 : u < g) :
    eW2 x0 Y0 x2 (eV x0 Y0 x2 n u r s q a b c d f g h A B C F K L M N) eR2_a2 := by
  simp only [eW2, eR2_a2, LT.holds, retTrue]
  refine ⟨fun hc0 => ?_, fun hc0 => ?_⟩
  ·
    refine ⟨ehT3, ⟨n, u, r, s, q, a, b, c, d, f, g, h, A, B, C, F, K, L, M, N, (by kernel_rfl), hB, ?_⟩, ?_⟩
    · exact hJ
    exact Nat.lt_succ_self _
  ·
    refine ⟨fun hc2 => ?_, fun hc2 => ?_⟩
    ·
      refine ⟨ehT3, ⟨n, u, r, s, q, a, b, c, d, f, g, h, A, B, C, F, K, L, M, N, (by kernel_rfl), hB, ?_⟩, ?_⟩
      · exact hJ
      exact Nat.lt_succ_self _
    ·
      refine ⟨fun hc4 => ?_, fun hc4 => ?_⟩
      ·
        refine ⟨ehT3, ⟨n, u, r, s, q, a, b, c, d, f, g, h, A, B, C, F, K, L, M, N, (by kernel_rfl), hB, ?_⟩, ?_⟩
        · exact hJ
        exact Nat.lt_succ_self _
      ·
        refine ⟨fun hc6 => ?_, fun hc6 => ?_⟩
        ·
          refine ⟨ehT3, ⟨n, u, r, s, q, a, b, c, d, f, g, h, A, B, C, F, K, L, M, N, (by kernel_rfl), hB, ?_⟩, ?_⟩
          · exact hJ
          exact Nat.lt_succ_self _
        ·
          exfalso
          simp only [eBase] at hB
          obtain ⟨b0, b1, b2, b3, b4, c0, c1, c2, c3, c4, en0, en2, ea0, ea1, ea2, ea3, ea4, hs, hx0, _⟩ := hB
          simp only [eJ2] at hJ
          obtain ⟨l5, l6, l7, l8, l9, l10, l11, m5, m6, m7, hw, _⟩ := hJ
          obtain ⟨w0, w1, w2, w3, w4, w5, w6⟩ := hw
          have hx := xor_ne (N u.toNat) r (m7 _) hF0
          have hat : u.toNat = 2 := by omega
          simp only [nd, sm, sn, sxx, eV, Bool.or_eq_false_iff, Bool.not_eq_false', decide_eq_true_eq] at hc0 hc2 hc4 hc6
          rw [hat] at hx
          (try rw [hat] at hc0)
          (try rw [hat] at hc2)
          (try rw [hat] at hc4)
          (try rw [hat] at hc6)
          first
            | omega
            | (rw [hs1] at hc6; omega)
noncomputable def eH2_a3 : Hyp := { eh2.H with e := [((.v 2), (1, 255)), ((.v 1), (3, 3)), ((.v 10), (14, 2097165))] ++ eh2.H.e, b := [(e197, true)] ++ eh2.H.b }
noncomputable def eR2_a3 : LT := (.ite e262 (.jump 3 eT3 ⟨[(10, (.v 10))], [], [(7, (.av 7))]⟩) (.ite e216 (.jump 3 eT3 ⟨[(10, (.v 10))], [], [(7, (.av 7))]⟩) (.ite e229 (.jump 3 eT3 ⟨[(10, (.v 10))], [], [(7, (.av 7))]⟩) (.ite e244 (.jump 3 eT3 ⟨[(10, (.v 10))], [], [(7, (.av 7))]⟩) (.ret (.s (.bool (.blit false))) [])))))
theorem esg2_a3 : (segL Try.prog G Gh eD ehs [17, 23, 27] 3000 0 4 { eh2 with H := eH2_a3 }).map LT.bare = some eR2_a3 := by kernel_rfl
theorem evc2_a3 (hB : eBase x0 Y0 x2 n u r s q A B C F K) (hJ : eJ2 n u r s q a b c d f g h A B C F K L M N) (hH : Hyp.ok eH2_a3 (eV x0 Y0 x2 n u r s q a b c d f g h A B C F K L M N)) (hF0 : 1 ≤ r ∧ r ≤ 255) (hF1 : 3 ≤ u ∧ u ≤ 3) (hF2 : 14 ≤ g ∧ g ≤ 2097165) (hG0 : u < g) :
    eW2 x0 Y0 x2 (eV x0 Y0 x2 n u r s q a b c d f g h A B C F K L M N) eR2_a3 := by
  simp only [eW2, eR2_a3, LT.holds, retTrue]
  refine ⟨fun hc0 => ?_, fun hc0 => ?_⟩
  ·
    refine ⟨ehT3, ⟨n, u, r, s, q, a, b, c, d, f, g, h, A, B, C, F, K, L, M, N, (by kernel_rfl), hB, ?_⟩, ?_⟩
    · exact hJ
    exact Nat.lt_succ_self _
  ·
    refine ⟨fun hc2 => ?_, fun hc2 => ?_⟩
    ·
      refine ⟨ehT3, ⟨n, u, r, s, q, a, b, c, d, f, g, h, A, B, C, F, K, L, M, N, (by kernel_rfl), hB, ?_⟩, ?_⟩
      · exact hJ
      exact Nat.lt_succ_self _
    ·
      refine ⟨fun hc4 => ?_, fun hc4 => ?_⟩
      ·
        refine ⟨ehT3, ⟨n, u, r, s, q, a, b, c, d, f, g, h, A, B, C, F, K, L, M, N, (by kernel_rfl), hB, ?_⟩, ?_⟩
        · exact hJ
        exact Nat.lt_succ_self _
      ·
        refine ⟨fun hc6 => ?_, fun hc6 => ?_⟩
        ·
          refine ⟨ehT3, ⟨n, u, r, s, q, a, b, c, d, f, g, h, A, B, C, F, K, L, M, N, (by kernel_rfl), hB, ?_⟩, ?_⟩
          · exact hJ
          exact Nat.lt_succ_self _
        ·
          exfalso
          simp only [eBase] at hB
          obtain ⟨b0, b1, b2, b3, b4, c0, c1, c2, c3, c4, en0, en2, ea0, ea1, ea2, ea3, ea4, hs, hx0, _⟩ := hB
          simp only [eJ2] at hJ
          obtain ⟨l5, l6, l7, l8, l9, l10, l11, m5, m6, m7, hw, _⟩ := hJ
          obtain ⟨w0, w1, w2, w3, w4, w5, w6⟩ := hw
          have hx := xor_ne (N u.toNat) r (m7 _) hF0
          have hat : u.toNat = 3 := by omega
          simp only [nd, sm, sn, sxx, eV, Bool.or_eq_false_iff, Bool.not_eq_false', decide_eq_true_eq] at hc0 hc2 hc4 hc6
          rw [hat] at hx
          (try rw [hat] at hc0)
          (try rw [hat] at hc2)
          (try rw [hat] at hc4)
          (try rw [hat] at hc6)
          first
            | omega
            | (rw [hs1] at hc6; omega)
noncomputable def eH2_a4 : Hyp := { eh2.H with e := [((.v 2), (1, 255)), ((.v 1), (4, 4)), ((.v 10), (14, 2097165))] ++ eh2.H.e, b := [(e197, true)] ++ eh2.H.b }
noncomputable def eR2_a4 : LT := (.ite e265 (.jump 3 eT3 ⟨[(10, (.v 10))], [], [(7, (.av 7))]⟩) (.ite e267 (.jump 3 eT3 ⟨[(10, (.v 10))], [], [(7, (.av 7))]⟩) (.ite e229 (.jump 3 eT3 ⟨[(10, (.v 10))], [], [(7, (.av 7))]⟩) (.ite e244 (.jump 3 eT3 ⟨[(10, (.v 10))], [], [(7, (.av 7))]⟩) (.ret (.s (.bool (.blit false))) [])))))
theorem esg2_a4 : (segL Try.prog G Gh eD ehs [17, 23, 27] 3000 0 4 { eh2 with H := eH2_a4 }).map LT.bare = some eR2_a4 := by kernel_rfl
theorem evc2_a4 (hB : eBase x0 Y0 x2 n u r s q A B C F K) (hJ : eJ2 n u r s q a b c d f g h A B C F K L M N) (hH : Hyp.ok eH2_a4 (eV x0 Y0 x2 n u r s q a b c d f g h A B C F K L M N)) (hF0 : 1 ≤ r ∧ r ≤ 255) (hF1 : 4 ≤ u ∧ u ≤ 4) (hF2 : 14 ≤ g ∧ g ≤ 2097165) (hG0 : u < g) :
    eW2 x0 Y0 x2 (eV x0 Y0 x2 n u r s q a b c d f g h A B C F K L M N) eR2_a4 := by
  simp only [eW2, eR2_a4, LT.holds, retTrue]
  refine ⟨fun hc0 => ?_, fun hc0 => ?_⟩
  ·
    refine ⟨ehT3, ⟨n, u, r, s, q, a, b, c, d, f, g, h, A, B, C, F, K, L, M, N, (by kernel_rfl), hB, ?_⟩, ?_⟩
    · exact hJ
    exact Nat.lt_succ_self _
  ·
    refine ⟨fun hc2 => ?_, fun hc2 => ?_⟩
    ·
      refine ⟨ehT3, ⟨n, u, r, s, q, a, b, c, d, f, g, h, A, B, C, F, K, L, M, N, (by kernel_rfl), hB, ?_⟩, ?_⟩
      · exact hJ
      exact Nat.lt_succ_self _
    ·
      refine ⟨fun hc4 => ?_, fun hc4 => ?_⟩
      ·
        refine ⟨ehT3, ⟨n, u, r, s, q, a, b, c, d, f, g, h, A, B, C, F, K, L, M, N, (by kernel_rfl), hB, ?_⟩, ?_⟩
        · exact hJ
        exact Nat.lt_succ_self _
      ·
        refine ⟨fun hc6 => ?_, fun hc6 => ?_⟩
        ·
          refine ⟨ehT3, ⟨n, u, r, s, q, a, b, c, d, f, g, h, A, B, C, F, K, L, M, N, (by kernel_rfl), hB, ?_⟩, ?_⟩
          · exact hJ
          exact Nat.lt_succ_self _
        ·
          exfalso
          simp only [eBase] at hB
          obtain ⟨b0, b1, b2, b3, b4, c0, c1, c2, c3, c4, en0, en2, ea0, ea1, ea2, ea3, ea4, hs, hx0, _⟩ := hB
          simp only [eJ2] at hJ
          obtain ⟨l5, l6, l7, l8, l9, l10, l11, m5, m6, m7, hw, _⟩ := hJ
          obtain ⟨w0, w1, w2, w3, w4, w5, w6⟩ := hw
          have hx := xor_ne (N u.toNat) r (m7 _) hF0
          have hat : u.toNat = 4 := by omega
          simp only [nd, sm, sn, sxx, eV, Bool.or_eq_false_iff, Bool.not_eq_false', decide_eq_true_eq] at hc0 hc2 hc4 hc6
          rw [hat] at hx
          (try rw [hat] at hc0)
          (try rw [hat] at hc2)
          (try rw [hat] at hc4)
          (try rw [hat] at hc6)
          first
            | omega
            | (rw [hs1] at hc6; omega)
noncomputable def eH2_a5 : Hyp := { eh2.H with e := [((.v 2), (1, 255)), ((.v 1), (5, 5)), ((.v 10), (14, 2097165))] ++ eh2.H.e, b := [(e197, true)] ++ eh2.H.b }
noncomputable def eR2_a5 : LT := (.ite e265 (.jump 3 eT3 ⟨[(10, (.v 10))], [], [(7, (.av 7))]⟩) (.ite e216 (.jump 3 eT3 ⟨[(10, (.v 10))], [], [(7, (.av 7))]⟩) (.ite e270 (.jump 3 eT3 ⟨[(10, (.v 10))], [], [(7, (.av 7))]⟩) (.ite e244 (.jump 3 eT3 ⟨[(10, (.v 10))], [], [(7, (.av 7))]⟩) (.ret (.s (.bool (.blit false))) [])))))
theorem esg2_a5 : (segL Try.prog G Gh eD ehs [17, 23, 27] 3000 0 4 { eh2 with H := eH2_a5 }).map LT.bare = some eR2_a5 := by kernel_rfl
theorem evc2_a5 (hB : eBase x0 Y0 x2 n u r s q A B C F K) (hJ : eJ2 n u r s q a b c d f g h A B C F K L M N) (hH : Hyp.ok eH2_a5 (eV x0 Y0 x2 n u r s q a b c d f g h A B C F K L M N)) (hF0 : 1 ≤ r ∧ r ≤ 255) (hF1 : 5 ≤ u ∧ u ≤ 5) (hF2 : 14 ≤ g ∧ g ≤ 2097165) (hG0 : u < g) :
    eW2 x0 Y0 x2 (eV x0 Y0 x2 n u r s q a b c d f g h A B C F K L M N) eR2_a5 := by
  simp only [eW2, eR2_a5, LT.holds, retTrue]
  refine ⟨fun hc0 => ?_, fun hc0 => ?_⟩
  ·
    refine ⟨ehT3, ⟨n, u, r, s, q, a, b, c, d, f, g, h, A, B, C, F, K, L, M, N, (by kernel_rfl), hB, ?_⟩, ?_⟩
    · exact hJ
    exact Nat.lt_succ_self _
  ·
    refine ⟨fun hc2 => ?_, fun hc2 => ?_⟩
    ·
      refine ⟨ehT3, ⟨n, u, r, s, q, a, b, c, d, f, g, h, A, B, C, F, K, L, M, N, (by kernel_rfl), hB, ?_⟩, ?_⟩
      · exact hJ
      exact Nat.lt_succ_self _
    ·
      refine ⟨fun hc4 => ?_, fun hc4 => ?_⟩
      ·
        refine ⟨ehT3, ⟨n, u, r, s, q, a, b, c, d, f, g, h, A, B, C, F, K, L, M, N, (by kernel_rfl), hB, ?_⟩, ?_⟩
        · exact hJ
        exact Nat.lt_succ_self _
      ·
        refine ⟨fun hc6 => ?_, fun hc6 => ?_⟩
        ·
          refine ⟨ehT3, ⟨n, u, r, s, q, a, b, c, d, f, g, h, A, B, C, F, K, L, M, N, (by kernel_rfl), hB, ?_⟩, ?_⟩
          · exact hJ
          exact Nat.lt_succ_self _
        ·
          exfalso
          simp only [eBase] at hB
          obtain ⟨b0, b1, b2, b3, b4, c0, c1, c2, c3, c4, en0, en2, ea0, ea1, ea2, ea3, ea4, hs, hx0, _⟩ := hB
          simp only [eJ2] at hJ
          obtain ⟨l5, l6, l7, l8, l9, l10, l11, m5, m6, m7, hw, _⟩ := hJ
          obtain ⟨w0, w1, w2, w3, w4, w5, w6⟩ := hw
          have hx := xor_ne (N u.toNat) r (m7 _) hF0
          have hat : u.toNat = 5 := by omega
          simp only [nd, sm, sn, sxx, eV, Bool.or_eq_false_iff, Bool.not_eq_false', decide_eq_true_eq] at hc0 hc2 hc4 hc6
          rw [hat] at hx
          (try rw [hat] at hc0)
          (try rw [hat] at hc2)
          (try rw [hat] at hc4)
          (try rw [hat] at hc6)
          first
            | omega
            | (rw [hs1] at hc6; omega)
noncomputable def eH2_a6 : Hyp := { eh2.H with e := [((.v 2), (1, 255)), ((.v 1), (6, 6)), ((.v 10), (14, 2097165))] ++ eh2.H.e, b := [(e197, true)] ++ eh2.H.b }
noncomputable def eR2_a6 : LT := (.ite e265 (.jump 3 eT3 ⟨[(10, (.v 10))], [], [(7, (.av 7))]⟩) (.ite e216 (.jump 3 eT3 ⟨[(10, (.v 10))], [], [(7, (.av 7))]⟩) (.ite e275 (.jump 3 eT3 ⟨[(10, (.v 10))], [], [(7, (.av 7))]⟩) (.ite e244 (.jump 3 eT3 ⟨[(10, (.v 10))], [], [(7, (.av 7))]⟩) (.ret (.s (.bool (.blit false))) [])))))
theorem esg2_a6 : (segL Try.prog G Gh eD ehs [17, 23, 27] 3000 0 4 { eh2 with H := eH2_a6 }).map LT.bare = some eR2_a6 := by kernel_rfl
theorem evc2_a6 (hB : eBase x0 Y0 x2 n u r s q A B C F K) (hJ : eJ2 n u r s q a b c d f g h A B C F K L M N) (hH : Hyp.ok eH2_a6 (eV x0 Y0 x2 n u r s q a b c d f g h A B C F K L M N)) (hF0 : 1 ≤ r ∧ r ≤ 255) (hF1 : 6 ≤ u ∧ u ≤ 6) (hF2 : 14 ≤ g ∧ g ≤ 2097165) (hG0 : u < g) :
    eW2 x0 Y0 x2 (eV x0 Y0 x2 n u r s q a b c d f g h A B C F K L M N) eR2_a6 := by
  simp only [eW2, eR2_a6, LT.holds, retTrue]
  refine ⟨fun hc0 => ?_, fun hc0 => ?_⟩
  ·
    refine ⟨ehT3, ⟨n, u, r, s, q, a, b, c, d, f, g, h, A, B, C, F, K, L, M, N, (by kernel_rfl), hB, ?_⟩, ?_⟩
    · exact hJ
    exact Nat.lt_succ_self _
  ·
    refine ⟨fun hc2 => ?_, fun hc2 => ?_⟩
    ·
      refine ⟨ehT3, ⟨n, u, r, s, q, a, b, c, d, f, g, h, A, B, C, F, K, L, M, N, (by kernel_rfl), hB, ?_⟩, ?_⟩
      · exact hJ
      exact Nat.lt_succ_self _
    ·
      refine ⟨fun hc4 => ?_, fun hc4 => ?_⟩
      ·
        refine ⟨ehT3, ⟨n, u, r, s, q, a, b, c, d, f, g, h, A, B, C, F, K, L, M, N, (by kernel_rfl), hB, ?_⟩, ?_⟩
        · exact hJ
        exact Nat.lt_succ_self _
      ·
        refine ⟨fun hc6 => ?_, fun hc6 => ?_⟩
        ·
          refine ⟨ehT3, ⟨n, u, r, s, q, a, b, c, d, f, g, h, A, B, C, F, K, L, M, N, (by kernel_rfl), hB, ?_⟩, ?_⟩
          · exact hJ
          exact Nat.lt_succ_self _
        ·
          exfalso
          simp only [eBase] at hB
          obtain ⟨b0, b1, b2, b3, b4, c0, c1, c2, c3, c4, en0, en2, ea0, ea1, ea2, ea3, ea4, hs, hx0, _⟩ := hB
          simp only [eJ2] at hJ
          obtain ⟨l5, l6, l7, l8, l9, l10, l11, m5, m6, m7, hw, _⟩ := hJ
          obtain ⟨w0, w1, w2, w3, w4, w5, w6⟩ := hw
          have hx := xor_ne (N u.toNat) r (m7 _) hF0
          have hat : u.toNat = 6 := by omega
          simp only [nd, sm, sn, sxx, eV, Bool.or_eq_false_iff, Bool.not_eq_false', decide_eq_true_eq] at hc0 hc2 hc4 hc6
          rw [hat] at hx
          (try rw [hat] at hc0)
          (try rw [hat] at hc2)
          (try rw [hat] at hc4)
          (try rw [hat] at hc6)
          first
            | omega
            | (rw [hs1] at hc6; omega)
noncomputable def eH2_a7 : Hyp := { eh2.H with e := [((.v 2), (1, 255)), ((.v 1), (7, 7)), ((.v 10), (14, 2097165))] ++ eh2.H.e, b := [(e197, true)] ++ eh2.H.b }
noncomputable def eR2_a7 : LT := (.ite e265 (.jump 3 eT3 ⟨[(10, (.v 10))], [], [(7, (.av 7))]⟩) (.ite e216 (.jump 3 eT3 ⟨[(10, (.v 10))], [], [(7, (.av 7))]⟩) (.ite e281 (.jump 3 eT3 ⟨[(10, (.v 10))], [], [(7, (.av 7))]⟩) (.ite e244 (.jump 3 eT3 ⟨[(10, (.v 10))], [], [(7, (.av 7))]⟩) (.ret (.s (.bool (.blit false))) [])))))
theorem esg2_a7 : (segL Try.prog G Gh eD ehs [17, 23, 27] 3000 0 4 { eh2 with H := eH2_a7 }).map LT.bare = some eR2_a7 := by kernel_rfl
theorem evc2_a7 (hB : eBase x0 Y0 x2 n u r s q A B C F K) (hJ : eJ2 n u r s q a b c d f g h A B C F K L M N) (hH : Hyp.ok eH2_a7 (eV x0 Y0 x2 n u r s q a b c d f g h A B C F K L M N)) (hF0 : 1 ≤ r ∧ r ≤ 255) (hF1 : 7 ≤ u ∧ u ≤ 7) (hF2 : 14 ≤ g ∧ g ≤ 2097165) (hG0 : u < g) :
    eW2 x0 Y0 x2 (eV x0 Y0 x2 n u r s q a b c d f g h A B C F K L M N) eR2_a7 := by
  simp only [eW2, eR2_a7, LT.holds, retTrue]
  refine ⟨fun hc0 => ?_, fun hc0 => ?_⟩
  ·
    refine ⟨ehT3, ⟨n, u, r, s, q, a, b, c, d, f, g, h, A, B, C, F, K, L, M, N, (by kernel_rfl), hB, ?_⟩, ?_⟩
    · exact hJ
    exact Nat.lt_succ_self _
  ·
    refine ⟨fun hc2 => ?_, fun hc2 => ?_⟩
    ·
      refine ⟨ehT3, ⟨n, u, r, s, q, a, b, c, d, f, g, h, A, B, C, F, K, L, M, N, (by kernel_rfl), hB, ?_⟩, ?_⟩
      · exact hJ
      exact Nat.lt_succ_self _
    ·
      refine ⟨fun hc4 => ?_, fun hc4 => ?_⟩
      ·
        refine ⟨ehT3, ⟨n, u, r, s, q, a, b, c, d, f, g, h, A, B, C, F, K, L, M, N, (by kernel_rfl), hB, ?_⟩, ?_⟩
        · exact hJ
        exact Nat.lt_succ_self _
      ·
        refine ⟨fun hc6 => ?_, fun hc6 => ?_⟩
        ·
          refine ⟨ehT3, ⟨n, u, r, s, q, a, b, c, d, f, g, h, A, B, C, F, K, L, M, N, (by kernel_rfl), hB, ?_⟩, ?_⟩
          · exact hJ
          exact Nat.lt_succ_self _
        ·
          exfalso
          simp only [eBase] at hB
          obtain ⟨b0, b1, b2, b3, b4, c0, c1, c2, c3, c4, en0, en2, ea0, ea1, ea2, ea3, ea4, hs, hx0, _⟩ := hB
          simp only [eJ2] at hJ
          obtain ⟨l5, l6, l7, l8, l9, l10, l11, m5, m6, m7, hw, _⟩ := hJ
          obtain ⟨w0, w1, w2, w3, w4, w5, w6⟩ := hw
          have hx := xor_ne (N u.toNat) r (m7 _) hF0
          have hat : u.toNat = 7 := by omega
          simp only [nd, sm, sn, sxx, eV, Bool.or_eq_false_iff, Bool.not_eq_false', decide_eq_true_eq] at hc0 hc2 hc4 hc6
          rw [hat] at hx
          (try rw [hat] at hc0)
          (try rw [hat] at hc2)
          (try rw [hat] at hc4)
          (try rw [hat] at hc6)
          first
            | omega
            | (rw [hs1] at hc6; omega)
noncomputable def eH2_a8 : Hyp := { eh2.H with e := [((.v 2), (1, 255)), ((.v 1), (8, 8)), ((.v 10), (14, 2097165))] ++ eh2.H.e, b := [(e197, true)] ++ eh2.H.b }
noncomputable def eR2_a8 : LT := (.ite e265 (.jump 3 eT3 ⟨[(10, (.v 10))], [], [(7, (.av 7))]⟩) (.ite e216 (.jump 3 eT3 ⟨[(10, (.v 10))], [], [(7, (.av 7))]⟩) (.ite e287 (.jump 3 eT3 ⟨[(10, (.v 10))], [], [(7, (.av 7))]⟩) (.ite e244 (.jump 3 eT3 ⟨[(10, (.v 10))], [], [(7, (.av 7))]⟩) (.ret (.s (.bool (.blit false))) [])))))
theorem esg2_a8 : (segL Try.prog G Gh eD ehs [17, 23, 27] 3000 0 4 { eh2 with H := eH2_a8 }).map LT.bare = some eR2_a8 := by kernel_rfl
theorem evc2_a8 (hB : eBase x0 Y0 x2 n u r s q A B C F K) (hJ : eJ2 n u r s q a b c d f g h A B C F K L M N) (hH : Hyp.ok eH2_a8 (eV x0 Y0 x2 n u r s q a b c d f g h A B C F K L M N)) (hF0 : 1 ≤ r ∧ r ≤ 255) (hF1 : 8 ≤ u ∧ u ≤ 8) (hF2 : 14 ≤ g ∧ g ≤ 2097165) (hG0 : u < g) :
    eW2 x0 Y0 x2 (eV x0 Y0 x2 n u r s q a b c d f g h A B C F K L M N) eR2_a8 := by
  simp only [eW2, eR2_a8, LT.holds, retTrue]
  refine ⟨fun hc0 => ?_, fun hc0 => ?_⟩
  ·
    refine ⟨ehT3, ⟨n, u, r, s, q, a, b, c, d, f, g, h, A, B, C, F, K, L, M, N, (by kernel_rfl), hB, ?_⟩, ?_⟩
    · exact hJ
    exact Nat.lt_succ_self _
  ·
    refine ⟨fun hc2 => ?_, fun hc2 => ?_⟩
    ·
      refine ⟨ehT3, ⟨n, u, r, s, q, a, b, c, d, f, g, h, A, B, C, F, K, L, M, N, (by kernel_rfl), hB, ?_⟩, ?_⟩
      · exact hJ
      exact Nat.lt_succ_self _
    ·
      refine ⟨fun hc4 => ?_, fun hc4 => ?_⟩
      ·
        refine ⟨ehT3, ⟨n, u, r, s, q, a, b, c, d, f, g, h, A, B, C, F, K, L, M, N, (by kernel_rfl), hB, ?_⟩, ?_⟩
        · exact hJ
        exact Nat.lt_succ_self _
      ·
        refine ⟨fun hc6 => ?_, fun hc6 => ?_⟩
        ·
          refine ⟨ehT3, ⟨n, u, r, s, q, a, b, c, d, f, g, h, A, B, C, F, K, L, M, N, (by kernel_rfl), hB, ?_⟩, ?_⟩
          · exact hJ
          exact Nat.lt_succ_self _
        ·
          exfalso
          simp only [eBase] at hB
          obtain ⟨b0, b1, b2, b3, b4, c0, c1, c2, c3, c4, en0, en2, ea0, ea1, ea2, ea3, ea4, hs, hx0, _⟩ := hB
          simp only [eJ2] at hJ
          obtain ⟨l5, l6, l7, l8, l9, l10, l11, m5, m6, m7, hw, _⟩ := hJ
          obtain ⟨w0, w1, w2, w3, w4, w5, w6⟩ := hw
          have hx := xor_ne (N u.toNat) r (m7 _) hF0
          have hat : u.toNat = 8 := by omega
          simp only [nd, sm, sn, sxx, eV, Bool.or_eq_false_iff, Bool.not_eq_false', decide_eq_true_eq] at hc0 hc2 hc4 hc6
          rw [hat] at hx
          (try rw [hat] at hc0)
          (try rw [hat] at hc2)
          (try rw [hat] at hc4)
          (try rw [hat] at hc6)
          first
            | omega
            | (rw [hs1] at hc6; omega)
noncomputable def eH2_a9 : Hyp := { eh2.H with e := [((.v 2), (1, 255)), ((.v 1), (9, 9)), ((.v 10), (14, 2097165))] ++ eh2.H.e, b := [(e197, true)] ++ eh2.H.b }
noncomputable def eR2_a9 : LT := (.ite e265 (.jump 3 eT3 ⟨[(10, (.v 10))], [], [(7, (.av 7))]⟩) (.ite e216 (.jump 3 eT3 ⟨[(10, (.v 10))], [], [(7, (.av 7))]⟩) (.ite e229 (.jump 3 eT3 ⟨[(10, (.v 10))], [], [(7, (.av 7))]⟩) (.ite e290 (.jump 3 eT3 ⟨[(10, (.v 10))], [], [(7, (.av 7))]⟩) (.ret (.s (.bool (.blit false))) [])))))
theorem esg2_a9 : (segL Try.prog G Gh eD ehs [17, 23, 27] 3000 0 4 { eh2 with H := eH2_a9 }).map LT.bare = some eR2_a9 := by kernel_rfl
theorem evc2_a9 (hB : eBase x0 Y0 x2 n u r s q A B C F K) (hJ : eJ2 n u r s q a b c d f g h A B C F K L M N) (hH : Hyp.ok eH2_a9 (eV x0 Y0 x2 n u r s q a b c d f g h A B C F K L M N)) (hF0 : 1 ≤ r ∧ r ≤ 255) (hF1 : 9 ≤ u ∧ u ≤ 9) (hF2 : 14 ≤ g ∧ g ≤ 2097165) (hG0 : u < g) :
    eW2 x0 Y0 x2 (eV x0 Y0 x2 n u r s q a b c d f g h A B C F K L M N) eR2_a9 := by
  simp only [eW2, eR2_a9, LT.holds, retTrue]
  refine ⟨fun hc0 => ?_, fun hc0 => ?_⟩
  ·
    refine ⟨ehT3, ⟨n, u, r, s, q, a, b, c, d, f, g, h, A, B, C, F, K, L, M, N, (by kernel_rfl), hB, ?_⟩, ?_⟩
    · exact hJ
    exact Nat.lt_succ_self _
  ·
    refine ⟨fun hc2 => ?_, fun hc2 => ?_⟩
    ·
      refine ⟨ehT3, ⟨n, u, r, s, q, a, b, c, d, f, g, h, A, B, C, F, K, L, M, N, (by kernel_rfl), hB, ?_⟩, ?_⟩
      · exact hJ
      exact Nat.lt_succ_self _
    ·
      refine ⟨fun hc4 => ?_, fun hc4 => ?_⟩
      ·
        refine ⟨ehT3, ⟨n, u, r, s, q, a, b, c, d, f, g, h, A, B, C, F, K, L, M, N, (by kernel_rfl), hB, ?_⟩, ?_⟩
        · exact hJ
        exact Nat.lt_succ_self _
      ·
        refine ⟨fun hc6 => ?_, fun hc6 => ?_⟩
        ·
          refine ⟨ehT3, ⟨n, u, r, s, q, a, b, c, d, f, g, h, A, B, C, F, K, L, M, N, (by kernel_rfl), hB, ?_⟩, ?_⟩
          · exact hJ
          exact Nat.lt_succ_self _
        ·
          exfalso
          simp only [eBase] at hB
          obtain ⟨b0, b1, b2, b3, b4, c0, c1, c2, c3, c4, en0, en2, ea0, ea1, ea2, ea3, ea4, hs, hx0, _⟩ := hB
          simp only [eJ2] at hJ
          obtain ⟨l5, l6, l7, l8, l9, l10, l11, m5, m6, m7, hw, _⟩ := hJ
          obtain ⟨w0, w1, w2, w3, w4, w5, w6⟩ := hw
          have hx := xor_ne (N u.toNat) r (m7 _) hF0
          have hat : u.toNat = 9 := by omega
          have hs1 : _root_.Go.Sx.E.i (eV x0 Y0 x2 n u r s q a b c d f g h A B C F K L M N) e242 = sumF (g - 13).toNat (shf N) := by
            have h1 : _root_.Go.Sx.E.i (eV x0 Y0 x2 n u r s q a b c d f g h A B C F K L M N) e242 = sumF (g + -13).toNat (_root_.Go.Sx.E.a (eV x0 Y0 x2 n u r s q a b c d f g h A B C F K L M N) e241) := app_sum rfl _ _
            rw [h1, show g + -13 = g - 13 by omega]
            refine sum_cut _ _ _ fun k hk => ?_
            simp only [nd, sm, sn, sxx, eV]
            rw [if_pos (by omega), if_neg (by omega)]
            first | rfl | (congr 1; omega)
          simp only [nd, sm, sn, sxx, eV, Bool.or_eq_false_iff, Bool.not_eq_false', decide_eq_true_eq] at hc0 hc2 hc4 hc6
          simp only [eV] at hs1
          rw [hat] at hx
          (try rw [hat] at hc0)
          (try rw [hat] at hc2)
          (try rw [hat] at hc4)
          (try rw [hat] at hc6)
          first
            | omega
            | (rw [hs1] at hc6; omega)
noncomputable def eH2_a10 : Hyp := { eh2.H with e := [((.v 2), (1, 255)), ((.v 1), (10, 10)), ((.v 10), (14, 2097165))] ++ eh2.H.e, b := [(e197, true)] ++ eh2.H.b }
noncomputable def eR2_a10 : LT := (.ite e265 (.jump 3 eT3 ⟨[(10, (.v 10))], [], [(7, (.av 7))]⟩) (.ite e216 (.jump 3 eT3 ⟨[(10, (.v 10))], [], [(7, (.av 7))]⟩) (.ite e229 (.jump 3 eT3 ⟨[(10, (.v 10))], [], [(7, (.av 7))]⟩) (.ite e294 (.jump 3 eT3 ⟨[(10, (.v 10))], [], [(7, (.av 7))]⟩) (.ret (.s (.bool (.blit false))) [])))))
theorem esg2_a10 : (segL Try.prog G Gh eD ehs [17, 23, 27] 3000 0 4 { eh2 with H := eH2_a10 }).map LT.bare = some eR2_a10 := by kernel_rfl
theorem evc2_a10 (hB : eBase x0 Y0 x2 n u r s q A B C F K) (hJ : eJ2 n u r s q a b c d f g h A B C F K L M N) (hH : Hyp.ok eH2_a10 (eV x0 Y0 x2 n u r s q a b c d f g h A B C F K L M N)) (hF0 : 1 ≤ r ∧ r ≤ 255) (hF1 : 10 ≤ u ∧ u ≤ 10) (hF2 : 14 ≤ g ∧ g ≤ 2097165) (hG0 : u < g) :
    eW2 x0 Y0 x2 (eV x0 Y0 x2 n u r s q a b c d f g h A B C F K L M N) eR2_a10 := by
  simp only [eW2, eR2_a10, LT.holds, retTrue]
  refine ⟨fun hc0 => ?_, fun hc0 => ?_⟩
  ·
    refine ⟨ehT3, ⟨n, u, r, s, q, a, b, c, d, f, g, h, A, B, C, F, K, L, M, N, (by kernel_rfl), hB, ?_⟩, ?_⟩
    · exact hJ
    exact Nat.lt_succ_self _
  ·
    refine ⟨fun hc2 => ?_, fun hc2 => ?_⟩
    ·
      refine ⟨ehT3, ⟨n, u, r, s, q, a, b, c, d, f, g, h, A, B, C, F, K, L, M, N, (by kernel_rfl), hB, ?_⟩, ?_⟩
      · exact hJ
      exact Nat.lt_succ_self _
    ·
      refine ⟨fun hc4 => ?_, fun hc4 => ?_⟩
      ·
        refine ⟨ehT3, ⟨n, u, r, s, q, a, b, c, d, f, g, h, A, B, C, F, K, L, M, N, (by kernel_rfl), hB, ?_⟩, ?_⟩
        · exact hJ
        exact Nat.lt_succ_self _
      ·
        refine ⟨fun hc6 => ?_, fun hc6 => ?_⟩
        ·
          refine ⟨ehT3, ⟨n, u, r, s, q, a, b, c, d, f, g, h, A, B, C, F, K, L, M, N, (by kernel_rfl), hB, ?_⟩, ?_⟩
          · exact hJ
          exact Nat.lt_succ_self _
        ·
          exfalso
          simp only [eBase] at hB
          obtain ⟨b0, b1, b2, b3, b4, c0, c1, c2, c3, c4, en0, en2, ea0, ea1, ea2, ea3, ea4, hs, hx0, _⟩ := hB
          simp only [eJ2] at hJ
          obtain ⟨l5, l6, l7, l8, l9, l10, l11, m5, m6, m7, hw, _⟩ := hJ
          obtain ⟨w0, w1, w2, w3, w4, w5, w6⟩ := hw
          have hx := xor_ne (N u.toNat) r (m7 _) hF0
          have hat : u.toNat = 10 := by omega
          have hs1 : _root_.Go.Sx.E.i (eV x0 Y0 x2 n u r s q a b c d f g h A B C F K L M N) e242 = sumF (g - 13).toNat (shf N) := by
            have h1 : _root_.Go.Sx.E.i (eV x0 Y0 x2 n u r s q a b c d f g h A B C F K L M N) e242 = sumF (g + -13).toNat (_root_.Go.Sx.E.a (eV x0 Y0 x2 n u r s q a b c d f g h A B C F K L M N) e241) := app_sum rfl _ _
            rw [h1, show g + -13 = g - 13 by omega]
            refine sum_cut _ _ _ fun k hk => ?_
            simp only [nd, sm, sn, sxx, eV]
            rw [if_pos (by omega), if_neg (by omega)]
            first | rfl | (congr 1; omega)
          simp only [nd, sm, sn, sxx, eV, Bool.or_eq_false_iff, Bool.not_eq_false', decide_eq_true_eq] at hc0 hc2 hc4 hc6
          simp only [eV] at hs1
          rw [hat] at hx
          (try rw [hat] at hc0)
          (try rw [hat] at hc2)
          (try rw [hat] at hc4)
          (try rw [hat] at hc6)
          first
            | omega
            | (rw [hs1] at hc6; omega)
noncomputable def eH2_a11 : Hyp := { eh2.H with e := [((.v 2), (1, 255)), ((.v 1), (11, 11)), ((.v 10), (14, 2097165))] ++ eh2.H.e, b := [(e197, true)] ++ eh2.H.b }
noncomputable def eR2_a11 : LT := (.ite e265 (.jump 3 eT3 ⟨[(10, (.v 10))], [], [(7, (.av 7))]⟩) (.ite e216 (.jump 3 eT3 ⟨[(10, (.v 10))], [], [(7, (.av 7))]⟩) (.ite e229 (.jump 3 eT3 ⟨[(10, (.v 10))], [], [(7, (.av 7))]⟩) (.ite e299 (.jump 3 eT3 ⟨[(10, (.v 10))], [], [(7, (.av 7))]⟩) (.ret (.s (.bool (.blit false))) [])))))
theorem esg2_a11 : (segL Try.prog G Gh eD ehs [17, 23, 27] 3000 0 4 { eh2 with H := eH2_a11 }).map LT.bare = some eR2_a11 := by kernel_rfl
theorem evc2_a11 (hB : eBase x0 Y0 x2 n u r s q A B C F K) (hJ : eJ2 n u r s q a b c d f g h A B C F K L M N) (hH : Hyp.ok eH2_a11 (eV x0 Y0 x2 n u r s q a b c d f g h A B C F K L M N)) (hF0 : 1 ≤ r ∧ r ≤ 255) (hF1 : 11 ≤ u ∧ u ≤ 11) (hF2 : 14 ≤ g ∧ g ≤ 2097165) (hG0 : u < g) :
    eW2 x0 Y0 x2 (eV x0 Y0 x2 n u r s q a b c d f g h A B C F K L M N) eR2_a11 := by
  simp only [eW2, eR2_a11, LT.holds, retTrue]
  refine ⟨fun hc0 => ?_, fun hc0 => ?_⟩
  ·
    refine ⟨ehT3, ⟨n, u, r, s, q, a, b, c, d, f, g, h, A, B, C, F, K, L, M, N, (by kernel_rfl), hB, ?_⟩, ?_⟩
    · exact hJ
    exact Nat.lt_succ_self _
  ·
    refine ⟨fun hc2 => ?_, fun hc2 => ?_⟩
    ·
      refine ⟨ehT3, ⟨n, u, r, s, q, a, b, c, d, f, g, h, A, B, C, F, K, L, M, N, (by kernel_rfl), hB, ?_⟩, ?_⟩
      · exact hJ
      exact Nat.lt_succ_self _
    ·
      refine ⟨fun hc4 => ?_, fun hc4 => ?_⟩
      ·
        refine ⟨ehT3, ⟨n, u, r, s, q, a, b, c, d, f, g, h, A, B, C, F, K, L, M, N, (by kernel_rfl), hB, ?_⟩, ?_⟩
        · exact hJ
        exact Nat.lt_succ_self _
      ·
        refine ⟨fun hc6 => ?_, fun hc6 => ?_⟩
        ·
          refine ⟨ehT3, ⟨n, u, r, s, q, a, b, c, d, f, g, h, A, B, C, F, K, L, M, N, (by kernel_rfl), hB, ?_⟩, ?_⟩
          · exact hJ
          exact Nat.lt_succ_self _
        ·
          exfalso
          simp only [eBase] at hB
          obtain ⟨b0, b1, b2, b3, b4, c0, c1, c2, c3, c4, en0, en2, ea0, ea1, ea2, ea3, ea4, hs, hx0, _⟩ := hB
          simp only [eJ2] at hJ
          obtain ⟨l5, l6, l7, l8, l9, l10, l11, m5, m6, m7, hw, _⟩ := hJ
          obtain ⟨w0, w1, w2, w3, w4, w5, w6⟩ := hw
          have hx := xor_ne (N u.toNat) r (m7 _) hF0
          have hat : u.toNat = 11 := by omega
          have hs1 : _root_.Go.Sx.E.i (eV x0 Y0 x2 n u r s q a b c d f g h A B C F K L M N) e242 = sumF (g - 13).toNat (shf N) := by
            have h1 : _root_.Go.Sx.E.i (eV x0 Y0 x2 n u r s q a b c d f g h A B C F K L M N) e242 = sumF (g + -13).toNat (_root_.Go.Sx.E.a (eV x0 Y0 x2 n u r s q a b c d f g h A B C F K L M N) e241) := app_sum rfl _ _
            rw [h1, show g + -13 = g - 13 by omega]
            refine sum_cut _ _ _ fun k hk => ?_
            simp only [nd, sm, sn, sxx, eV]
            rw [if_pos (by omega), if_neg (by omega)]
            first | rfl | (congr 1; omega)
          simp only [nd, sm, sn, sxx, eV, Bool.or_eq_false_iff, Bool.not_eq_false', decide_eq_true_eq] at hc0 hc2 hc4 hc6
          simp only [eV] at hs1
          rw [hat] at hx
          (try rw [hat] at hc0)
          (try rw [hat] at hc2)
          (try rw [hat] at hc4)
          (try rw [hat] at hc6)
          first
            | omega
            | (rw [hs1] at hc6; omega)
noncomputable def eH2_a12 : Hyp := { eh2.H with e := [((.v 2), (1, 255)), ((.v 1), (12, 12)), ((.v 10), (14, 2097165))] ++ eh2.H.e, b := [(e197, true)] ++ eh2.H.b }
noncomputable def eR2_a12 : LT := (.ite e265 (.jump 3 eT3 ⟨[(10, (.v 10))], [], [(7, (.av 7))]⟩) (.ite e216 (.jump 3 eT3 ⟨[(10, (.v 10))], [], [(7, (.av 7))]⟩) (.ite e229 (.jump 3 eT3 ⟨[(10, (.v 10))], [], [(7, (.av 7))]⟩) (.ite e304 (.jump 3 eT3 ⟨[(10, (.v 10))], [], [(7, (.av 7))]⟩) (.ret (.s (.bool (.blit false))) [])))))
theorem esg2_a12 : (segL Try.prog G Gh eD ehs [17, 23, 27] 3000 0 4 { eh2 with H := eH2_a12 }).map LT.bare = some eR2_a12 := by kernel_rfl
theorem evc2_a12 (hB : eBase x0 Y0 x2 n u r s q A B C F K) (hJ : eJ2 n u r s q a b c d f g h A B C F K L M N) (hH : Hyp.ok eH2_a12 (eV x0 Y0 x2 n u r s q a b c d f g h A B C F K L M N)) (hF0 : 1 ≤ r ∧ r ≤ 255) (hF1 : 12 ≤ u ∧ u ≤ 12) (hF2 : 14 ≤ g ∧ g ≤ 2097165) (hG0 : u < g) :
    eW2 x0 Y0 x2 (eV x0 Y0 x2 n u r s q a b c d f g h A B C F K L M N) eR2_a12 := by
  simp only [eW2, eR2_a12, LT.holds, retTrue]
  refine ⟨fun hc0 => ?_, fun hc0 => ?_⟩
  ·
    refine ⟨ehT3, ⟨n, u, r, s, q, a, b, c, d, f, g, h, A, B, C, F, K, L, M, N, (by kernel_rfl), hB, ?_⟩, ?_⟩
    · exact hJ
    exact Nat.lt_succ_self _
  ·
    refine ⟨fun hc2 => ?_, fun hc2 => ?_⟩
    ·
      refine ⟨ehT3, ⟨n, u, r, s, q, a, b, c, d, f, g, h, A, B, C, F, K, L, M, N, (by kernel_rfl), hB, ?_⟩, ?_⟩
      · exact hJ
      exact Nat.lt_succ_self _
    ·
      refine ⟨fun hc4 => ?_, fun hc4 => ?_⟩
      ·
        refine ⟨ehT3, ⟨n, u, r, s, q, a, b, c, d, f, g, h, A, B, C, F, K, L, M, N, (by kernel_rfl), hB, ?_⟩, ?_⟩
        · exact hJ
        exact Nat.lt_succ_self _
      ·
        refine ⟨fun hc6 => ?_, fun hc6 => ?_⟩
        ·
          refine ⟨ehT3, ⟨n, u, r, s, q, a, b, c, d, f, g, h, A, B, C, F, K, L, M, N, (by kernel_rfl), hB, ?_⟩, ?_⟩
          · exact hJ
          exact Nat.lt_succ_self _
        ·
          exfalso
          simp only [eBase] at hB
          obtain ⟨b0, b1, b2, b3, b4, c0, c1, c2, c3, c4, en0, en2, ea0, ea1, ea2, ea3, ea4, hs, hx0, _⟩ := hB
          simp only [eJ2] at hJ
          obtain ⟨l5, l6, l7, l8, l9, l10, l11, m5, m6, m7, hw, _⟩ := hJ
          obtain ⟨w0, w1, w2, w3, w4, w5, w6⟩ := hw
          have hx := xor_ne (N u.toNat) r (m7 _) hF0
          have hat : u.toNat = 12 := by omega
          have hs1 : _root_.Go.Sx.E.i (eV x0 Y0 x2 n u r s q a b c d f g h A B C F K L M N) e242 = sumF (g - 13).toNat (shf N) := by
            have h1 : _root_.Go.Sx.E.i (eV x0 Y0 x2 n u r s q a b c d f g h A B C F K L M N) e242 = sumF (g + -13).toNat (_root_.Go.Sx.E.a (eV x0 Y0 x2 n u r s q a b c d f g h A B C F K L M N) e241) := app_sum rfl _ _
            rw [h1, show g + -13 = g - 13 by omega]
            refine sum_cut _ _ _ fun k hk => ?_
            simp only [nd, sm, sn, sxx, eV]
            rw [if_pos (by omega), if_neg (by omega)]
            first | rfl | (congr 1; omega)
          simp only [nd, sm, sn, sxx, eV, Bool.or_eq_false_iff, Bool.not_eq_false', decide_eq_true_eq] at hc0 hc2 hc4 hc6
          simp only [eV] at hs1
          rw [hat] at hx
          (try rw [hat] at hc0)
          (try rw [hat] at hc2)
          (try rw [hat] at hc4)
          (try rw [hat] at hc6)
          first
            | omega
            | (rw [hs1] at hc6; omega)
noncomputable def eH2_z0 : Hyp := { eh2.H with e := [((.v 2), (1, 255)), ((.v 1), (0, 0)), ((.v 10), (13, 13))] ++ eh2.H.e, b := [(e197, true)] ++ eh2.H.b }
noncomputable def eR2_z0 : LT := (.ite e213 (.jump 3 eT3 ⟨[(10, (.v 10))], [], [(7, (.av 7))]⟩) (.ite e216 (.jump 3 eT3 ⟨[(10, (.v 10))], [], [(7, (.av 7))]⟩) (.ite e306 (.jump 3 eT3 ⟨[(10, (.v 10))], [], [(7, (.av 7))]⟩) (.ite e308 (.jump 3 eT3 ⟨[(10, (.v 10))], [], [(7, (.av 7))]⟩) (.ret (.s (.bool (.blit false))) [])))))
theorem esg2_z0 : (segL Try.prog G Gh eD ehs [17, 23, 27] 3000 0 4 { eh2 with H := eH2_z0 }).map LT.bare = some eR2_z0 := by kernel_rfl
theorem evc2_z0 (hB : eBase x0 Y0 x2 n u r s q A B C F K) (hJ : eJ2 n u r s q a b c d f g h A B C F K L M N) (hH : Hyp.ok eH2_z0 (eV x0 Y0 x2 n u r s q a b c d f g h A B C F K L M N)) (hF0 : 1 ≤ r ∧ r ≤ 255) (hF1 : 0 ≤ u ∧ u ≤ 0) (hF2 : 13 ≤ g ∧ g ≤ 13) (hG0 : u < g) :
    eW2 x0 Y0 x2 (eV x0 Y0 x2 n u r s q a b c d f g h A B C F K L M N) eR2_z0 := by
  simp only [eW2, eR2_z0, LT.holds, retTrue]
  refine ⟨fun hc0 => ?_, fun hc0 => ?_⟩
  ·
    refine ⟨ehT3, ⟨n, u, r, s, q, a, b, c, d, f, g, h, A, B, C, F, K, L, M, N, (by kernel_rfl), hB, ?_⟩, ?_⟩
    · exact hJ
    exact Nat.lt_succ_self _
  ·
    refine ⟨fun hc2 => ?_, fun hc2 => ?_⟩
    ·
      refine ⟨ehT3, ⟨n, u, r, s, q, a, b, c, d, f, g, h, A, B, C, F, K, L, M, N, (by kernel_rfl), hB, ?_⟩, ?_⟩
      · exact hJ
      exact Nat.lt_succ_self _
    ·
      refine ⟨fun hc4 => ?_, fun hc4 => ?_⟩
      ·
        refine ⟨ehT3, ⟨n, u, r, s, q, a, b, c, d, f, g, h, A, B, C, F, K, L, M, N, (by kernel_rfl), hB, ?_⟩, ?_⟩
        · exact hJ
        exact Nat.lt_succ_self _
      ·
        refine ⟨fun hc6 => ?_, fun hc6 => ?_⟩
        ·
          refine ⟨ehT3, ⟨n, u, r, s, q, a, b, c, d, f, g, h, A, B, C, F, K, L, M, N, (by kernel_rfl), hB, ?_⟩, ?_⟩
          · exact hJ
          exact Nat.lt_succ_self _
        ·
          exfalso
          simp only [eBase] at hB
          obtain ⟨b0, b1, b2, b3, b4, c0, c1, c2, c3, c4, en0, en2, ea0, ea1, ea2, ea3, ea4, hs, hx0, _⟩ := hB
          simp only [eJ2] at hJ
          obtain ⟨l5, l6, l7, l8, l9, l10, l11, m5, m6, m7, hw, _⟩ := hJ
          obtain ⟨w0, w1, w2, w3, w4, w5, w6⟩ := hw
          have hx := xor_ne (N u.toNat) r (m7 _) hF0
          have hat : u.toNat = 0 := by omega
          have h10 : g - 13 = 0 := by omega
          rw [h10] at w5 w6
          have hs1 : _root_.Go.Sx.E.i (eV x0 Y0 x2 n u r s q a b c d f g h A B C F K L M N) e35 = 1 := by
            have := app_sum (ρ := (eV x0 Y0 x2 n u r s q a b c d f g h A B C F K L M N)) rfl (.lit 0) (.tab [])
            exact this
          have hs2 : sumF (0 : Int).toNat (shf N) = 1 := rfl
          rw [hs2] at w6
          simp only [nd, sm, sn, sxx, eV, Bool.or_eq_false_iff, Bool.not_eq_false', decide_eq_true_eq] at hc0 hc2 hc4 hc6
          simp only [eV] at hs1
          rw [hat] at hx
          (try rw [hat] at hc0)
          (try rw [hat] at hc2)
          (try rw [hat] at hc4)
          (try rw [hat] at hc6)
          first
            | omega
            | (rw [hs1] at hc6; omega)
noncomputable def eH2_z1 : Hyp := { eh2.H with e := [((.v 2), (1, 255)), ((.v 1), (1, 1)), ((.v 10), (13, 13))] ++ eh2.H.e, b := [(e197, true)] ++ eh2.H.b }
noncomputable def eR2_z1 : LT := (.ite e252 (.jump 3 eT3 ⟨[(10, (.v 10))], [], [(7, (.av 7))]⟩) (.ite e216 (.jump 3 eT3 ⟨[(10, (.v 10))], [], [(7, (.av 7))]⟩) (.ite e306 (.jump 3 eT3 ⟨[(10, (.v 10))], [], [(7, (.av 7))]⟩) (.ite e308 (.jump 3 eT3 ⟨[(10, (.v 10))], [], [(7, (.av 7))]⟩) (.ret (.s (.bool (.blit false))) [])))))
theorem esg2_z1 : (segL Try.prog G Gh eD ehs [17, 23, 27] 3000 0 4 { eh2 with H := eH2_z1 }).map LT.bare = some eR2_z1 := by kernel_rfl
theorem evc2_z1 (hB : eBase x0 Y0 x2 n u r s q A B C F K) (hJ : eJ2 n u r s q a b c d f g h A B C F K L M N) (hH : Hyp.ok eH2_z1 (eV x0 Y0 x2 n u r s q a b c d f g h A B C F K L M N)) (hF0 : 1 ≤ r ∧ r ≤ 255) (hF1 : 1 ≤ u ∧ u ≤ 1) (hF2 : 13 ≤ g ∧ g ≤ 13) (hG0 : u < g) :
    eW2 x0 Y0 x2 (eV x0 Y0 x2 n u r s q a b c d f g h A B C F K L M N) eR2_z1 := by
  simp only [eW2, eR2_z1, LT.holds, retTrue]
  refine ⟨fun hc0 => ?_, fun hc0 => ?_⟩
  ·
    refine ⟨ehT3, ⟨n, u, r, s, q, a, b, c, d, f, g, h, A, B, C, F, K, L, M, N, (by kernel_rfl), hB, ?_⟩, ?_⟩
    · exact hJ
    exact Nat.lt_succ_self _
  ·
    refine ⟨fun hc2 => ?_, fun hc2 => ?_⟩
    ·
      refine ⟨ehT3, ⟨n, u, r, s, q, a, b, c, d, f, g, h, A, B, C, F, K, L, M, N, (by kernel_rfl), hB, ?_⟩, ?_⟩
      · exact hJ
      exact Nat.lt_succ_self _
    ·
      refine ⟨fun hc4 => ?_, fun hc4 => ?_⟩
      ·
        refine ⟨ehT3, ⟨n, u, r, s, q, a, b, c, d, f, g, h, A, B, C, F, K, L, M, N, (by kernel_rfl), hB, ?_⟩, ?_⟩
        · exact hJ
        exact Nat.lt_succ_self _
      ·
        refine ⟨fun hc6 => ?_, fun hc6 => ?_⟩
        ·
          refine ⟨ehT3, ⟨n, u, r, s, q, a, b, c, d, f, g, h, A, B, C, F, K, L, M, N, (by kernel_rfl), hB, ?_⟩, ?_⟩
          · exact hJ
          exact Nat.lt_succ_self _
        ·
          exfalso
          simp only [eBase] at hB
          obtain ⟨b0, b1, b2, b3, b4, c0, c1, c2, c3, c4, en0, en2, ea0, ea1, ea2, ea3, ea4, hs, hx0, _⟩ := hB
          simp only [eJ2] at hJ
          obtain ⟨l5, l6, l7, l8, l9, l10, l11, m5, m6, m7, hw, _⟩ := hJ
          obtain ⟨w0, w1, w2, w3, w4, w5, w6⟩ := hw
          have hx := xor_ne (N u.toNat) r (m7 _) hF0
          have hat : u.toNat = 1 := by omega
          have h10 : g - 13 = 0 := by omega
          rw [h10] at w5 w6
          have hs1 : _root_.Go.Sx.E.i (eV x0 Y0 x2 n u r s q a b c d f g h A B C F K L M N) e35 = 1 := by
            have := app_sum (ρ := (eV x0 Y0 x2 n u r s q a b c d f g h A B C F K L M N)) rfl (.lit 0) (.tab [])
            exact this
          have hs2 : sumF (0 : Int).toNat (shf N) = 1 := rfl
          rw [hs2] at w6
          simp only [nd, sm, sn, sxx, eV, Bool.or_eq_false_iff, Bool.not_eq_false', decide_eq_true_eq] at hc0 hc2 hc4 hc6
          simp only [eV] at hs1
          rw [hat] at hx
          (try rw [hat] at hc0)
          (try rw [hat] at hc2)
          (try rw [hat] at hc4)
          (try rw [hat] at hc6)
          first
            | omega
            | (rw [hs1] at hc6; omega)
noncomputable def eH2_z2 : Hyp := { eh2.H with e := [((.v 2), (1, 255)), ((.v 1), (2, 2)), ((.v 10), (13, 13))] ++ eh2.H.e, b := [(e197, true)] ++ eh2.H.b }
noncomputable def eR2_z2 : LT := (.ite e257 (.jump 3 eT3 ⟨[(10, (.v 10))], [], [(7, (.av 7))]⟩) (.ite e216 (.jump 3 eT3 ⟨[(10, (.v 10))], [], [(7, (.av 7))]⟩) (.ite e306 (.jump 3 eT3 ⟨[(10, (.v 10))], [], [(7, (.av 7))]⟩) (.ite e308 (.jump 3 eT3 ⟨[(10, (.v 10))], [], [(7, (.av 7))]⟩) (.ret (.s (.bool (.blit false))) [])))))
theorem esg2_z2 : (segL Try.prog G Gh eD ehs [17, 23, 27] 3000 0 4 { eh2 with H := eH2_z2 }).map LT.bare = some eR2_z2 := by kernel_rfl
theorem evc2_z2 (hB : eBase x0 Y0 x2 n u r s q A B C F K) (hJ : eJ2 n u r s q a b c d f g h A B C F K L M N) (hH : Hyp.ok eH2_z2 (eV x0 Y0 x2 n u r s q a b c d f g h A B C F K L M N)) (hF0 : 1 ≤ r ∧ r ≤ 255) (hF1 : 2 ≤ u ∧ u ≤ 2) (hF2 : 13 ≤ g ∧ g ≤ 13) (hG0 : u < g) :
    eW2 x0 Y0 x2 (eV x0 Y0 x2 n u r s q a b c d f g h A B C F K L M N) eR2_z2 := by
  simp only [eW2, eR2_z2, LT.holds, retTrue]
  refine ⟨fun hc0 => ?_, fun hc0 => ?_⟩
  ·
    refine ⟨ehT3, ⟨n, u, r, s, q, a, b, c, d, f, g, h, A, B, C, F, K, L, M, N, (by kernel_rfl), hB, ?_⟩, ?_⟩
    · exact hJ
    exact Nat.lt_succ_self _
  ·
    refine ⟨fun hc2 => ?_, fun hc2 => ?_⟩
    ·
      refine ⟨ehT3, ⟨n, u, r, s, q, a, b, c, d, f, g, h, A, B, C, F, K, L, M, N, (by kernel_rfl), hB, ?_⟩, ?_⟩
      · exact hJ
      exact Nat.lt_succ_self _
    ·
      refine ⟨fun hc4 => ?_, fun hc4 => ?_⟩
      ·
        refine ⟨ehT3, ⟨n, u, r, s, q, a, b, c, d, f, g, h, A, B, C, F, K, L, M, N, (by kernel_rfl), hB, ?_⟩, ?_⟩
        · exact hJ
        exact Nat.lt_succ_self _
      ·
        refine ⟨fun hc6 => ?_, fun hc6 => ?_⟩
        ·
          refine ⟨ehT3, ⟨n, u, r, s, q, a, b, c, d, f, g, h, A, B, C, F, K, L, M, N, (by kernel_rfl), hB, ?_⟩, ?_⟩
          · exact hJ
          exact Nat.lt_succ_self _
        ·
          exfalso
          simp only [eBase] at hB
          obtain ⟨b0, b1, b2, b3, b4, c0, c1, c2, c3, c4, en0, en2, ea0, ea1, ea2, ea3, ea4, hs, hx0, _⟩ := hB
          simp only [eJ2] at hJ
          obtain ⟨l5, l6, l7, l8, l9, l10, l11, m5, m6, m7, hw, _⟩ := hJ
          obtain ⟨w0, w1, w2, w3, w4, w5, w6⟩ := hw
          have hx := xor_ne (N u.toNat) r (m7 _) hF0
          have hat : u.toNat = 2 := by omega
          have h10 : g - 13 = 0 := by omega
          rw [h10] at w5 w6
          have hs1 : _root_.Go.Sx.E.i (eV x0 Y0 x2 n u r s q a b c d f g h A B C F K L M N) e35 = 1 := by
            have := app_sum (ρ := (eV x0 Y0 x2 n u r s q a b c d f g h A B C F K L M N)) rfl (.lit 0) (.tab [])
            exact this
          have hs2 : sumF (0 : Int).toNat (shf N) = 1 := rfl
          rw [hs2] at w6
          simp only [nd, sm, sn, sxx, eV, Bool.or_eq_false_iff, Bool.not_eq_false', decide_eq_true_eq] at hc0 hc2 hc4 hc6
          simp only [eV] at hs1
          rw [hat] at hx
          (try rw [hat] at hc0)
          (try rw [hat] at hc2)
          (try rw [hat] at hc4)
          (try rw [hat] at hc6)
          first
            | omega
            | (rw [hs1] at hc6; omega)
noncomputable def eH2_z3 : Hyp := { eh2.H with e := [((.v 2), (1, 255)), ((.v 1), (3, 3)), ((.v 10), (13, 13))] ++ eh2.H.e, b := [(e197, true)] ++ eh2.H.b }
noncomputable def eR2_z3 : LT := (.ite e262 (.jump 3 eT3 ⟨[(10, (.v 10))], [], [(7, (.av 7))]⟩) (.ite e216 (.jump 3 eT3 ⟨[(10, (.v 10))], [], [(7, (.av 7))]⟩) (.ite e306 (.jump 3 eT3 ⟨[(10, (.v 10))], [], [(7, (.av 7))]⟩) (.ite e308 (.jump 3 eT3 ⟨[(10, (.v 10))], [], [(7, (.av 7))]⟩) (.ret (.s (.bool (.blit false))) [])))))
theorem esg2_z3 : (segL Try.prog G Gh eD ehs [17, 23, 27] 3000 0 4 { eh2 with H := eH2_z3 }).map LT.bare = some eR2_z3 := by kernel_rfl
theorem evc2_z3 (hB : eBase x0 Y0 x2 n u r s q A B C F K) (hJ : eJ2 n u r s q a b c d f g h A B C F K L M N) (hH : Hyp.ok eH2_z3 (eV x0 Y0 x2 n u r s q a b c d f g h A B C F K L M N)) (hF0 : 1 ≤ r ∧ r ≤ 255) (hF1 : 3 ≤ u ∧ u ≤ 3) (hF2 : 13 ≤ g ∧ g ≤ 13) (hG0 : u < g) :
    eW2 x0 Y0 x2 (eV x0 Y0 x2 n u r s q a b c d f g h A B C F K L M N) eR2_z3 := by
  simp only [eW2, eR2_z3, LT.holds, retTrue]
  refine ⟨fun hc0 => ?_, fun hc0 => ?_⟩
  ·
    refine ⟨ehT3, ⟨n, u, r, s, q, a, b, c, d, f, g, h, A, B, C, F, K, L, M, N, (by kernel_rfl), hB, ?_⟩, ?_⟩
    · exact hJ
    exact Nat.lt_succ_self _
  ·
    refine ⟨fun hc2 => ?_, fun hc2 => ?_⟩
    ·
      refine ⟨ehT3, ⟨n, u, r, s, q, a, b, c, d, f, g, h, A, B, C, F, K, L, M, N, (by kernel_rfl), hB, ?_⟩, ?_⟩
      · exact hJ
      exact Nat.lt_succ_self _
    ·
      refine ⟨fun hc4 => ?_, fun hc4 => ?_⟩
      ·
        refine ⟨ehT3, ⟨n, u, r, s, q, a, b, c, d, f, g, h, A, B, C, F, K, L, M, N, (by kernel_rfl), hB, ?_⟩, ?_⟩
        · exact hJ
        exact Nat.lt_succ_self _
      ·
        refine ⟨fun hc6 => ?_, fun hc6 => ?_⟩
        ·
          refine ⟨ehT3, ⟨n, u, r, s, q, a, b, c, d, f, g, h, A, B, C, F, K, L, M, N, (by kernel_rfl), hB, ?_⟩, ?_⟩
          · exact hJ
          exact Nat.lt_succ_self _
        ·
          exfalso
          simp only [eBase] at hB
          obtain ⟨b0, b1, b2, b3, b4, c0, c1, c2, c3, c4, en0, en2, ea0, ea1, ea2, ea3, ea4, hs, hx0, _⟩ := hB
          simp only [eJ2] at hJ
          obtain ⟨l5, l6, l7, l8, l9, l10, l11, m5, m6, m7, hw, _⟩ := hJ
          obtain ⟨w0, w1, w2, w3, w4, w5, w6⟩ := hw
          have hx := xor_ne (N u.toNat) r (m7 _) hF0
          have hat : u.toNat = 3 := by omega
          have h10 : g - 13 = 0 := by omega
          rw [h10] at w5 w6
          have hs1 : _root_.Go.Sx.E.i (eV x0 Y0 x2 n u r s q a b c d f g h A B C F K L M N) e35 = 1 := by
            have := app_sum (ρ := (eV x0 Y0 x2 n u r s q a b c d f g h A B C F K L M N)) rfl (.lit 0) (.tab [])
            exact this
          have hs2 : sumF (0 : Int).toNat (shf N) = 1 := rfl
          rw [hs2] at w6
          simp only [nd, sm, sn, sxx, eV, Bool.or_eq_false_iff, Bool.not_eq_false', decide_eq_true_eq] at hc0 hc2 hc4 hc6
          simp only [eV] at hs1
          rw [hat] at hx
          (try rw [hat] at hc0)
          (try rw [hat] at hc2)
          (try rw [hat] at hc4)
          (try rw [hat] at hc6)
          first
            | omega
            | (rw [hs1] at hc6; omega)
noncomputable def eH2_z4 : Hyp := { eh2.H with e := [((.v 2), (1, 255)), ((.v 1), (4, 4)), ((.v 10), (13, 13))] ++ eh2.H.e, b := [(e197, true)] ++ eh2.H.b }
noncomputable def eR2_z4 : LT := (.ite e265 (.jump 3 eT3 ⟨[(10, (.v 10))], [], [(7, (.av 7))]⟩) (.ite e267 (.jump 3 eT3 ⟨[(10, (.v 10))], [], [(7, (.av 7))]⟩) (.ite e306 (.jump 3 eT3 ⟨[(10, (.v 10))], [], [(7, (.av 7))]⟩) (.ite e308 (.jump 3 eT3 ⟨[(10, (.v 10))], [], [(7, (.av 7))]⟩) (.ret (.s (.bool (.blit false))) [])))))
theorem esg2_z4 : (segL Try.prog G Gh eD ehs [17, 23, 27] 3000 0 4 { eh2 with H := eH2_z4 }).map LT.bare = some eR2_z4 := by kernel_rfl
theorem evc2_z4 (hB : eBase x0 Y0 x2 n u r s q A B C F K) (hJ : eJ2 n u r s q a b c d f g h A B C F K L M N) (hH : Hyp.ok eH2_z4 (eV x0 Y0 x2 n u r s q a b c d f g h A B C F K L M N)) (hF0 : 1 ≤ r ∧ r ≤ 255) (hF1 : 4 ≤ u ∧ u ≤ 4) (hF2 : 13 ≤ g ∧ g ≤ 13) (hG0 : u < g) :
    eW2 x0 Y0 x2 (eV x0 Y0 x2 n u r s q a b c d f g h A B C F K L M N) eR2_z4 := by
  simp only [eW2, eR2_z4, LT.holds, retTrue]
  refine ⟨fun hc0 => ?_, fun hc0 => ?_⟩
  ·
    refine ⟨ehT3, ⟨n, u, r, s, q, a, b, c, d, f, g, h, A, B, C, F, K, L, M, N, (by kernel_rfl), hB, ?_⟩, ?_⟩
    · exact hJ
    exact Nat.lt_succ_self _
  ·
    refine ⟨fun hc2 => ?_, fun hc2 => ?_⟩
    ·
      refine ⟨ehT3, ⟨n, u, r, s, q, a, b, c, d, f, g, h, A, B, C, F, K, L, M, N, (by kernel_rfl), hB, ?_⟩, ?_⟩
      · exact hJ
      exact Nat.lt_succ_self _
    ·
      refine ⟨fun hc4 => ?_, fun hc4 => ?_⟩
      ·
        refine ⟨ehT3, ⟨n, u, r, s, q, a, b, c, d, f, g, h, A, B, C, F, K, L, M, N, (by kernel_rfl), hB, ?_⟩, ?_⟩
        · exact hJ
        exact Nat.lt_succ_self _
      ·
        refine ⟨fun hc6 => ?_, fun hc6 => ?_⟩
        ·
          refine ⟨ehT3, ⟨n, u, r, s, q, a, b, c, d, f, g, h, A, B, C, F, K, L, M, N, (by kernel_rfl), hB, ?_⟩, ?_⟩
          · exact hJ
          exact Nat.lt_succ_self _
        ·
          exfalso
          simp only [eBase] at hB
          obtain ⟨b0, b1, b2, b3, b4, c0, c1, c2, c3, c4, en0, en2, ea0, ea1, ea2, ea3, ea4, hs, hx0, _⟩ := hB
          simp only [eJ2] at hJ
          obtain ⟨l5, l6, l7, l8, l9, l10, l11, m5, m6, m7, hw, _⟩ := hJ
          obtain ⟨w0, w1, w2, w3, w4, w5, w6⟩ := hw
          have hx := xor_ne (N u.toNat) r (m7 _) hF0
          have hat : u.toNat = 4 := by omega
          have h10 : g - 13 = 0 := by omega
          rw [h10] at w5 w6
          have hs1 : _root_.Go.Sx.E.i (eV x0 Y0 x2 n u r s q a b c d f g h A B C F K L M N) e35 = 1 := by
            have := app_sum (ρ := (eV x0 Y0 x2 n u r s q a b c d f g h A B C F K L M N)) rfl (.lit 0) (.tab [])
            exact this
          have hs2 : sumF (0 : Int).toNat (shf N) = 1 := rfl
          rw [hs2] at w6
          simp only [nd, sm, sn, sxx, eV, Bool.or_eq_false_iff, Bool.not_eq_false', decide_eq_true_eq] at hc0 hc2 hc4 hc6
          simp only [eV] at hs1
          rw [hat] at hx
          (try rw [hat] at hc0)
          (try rw [hat] at hc2)
          (try rw [hat] at hc4)
          (try rw [hat] at hc6)
          first
            | omega
            | (rw [hs1] at hc6; omega)
end Go.Proofs.Ytflamojcdfmimaa.SaveChanged
