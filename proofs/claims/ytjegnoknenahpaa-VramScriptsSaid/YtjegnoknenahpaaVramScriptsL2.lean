/- A part of the law VramScripts, which returns true for every input. The ports, in whatever order they are written and read, saving and loading between, do to the memories what the document says, and read what it says. No condition. -/
import Derived.Test.YtjegnoknenahpaaVramScriptsB
namespace Go.Proofs.Ytjegnoknenahpaa.VramScripts
open Go.Sx Go.ChangeShapes Go.WideShapes Go.ChangeAt Go.RowKit
set_option linter.unusedVariables false
set_option linter.unusedSimpArgs false
set_option maxRecDepth 100000
set_option maxHeartbeats 40000000
variable {x0 : Ext} {n a b c d f g h i j : Int} {z0 : Bool} {A B C L M N : Nat → Int}
noncomputable def eH0_w24_3_y : Hyp := { eh0.H with e := [((.v 1), (0, 9223372036854775806)), (e0, (0, 0)), (e1, (24, 24)), (e39, (3, 3)), ((.v 6), (0, 127))] ++ eh0.H.e, b := [(e3, true)] ++ eh0.H.b }
theorem esg0_w24_3_y : (segL Try.prog G Gh eD ehs [] 3000 0 7 { eh0 with H := eH0_w24_3_y }).map LT.bare = some (.jump 0 eT0 ⟨[(2, (.v 2)), (5, (.v 5)), (9, (.v 9)), (8, e130), (6, (.v 6)), (7, (.v 7)), (4, (.v 4)), (3, (.v 3)), (1, e6)], [(0, (.bv 0))], [(4, (.av 4)), (5, (.av 5)), (3, e160)]⟩) := by kernel_rfl
theorem evc0_w24_3_y (hB : eBase x0 n A B C) (hJ : eJ0 n a b c d f g h i j z0 A B C L M N) (hH : Hyp.ok eH0_w24_3_y (eV x0 n a b c d f g h i j z0 A B C L M N)) (hF0 : 0 ≤ a ∧ a ≤ 9223372036854775806) (hF1 : 0 ≤ A a.toNat ∧ A a.toNat ≤ 0) (hF2 : 24 ≤ B a.toNat ∧ B a.toNat ≤ 24) (hF3 : 3 ≤ (g / 4 % 4) ∧ (g / 4 % 4) ≤ 3) (hF4 : 0 ≤ g ∧ g ≤ 127) (hG0 : a < n) :
    eW x0 (eV x0 n a b c d f g h i j z0 A B C L M N) (.jump 0 eT0 ⟨[(2, (.v 2)), (5, (.v 5)), (9, (.v 9)), (8, e130), (6, (.v 6)), (7, (.v 7)), (4, (.v 4)), (3, (.v 3)), (1, e6)], [(0, (.bv 0))], [(4, (.av 4)), (5, (.av 5)), (3, e160)]⟩) := by
  simp only [eW, LT.holds, retTrue]
  have hB3 := hB
  have hJ3 := hJ
  simp only [eBase] at hB3
  simp only [eJ0] at hJ3
  obtain ⟨b0, c0, c1, c2, en, ea0, ea1, ea2, _⟩ := hB3
  obtain ⟨l1, l2, l3, l4, l5, l6, l7, l8, l9, m3, m4, m5, hk, _⟩ := hJ3
  refine ⟨ehT0, ⟨n, (_root_.Go.Sx.E.i (eV x0 n a b c d f g h i j z0 A B C L M N) e6), b, c, d, f, g, h, (_root_.Go.Sx.E.i (eV x0 n a b c d f g h i j z0 A B C L M N) e130), j, z0, A, B, C, (_root_.Go.Sx.E.a (eV x0 n a b c d f g h i j z0 A B C L M N) e160), M, N, (by kernel_rfl), hB, ?_⟩, ?_⟩
  · exact ⟨(show 0 ≤ a + 1 ∧ a + 1 ≤ 9223372036854775807 by omega), l2, l3, l4, l5, l6, l7, (rng_at hH (by kernel_rfl)), l9, (arr_at hH (by kernel_rfl)), m4, m5, (show a + 1 ≤ n by omega), trivial⟩
  show (n - (a + 1)).toNat < (n - a).toNat
  omega
noncomputable def eH0_w25_0_y : Hyp := { eh0.H with e := [((.v 1), (0, 9223372036854775806)), (e0, (0, 0)), (e1, (25, 25)), (e39, (0, 0)), ((.v 6), (128, 255))] ++ eh0.H.e, b := [(e3, true)] ++ eh0.H.b }
theorem esg0_w25_0_y : (segL Try.prog G Gh eD ehs [] 3000 0 7 { eh0 with H := eH0_w25_0_y }).map LT.bare = some (.jump 0 eT0 ⟨[(2, (.v 2)), (5, (.v 5)), (9, (.v 9)), (8, e130), (6, (.v 6)), (7, (.v 7)), (4, (.v 4)), (3, (.v 3)), (1, e6)], [(0, (.bv 0))], [(4, (.av 4)), (5, (.av 5)), (3, e163)]⟩) := by kernel_rfl
theorem evc0_w25_0_y (hB : eBase x0 n A B C) (hJ : eJ0 n a b c d f g h i j z0 A B C L M N) (hH : Hyp.ok eH0_w25_0_y (eV x0 n a b c d f g h i j z0 A B C L M N)) (hF0 : 0 ≤ a ∧ a ≤ 9223372036854775806) (hF1 : 0 ≤ A a.toNat ∧ A a.toNat ≤ 0) (hF2 : 25 ≤ B a.toNat ∧ B a.toNat ≤ 25) (hF3 : 0 ≤ (g / 4 % 4) ∧ (g / 4 % 4) ≤ 0) (hF4 : 128 ≤ g ∧ g ≤ 255) (hG0 : a < n) :
    eW x0 (eV x0 n a b c d f g h i j z0 A B C L M N) (.jump 0 eT0 ⟨[(2, (.v 2)), (5, (.v 5)), (9, (.v 9)), (8, e130), (6, (.v 6)), (7, (.v 7)), (4, (.v 4)), (3, (.v 3)), (1, e6)], [(0, (.bv 0))], [(4, (.av 4)), (5, (.av 5)), (3, e163)]⟩) := by
  simp only [eW, LT.holds, retTrue]
  have hB3 := hB
  have hJ3 := hJ
  simp only [eBase] at hB3
  simp only [eJ0] at hJ3
  obtain ⟨b0, c0, c1, c2, en, ea0, ea1, ea2, _⟩ := hB3
  obtain ⟨l1, l2, l3, l4, l5, l6, l7, l8, l9, m3, m4, m5, hk, _⟩ := hJ3
  refine ⟨ehT0, ⟨n, (_root_.Go.Sx.E.i (eV x0 n a b c d f g h i j z0 A B C L M N) e6), b, c, d, f, g, h, (_root_.Go.Sx.E.i (eV x0 n a b c d f g h i j z0 A B C L M N) e130), j, z0, A, B, C, (_root_.Go.Sx.E.a (eV x0 n a b c d f g h i j z0 A B C L M N) e163), M, N, (by kernel_rfl), hB, ?_⟩, ?_⟩
  · exact ⟨(show 0 ≤ a + 1 ∧ a + 1 ≤ 9223372036854775807 by omega), l2, l3, l4, l5, l6, l7, (rng_at hH (by kernel_rfl)), l9, (arr_at hH (by kernel_rfl)), m4, m5, (show a + 1 ≤ n by omega), trivial⟩
  show (n - (a + 1)).toNat < (n - a).toNat
  omega
noncomputable def eH0_w25_0_n : Hyp := { eh0.H with e := [((.v 1), (0, 9223372036854775806)), (e0, (0, 0)), (e1, (25, 25)), (e39, (0, 0)), ((.v 6), (0, 127))] ++ eh0.H.e, b := [(e3, true)] ++ eh0.H.b }
theorem esg0_w25_0_n : (segL Try.prog G Gh eD ehs [] 3000 0 7 { eh0 with H := eH0_w25_0_n }).map LT.bare = some (.jump 0 eT0 ⟨[(2, (.v 2)), (5, (.v 5)), (9, (.v 9)), (8, (.v 8)), (6, (.v 6)), (7, (.v 7)), (4, (.v 4)), (3, (.v 3)), (1, e6)], [(0, (.bv 0))], [(4, (.av 4)), (5, (.av 5)), (3, e163)]⟩) := by kernel_rfl
theorem evc0_w25_0_n (hB : eBase x0 n A B C) (hJ : eJ0 n a b c d f g h i j z0 A B C L M N) (hH : Hyp.ok eH0_w25_0_n (eV x0 n a b c d f g h i j z0 A B C L M N)) (hF0 : 0 ≤ a ∧ a ≤ 9223372036854775806) (hF1 : 0 ≤ A a.toNat ∧ A a.toNat ≤ 0) (hF2 : 25 ≤ B a.toNat ∧ B a.toNat ≤ 25) (hF3 : 0 ≤ (g / 4 % 4) ∧ (g / 4 % 4) ≤ 0) (hF4 : 0 ≤ g ∧ g ≤ 127) (hG0 : a < n) :
    eW x0 (eV x0 n a b c d f g h i j z0 A B C L M N) (.jump 0 eT0 ⟨[(2, (.v 2)), (5, (.v 5)), (9, (.v 9)), (8, (.v 8)), (6, (.v 6)), (7, (.v 7)), (4, (.v 4)), (3, (.v 3)), (1, e6)], [(0, (.bv 0))], [(4, (.av 4)), (5, (.av 5)), (3, e163)]⟩) := by
  simp only [eW, LT.holds, retTrue]
  have hB3 := hB
  have hJ3 := hJ
  simp only [eBase] at hB3
  simp only [eJ0] at hJ3
  obtain ⟨b0, c0, c1, c2, en, ea0, ea1, ea2, _⟩ := hB3
  obtain ⟨l1, l2, l3, l4, l5, l6, l7, l8, l9, m3, m4, m5, hk, _⟩ := hJ3
  refine ⟨ehT0, ⟨n, (_root_.Go.Sx.E.i (eV x0 n a b c d f g h i j z0 A B C L M N) e6), b, c, d, f, g, h, i, j, z0, A, B, C, (_root_.Go.Sx.E.a (eV x0 n a b c d f g h i j z0 A B C L M N) e163), M, N, (by kernel_rfl), hB, ?_⟩, ?_⟩
  · exact ⟨(show 0 ≤ a + 1 ∧ a + 1 ≤ 9223372036854775807 by omega), l2, l3, l4, l5, l6, l7, l8, l9, (arr_at hH (by kernel_rfl)), m4, m5, (show a + 1 ≤ n by omega), trivial⟩
  show (n - (a + 1)).toNat < (n - a).toNat
  omega
noncomputable def eH0_w25_1_y : Hyp := { eh0.H with e := [((.v 1), (0, 9223372036854775806)), (e0, (0, 0)), (e1, (25, 25)), (e39, (1, 1)), ((.v 6), (128, 255))] ++ eh0.H.e, b := [(e3, true)] ++ eh0.H.b }
theorem esg0_w25_1_y : (segL Try.prog G Gh eD ehs [] 3000 0 7 { eh0 with H := eH0_w25_1_y }).map LT.bare = some (.jump 0 eT0 ⟨[(2, (.v 2)), (5, (.v 5)), (9, (.v 9)), (8, e130), (6, (.v 6)), (7, (.v 7)), (4, (.v 4)), (3, (.v 3)), (1, e6)], [(0, (.bv 0))], [(4, (.av 4)), (5, (.av 5)), (3, e166)]⟩) := by kernel_rfl
theorem evc0_w25_1_y (hB : eBase x0 n A B C) (hJ : eJ0 n a b c d f g h i j z0 A B C L M N) (hH : Hyp.ok eH0_w25_1_y (eV x0 n a b c d f g h i j z0 A B C L M N)) (hF0 : 0 ≤ a ∧ a ≤ 9223372036854775806) (hF1 : 0 ≤ A a.toNat ∧ A a.toNat ≤ 0) (hF2 : 25 ≤ B a.toNat ∧ B a.toNat ≤ 25) (hF3 : 1 ≤ (g / 4 % 4) ∧ (g / 4 % 4) ≤ 1) (hF4 : 128 ≤ g ∧ g ≤ 255) (hG0 : a < n) :
    eW x0 (eV x0 n a b c d f g h i j z0 A B C L M N) (.jump 0 eT0 ⟨[(2, (.v 2)), (5, (.v 5)), (9, (.v 9)), (8, e130), (6, (.v 6)), (7, (.v 7)), (4, (.v 4)), (3, (.v 3)), (1, e6)], [(0, (.bv 0))], [(4, (.av 4)), (5, (.av 5)), (3, e166)]⟩) := by
  simp only [eW, LT.holds, retTrue]
  have hB3 := hB
  have hJ3 := hJ
  simp only [eBase] at hB3
  simp only [eJ0] at hJ3
  obtain ⟨b0, c0, c1, c2, en, ea0, ea1, ea2, _⟩ := hB3
  obtain ⟨l1, l2, l3, l4, l5, l6, l7, l8, l9, m3, m4, m5, hk, _⟩ := hJ3
  refine ⟨ehT0, ⟨n, (_root_.Go.Sx.E.i (eV x0 n a b c d f g h i j z0 A B C L M N) e6), b, c, d, f, g, h, (_root_.Go.Sx.E.i (eV x0 n a b c d f g h i j z0 A B C L M N) e130), j, z0, A, B, C, (_root_.Go.Sx.E.a (eV x0 n a b c d f g h i j z0 A B C L M N) e166), M, N, (by kernel_rfl), hB, ?_⟩, ?_⟩
  · exact ⟨(show 0 ≤ a + 1 ∧ a + 1 ≤ 9223372036854775807 by omega), l2, l3, l4, l5, l6, l7, (rng_at hH (by kernel_rfl)), l9, (arr_at hH (by kernel_rfl)), m4, m5, (show a + 1 ≤ n by omega), trivial⟩
  show (n - (a + 1)).toNat < (n - a).toNat
  omega
noncomputable def eH0_w25_1_n : Hyp := { eh0.H with e := [((.v 1), (0, 9223372036854775806)), (e0, (0, 0)), (e1, (25, 25)), (e39, (1, 1)), ((.v 6), (0, 127))] ++ eh0.H.e, b := [(e3, true)] ++ eh0.H.b }
theorem esg0_w25_1_n : (segL Try.prog G Gh eD ehs [] 3000 0 7 { eh0 with H := eH0_w25_1_n }).map LT.bare = some (.jump 0 eT0 ⟨[(2, (.v 2)), (5, (.v 5)), (9, (.v 9)), (8, (.v 8)), (6, (.v 6)), (7, (.v 7)), (4, (.v 4)), (3, (.v 3)), (1, e6)], [(0, (.bv 0))], [(4, (.av 4)), (5, (.av 5)), (3, e166)]⟩) := by kernel_rfl
theorem evc0_w25_1_n (hB : eBase x0 n A B C) (hJ : eJ0 n a b c d f g h i j z0 A B C L M N) (hH : Hyp.ok eH0_w25_1_n (eV x0 n a b c d f g h i j z0 A B C L M N)) (hF0 : 0 ≤ a ∧ a ≤ 9223372036854775806) (hF1 : 0 ≤ A a.toNat ∧ A a.toNat ≤ 0) (hF2 : 25 ≤ B a.toNat ∧ B a.toNat ≤ 25) (hF3 : 1 ≤ (g / 4 % 4) ∧ (g / 4 % 4) ≤ 1) (hF4 : 0 ≤ g ∧ g ≤ 127) (hG0 : a < n) :
    eW x0 (eV x0 n a b c d f g h i j z0 A B C L M N) (.jump 0 eT0 ⟨[(2, (.v 2)), (5, (.v 5)), (9, (.v 9)), (8, (.v 8)), (6, (.v 6)), (7, (.v 7)), (4, (.v 4)), (3, (.v 3)), (1, e6)], [(0, (.bv 0))], [(4, (.av 4)), (5, (.av 5)), (3, e166)]⟩) := by
  simp only [eW, LT.holds, retTrue]
  have hB3 := hB
  have hJ3 := hJ
  simp only [eBase] at hB3
  simp only [eJ0] at hJ3
  obtain ⟨b0, c0, c1, c2, en, ea0, ea1, ea2, _⟩ := hB3
  obtain ⟨l1, l2, l3, l4, l5, l6, l7, l8, l9, m3, m4, m5, hk, _⟩ := hJ3
  refine ⟨ehT0, ⟨n, (_root_.Go.Sx.E.i (eV x0 n a b c d f g h i j z0 A B C L M N) e6), b, c, d, f, g, h, i, j, z0, A, B, C, (_root_.Go.Sx.E.a (eV x0 n a b c d f g h i j z0 A B C L M N) e166), M, N, (by kernel_rfl), hB, ?_⟩, ?_⟩
  · exact ⟨(show 0 ≤ a + 1 ∧ a + 1 ≤ 9223372036854775807 by omega), l2, l3, l4, l5, l6, l7, l8, l9, (arr_at hH (by kernel_rfl)), m4, m5, (show a + 1 ≤ n by omega), trivial⟩
  show (n - (a + 1)).toNat < (n - a).toNat
  omega
noncomputable def eH0_w25_2_y : Hyp := { eh0.H with e := [((.v 1), (0, 9223372036854775806)), (e0, (0, 0)), (e1, (25, 25)), (e39, (2, 2)), ((.v 6), (128, 255))] ++ eh0.H.e, b := [(e3, true)] ++ eh0.H.b }
theorem esg0_w25_2_y : (segL Try.prog G Gh eD ehs [] 3000 0 7 { eh0 with H := eH0_w25_2_y }).map LT.bare = some (.jump 0 eT0 ⟨[(2, (.v 2)), (5, (.v 5)), (9, (.v 9)), (8, e130), (6, (.v 6)), (7, (.v 7)), (4, (.v 4)), (3, (.v 3)), (1, e6)], [(0, (.bv 0))], [(4, (.av 4)), (5, (.av 5)), (3, e169)]⟩) := by kernel_rfl
theorem evc0_w25_2_y (hB : eBase x0 n A B C) (hJ : eJ0 n a b c d f g h i j z0 A B C L M N) (hH : Hyp.ok eH0_w25_2_y (eV x0 n a b c d f g h i j z0 A B C L M N)) (hF0 : 0 ≤ a ∧ a ≤ 9223372036854775806) (hF1 : 0 ≤ A a.toNat ∧ A a.toNat ≤ 0) (hF2 : 25 ≤ B a.toNat ∧ B a.toNat ≤ 25) (hF3 : 2 ≤ (g / 4 % 4) ∧ (g / 4 % 4) ≤ 2) (hF4 : 128 ≤ g ∧ g ≤ 255) (hG0 : a < n) :
    eW x0 (eV x0 n a b c d f g h i j z0 A B C L M N) (.jump 0 eT0 ⟨[(2, (.v 2)), (5, (.v 5)), (9, (.v 9)), (8, e130), (6, (.v 6)), (7, (.v 7)), (4, (.v 4)), (3, (.v 3)), (1, e6)], [(0, (.bv 0))], [(4, (.av 4)), (5, (.av 5)), (3, e169)]⟩) := by
  simp only [eW, LT.holds, retTrue]
  have hB3 := hB
  have hJ3 := hJ
  simp only [eBase] at hB3
  simp only [eJ0] at hJ3
  obtain ⟨b0, c0, c1, c2, en, ea0, ea1, ea2, _⟩ := hB3
  obtain ⟨l1, l2, l3, l4, l5, l6, l7, l8, l9, m3, m4, m5, hk, _⟩ := hJ3
  refine ⟨ehT0, ⟨n, (_root_.Go.Sx.E.i (eV x0 n a b c d f g h i j z0 A B C L M N) e6), b, c, d, f, g, h, (_root_.Go.Sx.E.i (eV x0 n a b c d f g h i j z0 A B C L M N) e130), j, z0, A, B, C, (_root_.Go.Sx.E.a (eV x0 n a b c d f g h i j z0 A B C L M N) e169), M, N, (by kernel_rfl), hB, ?_⟩, ?_⟩
  · exact ⟨(show 0 ≤ a + 1 ∧ a + 1 ≤ 9223372036854775807 by omega), l2, l3, l4, l5, l6, l7, (rng_at hH (by kernel_rfl)), l9, (arr_at hH (by kernel_rfl)), m4, m5, (show a + 1 ≤ n by omega), trivial⟩
  show (n - (a + 1)).toNat < (n - a).toNat
  omega
noncomputable def eH0_w25_2_n : Hyp := { eh0.H with e := [((.v 1), (0, 9223372036854775806)), (e0, (0, 0)), (e1, (25, 25)), (e39, (2, 2)), ((.v 6), (0, 127))] ++ eh0.H.e, b := [(e3, true)] ++ eh0.H.b }
theorem esg0_w25_2_n : (segL Try.prog G Gh eD ehs [] 3000 0 7 { eh0 with H := eH0_w25_2_n }).map LT.bare = some (.jump 0 eT0 ⟨[(2, (.v 2)), (5, (.v 5)), (9, (.v 9)), (8, (.v 8)), (6, (.v 6)), (7, (.v 7)), (4, (.v 4)), (3, (.v 3)), (1, e6)], [(0, (.bv 0))], [(4, (.av 4)), (5, (.av 5)), (3, e169)]⟩) := by kernel_rfl
theorem evc0_w25_2_n (hB : eBase x0 n A B C) (hJ : eJ0 n a b c d f g h i j z0 A B C L M N) (hH : Hyp.ok eH0_w25_2_n (eV x0 n a b c d f g h i j z0 A B C L M N)) (hF0 : 0 ≤ a ∧ a ≤ 9223372036854775806) (hF1 : 0 ≤ A a.toNat ∧ A a.toNat ≤ 0) (hF2 : 25 ≤ B a.toNat ∧ B a.toNat ≤ 25) (hF3 : 2 ≤ (g / 4 % 4) ∧ (g / 4 % 4) ≤ 2) (hF4 : 0 ≤ g ∧ g ≤ 127) (hG0 : a < n) :
    eW x0 (eV x0 n a b c d f g h i j z0 A B C L M N) (.jump 0 eT0 ⟨[(2, (.v 2)), (5, (.v 5)), (9, (.v 9)), (8, (.v 8)), (6, (.v 6)), (7, (.v 7)), (4, (.v 4)), (3, (.v 3)), (1, e6)], [(0, (.bv 0))], [(4, (.av 4)), (5, (.av 5)), (3, e169)]⟩) := by
  simp only [eW, LT.holds, retTrue]
  have hB3 := hB
  have hJ3 := hJ
  simp only [eBase] at hB3
  simp only [eJ0] at hJ3
  obtain ⟨b0, c0, c1, c2, en, ea0, ea1, ea2, _⟩ := hB3
  obtain ⟨l1, l2, l3, l4, l5, l6, l7, l8, l9, m3, m4, m5, hk, _⟩ := hJ3
  refine ⟨ehT0, ⟨n, (_root_.Go.Sx.E.i (eV x0 n a b c d f g h i j z0 A B C L M N) e6), b, c, d, f, g, h, i, j, z0, A, B, C, (_root_.Go.Sx.E.a (eV x0 n a b c d f g h i j z0 A B C L M N) e169), M, N, (by kernel_rfl), hB, ?_⟩, ?_⟩
  · exact ⟨(show 0 ≤ a + 1 ∧ a + 1 ≤ 9223372036854775807 by omega), l2, l3, l4, l5, l6, l7, l8, l9, (arr_at hH (by kernel_rfl)), m4, m5, (show a + 1 ≤ n by omega), trivial⟩
  show (n - (a + 1)).toNat < (n - a).toNat
  omega
noncomputable def eH0_w25_3_y : Hyp := { eh0.H with e := [((.v 1), (0, 9223372036854775806)), (e0, (0, 0)), (e1, (25, 25)), (e39, (3, 3)), ((.v 6), (128, 255))] ++ eh0.H.e, b := [(e3, true)] ++ eh0.H.b }
theorem esg0_w25_3_y : (segL Try.prog G Gh eD ehs [] 3000 0 7 { eh0 with H := eH0_w25_3_y }).map LT.bare = some (.jump 0 eT0 ⟨[(2, (.v 2)), (5, (.v 5)), (9, (.v 9)), (8, e130), (6, (.v 6)), (7, (.v 7)), (4, (.v 4)), (3, (.v 3)), (1, e6)], [(0, (.bv 0))], [(4, (.av 4)), (5, (.av 5)), (3, e172)]⟩) := by kernel_rfl
theorem evc0_w25_3_y (hB : eBase x0 n A B C) (hJ : eJ0 n a b c d f g h i j z0 A B C L M N) (hH : Hyp.ok eH0_w25_3_y (eV x0 n a b c d f g h i j z0 A B C L M N)) (hF0 : 0 ≤ a ∧ a ≤ 9223372036854775806) (hF1 : 0 ≤ A a.toNat ∧ A a.toNat ≤ 0) (hF2 : 25 ≤ B a.toNat ∧ B a.toNat ≤ 25) (hF3 : 3 ≤ (g / 4 % 4) ∧ (g / 4 % 4) ≤ 3) (hF4 : 128 ≤ g ∧ g ≤ 255) (hG0 : a < n) :
    eW x0 (eV x0 n a b c d f g h i j z0 A B C L M N) (.jump 0 eT0 ⟨[(2, (.v 2)), (5, (.v 5)), (9, (.v 9)), (8, e130), (6, (.v 6)), (7, (.v 7)), (4, (.v 4)), (3, (.v 3)), (1, e6)], [(0, (.bv 0))], [(4, (.av 4)), (5, (.av 5)), (3, e172)]⟩) := by
  simp only [eW, LT.holds, retTrue]
  have hB3 := hB
  have hJ3 := hJ
  simp only [eBase] at hB3
  simp only [eJ0] at hJ3
  obtain ⟨b0, c0, c1, c2, en, ea0, ea1, ea2, _⟩ := hB3
  obtain ⟨l1, l2, l3, l4, l5, l6, l7, l8, l9, m3, m4, m5, hk, _⟩ := hJ3
  refine ⟨ehT0, ⟨n, (_root_.Go.Sx.E.i (eV x0 n a b c d f g h i j z0 A B C L M N) e6), b, c, d, f, g, h, (_root_.Go.Sx.E.i (eV x0 n a b c d f g h i j z0 A B C L M N) e130), j, z0, A, B, C, (_root_.Go.Sx.E.a (eV x0 n a b c d f g h i j z0 A B C L M N) e172), M, N, (by kernel_rfl), hB, ?_⟩, ?_⟩
  · exact ⟨(show 0 ≤ a + 1 ∧ a + 1 ≤ 9223372036854775807 by omega), l2, l3, l4, l5, l6, l7, (rng_at hH (by kernel_rfl)), l9, (arr_at hH (by kernel_rfl)), m4, m5, (show a + 1 ≤ n by omega), trivial⟩
  show (n - (a + 1)).toNat < (n - a).toNat
  omega
noncomputable def eH0_w25_3_n : Hyp := { eh0.H with e := [((.v 1), (0, 9223372036854775806)), (e0, (0, 0)), (e1, (25, 25)), (e39, (3, 3)), ((.v 6), (0, 127))] ++ eh0.H.e, b := [(e3, true)] ++ eh0.H.b }
theorem esg0_w25_3_n : (segL Try.prog G Gh eD ehs [] 3000 0 7 { eh0 with H := eH0_w25_3_n }).map LT.bare = some (.jump 0 eT0 ⟨[(2, (.v 2)), (5, (.v 5)), (9, (.v 9)), (8, (.v 8)), (6, (.v 6)), (7, (.v 7)), (4, (.v 4)), (3, (.v 3)), (1, e6)], [(0, (.bv 0))], [(4, (.av 4)), (5, (.av 5)), (3, e172)]⟩) := by kernel_rfl
theorem evc0_w25_3_n (hB : eBase x0 n A B C) (hJ : eJ0 n a b c d f g h i j z0 A B C L M N) (hH : Hyp.ok eH0_w25_3_n (eV x0 n a b c d f g h i j z0 A B C L M N)) (hF0 : 0 ≤ a ∧ a ≤ 9223372036854775806) (hF1 : 0 ≤ A a.toNat ∧ A a.toNat ≤ 0) (hF2 : 25 ≤ B a.toNat ∧ B a.toNat ≤ 25) (hF3 : 3 ≤ (g / 4 % 4) ∧ (g / 4 % 4) ≤ 3) (hF4 : 0 ≤ g ∧ g ≤ 127) (hG0 : a < n) :
    eW x0 (eV x0 n a b c d f g h i j z0 A B C L M N) (.jump 0 eT0 ⟨[(2, (.v 2)), (5, (.v 5)), (9, (.v 9)), (8, (.v 8)), (6, (.v 6)), (7, (.v 7)), (4, (.v 4)), (3, (.v 3)), (1, e6)], [(0, (.bv 0))], [(4, (.av 4)), (5, (.av 5)), (3, e172)]⟩) := by
  simp only [eW, LT.holds, retTrue]
  have hB3 := hB
  have hJ3 := hJ
  simp only [eBase] at hB3
  simp only [eJ0] at hJ3
  obtain ⟨b0, c0, c1, c2, en, ea0, ea1, ea2, _⟩ := hB3
  obtain ⟨l1, l2, l3, l4, l5, l6, l7, l8, l9, m3, m4, m5, hk, _⟩ := hJ3
  refine ⟨ehT0, ⟨n, (_root_.Go.Sx.E.i (eV x0 n a b c d f g h i j z0 A B C L M N) e6), b, c, d, f, g, h, i, j, z0, A, B, C, (_root_.Go.Sx.E.a (eV x0 n a b c d f g h i j z0 A B C L M N) e172), M, N, (by kernel_rfl), hB, ?_⟩, ?_⟩
  · exact ⟨(show 0 ≤ a + 1 ∧ a + 1 ≤ 9223372036854775807 by omega), l2, l3, l4, l5, l6, l7, l8, l9, (arr_at hH (by kernel_rfl)), m4, m5, (show a + 1 ≤ n by omega), trivial⟩
  show (n - (a + 1)).toNat < (n - a).toNat
  omega
noncomputable def eH0_r56_0 : Hyp := { eh0.H with e := [((.v 1), (0, 9223372036854775806)), (e0, (1, 1)), (e1, (56, 56)), ((.v 4), (512, 1023))] ++ eh0.H.e, b := [(e3, true)] ++ eh0.H.b }
theorem esg0_r56_0 : (segL Try.prog G Gh eD ehs [] 3000 0 7 { eh0 with H := eH0_r56_0 }).map LT.bare = some (.jump 0 eT0 ⟨[(2, (.v 2)), (5, (.v 5)), (9, (.v 9)), (8, (.v 8)), (6, (.v 6)), (7, (.v 7)), (4, e31), (3, (.v 3)), (1, e6)], [(0, (.bv 0))], [(4, (.av 4)), (5, (.av 5)), (3, (.av 3))]⟩) := by kernel_rfl
theorem evc0_r56_0 (hB : eBase x0 n A B C) (hJ : eJ0 n a b c d f g h i j z0 A B C L M N) (hH : Hyp.ok eH0_r56_0 (eV x0 n a b c d f g h i j z0 A B C L M N)) (hF0 : 0 ≤ a ∧ a ≤ 9223372036854775806) (hF1 : 1 ≤ A a.toNat ∧ A a.toNat ≤ 1) (hF2 : 56 ≤ B a.toNat ∧ B a.toNat ≤ 56) (hF3 : 512 ≤ d ∧ d ≤ 1023) (hG0 : a < n) :
    eW x0 (eV x0 n a b c d f g h i j z0 A B C L M N) (.jump 0 eT0 ⟨[(2, (.v 2)), (5, (.v 5)), (9, (.v 9)), (8, (.v 8)), (6, (.v 6)), (7, (.v 7)), (4, e31), (3, (.v 3)), (1, e6)], [(0, (.bv 0))], [(4, (.av 4)), (5, (.av 5)), (3, (.av 3))]⟩) := by
  simp only [eW, LT.holds, retTrue]
  have hB3 := hB
  have hJ3 := hJ
  simp only [eBase] at hB3
  simp only [eJ0] at hJ3
  obtain ⟨b0, c0, c1, c2, en, ea0, ea1, ea2, _⟩ := hB3
  obtain ⟨l1, l2, l3, l4, l5, l6, l7, l8, l9, m3, m4, m5, hk, _⟩ := hJ3
  refine ⟨ehT0, ⟨n, (_root_.Go.Sx.E.i (eV x0 n a b c d f g h i j z0 A B C L M N) e6), b, c, (_root_.Go.Sx.E.i (eV x0 n a b c d f g h i j z0 A B C L M N) e31), f, g, h, i, j, z0, A, B, C, L, M, N, (by kernel_rfl), hB, ?_⟩, ?_⟩
  · exact ⟨(show 0 ≤ a + 1 ∧ a + 1 ≤ 9223372036854775807 by omega), l2, l3, (rng_at hH (by kernel_rfl)), l5, l6, l7, l8, l9, m3, m4, m5, (show a + 1 ≤ n by omega), trivial⟩
  show (n - (a + 1)).toNat < (n - a).toNat
  omega
noncomputable def eH0_r56_3 : Hyp := { eh0.H with e := [((.v 1), (0, 9223372036854775806)), (e0, (1, 1)), (e1, (56, 56)), ((.v 4), (0, 511))] ++ eh0.H.e, b := [(e3, true)] ++ eh0.H.b }
theorem esg0_r56_3 : (segL Try.prog G Gh eD ehs [] 3000 0 7 { eh0 with H := eH0_r56_3 }).map LT.bare = some (.jump 0 eT0 ⟨[(2, (.v 2)), (5, (.v 5)), (9, (.v 9)), (8, (.v 8)), (6, (.v 6)), (7, (.v 7)), (4, e30), (3, (.v 3)), (1, e6)], [(0, (.bv 0))], [(4, (.av 4)), (5, (.av 5)), (3, (.av 3))]⟩) := by kernel_rfl
theorem evc0_r56_3 (hB : eBase x0 n A B C) (hJ : eJ0 n a b c d f g h i j z0 A B C L M N) (hH : Hyp.ok eH0_r56_3 (eV x0 n a b c d f g h i j z0 A B C L M N)) (hF0 : 0 ≤ a ∧ a ≤ 9223372036854775806) (hF1 : 1 ≤ A a.toNat ∧ A a.toNat ≤ 1) (hF2 : 56 ≤ B a.toNat ∧ B a.toNat ≤ 56) (hF3 : 0 ≤ d ∧ d ≤ 511) (hG0 : a < n) :
    eW x0 (eV x0 n a b c d f g h i j z0 A B C L M N) (.jump 0 eT0 ⟨[(2, (.v 2)), (5, (.v 5)), (9, (.v 9)), (8, (.v 8)), (6, (.v 6)), (7, (.v 7)), (4, e30), (3, (.v 3)), (1, e6)], [(0, (.bv 0))], [(4, (.av 4)), (5, (.av 5)), (3, (.av 3))]⟩) := by
  simp only [eW, LT.holds, retTrue]
  have hB3 := hB
  have hJ3 := hJ
  simp only [eBase] at hB3
  simp only [eJ0] at hJ3
  obtain ⟨b0, c0, c1, c2, en, ea0, ea1, ea2, _⟩ := hB3
  obtain ⟨l1, l2, l3, l4, l5, l6, l7, l8, l9, m3, m4, m5, hk, _⟩ := hJ3
  refine ⟨ehT0, ⟨n, (_root_.Go.Sx.E.i (eV x0 n a b c d f g h i j z0 A B C L M N) e6), b, c, (_root_.Go.Sx.E.i (eV x0 n a b c d f g h i j z0 A B C L M N) e30), f, g, h, i, j, z0, A, B, C, L, M, N, (by kernel_rfl), hB, ?_⟩, ?_⟩
  · exact ⟨(show 0 ≤ a + 1 ∧ a + 1 ≤ 9223372036854775807 by omega), l2, l3, (rng_at hH (by kernel_rfl)), l5, l6, l7, l8, l9, m3, m4, m5, (show a + 1 ≤ n by omega), trivial⟩
  show (n - (a + 1)).toNat < (n - a).toNat
  omega
noncomputable def eH0_ro0 : Hyp := { eh0.H with e := [((.v 1), (0, 9223372036854775806)), (e0, (1, 1)), (e1, (0, 55))] ++ eh0.H.e, b := [(e3, true)] ++ eh0.H.b }
theorem esg0_ro0 : (segL Try.prog G Gh eD ehs [] 3000 0 7 { eh0 with H := eH0_ro0 }).map LT.bare = some (.jump 0 eT0 ⟨[(2, (.v 2)), (5, (.v 5)), (9, (.v 9)), (8, (.v 8)), (6, (.v 6)), (7, (.v 7)), (4, (.v 4)), (3, (.v 3)), (1, e6)], [(0, (.bv 0))], [(4, (.av 4)), (5, (.av 5)), (3, (.av 3))]⟩) := by kernel_rfl
theorem evc0_ro0 (hB : eBase x0 n A B C) (hJ : eJ0 n a b c d f g h i j z0 A B C L M N) (hH : Hyp.ok eH0_ro0 (eV x0 n a b c d f g h i j z0 A B C L M N)) (hF0 : 0 ≤ a ∧ a ≤ 9223372036854775806) (hF1 : 1 ≤ A a.toNat ∧ A a.toNat ≤ 1) (hF2 : 0 ≤ B a.toNat ∧ B a.toNat ≤ 55) (hG0 : a < n) :
    eW x0 (eV x0 n a b c d f g h i j z0 A B C L M N) (.jump 0 eT0 ⟨[(2, (.v 2)), (5, (.v 5)), (9, (.v 9)), (8, (.v 8)), (6, (.v 6)), (7, (.v 7)), (4, (.v 4)), (3, (.v 3)), (1, e6)], [(0, (.bv 0))], [(4, (.av 4)), (5, (.av 5)), (3, (.av 3))]⟩) := by
  simp only [eW, LT.holds, retTrue]
  have hB3 := hB
  have hJ3 := hJ
  simp only [eBase] at hB3
  simp only [eJ0] at hJ3
  obtain ⟨b0, c0, c1, c2, en, ea0, ea1, ea2, _⟩ := hB3
  obtain ⟨l1, l2, l3, l4, l5, l6, l7, l8, l9, m3, m4, m5, hk, _⟩ := hJ3
  refine ⟨ehT0, ⟨n, (_root_.Go.Sx.E.i (eV x0 n a b c d f g h i j z0 A B C L M N) e6), b, c, d, f, g, h, i, j, z0, A, B, C, L, M, N, (by kernel_rfl), hB, ?_⟩, ?_⟩
  · exact ⟨(show 0 ≤ a + 1 ∧ a + 1 ≤ 9223372036854775807 by omega), l2, l3, l4, l5, l6, l7, l8, l9, m3, m4, m5, (show a + 1 ≤ n by omega), trivial⟩
  show (n - (a + 1)).toNat < (n - a).toNat
  omega
noncomputable def eH0_ro1 : Hyp := { eh0.H with e := [((.v 1), (0, 9223372036854775806)), (e0, (1, 1)), (e1, (60, 255))] ++ eh0.H.e, b := [(e3, true)] ++ eh0.H.b }
theorem esg0_ro1 : (segL Try.prog G Gh eD ehs [] 3000 0 7 { eh0 with H := eH0_ro1 }).map LT.bare = some (.jump 0 eT0 ⟨[(2, (.v 2)), (5, (.v 5)), (9, (.v 9)), (8, (.v 8)), (6, (.v 6)), (7, (.v 7)), (4, (.v 4)), (3, (.v 3)), (1, e6)], [(0, (.bv 0))], [(4, (.av 4)), (5, (.av 5)), (3, (.av 3))]⟩) := by kernel_rfl
theorem evc0_ro1 (hB : eBase x0 n A B C) (hJ : eJ0 n a b c d f g h i j z0 A B C L M N) (hH : Hyp.ok eH0_ro1 (eV x0 n a b c d f g h i j z0 A B C L M N)) (hF0 : 0 ≤ a ∧ a ≤ 9223372036854775806) (hF1 : 1 ≤ A a.toNat ∧ A a.toNat ≤ 1) (hF2 : 60 ≤ B a.toNat ∧ B a.toNat ≤ 255) (hG0 : a < n) :
    eW x0 (eV x0 n a b c d f g h i j z0 A B C L M N) (.jump 0 eT0 ⟨[(2, (.v 2)), (5, (.v 5)), (9, (.v 9)), (8, (.v 8)), (6, (.v 6)), (7, (.v 7)), (4, (.v 4)), (3, (.v 3)), (1, e6)], [(0, (.bv 0))], [(4, (.av 4)), (5, (.av 5)), (3, (.av 3))]⟩) := by
  simp only [eW, LT.holds, retTrue]
  have hB3 := hB
  have hJ3 := hJ
  simp only [eBase] at hB3
  simp only [eJ0] at hJ3
  obtain ⟨b0, c0, c1, c2, en, ea0, ea1, ea2, _⟩ := hB3
  obtain ⟨l1, l2, l3, l4, l5, l6, l7, l8, l9, m3, m4, m5, hk, _⟩ := hJ3
  refine ⟨ehT0, ⟨n, (_root_.Go.Sx.E.i (eV x0 n a b c d f g h i j z0 A B C L M N) e6), b, c, d, f, g, h, i, j, z0, A, B, C, L, M, N, (by kernel_rfl), hB, ?_⟩, ?_⟩
  · exact ⟨(show 0 ≤ a + 1 ∧ a + 1 ≤ 9223372036854775807 by omega), l2, l3, l4, l5, l6, l7, l8, l9, m3, m4, m5, (show a + 1 ≤ n by omega), trivial⟩
  show (n - (a + 1)).toNat < (n - a).toNat
  omega
noncomputable def eH0_r57_n : Hyp := { eh0.H with e := [((.v 1), (0, 9223372036854775806)), (e0, (1, 1)), (e1, (57, 57)), ((.v 6), (128, 255))] ++ eh0.H.e, b := [(e3, true)] ++ eh0.H.b }
theorem esg0_r57_n : (segL Try.prog G Gh eD ehs [] 3000 0 7 { eh0 with H := eH0_r57_n }).map LT.bare = some (.jump 0 eT0 ⟨[(2, (.v 2)), (5, (.v 5)), (9, (.v 9)), (8, (.v 8)), (6, (.v 6)), (7, (.v 7)), (4, (.v 4)), (3, (.v 3)), (1, e6)], [(0, (.bv 0))], [(4, (.av 4)), (5, (.av 5)), (3, (.av 3))]⟩) := by kernel_rfl
theorem evc0_r57_n (hB : eBase x0 n A B C) (hJ : eJ0 n a b c d f g h i j z0 A B C L M N) (hH : Hyp.ok eH0_r57_n (eV x0 n a b c d f g h i j z0 A B C L M N)) (hF0 : 0 ≤ a ∧ a ≤ 9223372036854775806) (hF1 : 1 ≤ A a.toNat ∧ A a.toNat ≤ 1) (hF2 : 57 ≤ B a.toNat ∧ B a.toNat ≤ 57) (hF3 : 128 ≤ g ∧ g ≤ 255) (hG0 : a < n) :
    eW x0 (eV x0 n a b c d f g h i j z0 A B C L M N) (.jump 0 eT0 ⟨[(2, (.v 2)), (5, (.v 5)), (9, (.v 9)), (8, (.v 8)), (6, (.v 6)), (7, (.v 7)), (4, (.v 4)), (3, (.v 3)), (1, e6)], [(0, (.bv 0))], [(4, (.av 4)), (5, (.av 5)), (3, (.av 3))]⟩) := by
  simp only [eW, LT.holds, retTrue]
  have hB3 := hB
  have hJ3 := hJ
  simp only [eBase] at hB3
  simp only [eJ0] at hJ3
  obtain ⟨b0, c0, c1, c2, en, ea0, ea1, ea2, _⟩ := hB3
  obtain ⟨l1, l2, l3, l4, l5, l6, l7, l8, l9, m3, m4, m5, hk, _⟩ := hJ3
  refine ⟨ehT0, ⟨n, (_root_.Go.Sx.E.i (eV x0 n a b c d f g h i j z0 A B C L M N) e6), b, c, d, f, g, h, i, j, z0, A, B, C, L, M, N, (by kernel_rfl), hB, ?_⟩, ?_⟩
  · exact ⟨(show 0 ≤ a + 1 ∧ a + 1 ≤ 9223372036854775807 by omega), l2, l3, l4, l5, l6, l7, l8, l9, m3, m4, m5, (show a + 1 ≤ n by omega), trivial⟩
  show (n - (a + 1)).toNat < (n - a).toNat
  omega
noncomputable def eH0_r57_0_y : Hyp := { eh0.H with e := [((.v 1), (0, 9223372036854775806)), (e0, (1, 1)), (e1, (57, 57)), (e39, (0, 0)), ((.v 6), (0, 127))] ++ eh0.H.e, b := [(e3, true)] ++ eh0.H.b }
theorem esg0_r57_0_y : (segL Try.prog G Gh eD ehs [] 3000 0 7 { eh0 with H := eH0_r57_0_y }).map LT.bare = some (.jump 0 eT0 ⟨[(2, (.v 2)), (5, (.v 5)), (9, e119), (8, e130), (6, (.v 6)), (7, (.v 7)), (4, (.v 4)), (3, (.v 3)), (1, e6)], [(0, (.bv 0))], [(4, (.av 4)), (5, (.av 5)), (3, (.av 3))]⟩) := by kernel_rfl
theorem evc0_r57_0_y (hB : eBase x0 n A B C) (hJ : eJ0 n a b c d f g h i j z0 A B C L M N) (hH : Hyp.ok eH0_r57_0_y (eV x0 n a b c d f g h i j z0 A B C L M N)) (hF0 : 0 ≤ a ∧ a ≤ 9223372036854775806) (hF1 : 1 ≤ A a.toNat ∧ A a.toNat ≤ 1) (hF2 : 57 ≤ B a.toNat ∧ B a.toNat ≤ 57) (hF3 : 0 ≤ (g / 4 % 4) ∧ (g / 4 % 4) ≤ 0) (hF4 : 0 ≤ g ∧ g ≤ 127) (hG0 : a < n) :
    eW x0 (eV x0 n a b c d f g h i j z0 A B C L M N) (.jump 0 eT0 ⟨[(2, (.v 2)), (5, (.v 5)), (9, e119), (8, e130), (6, (.v 6)), (7, (.v 7)), (4, (.v 4)), (3, (.v 3)), (1, e6)], [(0, (.bv 0))], [(4, (.av 4)), (5, (.av 5)), (3, (.av 3))]⟩) := by
  simp only [eW, LT.holds, retTrue]
  have hB3 := hB
  have hJ3 := hJ
  simp only [eBase] at hB3
  simp only [eJ0] at hJ3
  obtain ⟨b0, c0, c1, c2, en, ea0, ea1, ea2, _⟩ := hB3
  obtain ⟨l1, l2, l3, l4, l5, l6, l7, l8, l9, m3, m4, m5, hk, _⟩ := hJ3
  refine ⟨ehT0, ⟨n, (_root_.Go.Sx.E.i (eV x0 n a b c d f g h i j z0 A B C L M N) e6), b, c, d, f, g, h, (_root_.Go.Sx.E.i (eV x0 n a b c d f g h i j z0 A B C L M N) e130), (_root_.Go.Sx.E.i (eV x0 n a b c d f g h i j z0 A B C L M N) e119), z0, A, B, C, L, M, N, (by kernel_rfl), hB, ?_⟩, ?_⟩
  · exact ⟨(show 0 ≤ a + 1 ∧ a + 1 ≤ 9223372036854775807 by omega), l2, l3, l4, l5, l6, l7, (rng_at hH (by kernel_rfl)), (rng_at hH (by kernel_rfl)), m3, m4, m5, (show a + 1 ≤ n by omega), trivial⟩
  show (n - (a + 1)).toNat < (n - a).toNat
  omega
end Go.Proofs.Ytjegnoknenahpaa.VramScripts
