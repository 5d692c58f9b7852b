/- A part of the law VramScripts, which returns true for every input. The ports, in whatever order they are written and read, saving and loading between, do to the memories what the document says, and read what it says. No condition. -/
import Derived.Test.YtjegnoknenahpaaVramScriptsB
namespace Go.Proofs.Ytjegnoknenahpaa.VramScripts
open Go.Sx Go.ChangeShapes Go.WideShapes Go.ChangeAt Go.RowKit
set_option linter.unusedVariables false
set_option linter.unusedSimpArgs false
set_option maxRecDepth 100000
set_option maxHeartbeats 40000000
variable {x0 : Ext} {n a b c d f g h i j : Int} {z0 : Bool} {A B C L M N : Nat → Int}
noncomputable def eH0_r57_1_y : Hyp := { eh0.H with e := [((.v 1), (0, 9223372036854775806)), (e0, (1, 1)), (e1, (57, 57)), (e39, (1, 1)), ((.v 6), (0, 127))] ++ eh0.H.e, b := [(e3, true)] ++ eh0.H.b }
theorem esg0_r57_1_y : (segL Try.prog G Gh eD ehs [] 3000 0 7 { eh0 with H := eH0_r57_1_y }).map LT.bare = some (.jump 0 eT0 ⟨[(2, (.v 2)), (5, (.v 5)), (9, e134), (8, e130), (6, (.v 6)), (7, (.v 7)), (4, (.v 4)), (3, (.v 3)), (1, e6)], [(0, (.bv 0))], [(4, (.av 4)), (5, (.av 5)), (3, (.av 3))]⟩) := by kernel_rfl
theorem evc0_r57_1_y (hB : eBase x0 n A B C) (hJ : eJ0 n a b c d f g h i j z0 A B C L M N) (hH : Hyp.ok eH0_r57_1_y (eV x0 n a b c d f g h i j z0 A B C L M N)) (hF0 : 0 ≤ a ∧ a ≤ 9223372036854775806) (hF1 : 1 ≤ A a.toNat ∧ A a.toNat ≤ 1) (hF2 : 57 ≤ B a.toNat ∧ B a.toNat ≤ 57) (hF3 : 1 ≤ (g / 4 % 4) ∧ (g / 4 % 4) ≤ 1) (hF4 : 0 ≤ g ∧ g ≤ 127) (hG0 : a < n) :
    eW x0 (eV x0 n a b c d f g h i j z0 A B C L M N) (.jump 0 eT0 ⟨[(2, (.v 2)), (5, (.v 5)), (9, e134), (8, e130), (6, (.v 6)), (7, (.v 7)), (4, (.v 4)), (3, (.v 3)), (1, e6)], [(0, (.bv 0))], [(4, (.av 4)), (5, (.av 5)), (3, (.av 3))]⟩) := by
  simp only [eW, LT.holds, retTrue]
  have hB3 := hB
  have hJ3 := hJ
  simp only [eBase] at hB3
  simp only [eJ0] at hJ3
  obtain ⟨b0, c0, c1, c2, en, ea0, ea1, ea2, _⟩ := hB3
  obtain ⟨l1, l2, l3, l4, l5, l6, l7, l8, l9, m3, m4, m5, hk, _⟩ := hJ3
  refine ⟨ehT0, ⟨n, (_root_.Go.Sx.E.i (eV x0 n a b c d f g h i j z0 A B C L M N) e6), b, c, d, f, g, h, (_root_.Go.Sx.E.i (eV x0 n a b c d f g h i j z0 A B C L M N) e130), (_root_.Go.Sx.E.i (eV x0 n a b c d f g h i j z0 A B C L M N) e134), z0, A, B, C, L, M, N, (by kernel_rfl), hB, ?_⟩, ?_⟩
  · exact ⟨(show 0 ≤ a + 1 ∧ a + 1 ≤ 9223372036854775807 by omega), l2, l3, l4, l5, l6, l7, (rng_at hH (by kernel_rfl)), (rng_at hH (by kernel_rfl)), m3, m4, m5, (show a + 1 ≤ n by omega), trivial⟩
  show (n - (a + 1)).toNat < (n - a).toNat
  omega
noncomputable def eH0_r57_2_y : Hyp := { eh0.H with e := [((.v 1), (0, 9223372036854775806)), (e0, (1, 1)), (e1, (57, 57)), (e39, (2, 2)), ((.v 6), (0, 127))] ++ eh0.H.e, b := [(e3, true)] ++ eh0.H.b }
theorem esg0_r57_2_y : (segL Try.prog G Gh eD ehs [] 3000 0 7 { eh0 with H := eH0_r57_2_y }).map LT.bare = some (.jump 0 eT0 ⟨[(2, (.v 2)), (5, (.v 5)), (9, e145), (8, e130), (6, (.v 6)), (7, (.v 7)), (4, (.v 4)), (3, (.v 3)), (1, e6)], [(0, (.bv 0))], [(4, (.av 4)), (5, (.av 5)), (3, (.av 3))]⟩) := by kernel_rfl
theorem evc0_r57_2_y (hB : eBase x0 n A B C) (hJ : eJ0 n a b c d f g h i j z0 A B C L M N) (hH : Hyp.ok eH0_r57_2_y (eV x0 n a b c d f g h i j z0 A B C L M N)) (hF0 : 0 ≤ a ∧ a ≤ 9223372036854775806) (hF1 : 1 ≤ A a.toNat ∧ A a.toNat ≤ 1) (hF2 : 57 ≤ B a.toNat ∧ B a.toNat ≤ 57) (hF3 : 2 ≤ (g / 4 % 4) ∧ (g / 4 % 4) ≤ 2) (hF4 : 0 ≤ g ∧ g ≤ 127) (hG0 : a < n) :
    eW x0 (eV x0 n a b c d f g h i j z0 A B C L M N) (.jump 0 eT0 ⟨[(2, (.v 2)), (5, (.v 5)), (9, e145), (8, e130), (6, (.v 6)), (7, (.v 7)), (4, (.v 4)), (3, (.v 3)), (1, e6)], [(0, (.bv 0))], [(4, (.av 4)), (5, (.av 5)), (3, (.av 3))]⟩) := by
  simp only [eW, LT.holds, retTrue]
  have hB3 := hB
  have hJ3 := hJ
  simp only [eBase] at hB3
  simp only [eJ0] at hJ3
  obtain ⟨b0, c0, c1, c2, en, ea0, ea1, ea2, _⟩ := hB3
  obtain ⟨l1, l2, l3, l4, l5, l6, l7, l8, l9, m3, m4, m5, hk, _⟩ := hJ3
  refine ⟨ehT0, ⟨n, (_root_.Go.Sx.E.i (eV x0 n a b c d f g h i j z0 A B C L M N) e6), b, c, d, f, g, h, (_root_.Go.Sx.E.i (eV x0 n a b c d f g h i j z0 A B C L M N) e130), (_root_.Go.Sx.E.i (eV x0 n a b c d f g h i j z0 A B C L M N) e145), z0, A, B, C, L, M, N, (by kernel_rfl), hB, ?_⟩, ?_⟩
  · exact ⟨(show 0 ≤ a + 1 ∧ a + 1 ≤ 9223372036854775807 by omega), l2, l3, l4, l5, l6, l7, (rng_at hH (by kernel_rfl)), (rng_at hH (by kernel_rfl)), m3, m4, m5, (show a + 1 ≤ n by omega), trivial⟩
  show (n - (a + 1)).toNat < (n - a).toNat
  omega
noncomputable def eH0_r57_3_y : Hyp := { eh0.H with e := [((.v 1), (0, 9223372036854775806)), (e0, (1, 1)), (e1, (57, 57)), (e39, (3, 3)), ((.v 6), (0, 127))] ++ eh0.H.e, b := [(e3, true)] ++ eh0.H.b }
theorem esg0_r57_3_y : (segL Try.prog G Gh eD ehs [] 3000 0 7 { eh0 with H := eH0_r57_3_y }).map LT.bare = some (.jump 0 eT0 ⟨[(2, (.v 2)), (5, (.v 5)), (9, e156), (8, e130), (6, (.v 6)), (7, (.v 7)), (4, (.v 4)), (3, (.v 3)), (1, e6)], [(0, (.bv 0))], [(4, (.av 4)), (5, (.av 5)), (3, (.av 3))]⟩) := by kernel_rfl
theorem evc0_r57_3_y (hB : eBase x0 n A B C) (hJ : eJ0 n a b c d f g h i j z0 A B C L M N) (hH : Hyp.ok eH0_r57_3_y (eV x0 n a b c d f g h i j z0 A B C L M N)) (hF0 : 0 ≤ a ∧ a ≤ 9223372036854775806) (hF1 : 1 ≤ A a.toNat ∧ A a.toNat ≤ 1) (hF2 : 57 ≤ B a.toNat ∧ B a.toNat ≤ 57) (hF3 : 3 ≤ (g / 4 % 4) ∧ (g / 4 % 4) ≤ 3) (hF4 : 0 ≤ g ∧ g ≤ 127) (hG0 : a < n) :
    eW x0 (eV x0 n a b c d f g h i j z0 A B C L M N) (.jump 0 eT0 ⟨[(2, (.v 2)), (5, (.v 5)), (9, e156), (8, e130), (6, (.v 6)), (7, (.v 7)), (4, (.v 4)), (3, (.v 3)), (1, e6)], [(0, (.bv 0))], [(4, (.av 4)), (5, (.av 5)), (3, (.av 3))]⟩) := by
  simp only [eW, LT.holds, retTrue]
  have hB3 := hB
  have hJ3 := hJ
  simp only [eBase] at hB3
  simp only [eJ0] at hJ3
  obtain ⟨b0, c0, c1, c2, en, ea0, ea1, ea2, _⟩ := hB3
  obtain ⟨l1, l2, l3, l4, l5, l6, l7, l8, l9, m3, m4, m5, hk, _⟩ := hJ3
  refine ⟨ehT0, ⟨n, (_root_.Go.Sx.E.i (eV x0 n a b c d f g h i j z0 A B C L M N) e6), b, c, d, f, g, h, (_root_.Go.Sx.E.i (eV x0 n a b c d f g h i j z0 A B C L M N) e130), (_root_.Go.Sx.E.i (eV x0 n a b c d f g h i j z0 A B C L M N) e156), z0, A, B, C, L, M, N, (by kernel_rfl), hB, ?_⟩, ?_⟩
  · exact ⟨(show 0 ≤ a + 1 ∧ a + 1 ≤ 9223372036854775807 by omega), l2, l3, l4, l5, l6, l7, (rng_at hH (by kernel_rfl)), (rng_at hH (by kernel_rfl)), m3, m4, m5, (show a + 1 ≤ n by omega), trivial⟩
  show (n - (a + 1)).toNat < (n - a).toNat
  omega
noncomputable def eH0_r58_0_y : Hyp := { eh0.H with e := [((.v 1), (0, 9223372036854775806)), (e0, (1, 1)), (e1, (58, 58)), (e39, (0, 0)), ((.v 6), (128, 255))] ++ eh0.H.e, b := [(e3, true)] ++ eh0.H.b }
theorem esg0_r58_0_y : (segL Try.prog G Gh eD ehs [] 3000 0 7 { eh0 with H := eH0_r58_0_y }).map LT.bare = some (.jump 0 eT0 ⟨[(2, (.v 2)), (5, (.v 5)), (9, e119), (8, e130), (6, (.v 6)), (7, (.v 7)), (4, (.v 4)), (3, (.v 3)), (1, e6)], [(0, (.bv 0))], [(4, (.av 4)), (5, (.av 5)), (3, (.av 3))]⟩) := by kernel_rfl
theorem evc0_r58_0_y (hB : eBase x0 n A B C) (hJ : eJ0 n a b c d f g h i j z0 A B C L M N) (hH : Hyp.ok eH0_r58_0_y (eV x0 n a b c d f g h i j z0 A B C L M N)) (hF0 : 0 ≤ a ∧ a ≤ 9223372036854775806) (hF1 : 1 ≤ A a.toNat ∧ A a.toNat ≤ 1) (hF2 : 58 ≤ B a.toNat ∧ B a.toNat ≤ 58) (hF3 : 0 ≤ (g / 4 % 4) ∧ (g / 4 % 4) ≤ 0) (hF4 : 128 ≤ g ∧ g ≤ 255) (hG0 : a < n) :
    eW x0 (eV x0 n a b c d f g h i j z0 A B C L M N) (.jump 0 eT0 ⟨[(2, (.v 2)), (5, (.v 5)), (9, e119), (8, e130), (6, (.v 6)), (7, (.v 7)), (4, (.v 4)), (3, (.v 3)), (1, e6)], [(0, (.bv 0))], [(4, (.av 4)), (5, (.av 5)), (3, (.av 3))]⟩) := by
  simp only [eW, LT.holds, retTrue]
  have hB3 := hB
  have hJ3 := hJ
  simp only [eBase] at hB3
  simp only [eJ0] at hJ3
  obtain ⟨b0, c0, c1, c2, en, ea0, ea1, ea2, _⟩ := hB3
  obtain ⟨l1, l2, l3, l4, l5, l6, l7, l8, l9, m3, m4, m5, hk, _⟩ := hJ3
  refine ⟨ehT0, ⟨n, (_root_.Go.Sx.E.i (eV x0 n a b c d f g h i j z0 A B C L M N) e6), b, c, d, f, g, h, (_root_.Go.Sx.E.i (eV x0 n a b c d f g h i j z0 A B C L M N) e130), (_root_.Go.Sx.E.i (eV x0 n a b c d f g h i j z0 A B C L M N) e119), z0, A, B, C, L, M, N, (by kernel_rfl), hB, ?_⟩, ?_⟩
  · exact ⟨(show 0 ≤ a + 1 ∧ a + 1 ≤ 9223372036854775807 by omega), l2, l3, l4, l5, l6, l7, (rng_at hH (by kernel_rfl)), (rng_at hH (by kernel_rfl)), m3, m4, m5, (show a + 1 ≤ n by omega), trivial⟩
  show (n - (a + 1)).toNat < (n - a).toNat
  omega
noncomputable def eH0_r58_1_y : Hyp := { eh0.H with e := [((.v 1), (0, 9223372036854775806)), (e0, (1, 1)), (e1, (58, 58)), (e39, (1, 1)), ((.v 6), (128, 255))] ++ eh0.H.e, b := [(e3, true)] ++ eh0.H.b }
theorem esg0_r58_1_y : (segL Try.prog G Gh eD ehs [] 3000 0 7 { eh0 with H := eH0_r58_1_y }).map LT.bare = some (.jump 0 eT0 ⟨[(2, (.v 2)), (5, (.v 5)), (9, e134), (8, e130), (6, (.v 6)), (7, (.v 7)), (4, (.v 4)), (3, (.v 3)), (1, e6)], [(0, (.bv 0))], [(4, (.av 4)), (5, (.av 5)), (3, (.av 3))]⟩) := by kernel_rfl
theorem evc0_r58_1_y (hB : eBase x0 n A B C) (hJ : eJ0 n a b c d f g h i j z0 A B C L M N) (hH : Hyp.ok eH0_r58_1_y (eV x0 n a b c d f g h i j z0 A B C L M N)) (hF0 : 0 ≤ a ∧ a ≤ 9223372036854775806) (hF1 : 1 ≤ A a.toNat ∧ A a.toNat ≤ 1) (hF2 : 58 ≤ B a.toNat ∧ B a.toNat ≤ 58) (hF3 : 1 ≤ (g / 4 % 4) ∧ (g / 4 % 4) ≤ 1) (hF4 : 128 ≤ g ∧ g ≤ 255) (hG0 : a < n) :
    eW x0 (eV x0 n a b c d f g h i j z0 A B C L M N) (.jump 0 eT0 ⟨[(2, (.v 2)), (5, (.v 5)), (9, e134), (8, e130), (6, (.v 6)), (7, (.v 7)), (4, (.v 4)), (3, (.v 3)), (1, e6)], [(0, (.bv 0))], [(4, (.av 4)), (5, (.av 5)), (3, (.av 3))]⟩) := by
  simp only [eW, LT.holds, retTrue]
  have hB3 := hB
  have hJ3 := hJ
  simp only [eBase] at hB3
  simp only [eJ0] at hJ3
  obtain ⟨b0, c0, c1, c2, en, ea0, ea1, ea2, _⟩ := hB3
  obtain ⟨l1, l2, l3, l4, l5, l6, l7, l8, l9, m3, m4, m5, hk, _⟩ := hJ3
  refine ⟨ehT0, ⟨n, (_root_.Go.Sx.E.i (eV x0 n a b c d f g h i j z0 A B C L M N) e6), b, c, d, f, g, h, (_root_.Go.Sx.E.i (eV x0 n a b c d f g h i j z0 A B C L M N) e130), (_root_.Go.Sx.E.i (eV x0 n a b c d f g h i j z0 A B C L M N) e134), z0, A, B, C, L, M, N, (by kernel_rfl), hB, ?_⟩, ?_⟩
  · exact ⟨(show 0 ≤ a + 1 ∧ a + 1 ≤ 9223372036854775807 by omega), l2, l3, l4, l5, l6, l7, (rng_at hH (by kernel_rfl)), (rng_at hH (by kernel_rfl)), m3, m4, m5, (show a + 1 ≤ n by omega), trivial⟩
  show (n - (a + 1)).toNat < (n - a).toNat
  omega
noncomputable def eH0_r58_2_y : Hyp := { eh0.H with e := [((.v 1), (0, 9223372036854775806)), (e0, (1, 1)), (e1, (58, 58)), (e39, (2, 2)), ((.v 6), (128, 255))] ++ eh0.H.e, b := [(e3, true)] ++ eh0.H.b }
theorem esg0_r58_2_y : (segL Try.prog G Gh eD ehs [] 3000 0 7 { eh0 with H := eH0_r58_2_y }).map LT.bare = some (.jump 0 eT0 ⟨[(2, (.v 2)), (5, (.v 5)), (9, e145), (8, e130), (6, (.v 6)), (7, (.v 7)), (4, (.v 4)), (3, (.v 3)), (1, e6)], [(0, (.bv 0))], [(4, (.av 4)), (5, (.av 5)), (3, (.av 3))]⟩) := by kernel_rfl
theorem evc0_r58_2_y (hB : eBase x0 n A B C) (hJ : eJ0 n a b c d f g h i j z0 A B C L M N) (hH : Hyp.ok eH0_r58_2_y (eV x0 n a b c d f g h i j z0 A B C L M N)) (hF0 : 0 ≤ a ∧ a ≤ 9223372036854775806) (hF1 : 1 ≤ A a.toNat ∧ A a.toNat ≤ 1) (hF2 : 58 ≤ B a.toNat ∧ B a.toNat ≤ 58) (hF3 : 2 ≤ (g / 4 % 4) ∧ (g / 4 % 4) ≤ 2) (hF4 : 128 ≤ g ∧ g ≤ 255) (hG0 : a < n) :
    eW x0 (eV x0 n a b c d f g h i j z0 A B C L M N) (.jump 0 eT0 ⟨[(2, (.v 2)), (5, (.v 5)), (9, e145), (8, e130), (6, (.v 6)), (7, (.v 7)), (4, (.v 4)), (3, (.v 3)), (1, e6)], [(0, (.bv 0))], [(4, (.av 4)), (5, (.av 5)), (3, (.av 3))]⟩) := by
  simp only [eW, LT.holds, retTrue]
  have hB3 := hB
  have hJ3 := hJ
  simp only [eBase] at hB3
  simp only [eJ0] at hJ3
  obtain ⟨b0, c0, c1, c2, en, ea0, ea1, ea2, _⟩ := hB3
  obtain ⟨l1, l2, l3, l4, l5, l6, l7, l8, l9, m3, m4, m5, hk, _⟩ := hJ3
  refine ⟨ehT0, ⟨n, (_root_.Go.Sx.E.i (eV x0 n a b c d f g h i j z0 A B C L M N) e6), b, c, d, f, g, h, (_root_.Go.Sx.E.i (eV x0 n a b c d f g h i j z0 A B C L M N) e130), (_root_.Go.Sx.E.i (eV x0 n a b c d f g h i j z0 A B C L M N) e145), z0, A, B, C, L, M, N, (by kernel_rfl), hB, ?_⟩, ?_⟩
  · exact ⟨(show 0 ≤ a + 1 ∧ a + 1 ≤ 9223372036854775807 by omega), l2, l3, l4, l5, l6, l7, (rng_at hH (by kernel_rfl)), (rng_at hH (by kernel_rfl)), m3, m4, m5, (show a + 1 ≤ n by omega), trivial⟩
  show (n - (a + 1)).toNat < (n - a).toNat
  omega
noncomputable def eH0_r58_3_y : Hyp := { eh0.H with e := [((.v 1), (0, 9223372036854775806)), (e0, (1, 1)), (e1, (58, 58)), (e39, (3, 3)), ((.v 6), (128, 255))] ++ eh0.H.e, b := [(e3, true)] ++ eh0.H.b }
theorem esg0_r58_3_y : (segL Try.prog G Gh eD ehs [] 3000 0 7 { eh0 with H := eH0_r58_3_y }).map LT.bare = some (.jump 0 eT0 ⟨[(2, (.v 2)), (5, (.v 5)), (9, e156), (8, e130), (6, (.v 6)), (7, (.v 7)), (4, (.v 4)), (3, (.v 3)), (1, e6)], [(0, (.bv 0))], [(4, (.av 4)), (5, (.av 5)), (3, (.av 3))]⟩) := by kernel_rfl
theorem evc0_r58_3_y (hB : eBase x0 n A B C) (hJ : eJ0 n a b c d f g h i j z0 A B C L M N) (hH : Hyp.ok eH0_r58_3_y (eV x0 n a b c d f g h i j z0 A B C L M N)) (hF0 : 0 ≤ a ∧ a ≤ 9223372036854775806) (hF1 : 1 ≤ A a.toNat ∧ A a.toNat ≤ 1) (hF2 : 58 ≤ B a.toNat ∧ B a.toNat ≤ 58) (hF3 : 3 ≤ (g / 4 % 4) ∧ (g / 4 % 4) ≤ 3) (hF4 : 128 ≤ g ∧ g ≤ 255) (hG0 : a < n) :
    eW x0 (eV x0 n a b c d f g h i j z0 A B C L M N) (.jump 0 eT0 ⟨[(2, (.v 2)), (5, (.v 5)), (9, e156), (8, e130), (6, (.v 6)), (7, (.v 7)), (4, (.v 4)), (3, (.v 3)), (1, e6)], [(0, (.bv 0))], [(4, (.av 4)), (5, (.av 5)), (3, (.av 3))]⟩) := by
  simp only [eW, LT.holds, retTrue]
  have hB3 := hB
  have hJ3 := hJ
  simp only [eBase] at hB3
  simp only [eJ0] at hJ3
  obtain ⟨b0, c0, c1, c2, en, ea0, ea1, ea2, _⟩ := hB3
  obtain ⟨l1, l2, l3, l4, l5, l6, l7, l8, l9, m3, m4, m5, hk, _⟩ := hJ3
  refine ⟨ehT0, ⟨n, (_root_.Go.Sx.E.i (eV x0 n a b c d f g h i j z0 A B C L M N) e6), b, c, d, f, g, h, (_root_.Go.Sx.E.i (eV x0 n a b c d f g h i j z0 A B C L M N) e130), (_root_.Go.Sx.E.i (eV x0 n a b c d f g h i j z0 A B C L M N) e156), z0, A, B, C, L, M, N, (by kernel_rfl), hB, ?_⟩, ?_⟩
  · exact ⟨(show 0 ≤ a + 1 ∧ a + 1 ≤ 9223372036854775807 by omega), l2, l3, l4, l5, l6, l7, (rng_at hH (by kernel_rfl)), (rng_at hH (by kernel_rfl)), m3, m4, m5, (show a + 1 ≤ n by omega), trivial⟩
  show (n - (a + 1)).toNat < (n - a).toNat
  omega
noncomputable def eH0_r58_n : Hyp := { eh0.H with e := [((.v 1), (0, 9223372036854775806)), (e0, (1, 1)), (e1, (58, 58)), ((.v 6), (0, 127))] ++ eh0.H.e, b := [(e3, true)] ++ eh0.H.b }
theorem esg0_r58_n : (segL Try.prog G Gh eD ehs [] 3000 0 7 { eh0 with H := eH0_r58_n }).map LT.bare = some (.jump 0 eT0 ⟨[(2, (.v 2)), (5, (.v 5)), (9, (.v 9)), (8, (.v 8)), (6, (.v 6)), (7, (.v 7)), (4, (.v 4)), (3, (.v 3)), (1, e6)], [(0, (.bv 0))], [(4, (.av 4)), (5, (.av 5)), (3, (.av 3))]⟩) := by kernel_rfl
theorem evc0_r58_n (hB : eBase x0 n A B C) (hJ : eJ0 n a b c d f g h i j z0 A B C L M N) (hH : Hyp.ok eH0_r58_n (eV x0 n a b c d f g h i j z0 A B C L M N)) (hF0 : 0 ≤ a ∧ a ≤ 9223372036854775806) (hF1 : 1 ≤ A a.toNat ∧ A a.toNat ≤ 1) (hF2 : 58 ≤ B a.toNat ∧ B a.toNat ≤ 58) (hF3 : 0 ≤ g ∧ g ≤ 127) (hG0 : a < n) :
    eW x0 (eV x0 n a b c d f g h i j z0 A B C L M N) (.jump 0 eT0 ⟨[(2, (.v 2)), (5, (.v 5)), (9, (.v 9)), (8, (.v 8)), (6, (.v 6)), (7, (.v 7)), (4, (.v 4)), (3, (.v 3)), (1, e6)], [(0, (.bv 0))], [(4, (.av 4)), (5, (.av 5)), (3, (.av 3))]⟩) := by
  simp only [eW, LT.holds, retTrue]
  have hB3 := hB
  have hJ3 := hJ
  simp only [eBase] at hB3
  simp only [eJ0] at hJ3
  obtain ⟨b0, c0, c1, c2, en, ea0, ea1, ea2, _⟩ := hB3
  obtain ⟨l1, l2, l3, l4, l5, l6, l7, l8, l9, m3, m4, m5, hk, _⟩ := hJ3
  refine ⟨ehT0, ⟨n, (_root_.Go.Sx.E.i (eV x0 n a b c d f g h i j z0 A B C L M N) e6), b, c, d, f, g, h, i, j, z0, A, B, C, L, M, N, (by kernel_rfl), hB, ?_⟩, ?_⟩
  · exact ⟨(show 0 ≤ a + 1 ∧ a + 1 ≤ 9223372036854775807 by omega), l2, l3, l4, l5, l6, l7, l8, l9, m3, m4, m5, (show a + 1 ≤ n by omega), trivial⟩
  show (n - (a + 1)).toNat < (n - a).toNat
  omega
noncomputable def eH0_f : Hyp := { eh0.H with e := [((.v 1), (0, 9223372036854775806)), (e0, (2, 2))] ++ eh0.H.e, b := [(e3, true)] ++ eh0.H.b }
theorem esg0_f : (segL Try.prog G Gh eD ehs [] 3000 0 7 { eh0 with H := eH0_f }).map LT.bare = some (.jump 0 eT0 ⟨[(2, (.v 2)), (5, (.v 5)), (9, (.v 9)), (8, (.v 8)), (6, (.v 6)), (7, (.v 7)), (4, e173), (3, (.v 3)), (1, e6)], [(0, (.bv 0))], [(4, (.av 4)), (5, (.av 5)), (3, (.av 3))]⟩) := by kernel_rfl
theorem evc0_f (hB : eBase x0 n A B C) (hJ : eJ0 n a b c d f g h i j z0 A B C L M N) (hH : Hyp.ok eH0_f (eV x0 n a b c d f g h i j z0 A B C L M N)) (hF0 : 0 ≤ a ∧ a ≤ 9223372036854775806) (hF1 : 2 ≤ A a.toNat ∧ A a.toNat ≤ 2) (hG0 : a < n) :
    eW x0 (eV x0 n a b c d f g h i j z0 A B C L M N) (.jump 0 eT0 ⟨[(2, (.v 2)), (5, (.v 5)), (9, (.v 9)), (8, (.v 8)), (6, (.v 6)), (7, (.v 7)), (4, e173), (3, (.v 3)), (1, e6)], [(0, (.bv 0))], [(4, (.av 4)), (5, (.av 5)), (3, (.av 3))]⟩) := by
  simp only [eW, LT.holds, retTrue]
  have hB3 := hB
  have hJ3 := hJ
  simp only [eBase] at hB3
  simp only [eJ0] at hJ3
  obtain ⟨b0, c0, c1, c2, en, ea0, ea1, ea2, _⟩ := hB3
  obtain ⟨l1, l2, l3, l4, l5, l6, l7, l8, l9, m3, m4, m5, hk, _⟩ := hJ3
  refine ⟨ehT0, ⟨n, (_root_.Go.Sx.E.i (eV x0 n a b c d f g h i j z0 A B C L M N) e6), b, c, (_root_.Go.Sx.E.i (eV x0 n a b c d f g h i j z0 A B C L M N) e173), f, g, h, i, j, z0, A, B, C, L, M, N, (by kernel_rfl), hB, ?_⟩, ?_⟩
  · exact ⟨(show 0 ≤ a + 1 ∧ a + 1 ≤ 9223372036854775807 by omega), l2, l3, (rng_at hH (by kernel_rfl)), l5, l6, l7, l8, l9, m3, m4, m5, (show a + 1 ≤ n by omega), trivial⟩
  show (n - (a + 1)).toNat < (n - a).toNat
  omega
noncomputable def eH0_s : Hyp := { eh0.H with e := [((.v 1), (0, 9223372036854775806)), (e0, (3, 3))] ++ eh0.H.e, b := [(e3, true)] ++ eh0.H.b }
theorem esg0_s : (segL Try.prog G Gh eD ehs [] 3000 0 7 { eh0 with H := eH0_s }).map LT.bare = some (.jump 0 eT0 ⟨[(2, (.v 2)), (5, (.v 5)), (9, (.v 9)), (8, (.v 8)), (6, (.v 6)), (7, (.v 7)), (4, (.v 4)), (3, (.v 3)), (1, e6)], [(0, (.bv 0))], [(4, (.av 4)), (5, (.av 5)), (3, (.av 3))]⟩) := by kernel_rfl
theorem evc0_s (hB : eBase x0 n A B C) (hJ : eJ0 n a b c d f g h i j z0 A B C L M N) (hH : Hyp.ok eH0_s (eV x0 n a b c d f g h i j z0 A B C L M N)) (hF0 : 0 ≤ a ∧ a ≤ 9223372036854775806) (hF1 : 3 ≤ A a.toNat ∧ A a.toNat ≤ 3) (hG0 : a < n) :
    eW x0 (eV x0 n a b c d f g h i j z0 A B C L M N) (.jump 0 eT0 ⟨[(2, (.v 2)), (5, (.v 5)), (9, (.v 9)), (8, (.v 8)), (6, (.v 6)), (7, (.v 7)), (4, (.v 4)), (3, (.v 3)), (1, e6)], [(0, (.bv 0))], [(4, (.av 4)), (5, (.av 5)), (3, (.av 3))]⟩) := by
  simp only [eW, LT.holds, retTrue]
  have hB3 := hB
  have hJ3 := hJ
  simp only [eBase] at hB3
  simp only [eJ0] at hJ3
  obtain ⟨b0, c0, c1, c2, en, ea0, ea1, ea2, _⟩ := hB3
  obtain ⟨l1, l2, l3, l4, l5, l6, l7, l8, l9, m3, m4, m5, hk, _⟩ := hJ3
  refine ⟨ehT0, ⟨n, (_root_.Go.Sx.E.i (eV x0 n a b c d f g h i j z0 A B C L M N) e6), b, c, d, f, g, h, i, j, z0, A, B, C, L, M, N, (by kernel_rfl), hB, ?_⟩, ?_⟩
  · exact ⟨(show 0 ≤ a + 1 ∧ a + 1 ≤ 9223372036854775807 by omega), l2, l3, l4, l5, l6, l7, l8, l9, m3, m4, m5, (show a + 1 ≤ n by omega), trivial⟩
  show (n - (a + 1)).toNat < (n - a).toNat
  omega
noncomputable def eH0_e : Hyp := { eh0.H with e := [((.v 1), (0, 9223372036854775806)), (e0, (4, 9223372036854775807))] ++ eh0.H.e, b := [(e3, true)] ++ eh0.H.b }
theorem esg0_e : (segL Try.prog G Gh eD ehs [] 3000 0 7 { eh0 with H := eH0_e }).map LT.bare = some (.jump 0 eT0 ⟨[(2, (.v 2)), (5, (.v 5)), (9, (.v 9)), (8, (.v 8)), (6, (.v 6)), (7, (.v 7)), (4, (.v 4)), (3, (.v 3)), (1, e6)], [(0, (.bv 0))], [(4, (.av 4)), (5, (.av 5)), (3, e175)]⟩) := by kernel_rfl
theorem evc0_e (hB : eBase x0 n A B C) (hJ : eJ0 n a b c d f g h i j z0 A B C L M N) (hH : Hyp.ok eH0_e (eV x0 n a b c d f g h i j z0 A B C L M N)) (hF0 : 0 ≤ a ∧ a ≤ 9223372036854775806) (hF1 : 4 ≤ A a.toNat ∧ A a.toNat ≤ 9223372036854775807) (hG0 : a < n) :
    eW x0 (eV x0 n a b c d f g h i j z0 A B C L M N) (.jump 0 eT0 ⟨[(2, (.v 2)), (5, (.v 5)), (9, (.v 9)), (8, (.v 8)), (6, (.v 6)), (7, (.v 7)), (4, (.v 4)), (3, (.v 3)), (1, e6)], [(0, (.bv 0))], [(4, (.av 4)), (5, (.av 5)), (3, e175)]⟩) := by
  simp only [eW, LT.holds, retTrue]
  have hB3 := hB
  have hJ3 := hJ
  simp only [eBase] at hB3
  simp only [eJ0] at hJ3
  obtain ⟨b0, c0, c1, c2, en, ea0, ea1, ea2, _⟩ := hB3
  obtain ⟨l1, l2, l3, l4, l5, l6, l7, l8, l9, m3, m4, m5, hk, _⟩ := hJ3
  refine ⟨ehT0, ⟨n, (_root_.Go.Sx.E.i (eV x0 n a b c d f g h i j z0 A B C L M N) e6), b, c, d, f, g, h, i, j, z0, A, B, C, (_root_.Go.Sx.E.a (eV x0 n a b c d f g h i j z0 A B C L M N) e175), M, N, (by kernel_rfl), hB, ?_⟩, ?_⟩
  · exact ⟨(show 0 ≤ a + 1 ∧ a + 1 ≤ 9223372036854775807 by omega), l2, l3, l4, l5, l6, l7, l8, l9, (arr_at hH (by kernel_rfl)), m4, m5, (show a + 1 ≤ n by omega), trivial⟩
  show (n - (a + 1)).toNat < (n - a).toNat
  omega
noncomputable def eH0_n : Hyp := { eh0.H with e := [((.v 1), (0, 9223372036854775806)), (e0, ((-9223372036854775808), (-1)))] ++ eh0.H.e, b := [(e3, true)] ++ eh0.H.b }
theorem esg0_n : (segL Try.prog G Gh eD ehs [] 3000 0 7 { eh0 with H := eH0_n }).map LT.bare = some (.jump 0 eT0 ⟨[(2, (.v 2)), (5, (.v 5)), (9, (.v 9)), (8, (.v 8)), (6, (.v 6)), (7, (.v 7)), (4, (.v 4)), (3, (.v 3)), (1, e6)], [(0, (.bv 0))], [(4, (.av 4)), (5, (.av 5)), (3, e175)]⟩) := by kernel_rfl
theorem evc0_n (hB : eBase x0 n A B C) (hJ : eJ0 n a b c d f g h i j z0 A B C L M N) (hH : Hyp.ok eH0_n (eV x0 n a b c d f g h i j z0 A B C L M N)) (hF0 : 0 ≤ a ∧ a ≤ 9223372036854775806) (hF1 : -9223372036854775808 ≤ A a.toNat ∧ A a.toNat ≤ -1) (hG0 : a < n) :
    eW x0 (eV x0 n a b c d f g h i j z0 A B C L M N) (.jump 0 eT0 ⟨[(2, (.v 2)), (5, (.v 5)), (9, (.v 9)), (8, (.v 8)), (6, (.v 6)), (7, (.v 7)), (4, (.v 4)), (3, (.v 3)), (1, e6)], [(0, (.bv 0))], [(4, (.av 4)), (5, (.av 5)), (3, e175)]⟩) := by
  simp only [eW, LT.holds, retTrue]
  have hB3 := hB
  have hJ3 := hJ
  simp only [eBase] at hB3
  simp only [eJ0] at hJ3
  obtain ⟨b0, c0, c1, c2, en, ea0, ea1, ea2, _⟩ := hB3
  obtain ⟨l1, l2, l3, l4, l5, l6, l7, l8, l9, m3, m4, m5, hk, _⟩ := hJ3
  refine ⟨ehT0, ⟨n, (_root_.Go.Sx.E.i (eV x0 n a b c d f g h i j z0 A B C L M N) e6), b, c, d, f, g, h, i, j, z0, A, B, C, (_root_.Go.Sx.E.a (eV x0 n a b c d f g h i j z0 A B C L M N) e175), M, N, (by kernel_rfl), hB, ?_⟩, ?_⟩
  · exact ⟨(show 0 ≤ a + 1 ∧ a + 1 ≤ 9223372036854775807 by omega), l2, l3, l4, l5, l6, l7, l8, l9, (arr_at hH (by kernel_rfl)), m4, m5, (show a + 1 ≤ n by omega), trivial⟩
  show (n - (a + 1)).toNat < (n - a).toNat
  omega
noncomputable def eH0_x : Hyp := { eh0.H with e := [] ++ eh0.H.e, b := [(e3, false)] ++ eh0.H.b }
theorem esg0_x : (segL Try.prog G Gh eD ehs [] 3000 0 7 { eh0 with H := eH0_x }).map LT.bare = some (.ret (.s (.bool (.blit true))) []) := by kernel_rfl
theorem evc0_x (hB : eBase x0 n A B C) (hJ : eJ0 n a b c d f g h i j z0 A B C L M N) (hH : Hyp.ok eH0_x (eV x0 n a b c d f g h i j z0 A B C L M N))  (hG0 : ¬ a < n) :
    eW x0 (eV x0 n a b c d f g h i j z0 A B C L M N) (.ret (.s (.bool (.blit true))) []) := by
  simp only [eW, LT.holds, retTrue]
  have hB3 := hB
  have hJ3 := hJ
  simp only [eBase] at hB3
  simp only [eJ0] at hJ3
  obtain ⟨b0, c0, c1, c2, en, ea0, ea1, ea2, _⟩ := hB3
  obtain ⟨l1, l2, l3, l4, l5, l6, l7, l8, l9, m3, m4, m5, hk, _⟩ := hJ3
  rfl
end Go.Proofs.Ytjegnoknenahpaa.VramScripts
