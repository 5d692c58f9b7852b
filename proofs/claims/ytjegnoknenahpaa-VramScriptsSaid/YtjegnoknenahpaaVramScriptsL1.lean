/- A part of the law VramScripts, which returns true for every input. The ports, in whatever order they are written and read, saving and loading between, do to the memories what the document says, and read what it says. No condition. -/
import Derived.Test.YtjegnoknenahpaaVramScriptsB
namespace Go.Proofs.Ytjegnoknenahpaa.VramScripts
open Go.Sx Go.ChangeShapes Go.WideShapes Go.ChangeAt Go.RowKit
set_option linter.unusedVariables false
set_option linter.unusedSimpArgs false
set_option maxRecDepth 100000
set_option maxHeartbeats 40000000
variable {x0 : Ext} {n a b c d f g h i j : Int} {z0 : Bool} {A B C L M N : Nat → Int}
noncomputable def eH0_w22_0 : Hyp := { eh0.H with e := [((.v 1), (0, 9223372036854775806)), (e0, (0, 0)), (e1, (22, 22)), (e39, (0, 0))] ++ eh0.H.e, b := [(e3, true)] ++ eh0.H.b }
theorem esg0_w22_0 : (segL Try.prog G Gh eD ehs [] 3000 0 7 { eh0 with H := eH0_w22_0 }).map LT.bare = some (.jump 0 eT0 ⟨[(2, (.v 2)), (5, (.v 5)), (9, e44), (8, e46), (6, (.v 6)), (7, (.v 7)), (4, (.v 4)), (3, (.v 3)), (1, e6)], [(0, (.bv 0))], [(4, (.av 4)), (5, (.av 5)), (3, (.av 3))]⟩) := by kernel_rfl
theorem evc0_w22_0 (hB : eBase x0 n A B C) (hJ : eJ0 n a b c d f g h i j z0 A B C L M N) (hH : Hyp.ok eH0_w22_0 (eV x0 n a b c d f g h i j z0 A B C L M N)) (hF0 : 0 ≤ a ∧ a ≤ 9223372036854775806) (hF1 : 0 ≤ A a.toNat ∧ A a.toNat ≤ 0) (hF2 : 22 ≤ B a.toNat ∧ B a.toNat ≤ 22) (hF3 : 0 ≤ (g / 4 % 4) ∧ (g / 4 % 4) ≤ 0) (hG0 : a < n) :
    eW x0 (eV x0 n a b c d f g h i j z0 A B C L M N) (.jump 0 eT0 ⟨[(2, (.v 2)), (5, (.v 5)), (9, e44), (8, e46), (6, (.v 6)), (7, (.v 7)), (4, (.v 4)), (3, (.v 3)), (1, e6)], [(0, (.bv 0))], [(4, (.av 4)), (5, (.av 5)), (3, (.av 3))]⟩) := by
  simp only [eW, LT.holds, retTrue]
  have hB3 := hB
  have hJ3 := hJ
  simp only [eBase] at hB3
  simp only [eJ0] at hJ3
  obtain ⟨b0, c0, c1, c2, en, ea0, ea1, ea2, _⟩ := hB3
  obtain ⟨l1, l2, l3, l4, l5, l6, l7, l8, l9, m3, m4, m5, hk, _⟩ := hJ3
  refine ⟨ehT0, ⟨n, (_root_.Go.Sx.E.i (eV x0 n a b c d f g h i j z0 A B C L M N) e6), b, c, d, f, g, h, (_root_.Go.Sx.E.i (eV x0 n a b c d f g h i j z0 A B C L M N) e46), (_root_.Go.Sx.E.i (eV x0 n a b c d f g h i j z0 A B C L M N) e44), z0, A, B, C, L, M, N, (by kernel_rfl), hB, ?_⟩, ?_⟩
  · exact ⟨(show 0 ≤ a + 1 ∧ a + 1 ≤ 9223372036854775807 by omega), l2, l3, l4, l5, l6, l7, (rng_at hH (by kernel_rfl)), (rng_at hH (by kernel_rfl)), m3, m4, m5, (show a + 1 ≤ n by omega), trivial⟩
  show (n - (a + 1)).toNat < (n - a).toNat
  omega
noncomputable def eH0_w22_1 : Hyp := { eh0.H with e := [((.v 1), (0, 9223372036854775806)), (e0, (0, 0)), (e1, (22, 22)), (e39, (1, 1))] ++ eh0.H.e, b := [(e3, true)] ++ eh0.H.b }
theorem esg0_w22_1 : (segL Try.prog G Gh eD ehs [] 3000 0 7 { eh0 with H := eH0_w22_1 }).map LT.bare = some (.jump 0 eT0 ⟨[(2, (.v 2)), (5, (.v 5)), (9, e56), (8, e46), (6, (.v 6)), (7, (.v 7)), (4, (.v 4)), (3, (.v 3)), (1, e6)], [(0, (.bv 0))], [(4, (.av 4)), (5, (.av 5)), (3, (.av 3))]⟩) := by kernel_rfl
theorem evc0_w22_1 (hB : eBase x0 n A B C) (hJ : eJ0 n a b c d f g h i j z0 A B C L M N) (hH : Hyp.ok eH0_w22_1 (eV x0 n a b c d f g h i j z0 A B C L M N)) (hF0 : 0 ≤ a ∧ a ≤ 9223372036854775806) (hF1 : 0 ≤ A a.toNat ∧ A a.toNat ≤ 0) (hF2 : 22 ≤ B a.toNat ∧ B a.toNat ≤ 22) (hF3 : 1 ≤ (g / 4 % 4) ∧ (g / 4 % 4) ≤ 1) (hG0 : a < n) :
    eW x0 (eV x0 n a b c d f g h i j z0 A B C L M N) (.jump 0 eT0 ⟨[(2, (.v 2)), (5, (.v 5)), (9, e56), (8, e46), (6, (.v 6)), (7, (.v 7)), (4, (.v 4)), (3, (.v 3)), (1, e6)], [(0, (.bv 0))], [(4, (.av 4)), (5, (.av 5)), (3, (.av 3))]⟩) := by
  simp only [eW, LT.holds, retTrue]
  have hB3 := hB
  have hJ3 := hJ
  simp only [eBase] at hB3
  simp only [eJ0] at hJ3
  obtain ⟨b0, c0, c1, c2, en, ea0, ea1, ea2, _⟩ := hB3
  obtain ⟨l1, l2, l3, l4, l5, l6, l7, l8, l9, m3, m4, m5, hk, _⟩ := hJ3
  refine ⟨ehT0, ⟨n, (_root_.Go.Sx.E.i (eV x0 n a b c d f g h i j z0 A B C L M N) e6), b, c, d, f, g, h, (_root_.Go.Sx.E.i (eV x0 n a b c d f g h i j z0 A B C L M N) e46), (_root_.Go.Sx.E.i (eV x0 n a b c d f g h i j z0 A B C L M N) e56), z0, A, B, C, L, M, N, (by kernel_rfl), hB, ?_⟩, ?_⟩
  · exact ⟨(show 0 ≤ a + 1 ∧ a + 1 ≤ 9223372036854775807 by omega), l2, l3, l4, l5, l6, l7, (rng_at hH (by kernel_rfl)), (rng_at hH (by kernel_rfl)), m3, m4, m5, (show a + 1 ≤ n by omega), trivial⟩
  show (n - (a + 1)).toNat < (n - a).toNat
  omega
noncomputable def eH0_w22_2 : Hyp := { eh0.H with e := [((.v 1), (0, 9223372036854775806)), (e0, (0, 0)), (e1, (22, 22)), (e39, (2, 2))] ++ eh0.H.e, b := [(e3, true)] ++ eh0.H.b }
theorem esg0_w22_2 : (segL Try.prog G Gh eD ehs [] 3000 0 7 { eh0 with H := eH0_w22_2 }).map LT.bare = some (.jump 0 eT0 ⟨[(2, (.v 2)), (5, (.v 5)), (9, e68), (8, e46), (6, (.v 6)), (7, (.v 7)), (4, (.v 4)), (3, (.v 3)), (1, e6)], [(0, (.bv 0))], [(4, (.av 4)), (5, (.av 5)), (3, (.av 3))]⟩) := by kernel_rfl
theorem evc0_w22_2 (hB : eBase x0 n A B C) (hJ : eJ0 n a b c d f g h i j z0 A B C L M N) (hH : Hyp.ok eH0_w22_2 (eV x0 n a b c d f g h i j z0 A B C L M N)) (hF0 : 0 ≤ a ∧ a ≤ 9223372036854775806) (hF1 : 0 ≤ A a.toNat ∧ A a.toNat ≤ 0) (hF2 : 22 ≤ B a.toNat ∧ B a.toNat ≤ 22) (hF3 : 2 ≤ (g / 4 % 4) ∧ (g / 4 % 4) ≤ 2) (hG0 : a < n) :
    eW x0 (eV x0 n a b c d f g h i j z0 A B C L M N) (.jump 0 eT0 ⟨[(2, (.v 2)), (5, (.v 5)), (9, e68), (8, e46), (6, (.v 6)), (7, (.v 7)), (4, (.v 4)), (3, (.v 3)), (1, e6)], [(0, (.bv 0))], [(4, (.av 4)), (5, (.av 5)), (3, (.av 3))]⟩) := by
  simp only [eW, LT.holds, retTrue]
  have hB3 := hB
  have hJ3 := hJ
  simp only [eBase] at hB3
  simp only [eJ0] at hJ3
  obtain ⟨b0, c0, c1, c2, en, ea0, ea1, ea2, _⟩ := hB3
  obtain ⟨l1, l2, l3, l4, l5, l6, l7, l8, l9, m3, m4, m5, hk, _⟩ := hJ3
  refine ⟨ehT0, ⟨n, (_root_.Go.Sx.E.i (eV x0 n a b c d f g h i j z0 A B C L M N) e6), b, c, d, f, g, h, (_root_.Go.Sx.E.i (eV x0 n a b c d f g h i j z0 A B C L M N) e46), (_root_.Go.Sx.E.i (eV x0 n a b c d f g h i j z0 A B C L M N) e68), z0, A, B, C, L, M, N, (by kernel_rfl), hB, ?_⟩, ?_⟩
  · exact ⟨(show 0 ≤ a + 1 ∧ a + 1 ≤ 9223372036854775807 by omega), l2, l3, l4, l5, l6, l7, (rng_at hH (by kernel_rfl)), (rng_at hH (by kernel_rfl)), m3, m4, m5, (show a + 1 ≤ n by omega), trivial⟩
  show (n - (a + 1)).toNat < (n - a).toNat
  omega
noncomputable def eH0_w22_3 : Hyp := { eh0.H with e := [((.v 1), (0, 9223372036854775806)), (e0, (0, 0)), (e1, (22, 22)), (e39, (3, 3))] ++ eh0.H.e, b := [(e3, true)] ++ eh0.H.b }
theorem esg0_w22_3 : (segL Try.prog G Gh eD ehs [] 3000 0 7 { eh0 with H := eH0_w22_3 }).map LT.bare = some (.jump 0 eT0 ⟨[(2, (.v 2)), (5, (.v 5)), (9, e79), (8, e46), (6, (.v 6)), (7, (.v 7)), (4, (.v 4)), (3, (.v 3)), (1, e6)], [(0, (.bv 0))], [(4, (.av 4)), (5, (.av 5)), (3, (.av 3))]⟩) := by kernel_rfl
theorem evc0_w22_3 (hB : eBase x0 n A B C) (hJ : eJ0 n a b c d f g h i j z0 A B C L M N) (hH : Hyp.ok eH0_w22_3 (eV x0 n a b c d f g h i j z0 A B C L M N)) (hF0 : 0 ≤ a ∧ a ≤ 9223372036854775806) (hF1 : 0 ≤ A a.toNat ∧ A a.toNat ≤ 0) (hF2 : 22 ≤ B a.toNat ∧ B a.toNat ≤ 22) (hF3 : 3 ≤ (g / 4 % 4) ∧ (g / 4 % 4) ≤ 3) (hG0 : a < n) :
    eW x0 (eV x0 n a b c d f g h i j z0 A B C L M N) (.jump 0 eT0 ⟨[(2, (.v 2)), (5, (.v 5)), (9, e79), (8, e46), (6, (.v 6)), (7, (.v 7)), (4, (.v 4)), (3, (.v 3)), (1, e6)], [(0, (.bv 0))], [(4, (.av 4)), (5, (.av 5)), (3, (.av 3))]⟩) := by
  simp only [eW, LT.holds, retTrue]
  have hB3 := hB
  have hJ3 := hJ
  simp only [eBase] at hB3
  simp only [eJ0] at hJ3
  obtain ⟨b0, c0, c1, c2, en, ea0, ea1, ea2, _⟩ := hB3
  obtain ⟨l1, l2, l3, l4, l5, l6, l7, l8, l9, m3, m4, m5, hk, _⟩ := hJ3
  refine ⟨ehT0, ⟨n, (_root_.Go.Sx.E.i (eV x0 n a b c d f g h i j z0 A B C L M N) e6), b, c, d, f, g, h, (_root_.Go.Sx.E.i (eV x0 n a b c d f g h i j z0 A B C L M N) e46), (_root_.Go.Sx.E.i (eV x0 n a b c d f g h i j z0 A B C L M N) e79), z0, A, B, C, L, M, N, (by kernel_rfl), hB, ?_⟩, ?_⟩
  · exact ⟨(show 0 ≤ a + 1 ∧ a + 1 ≤ 9223372036854775807 by omega), l2, l3, l4, l5, l6, l7, (rng_at hH (by kernel_rfl)), (rng_at hH (by kernel_rfl)), m3, m4, m5, (show a + 1 ≤ n by omega), trivial⟩
  show (n - (a + 1)).toNat < (n - a).toNat
  omega
noncomputable def eH0_w23_0 : Hyp := { eh0.H with e := [((.v 1), (0, 9223372036854775806)), (e0, (0, 0)), (e1, (23, 23)), (e39, (0, 0))] ++ eh0.H.e, b := [(e3, true)] ++ eh0.H.b }
theorem esg0_w23_0 : (segL Try.prog G Gh eD ehs [] 3000 0 7 { eh0 with H := eH0_w23_0 }).map LT.bare = some (.jump 0 eT0 ⟨[(2, (.v 2)), (5, (.v 5)), (9, e84), (8, e82), (6, (.v 6)), (7, (.v 7)), (4, (.v 4)), (3, (.v 3)), (1, e6)], [(0, (.bv 0))], [(4, (.av 4)), (5, (.av 5)), (3, (.av 3))]⟩) := by kernel_rfl
theorem evc0_w23_0 (hB : eBase x0 n A B C) (hJ : eJ0 n a b c d f g h i j z0 A B C L M N) (hH : Hyp.ok eH0_w23_0 (eV x0 n a b c d f g h i j z0 A B C L M N)) (hF0 : 0 ≤ a ∧ a ≤ 9223372036854775806) (hF1 : 0 ≤ A a.toNat ∧ A a.toNat ≤ 0) (hF2 : 23 ≤ B a.toNat ∧ B a.toNat ≤ 23) (hF3 : 0 ≤ (g / 4 % 4) ∧ (g / 4 % 4) ≤ 0) (hG0 : a < n) :
    eW x0 (eV x0 n a b c d f g h i j z0 A B C L M N) (.jump 0 eT0 ⟨[(2, (.v 2)), (5, (.v 5)), (9, e84), (8, e82), (6, (.v 6)), (7, (.v 7)), (4, (.v 4)), (3, (.v 3)), (1, e6)], [(0, (.bv 0))], [(4, (.av 4)), (5, (.av 5)), (3, (.av 3))]⟩) := by
  simp only [eW, LT.holds, retTrue]
  have hB3 := hB
  have hJ3 := hJ
  simp only [eBase] at hB3
  simp only [eJ0] at hJ3
  obtain ⟨b0, c0, c1, c2, en, ea0, ea1, ea2, _⟩ := hB3
  obtain ⟨l1, l2, l3, l4, l5, l6, l7, l8, l9, m3, m4, m5, hk, _⟩ := hJ3
  refine ⟨ehT0, ⟨n, (_root_.Go.Sx.E.i (eV x0 n a b c d f g h i j z0 A B C L M N) e6), b, c, d, f, g, h, (_root_.Go.Sx.E.i (eV x0 n a b c d f g h i j z0 A B C L M N) e82), (_root_.Go.Sx.E.i (eV x0 n a b c d f g h i j z0 A B C L M N) e84), z0, A, B, C, L, M, N, (by kernel_rfl), hB, ?_⟩, ?_⟩
  · exact ⟨(show 0 ≤ a + 1 ∧ a + 1 ≤ 9223372036854775807 by omega), l2, l3, l4, l5, l6, l7, (rng_at hH (by kernel_rfl)), (rng_at hH (by kernel_rfl)), m3, m4, m5, (show a + 1 ≤ n by omega), trivial⟩
  show (n - (a + 1)).toNat < (n - a).toNat
  omega
noncomputable def eH0_w23_1 : Hyp := { eh0.H with e := [((.v 1), (0, 9223372036854775806)), (e0, (0, 0)), (e1, (23, 23)), (e39, (1, 1))] ++ eh0.H.e, b := [(e3, true)] ++ eh0.H.b }
theorem esg0_w23_1 : (segL Try.prog G Gh eD ehs [] 3000 0 7 { eh0 with H := eH0_w23_1 }).map LT.bare = some (.jump 0 eT0 ⟨[(2, (.v 2)), (5, (.v 5)), (9, e92), (8, e82), (6, (.v 6)), (7, (.v 7)), (4, (.v 4)), (3, (.v 3)), (1, e6)], [(0, (.bv 0))], [(4, (.av 4)), (5, (.av 5)), (3, (.av 3))]⟩) := by kernel_rfl
theorem evc0_w23_1 (hB : eBase x0 n A B C) (hJ : eJ0 n a b c d f g h i j z0 A B C L M N) (hH : Hyp.ok eH0_w23_1 (eV x0 n a b c d f g h i j z0 A B C L M N)) (hF0 : 0 ≤ a ∧ a ≤ 9223372036854775806) (hF1 : 0 ≤ A a.toNat ∧ A a.toNat ≤ 0) (hF2 : 23 ≤ B a.toNat ∧ B a.toNat ≤ 23) (hF3 : 1 ≤ (g / 4 % 4) ∧ (g / 4 % 4) ≤ 1) (hG0 : a < n) :
    eW x0 (eV x0 n a b c d f g h i j z0 A B C L M N) (.jump 0 eT0 ⟨[(2, (.v 2)), (5, (.v 5)), (9, e92), (8, e82), (6, (.v 6)), (7, (.v 7)), (4, (.v 4)), (3, (.v 3)), (1, e6)], [(0, (.bv 0))], [(4, (.av 4)), (5, (.av 5)), (3, (.av 3))]⟩) := by
  simp only [eW, LT.holds, retTrue]
  have hB3 := hB
  have hJ3 := hJ
  simp only [eBase] at hB3
  simp only [eJ0] at hJ3
  obtain ⟨b0, c0, c1, c2, en, ea0, ea1, ea2, _⟩ := hB3
  obtain ⟨l1, l2, l3, l4, l5, l6, l7, l8, l9, m3, m4, m5, hk, _⟩ := hJ3
  refine ⟨ehT0, ⟨n, (_root_.Go.Sx.E.i (eV x0 n a b c d f g h i j z0 A B C L M N) e6), b, c, d, f, g, h, (_root_.Go.Sx.E.i (eV x0 n a b c d f g h i j z0 A B C L M N) e82), (_root_.Go.Sx.E.i (eV x0 n a b c d f g h i j z0 A B C L M N) e92), z0, A, B, C, L, M, N, (by kernel_rfl), hB, ?_⟩, ?_⟩
  · exact ⟨(show 0 ≤ a + 1 ∧ a + 1 ≤ 9223372036854775807 by omega), l2, l3, l4, l5, l6, l7, (rng_at hH (by kernel_rfl)), (rng_at hH (by kernel_rfl)), m3, m4, m5, (show a + 1 ≤ n by omega), trivial⟩
  show (n - (a + 1)).toNat < (n - a).toNat
  omega
noncomputable def eH0_w23_2 : Hyp := { eh0.H with e := [((.v 1), (0, 9223372036854775806)), (e0, (0, 0)), (e1, (23, 23)), (e39, (2, 2))] ++ eh0.H.e, b := [(e3, true)] ++ eh0.H.b }
theorem esg0_w23_2 : (segL Try.prog G Gh eD ehs [] 3000 0 7 { eh0 with H := eH0_w23_2 }).map LT.bare = some (.jump 0 eT0 ⟨[(2, (.v 2)), (5, (.v 5)), (9, e105), (8, e82), (6, (.v 6)), (7, (.v 7)), (4, (.v 4)), (3, (.v 3)), (1, e6)], [(0, (.bv 0))], [(4, (.av 4)), (5, (.av 5)), (3, (.av 3))]⟩) := by kernel_rfl
theorem evc0_w23_2 (hB : eBase x0 n A B C) (hJ : eJ0 n a b c d f g h i j z0 A B C L M N) (hH : Hyp.ok eH0_w23_2 (eV x0 n a b c d f g h i j z0 A B C L M N)) (hF0 : 0 ≤ a ∧ a ≤ 9223372036854775806) (hF1 : 0 ≤ A a.toNat ∧ A a.toNat ≤ 0) (hF2 : 23 ≤ B a.toNat ∧ B a.toNat ≤ 23) (hF3 : 2 ≤ (g / 4 % 4) ∧ (g / 4 % 4) ≤ 2) (hG0 : a < n) :
    eW x0 (eV x0 n a b c d f g h i j z0 A B C L M N) (.jump 0 eT0 ⟨[(2, (.v 2)), (5, (.v 5)), (9, e105), (8, e82), (6, (.v 6)), (7, (.v 7)), (4, (.v 4)), (3, (.v 3)), (1, e6)], [(0, (.bv 0))], [(4, (.av 4)), (5, (.av 5)), (3, (.av 3))]⟩) := by
  simp only [eW, LT.holds, retTrue]
  have hB3 := hB
  have hJ3 := hJ
  simp only [eBase] at hB3
  simp only [eJ0] at hJ3
  obtain ⟨b0, c0, c1, c2, en, ea0, ea1, ea2, _⟩ := hB3
  obtain ⟨l1, l2, l3, l4, l5, l6, l7, l8, l9, m3, m4, m5, hk, _⟩ := hJ3
  refine ⟨ehT0, ⟨n, (_root_.Go.Sx.E.i (eV x0 n a b c d f g h i j z0 A B C L M N) e6), b, c, d, f, g, h, (_root_.Go.Sx.E.i (eV x0 n a b c d f g h i j z0 A B C L M N) e82), (_root_.Go.Sx.E.i (eV x0 n a b c d f g h i j z0 A B C L M N) e105), z0, A, B, C, L, M, N, (by kernel_rfl), hB, ?_⟩, ?_⟩
  · exact ⟨(show 0 ≤ a + 1 ∧ a + 1 ≤ 9223372036854775807 by omega), l2, l3, l4, l5, l6, l7, (rng_at hH (by kernel_rfl)), (rng_at hH (by kernel_rfl)), m3, m4, m5, (show a + 1 ≤ n by omega), trivial⟩
  show (n - (a + 1)).toNat < (n - a).toNat
  omega
noncomputable def eH0_w23_3 : Hyp := { eh0.H with e := [((.v 1), (0, 9223372036854775806)), (e0, (0, 0)), (e1, (23, 23)), (e39, (3, 3))] ++ eh0.H.e, b := [(e3, true)] ++ eh0.H.b }
theorem esg0_w23_3 : (segL Try.prog G Gh eD ehs [] 3000 0 7 { eh0 with H := eH0_w23_3 }).map LT.bare = some (.jump 0 eT0 ⟨[(2, (.v 2)), (5, (.v 5)), (9, e117), (8, e82), (6, (.v 6)), (7, (.v 7)), (4, (.v 4)), (3, (.v 3)), (1, e6)], [(0, (.bv 0))], [(4, (.av 4)), (5, (.av 5)), (3, (.av 3))]⟩) := by kernel_rfl
theorem evc0_w23_3 (hB : eBase x0 n A B C) (hJ : eJ0 n a b c d f g h i j z0 A B C L M N) (hH : Hyp.ok eH0_w23_3 (eV x0 n a b c d f g h i j z0 A B C L M N)) (hF0 : 0 ≤ a ∧ a ≤ 9223372036854775806) (hF1 : 0 ≤ A a.toNat ∧ A a.toNat ≤ 0) (hF2 : 23 ≤ B a.toNat ∧ B a.toNat ≤ 23) (hF3 : 3 ≤ (g / 4 % 4) ∧ (g / 4 % 4) ≤ 3) (hG0 : a < n) :
    eW x0 (eV x0 n a b c d f g h i j z0 A B C L M N) (.jump 0 eT0 ⟨[(2, (.v 2)), (5, (.v 5)), (9, e117), (8, e82), (6, (.v 6)), (7, (.v 7)), (4, (.v 4)), (3, (.v 3)), (1, e6)], [(0, (.bv 0))], [(4, (.av 4)), (5, (.av 5)), (3, (.av 3))]⟩) := by
  simp only [eW, LT.holds, retTrue]
  have hB3 := hB
  have hJ3 := hJ
  simp only [eBase] at hB3
  simp only [eJ0] at hJ3
  obtain ⟨b0, c0, c1, c2, en, ea0, ea1, ea2, _⟩ := hB3
  obtain ⟨l1, l2, l3, l4, l5, l6, l7, l8, l9, m3, m4, m5, hk, _⟩ := hJ3
  refine ⟨ehT0, ⟨n, (_root_.Go.Sx.E.i (eV x0 n a b c d f g h i j z0 A B C L M N) e6), b, c, d, f, g, h, (_root_.Go.Sx.E.i (eV x0 n a b c d f g h i j z0 A B C L M N) e82), (_root_.Go.Sx.E.i (eV x0 n a b c d f g h i j z0 A B C L M N) e117), z0, A, B, C, L, M, N, (by kernel_rfl), hB, ?_⟩, ?_⟩
  · exact ⟨(show 0 ≤ a + 1 ∧ a + 1 ≤ 9223372036854775807 by omega), l2, l3, l4, l5, l6, l7, (rng_at hH (by kernel_rfl)), (rng_at hH (by kernel_rfl)), m3, m4, m5, (show a + 1 ≤ n by omega), trivial⟩
  show (n - (a + 1)).toNat < (n - a).toNat
  omega
noncomputable def eH0_w24_0_n : Hyp := { eh0.H with e := [((.v 1), (0, 9223372036854775806)), (e0, (0, 0)), (e1, (24, 24)), (e39, (0, 0)), ((.v 6), (128, 255))] ++ eh0.H.e, b := [(e3, true)] ++ eh0.H.b }
theorem esg0_w24_0_n : (segL Try.prog G Gh eD ehs [] 3000 0 7 { eh0 with H := eH0_w24_0_n }).map LT.bare = some (.jump 0 eT0 ⟨[(2, (.v 2)), (5, (.v 5)), (9, (.v 9)), (8, (.v 8)), (6, (.v 6)), (7, (.v 7)), (4, (.v 4)), (3, (.v 3)), (1, e6)], [(0, (.bv 0))], [(4, (.av 4)), (5, (.av 5)), (3, e123)]⟩) := by kernel_rfl
theorem evc0_w24_0_n (hB : eBase x0 n A B C) (hJ : eJ0 n a b c d f g h i j z0 A B C L M N) (hH : Hyp.ok eH0_w24_0_n (eV x0 n a b c d f g h i j z0 A B C L M N)) (hF0 : 0 ≤ a ∧ a ≤ 9223372036854775806) (hF1 : 0 ≤ A a.toNat ∧ A a.toNat ≤ 0) (hF2 : 24 ≤ B a.toNat ∧ B a.toNat ≤ 24) (hF3 : 0 ≤ (g / 4 % 4) ∧ (g / 4 % 4) ≤ 0) (hF4 : 128 ≤ g ∧ g ≤ 255) (hG0 : a < n) :
    eW x0 (eV x0 n a b c d f g h i j z0 A B C L M N) (.jump 0 eT0 ⟨[(2, (.v 2)), (5, (.v 5)), (9, (.v 9)), (8, (.v 8)), (6, (.v 6)), (7, (.v 7)), (4, (.v 4)), (3, (.v 3)), (1, e6)], [(0, (.bv 0))], [(4, (.av 4)), (5, (.av 5)), (3, e123)]⟩) := by
  simp only [eW, LT.holds, retTrue]
  have hB3 := hB
  have hJ3 := hJ
  simp only [eBase] at hB3
  simp only [eJ0] at hJ3
  obtain ⟨b0, c0, c1, c2, en, ea0, ea1, ea2, _⟩ := hB3
  obtain ⟨l1, l2, l3, l4, l5, l6, l7, l8, l9, m3, m4, m5, hk, _⟩ := hJ3
  refine ⟨ehT0, ⟨n, (_root_.Go.Sx.E.i (eV x0 n a b c d f g h i j z0 A B C L M N) e6), b, c, d, f, g, h, i, j, z0, A, B, C, (_root_.Go.Sx.E.a (eV x0 n a b c d f g h i j z0 A B C L M N) e123), M, N, (by kernel_rfl), hB, ?_⟩, ?_⟩
  · exact ⟨(show 0 ≤ a + 1 ∧ a + 1 ≤ 9223372036854775807 by omega), l2, l3, l4, l5, l6, l7, l8, l9, (arr_at hH (by kernel_rfl)), m4, m5, (show a + 1 ≤ n by omega), trivial⟩
  show (n - (a + 1)).toNat < (n - a).toNat
  omega
noncomputable def eH0_w24_0_y : Hyp := { eh0.H with e := [((.v 1), (0, 9223372036854775806)), (e0, (0, 0)), (e1, (24, 24)), (e39, (0, 0)), ((.v 6), (0, 127))] ++ eh0.H.e, b := [(e3, true)] ++ eh0.H.b }
theorem esg0_w24_0_y : (segL Try.prog G Gh eD ehs [] 3000 0 7 { eh0 with H := eH0_w24_0_y }).map LT.bare = some (.jump 0 eT0 ⟨[(2, (.v 2)), (5, (.v 5)), (9, (.v 9)), (8, e130), (6, (.v 6)), (7, (.v 7)), (4, (.v 4)), (3, (.v 3)), (1, e6)], [(0, (.bv 0))], [(4, (.av 4)), (5, (.av 5)), (3, e123)]⟩) := by kernel_rfl
theorem evc0_w24_0_y (hB : eBase x0 n A B C) (hJ : eJ0 n a b c d f g h i j z0 A B C L M N) (hH : Hyp.ok eH0_w24_0_y (eV x0 n a b c d f g h i j z0 A B C L M N)) (hF0 : 0 ≤ a ∧ a ≤ 9223372036854775806) (hF1 : 0 ≤ A a.toNat ∧ A a.toNat ≤ 0) (hF2 : 24 ≤ B a.toNat ∧ B a.toNat ≤ 24) (hF3 : 0 ≤ (g / 4 % 4) ∧ (g / 4 % 4) ≤ 0) (hF4 : 0 ≤ g ∧ g ≤ 127) (hG0 : a < n) :
    eW x0 (eV x0 n a b c d f g h i j z0 A B C L M N) (.jump 0 eT0 ⟨[(2, (.v 2)), (5, (.v 5)), (9, (.v 9)), (8, e130), (6, (.v 6)), (7, (.v 7)), (4, (.v 4)), (3, (.v 3)), (1, e6)], [(0, (.bv 0))], [(4, (.av 4)), (5, (.av 5)), (3, e123)]⟩) := by
  simp only [eW, LT.holds, retTrue]
  have hB3 := hB
  have hJ3 := hJ
  simp only [eBase] at hB3
  simp only [eJ0] at hJ3
  obtain ⟨b0, c0, c1, c2, en, ea0, ea1, ea2, _⟩ := hB3
  obtain ⟨l1, l2, l3, l4, l5, l6, l7, l8, l9, m3, m4, m5, hk, _⟩ := hJ3
  refine ⟨ehT0, ⟨n, (_root_.Go.Sx.E.i (eV x0 n a b c d f g h i j z0 A B C L M N) e6), b, c, d, f, g, h, (_root_.Go.Sx.E.i (eV x0 n a b c d f g h i j z0 A B C L M N) e130), j, z0, A, B, C, (_root_.Go.Sx.E.a (eV x0 n a b c d f g h i j z0 A B C L M N) e123), M, N, (by kernel_rfl), hB, ?_⟩, ?_⟩
  · exact ⟨(show 0 ≤ a + 1 ∧ a + 1 ≤ 9223372036854775807 by omega), l2, l3, l4, l5, l6, l7, (rng_at hH (by kernel_rfl)), l9, (arr_at hH (by kernel_rfl)), m4, m5, (show a + 1 ≤ n by omega), trivial⟩
  show (n - (a + 1)).toNat < (n - a).toNat
  omega
noncomputable def eH0_w24_1_n : Hyp := { eh0.H with e := [((.v 1), (0, 9223372036854775806)), (e0, (0, 0)), (e1, (24, 24)), (e39, (1, 1)), ((.v 6), (128, 255))] ++ eh0.H.e, b := [(e3, true)] ++ eh0.H.b }
theorem esg0_w24_1_n : (segL Try.prog G Gh eD ehs [] 3000 0 7 { eh0 with H := eH0_w24_1_n }).map LT.bare = some (.jump 0 eT0 ⟨[(2, (.v 2)), (5, (.v 5)), (9, (.v 9)), (8, (.v 8)), (6, (.v 6)), (7, (.v 7)), (4, (.v 4)), (3, (.v 3)), (1, e6)], [(0, (.bv 0))], [(4, (.av 4)), (5, (.av 5)), (3, e138)]⟩) := by kernel_rfl
theorem evc0_w24_1_n (hB : eBase x0 n A B C) (hJ : eJ0 n a b c d f g h i j z0 A B C L M N) (hH : Hyp.ok eH0_w24_1_n (eV x0 n a b c d f g h i j z0 A B C L M N)) (hF0 : 0 ≤ a ∧ a ≤ 9223372036854775806) (hF1 : 0 ≤ A a.toNat ∧ A a.toNat ≤ 0) (hF2 : 24 ≤ B a.toNat ∧ B a.toNat ≤ 24) (hF3 : 1 ≤ (g / 4 % 4) ∧ (g / 4 % 4) ≤ 1) (hF4 : 128 ≤ g ∧ g ≤ 255) (hG0 : a < n) :
    eW x0 (eV x0 n a b c d f g h i j z0 A B C L M N) (.jump 0 eT0 ⟨[(2, (.v 2)), (5, (.v 5)), (9, (.v 9)), (8, (.v 8)), (6, (.v 6)), (7, (.v 7)), (4, (.v 4)), (3, (.v 3)), (1, e6)], [(0, (.bv 0))], [(4, (.av 4)), (5, (.av 5)), (3, e138)]⟩) := by
  simp only [eW, LT.holds, retTrue]
  have hB3 := hB
  have hJ3 := hJ
  simp only [eBase] at hB3
  simp only [eJ0] at hJ3
  obtain ⟨b0, c0, c1, c2, en, ea0, ea1, ea2, _⟩ := hB3
  obtain ⟨l1, l2, l3, l4, l5, l6, l7, l8, l9, m3, m4, m5, hk, _⟩ := hJ3
  refine ⟨ehT0, ⟨n, (_root_.Go.Sx.E.i (eV x0 n a b c d f g h i j z0 A B C L M N) e6), b, c, d, f, g, h, i, j, z0, A, B, C, (_root_.Go.Sx.E.a (eV x0 n a b c d f g h i j z0 A B C L M N) e138), M, N, (by kernel_rfl), hB, ?_⟩, ?_⟩
  · exact ⟨(show 0 ≤ a + 1 ∧ a + 1 ≤ 9223372036854775807 by omega), l2, l3, l4, l5, l6, l7, l8, l9, (arr_at hH (by kernel_rfl)), m4, m5, (show a + 1 ≤ n by omega), trivial⟩
  show (n - (a + 1)).toNat < (n - a).toNat
  omega
noncomputable def eH0_w24_1_y : Hyp := { eh0.H with e := [((.v 1), (0, 9223372036854775806)), (e0, (0, 0)), (e1, (24, 24)), (e39, (1, 1)), ((.v 6), (0, 127))] ++ eh0.H.e, b := [(e3, true)] ++ eh0.H.b }
theorem esg0_w24_1_y : (segL Try.prog G Gh eD ehs [] 3000 0 7 { eh0 with H := eH0_w24_1_y }).map LT.bare = some (.jump 0 eT0 ⟨[(2, (.v 2)), (5, (.v 5)), (9, (.v 9)), (8, e130), (6, (.v 6)), (7, (.v 7)), (4, (.v 4)), (3, (.v 3)), (1, e6)], [(0, (.bv 0))], [(4, (.av 4)), (5, (.av 5)), (3, e138)]⟩) := by kernel_rfl
theorem evc0_w24_1_y (hB : eBase x0 n A B C) (hJ : eJ0 n a b c d f g h i j z0 A B C L M N) (hH : Hyp.ok eH0_w24_1_y (eV x0 n a b c d f g h i j z0 A B C L M N)) (hF0 : 0 ≤ a ∧ a ≤ 9223372036854775806) (hF1 : 0 ≤ A a.toNat ∧ A a.toNat ≤ 0) (hF2 : 24 ≤ B a.toNat ∧ B a.toNat ≤ 24) (hF3 : 1 ≤ (g / 4 % 4) ∧ (g / 4 % 4) ≤ 1) (hF4 : 0 ≤ g ∧ g ≤ 127) (hG0 : a < n) :
    eW x0 (eV x0 n a b c d f g h i j z0 A B C L M N) (.jump 0 eT0 ⟨[(2, (.v 2)), (5, (.v 5)), (9, (.v 9)), (8, e130), (6, (.v 6)), (7, (.v 7)), (4, (.v 4)), (3, (.v 3)), (1, e6)], [(0, (.bv 0))], [(4, (.av 4)), (5, (.av 5)), (3, e138)]⟩) := by
  simp only [eW, LT.holds, retTrue]
  have hB3 := hB
  have hJ3 := hJ
  simp only [eBase] at hB3
  simp only [eJ0] at hJ3
  obtain ⟨b0, c0, c1, c2, en, ea0, ea1, ea2, _⟩ := hB3
  obtain ⟨l1, l2, l3, l4, l5, l6, l7, l8, l9, m3, m4, m5, hk, _⟩ := hJ3
  refine ⟨ehT0, ⟨n, (_root_.Go.Sx.E.i (eV x0 n a b c d f g h i j z0 A B C L M N) e6), b, c, d, f, g, h, (_root_.Go.Sx.E.i (eV x0 n a b c d f g h i j z0 A B C L M N) e130), j, z0, A, B, C, (_root_.Go.Sx.E.a (eV x0 n a b c d f g h i j z0 A B C L M N) e138), M, N, (by kernel_rfl), hB, ?_⟩, ?_⟩
  · exact ⟨(show 0 ≤ a + 1 ∧ a + 1 ≤ 9223372036854775807 by omega), l2, l3, l4, l5, l6, l7, (rng_at hH (by kernel_rfl)), l9, (arr_at hH (by kernel_rfl)), m4, m5, (show a + 1 ≤ n by omega), trivial⟩
  show (n - (a + 1)).toNat < (n - a).toNat
  omega
noncomputable def eH0_w24_2_n : Hyp := { eh0.H with e := [((.v 1), (0, 9223372036854775806)), (e0, (0, 0)), (e1, (24, 24)), (e39, (2, 2)), ((.v 6), (128, 255))] ++ eh0.H.e, b := [(e3, true)] ++ eh0.H.b }
theorem esg0_w24_2_n : (segL Try.prog G Gh eD ehs [] 3000 0 7 { eh0 with H := eH0_w24_2_n }).map LT.bare = some (.jump 0 eT0 ⟨[(2, (.v 2)), (5, (.v 5)), (9, (.v 9)), (8, (.v 8)), (6, (.v 6)), (7, (.v 7)), (4, (.v 4)), (3, (.v 3)), (1, e6)], [(0, (.bv 0))], [(4, (.av 4)), (5, (.av 5)), (3, e149)]⟩) := by kernel_rfl
theorem evc0_w24_2_n (hB : eBase x0 n A B C) (hJ : eJ0 n a b c d f g h i j z0 A B C L M N) (hH : Hyp.ok eH0_w24_2_n (eV x0 n a b c d f g h i j z0 A B C L M N)) (hF0 : 0 ≤ a ∧ a ≤ 9223372036854775806) (hF1 : 0 ≤ A a.toNat ∧ A a.toNat ≤ 0) (hF2 : 24 ≤ B a.toNat ∧ B a.toNat ≤ 24) (hF3 : 2 ≤ (g / 4 % 4) ∧ (g / 4 % 4) ≤ 2) (hF4 : 128 ≤ g ∧ g ≤ 255) (hG0 : a < n) :
    eW x0 (eV x0 n a b c d f g h i j z0 A B C L M N) (.jump 0 eT0 ⟨[(2, (.v 2)), (5, (.v 5)), (9, (.v 9)), (8, (.v 8)), (6, (.v 6)), (7, (.v 7)), (4, (.v 4)), (3, (.v 3)), (1, e6)], [(0, (.bv 0))], [(4, (.av 4)), (5, (.av 5)), (3, e149)]⟩) := by
  simp only [eW, LT.holds, retTrue]
  have hB3 := hB
  have hJ3 := hJ
  simp only [eBase] at hB3
  simp only [eJ0] at hJ3
  obtain ⟨b0, c0, c1, c2, en, ea0, ea1, ea2, _⟩ := hB3
  obtain ⟨l1, l2, l3, l4, l5, l6, l7, l8, l9, m3, m4, m5, hk, _⟩ := hJ3
  refine ⟨ehT0, ⟨n, (_root_.Go.Sx.E.i (eV x0 n a b c d f g h i j z0 A B C L M N) e6), b, c, d, f, g, h, i, j, z0, A, B, C, (_root_.Go.Sx.E.a (eV x0 n a b c d f g h i j z0 A B C L M N) e149), M, N, (by kernel_rfl), hB, ?_⟩, ?_⟩
  · exact ⟨(show 0 ≤ a + 1 ∧ a + 1 ≤ 9223372036854775807 by omega), l2, l3, l4, l5, l6, l7, l8, l9, (arr_at hH (by kernel_rfl)), m4, m5, (show a + 1 ≤ n by omega), trivial⟩
  show (n - (a + 1)).toNat < (n - a).toNat
  omega
noncomputable def eH0_w24_2_y : Hyp := { eh0.H with e := [((.v 1), (0, 9223372036854775806)), (e0, (0, 0)), (e1, (24, 24)), (e39, (2, 2)), ((.v 6), (0, 127))] ++ eh0.H.e, b := [(e3, true)] ++ eh0.H.b }
theorem esg0_w24_2_y : (segL Try.prog G Gh eD ehs [] 3000 0 7 { eh0 with H := eH0_w24_2_y }).map LT.bare = some (.jump 0 eT0 ⟨[(2, (.v 2)), (5, (.v 5)), (9, (.v 9)), (8, e130), (6, (.v 6)), (7, (.v 7)), (4, (.v 4)), (3, (.v 3)), (1, e6)], [(0, (.bv 0))], [(4, (.av 4)), (5, (.av 5)), (3, e149)]⟩) := by kernel_rfl
theorem evc0_w24_2_y (hB : eBase x0 n A B C) (hJ : eJ0 n a b c d f g h i j z0 A B C L M N) (hH : Hyp.ok eH0_w24_2_y (eV x0 n a b c d f g h i j z0 A B C L M N)) (hF0 : 0 ≤ a ∧ a ≤ 9223372036854775806) (hF1 : 0 ≤ A a.toNat ∧ A a.toNat ≤ 0) (hF2 : 24 ≤ B a.toNat ∧ B a.toNat ≤ 24) (hF3 : 2 ≤ (g / 4 % 4) ∧ (g / 4 % 4) ≤ 2) (hF4 : 0 ≤ g ∧ g ≤ 127) (hG0 : a < n) :
    eW x0 (eV x0 n a b c d f g h i j z0 A B C L M N) (.jump 0 eT0 ⟨[(2, (.v 2)), (5, (.v 5)), (9, (.v 9)), (8, e130), (6, (.v 6)), (7, (.v 7)), (4, (.v 4)), (3, (.v 3)), (1, e6)], [(0, (.bv 0))], [(4, (.av 4)), (5, (.av 5)), (3, e149)]⟩) := by
  simp only [eW, LT.holds, retTrue]
  have hB3 := hB
  have hJ3 := hJ
  simp only [eBase] at hB3
  simp only [eJ0] at hJ3
  obtain ⟨b0, c0, c1, c2, en, ea0, ea1, ea2, _⟩ := hB3
  obtain ⟨l1, l2, l3, l4, l5, l6, l7, l8, l9, m3, m4, m5, hk, _⟩ := hJ3
  refine ⟨ehT0, ⟨n, (_root_.Go.Sx.E.i (eV x0 n a b c d f g h i j z0 A B C L M N) e6), b, c, d, f, g, h, (_root_.Go.Sx.E.i (eV x0 n a b c d f g h i j z0 A B C L M N) e130), j, z0, A, B, C, (_root_.Go.Sx.E.a (eV x0 n a b c d f g h i j z0 A B C L M N) e149), M, N, (by kernel_rfl), hB, ?_⟩, ?_⟩
  · exact ⟨(show 0 ≤ a + 1 ∧ a + 1 ≤ 9223372036854775807 by omega), l2, l3, l4, l5, l6, l7, (rng_at hH (by kernel_rfl)), l9, (arr_at hH (by kernel_rfl)), m4, m5, (show a + 1 ≤ n by omega), trivial⟩
  show (n - (a + 1)).toNat < (n - a).toNat
  omega
noncomputable def eH0_w24_3_n : Hyp := { eh0.H with e := [((.v 1), (0, 9223372036854775806)), (e0, (0, 0)), (e1, (24, 24)), (e39, (3, 3)), ((.v 6), (128, 255))] ++ eh0.H.e, b := [(e3, true)] ++ eh0.H.b }
theorem esg0_w24_3_n : (segL Try.prog G Gh eD ehs [] 3000 0 7 { eh0 with H := eH0_w24_3_n }).map LT.bare = some (.jump 0 eT0 ⟨[(2, (.v 2)), (5, (.v 5)), (9, (.v 9)), (8, (.v 8)), (6, (.v 6)), (7, (.v 7)), (4, (.v 4)), (3, (.v 3)), (1, e6)], [(0, (.bv 0))], [(4, (.av 4)), (5, (.av 5)), (3, e160)]⟩) := by kernel_rfl
theorem evc0_w24_3_n (hB : eBase x0 n A B C) (hJ : eJ0 n a b c d f g h i j z0 A B C L M N) (hH : Hyp.ok eH0_w24_3_n (eV x0 n a b c d f g h i j z0 A B C L M N)) (hF0 : 0 ≤ a ∧ a ≤ 9223372036854775806) (hF1 : 0 ≤ A a.toNat ∧ A a.toNat ≤ 0) (hF2 : 24 ≤ B a.toNat ∧ B a.toNat ≤ 24) (hF3 : 3 ≤ (g / 4 % 4) ∧ (g / 4 % 4) ≤ 3) (hF4 : 128 ≤ g ∧ g ≤ 255) (hG0 : a < n) :
    eW x0 (eV x0 n a b c d f g h i j z0 A B C L M N) (.jump 0 eT0 ⟨[(2, (.v 2)), (5, (.v 5)), (9, (.v 9)), (8, (.v 8)), (6, (.v 6)), (7, (.v 7)), (4, (.v 4)), (3, (.v 3)), (1, e6)], [(0, (.bv 0))], [(4, (.av 4)), (5, (.av 5)), (3, e160)]⟩) := by
  simp only [eW, LT.holds, retTrue]
  have hB3 := hB
  have hJ3 := hJ
  simp only [eBase] at hB3
  simp only [eJ0] at hJ3
  obtain ⟨b0, c0, c1, c2, en, ea0, ea1, ea2, _⟩ := hB3
  obtain ⟨l1, l2, l3, l4, l5, l6, l7, l8, l9, m3, m4, m5, hk, _⟩ := hJ3
  refine ⟨ehT0, ⟨n, (_root_.Go.Sx.E.i (eV x0 n a b c d f g h i j z0 A B C L M N) e6), b, c, d, f, g, h, i, j, z0, A, B, C, (_root_.Go.Sx.E.a (eV x0 n a b c d f g h i j z0 A B C L M N) e160), M, N, (by kernel_rfl), hB, ?_⟩, ?_⟩
  · exact ⟨(show 0 ≤ a + 1 ∧ a + 1 ≤ 9223372036854775807 by omega), l2, l3, l4, l5, l6, l7, l8, l9, (arr_at hH (by kernel_rfl)), m4, m5, (show a + 1 ≤ n by omega), trivial⟩
  show (n - (a + 1)).toNat < (n - a).toNat
  omega
end Go.Proofs.Ytjegnoknenahpaa.VramScripts
