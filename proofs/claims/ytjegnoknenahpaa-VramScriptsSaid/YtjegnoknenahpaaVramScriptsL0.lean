/- A part of the law VramScripts, which returns true for every input. The ports, in whatever order they are written and read, saving and loading between, do to the memories what the document says, and read what it says. No condition. -/
import Derived.Test.YtjegnoknenahpaaVramScriptsB
namespace Go.Proofs.Ytjegnoknenahpaa.VramScripts
open Go.Sx Go.ChangeShapes Go.WideShapes Go.ChangeAt Go.RowKit
set_option linter.unusedVariables false
set_option linter.unusedSimpArgs false
set_option maxRecDepth 100000
set_option maxHeartbeats 40000000
variable {x0 : Ext} {n a b c d f g h i j : Int} {z0 : Bool} {A B C L M N : Nat → Int}
noncomputable def eH0_w34_4 : Hyp := { eh0.H with e := [((.v 1), (0, 9223372036854775806)), (e0, (0, 0)), (e1, (34, 34)), (e2, (1, 1))] ++ eh0.H.e, b := [(e3, true)] ++ eh0.H.b }
theorem esg0_w34_4 : (segL Try.prog G Gh eD ehs [] 3000 0 7 { eh0 with H := eH0_w34_4 }).map LT.bare = some (.jump 0 eT0 ⟨[(2, (.v 2)), (5, e5), (9, (.v 9)), (8, (.v 8)), (6, (.v 6)), (7, (.v 7)), (4, (.v 4)), (3, (.v 3)), (1, e6)], [(0, (.bv 0))], [(4, e12), (5, (.av 5)), (3, (.av 3))]⟩) := by kernel_rfl
theorem evc0_w34_4 (hB : eBase x0 n A B C) (hJ : eJ0 n a b c d f g h i j z0 A B C L M N) (hH : Hyp.ok eH0_w34_4 (eV x0 n a b c d f g h i j z0 A B C L M N)) (hF0 : 0 ≤ a ∧ a ≤ 9223372036854775806) (hF1 : 0 ≤ A a.toNat ∧ A a.toNat ≤ 0) (hF2 : 34 ≤ B a.toNat ∧ B a.toNat ≤ 34) (hF3 : 1 ≤ (f % 2) ∧ (f % 2) ≤ 1) (hG0 : a < n) :
    eW x0 (eV x0 n a b c d f g h i j z0 A B C L M N) (.jump 0 eT0 ⟨[(2, (.v 2)), (5, e5), (9, (.v 9)), (8, (.v 8)), (6, (.v 6)), (7, (.v 7)), (4, (.v 4)), (3, (.v 3)), (1, e6)], [(0, (.bv 0))], [(4, e12), (5, (.av 5)), (3, (.av 3))]⟩) := by
  simp only [eW, LT.holds, retTrue]
  have hB3 := hB
  have hJ3 := hJ
  simp only [eBase] at hB3
  simp only [eJ0] at hJ3
  obtain ⟨b0, c0, c1, c2, en, ea0, ea1, ea2, _⟩ := hB3
  obtain ⟨l1, l2, l3, l4, l5, l6, l7, l8, l9, m3, m4, m5, hk, _⟩ := hJ3
  refine ⟨ehT0, ⟨n, (_root_.Go.Sx.E.i (eV x0 n a b c d f g h i j z0 A B C L M N) e6), b, c, d, (_root_.Go.Sx.E.i (eV x0 n a b c d f g h i j z0 A B C L M N) e5), g, h, i, j, z0, A, B, C, L, (_root_.Go.Sx.E.a (eV x0 n a b c d f g h i j z0 A B C L M N) e12), N, (by kernel_rfl), hB, ?_⟩, ?_⟩
  · exact ⟨(show 0 ≤ a + 1 ∧ a + 1 ≤ 9223372036854775807 by omega), l2, l3, l4, (rng_at hH (by kernel_rfl)), l6, l7, l8, l9, m3, (arr_at hH (by kernel_rfl)), m5, (show a + 1 ≤ n by omega), trivial⟩
  show (n - (a + 1)).toNat < (n - a).toNat
  omega
noncomputable def eH0_r59_4 : Hyp := { eh0.H with e := [((.v 1), (0, 9223372036854775806)), (e0, (1, 1)), (e1, (59, 59)), (e2, (1, 1))] ++ eh0.H.e, b := [(e3, true)] ++ eh0.H.b }
theorem esg0_r59_4 : (segL Try.prog G Gh eD ehs [] 3000 0 7 { eh0 with H := eH0_r59_4 }).map LT.bare = some (.jump 0 eT0 ⟨[(2, (.v 2)), (5, e5), (9, (.v 9)), (8, (.v 8)), (6, (.v 6)), (7, (.v 7)), (4, (.v 4)), (3, (.v 3)), (1, e6)], [(0, (.bv 0))], [(4, (.av 4)), (5, (.av 5)), (3, (.av 3))]⟩) := by kernel_rfl
theorem evc0_r59_4 (hB : eBase x0 n A B C) (hJ : eJ0 n a b c d f g h i j z0 A B C L M N) (hH : Hyp.ok eH0_r59_4 (eV x0 n a b c d f g h i j z0 A B C L M N)) (hF0 : 0 ≤ a ∧ a ≤ 9223372036854775806) (hF1 : 1 ≤ A a.toNat ∧ A a.toNat ≤ 1) (hF2 : 59 ≤ B a.toNat ∧ B a.toNat ≤ 59) (hF3 : 1 ≤ (f % 2) ∧ (f % 2) ≤ 1) (hG0 : a < n) :
    eW x0 (eV x0 n a b c d f g h i j z0 A B C L M N) (.jump 0 eT0 ⟨[(2, (.v 2)), (5, e5), (9, (.v 9)), (8, (.v 8)), (6, (.v 6)), (7, (.v 7)), (4, (.v 4)), (3, (.v 3)), (1, e6)], [(0, (.bv 0))], [(4, (.av 4)), (5, (.av 5)), (3, (.av 3))]⟩) := by
  simp only [eW, LT.holds, retTrue]
  have hB3 := hB
  have hJ3 := hJ
  simp only [eBase] at hB3
  simp only [eJ0] at hJ3
  obtain ⟨b0, c0, c1, c2, en, ea0, ea1, ea2, _⟩ := hB3
  obtain ⟨l1, l2, l3, l4, l5, l6, l7, l8, l9, m3, m4, m5, hk, _⟩ := hJ3
  refine ⟨ehT0, ⟨n, (_root_.Go.Sx.E.i (eV x0 n a b c d f g h i j z0 A B C L M N) e6), b, c, d, (_root_.Go.Sx.E.i (eV x0 n a b c d f g h i j z0 A B C L M N) e5), g, h, i, j, z0, A, B, C, L, M, N, (by kernel_rfl), hB, ?_⟩, ?_⟩
  · exact ⟨(show 0 ≤ a + 1 ∧ a + 1 ≤ 9223372036854775807 by omega), l2, l3, l4, (rng_at hH (by kernel_rfl)), l6, l7, l8, l9, m3, m4, m5, (show a + 1 ≤ n by omega), trivial⟩
  show (n - (a + 1)).toNat < (n - a).toNat
  omega
noncomputable def eH0_w34_5 : Hyp := { eh0.H with e := [((.v 1), (0, 9223372036854775806)), (e0, (0, 0)), (e1, (34, 34)), (e2, (0, 0))] ++ eh0.H.e, b := [(e3, true)] ++ eh0.H.b }
theorem esg0_w34_5 : (segL Try.prog G Gh eD ehs [] 3000 0 7 { eh0 with H := eH0_w34_5 }).map LT.bare = some (.jump 0 eT0 ⟨[(2, e8), (5, e5), (9, (.v 9)), (8, (.v 8)), (6, (.v 6)), (7, (.v 7)), (4, (.v 4)), (3, (.v 3)), (1, e6)], [(0, (.bv 0))], [(4, (.av 4)), (5, (.av 5)), (3, (.av 3))]⟩) := by kernel_rfl
theorem evc0_w34_5 (hB : eBase x0 n A B C) (hJ : eJ0 n a b c d f g h i j z0 A B C L M N) (hH : Hyp.ok eH0_w34_5 (eV x0 n a b c d f g h i j z0 A B C L M N)) (hF0 : 0 ≤ a ∧ a ≤ 9223372036854775806) (hF1 : 0 ≤ A a.toNat ∧ A a.toNat ≤ 0) (hF2 : 34 ≤ B a.toNat ∧ B a.toNat ≤ 34) (hF3 : 0 ≤ (f % 2) ∧ (f % 2) ≤ 0) (hG0 : a < n) :
    eW x0 (eV x0 n a b c d f g h i j z0 A B C L M N) (.jump 0 eT0 ⟨[(2, e8), (5, e5), (9, (.v 9)), (8, (.v 8)), (6, (.v 6)), (7, (.v 7)), (4, (.v 4)), (3, (.v 3)), (1, e6)], [(0, (.bv 0))], [(4, (.av 4)), (5, (.av 5)), (3, (.av 3))]⟩) := by
  simp only [eW, LT.holds, retTrue]
  have hB3 := hB
  have hJ3 := hJ
  simp only [eBase] at hB3
  simp only [eJ0] at hJ3
  obtain ⟨b0, c0, c1, c2, en, ea0, ea1, ea2, _⟩ := hB3
  obtain ⟨l1, l2, l3, l4, l5, l6, l7, l8, l9, m3, m4, m5, hk, _⟩ := hJ3
  refine ⟨ehT0, ⟨n, (_root_.Go.Sx.E.i (eV x0 n a b c d f g h i j z0 A B C L M N) e6), (_root_.Go.Sx.E.i (eV x0 n a b c d f g h i j z0 A B C L M N) e8), c, d, (_root_.Go.Sx.E.i (eV x0 n a b c d f g h i j z0 A B C L M N) e5), g, h, i, j, z0, A, B, C, L, M, N, (by kernel_rfl), hB, ?_⟩, ?_⟩
  · exact ⟨(show 0 ≤ a + 1 ∧ a + 1 ≤ 9223372036854775807 by omega), (rng_at hH (by kernel_rfl)), l3, l4, (rng_at hH (by kernel_rfl)), l6, l7, l8, l9, m3, m4, m5, (show a + 1 ≤ n by omega), trivial⟩
  show (n - (a + 1)).toNat < (n - a).toNat
  omega
noncomputable def eH0_r59_5 : Hyp := { eh0.H with e := [((.v 1), (0, 9223372036854775806)), (e0, (1, 1)), (e1, (59, 59)), (e2, (0, 0))] ++ eh0.H.e, b := [(e3, true)] ++ eh0.H.b }
theorem esg0_r59_5 : (segL Try.prog G Gh eD ehs [] 3000 0 7 { eh0 with H := eH0_r59_5 }).map LT.bare = some (.jump 0 eT0 ⟨[(2, (.v 2)), (5, e5), (9, (.v 9)), (8, (.v 8)), (6, (.v 6)), (7, (.v 7)), (4, (.v 4)), (3, (.v 3)), (1, e6)], [(0, (.bv 0))], [(4, (.av 4)), (5, (.av 5)), (3, (.av 3))]⟩) := by kernel_rfl
theorem evc0_r59_5 (hB : eBase x0 n A B C) (hJ : eJ0 n a b c d f g h i j z0 A B C L M N) (hH : Hyp.ok eH0_r59_5 (eV x0 n a b c d f g h i j z0 A B C L M N)) (hF0 : 0 ≤ a ∧ a ≤ 9223372036854775806) (hF1 : 1 ≤ A a.toNat ∧ A a.toNat ≤ 1) (hF2 : 59 ≤ B a.toNat ∧ B a.toNat ≤ 59) (hF3 : 0 ≤ (f % 2) ∧ (f % 2) ≤ 0) (hG0 : a < n) :
    eW x0 (eV x0 n a b c d f g h i j z0 A B C L M N) (.jump 0 eT0 ⟨[(2, (.v 2)), (5, e5), (9, (.v 9)), (8, (.v 8)), (6, (.v 6)), (7, (.v 7)), (4, (.v 4)), (3, (.v 3)), (1, e6)], [(0, (.bv 0))], [(4, (.av 4)), (5, (.av 5)), (3, (.av 3))]⟩) := by
  simp only [eW, LT.holds, retTrue]
  have hB3 := hB
  have hJ3 := hJ
  simp only [eBase] at hB3
  simp only [eJ0] at hJ3
  obtain ⟨b0, c0, c1, c2, en, ea0, ea1, ea2, _⟩ := hB3
  obtain ⟨l1, l2, l3, l4, l5, l6, l7, l8, l9, m3, m4, m5, hk, _⟩ := hJ3
  refine ⟨ehT0, ⟨n, (_root_.Go.Sx.E.i (eV x0 n a b c d f g h i j z0 A B C L M N) e6), b, c, d, (_root_.Go.Sx.E.i (eV x0 n a b c d f g h i j z0 A B C L M N) e5), g, h, i, j, z0, A, B, C, L, M, N, (by kernel_rfl), hB, ?_⟩, ?_⟩
  · exact ⟨(show 0 ≤ a + 1 ∧ a + 1 ≤ 9223372036854775807 by omega), l2, l3, l4, (rng_at hH (by kernel_rfl)), l6, l7, l8, l9, m3, m4, m5, (show a + 1 ≤ n by omega), trivial⟩
  show (n - (a + 1)).toNat < (n - a).toNat
  omega
noncomputable def eH0_w2 : Hyp := { eh0.H with e := [((.v 1), (0, 9223372036854775806)), (e0, (0, 0)), (e1, (2, 2))] ++ eh0.H.e, b := [(e3, true)] ++ eh0.H.b }
theorem esg0_w2 : (segL Try.prog G Gh eD ehs [] 3000 0 7 { eh0 with H := eH0_w2 }).map LT.bare = some (.jump 0 eT0 ⟨[(2, (.v 2)), (5, (.v 5)), (9, (.v 9)), (8, (.v 8)), (6, (.v 6)), (7, (.v 7)), (4, e16), (3, e18), (1, e6)], [(0, (.bv 0))], [(4, (.av 4)), (5, (.av 5)), (3, (.av 3))]⟩) := by kernel_rfl
theorem evc0_w2 (hB : eBase x0 n A B C) (hJ : eJ0 n a b c d f g h i j z0 A B C L M N) (hH : Hyp.ok eH0_w2 (eV x0 n a b c d f g h i j z0 A B C L M N)) (hF0 : 0 ≤ a ∧ a ≤ 9223372036854775806) (hF1 : 0 ≤ A a.toNat ∧ A a.toNat ≤ 0) (hF2 : 2 ≤ B a.toNat ∧ B a.toNat ≤ 2) (hG0 : a < n) :
    eW x0 (eV x0 n a b c d f g h i j z0 A B C L M N) (.jump 0 eT0 ⟨[(2, (.v 2)), (5, (.v 5)), (9, (.v 9)), (8, (.v 8)), (6, (.v 6)), (7, (.v 7)), (4, e16), (3, e18), (1, e6)], [(0, (.bv 0))], [(4, (.av 4)), (5, (.av 5)), (3, (.av 3))]⟩) := by
  simp only [eW, LT.holds, retTrue]
  have hB3 := hB
  have hJ3 := hJ
  simp only [eBase] at hB3
  simp only [eJ0] at hJ3
  obtain ⟨b0, c0, c1, c2, en, ea0, ea1, ea2, _⟩ := hB3
  obtain ⟨l1, l2, l3, l4, l5, l6, l7, l8, l9, m3, m4, m5, hk, _⟩ := hJ3
  refine ⟨ehT0, ⟨n, (_root_.Go.Sx.E.i (eV x0 n a b c d f g h i j z0 A B C L M N) e6), b, (_root_.Go.Sx.E.i (eV x0 n a b c d f g h i j z0 A B C L M N) e18), (_root_.Go.Sx.E.i (eV x0 n a b c d f g h i j z0 A B C L M N) e16), f, g, h, i, j, z0, A, B, C, L, M, N, (by kernel_rfl), hB, ?_⟩, ?_⟩
  · exact ⟨(show 0 ≤ a + 1 ∧ a + 1 ≤ 9223372036854775807 by omega), l2, (rng_at hH (by kernel_rfl)), (rng_at hH (by kernel_rfl)), l5, l6, l7, l8, l9, m3, m4, m5, (show a + 1 ≤ n by omega), trivial⟩
  show (n - (a + 1)).toNat < (n - a).toNat
  omega
noncomputable def eH0_w3 : Hyp := { eh0.H with e := [((.v 1), (0, 9223372036854775806)), (e0, (0, 0)), (e1, (3, 3))] ++ eh0.H.e, b := [(e3, true)] ++ eh0.H.b }
theorem esg0_w3 : (segL Try.prog G Gh eD ehs [] 3000 0 7 { eh0 with H := eH0_w3 }).map LT.bare = some (.jump 0 eT0 ⟨[(2, (.v 2)), (5, (.v 5)), (9, (.v 9)), (8, (.v 8)), (6, (.v 6)), (7, (.v 7)), (4, e23), (3, e25), (1, e6)], [(0, e26)], [(4, (.av 4)), (5, (.av 5)), (3, (.av 3))]⟩) := by kernel_rfl
theorem evc0_w3 (hB : eBase x0 n A B C) (hJ : eJ0 n a b c d f g h i j z0 A B C L M N) (hH : Hyp.ok eH0_w3 (eV x0 n a b c d f g h i j z0 A B C L M N)) (hF0 : 0 ≤ a ∧ a ≤ 9223372036854775806) (hF1 : 0 ≤ A a.toNat ∧ A a.toNat ≤ 0) (hF2 : 3 ≤ B a.toNat ∧ B a.toNat ≤ 3) (hG0 : a < n) :
    eW x0 (eV x0 n a b c d f g h i j z0 A B C L M N) (.jump 0 eT0 ⟨[(2, (.v 2)), (5, (.v 5)), (9, (.v 9)), (8, (.v 8)), (6, (.v 6)), (7, (.v 7)), (4, e23), (3, e25), (1, e6)], [(0, e26)], [(4, (.av 4)), (5, (.av 5)), (3, (.av 3))]⟩) := by
  simp only [eW, LT.holds, retTrue]
  have hB3 := hB
  have hJ3 := hJ
  simp only [eBase] at hB3
  simp only [eJ0] at hJ3
  obtain ⟨b0, c0, c1, c2, en, ea0, ea1, ea2, _⟩ := hB3
  obtain ⟨l1, l2, l3, l4, l5, l6, l7, l8, l9, m3, m4, m5, hk, _⟩ := hJ3
  refine ⟨ehT0, ⟨n, (_root_.Go.Sx.E.i (eV x0 n a b c d f g h i j z0 A B C L M N) e6), b, (_root_.Go.Sx.E.i (eV x0 n a b c d f g h i j z0 A B C L M N) e25), (_root_.Go.Sx.E.i (eV x0 n a b c d f g h i j z0 A B C L M N) e23), f, g, h, i, j, (_root_.Go.Sx.E.b (eV x0 n a b c d f g h i j z0 A B C L M N) e26), A, B, C, L, M, N, (by kernel_rfl), hB, ?_⟩, ?_⟩
  · exact ⟨(show 0 ≤ a + 1 ∧ a + 1 ≤ 9223372036854775807 by omega), l2, (rng_at hH (by kernel_rfl)), (rng_at hH (by kernel_rfl)), l5, l6, l7, l8, l9, m3, m4, m5, (show a + 1 ≤ n by omega), trivial⟩
  show (n - (a + 1)).toNat < (n - a).toNat
  omega
noncomputable def eH0_w21 : Hyp := { eh0.H with e := [((.v 1), (0, 9223372036854775806)), (e0, (0, 0)), (e1, (21, 21))] ++ eh0.H.e, b := [(e3, true)] ++ eh0.H.b }
theorem esg0_w21 : (segL Try.prog G Gh eD ehs [] 3000 0 7 { eh0 with H := eH0_w21 }).map LT.bare = some (.jump 0 eT0 ⟨[(2, (.v 2)), (5, (.v 5)), (9, (.v 9)), (8, (.v 8)), (6, e8), (7, (.v 7)), (4, (.v 4)), (3, (.v 3)), (1, e6)], [(0, (.bv 0))], [(4, (.av 4)), (5, (.av 5)), (3, (.av 3))]⟩) := by kernel_rfl
theorem evc0_w21 (hB : eBase x0 n A B C) (hJ : eJ0 n a b c d f g h i j z0 A B C L M N) (hH : Hyp.ok eH0_w21 (eV x0 n a b c d f g h i j z0 A B C L M N)) (hF0 : 0 ≤ a ∧ a ≤ 9223372036854775806) (hF1 : 0 ≤ A a.toNat ∧ A a.toNat ≤ 0) (hF2 : 21 ≤ B a.toNat ∧ B a.toNat ≤ 21) (hG0 : a < n) :
    eW x0 (eV x0 n a b c d f g h i j z0 A B C L M N) (.jump 0 eT0 ⟨[(2, (.v 2)), (5, (.v 5)), (9, (.v 9)), (8, (.v 8)), (6, e8), (7, (.v 7)), (4, (.v 4)), (3, (.v 3)), (1, e6)], [(0, (.bv 0))], [(4, (.av 4)), (5, (.av 5)), (3, (.av 3))]⟩) := by
  simp only [eW, LT.holds, retTrue]
  have hB3 := hB
  have hJ3 := hJ
  simp only [eBase] at hB3
  simp only [eJ0] at hJ3
  obtain ⟨b0, c0, c1, c2, en, ea0, ea1, ea2, _⟩ := hB3
  obtain ⟨l1, l2, l3, l4, l5, l6, l7, l8, l9, m3, m4, m5, hk, _⟩ := hJ3
  refine ⟨ehT0, ⟨n, (_root_.Go.Sx.E.i (eV x0 n a b c d f g h i j z0 A B C L M N) e6), b, c, d, f, (_root_.Go.Sx.E.i (eV x0 n a b c d f g h i j z0 A B C L M N) e8), h, i, j, z0, A, B, C, L, M, N, (by kernel_rfl), hB, ?_⟩, ?_⟩
  · exact ⟨(show 0 ≤ a + 1 ∧ a + 1 ≤ 9223372036854775807 by omega), l2, l3, l4, l5, (rng_at hH (by kernel_rfl)), l7, l8, l9, m3, m4, m5, (show a + 1 ≤ n by omega), trivial⟩
  show (n - (a + 1)).toNat < (n - a).toNat
  omega
noncomputable def eH0_w33 : Hyp := { eh0.H with e := [((.v 1), (0, 9223372036854775806)), (e0, (0, 0)), (e1, (33, 33))] ++ eh0.H.e, b := [(e3, true)] ++ eh0.H.b }
theorem esg0_w33 : (segL Try.prog G Gh eD ehs [] 3000 0 7 { eh0 with H := eH0_w33 }).map LT.bare = some (.jump 0 eT0 ⟨[(2, (.v 2)), (5, e15), (9, (.v 9)), (8, (.v 8)), (6, (.v 6)), (7, (.v 7)), (4, (.v 4)), (3, (.v 3)), (1, e6)], [(0, (.bv 0))], [(4, (.av 4)), (5, (.av 5)), (3, (.av 3))]⟩) := by kernel_rfl
theorem evc0_w33 (hB : eBase x0 n A B C) (hJ : eJ0 n a b c d f g h i j z0 A B C L M N) (hH : Hyp.ok eH0_w33 (eV x0 n a b c d f g h i j z0 A B C L M N)) (hF0 : 0 ≤ a ∧ a ≤ 9223372036854775806) (hF1 : 0 ≤ A a.toNat ∧ A a.toNat ≤ 0) (hF2 : 33 ≤ B a.toNat ∧ B a.toNat ≤ 33) (hG0 : a < n) :
    eW x0 (eV x0 n a b c d f g h i j z0 A B C L M N) (.jump 0 eT0 ⟨[(2, (.v 2)), (5, e15), (9, (.v 9)), (8, (.v 8)), (6, (.v 6)), (7, (.v 7)), (4, (.v 4)), (3, (.v 3)), (1, e6)], [(0, (.bv 0))], [(4, (.av 4)), (5, (.av 5)), (3, (.av 3))]⟩) := by
  simp only [eW, LT.holds, retTrue]
  have hB3 := hB
  have hJ3 := hJ
  simp only [eBase] at hB3
  simp only [eJ0] at hJ3
  obtain ⟨b0, c0, c1, c2, en, ea0, ea1, ea2, _⟩ := hB3
  obtain ⟨l1, l2, l3, l4, l5, l6, l7, l8, l9, m3, m4, m5, hk, _⟩ := hJ3
  refine ⟨ehT0, ⟨n, (_root_.Go.Sx.E.i (eV x0 n a b c d f g h i j z0 A B C L M N) e6), b, c, d, (_root_.Go.Sx.E.i (eV x0 n a b c d f g h i j z0 A B C L M N) e15), g, h, i, j, z0, A, B, C, L, M, N, (by kernel_rfl), hB, ?_⟩, ?_⟩
  · exact ⟨(show 0 ≤ a + 1 ∧ a + 1 ≤ 9223372036854775807 by omega), l2, l3, l4, (rng_at hH (by kernel_rfl)), l6, l7, l8, l9, m3, m4, m5, (show a + 1 ≤ n by omega), trivial⟩
  show (n - (a + 1)).toNat < (n - a).toNat
  omega
noncomputable def eH0_w4_0 : Hyp := { eh0.H with e := [((.v 1), (0, 9223372036854775806)), (e0, (0, 0)), (e1, (4, 4)), ((.v 4), (512, 1023))] ++ eh0.H.e, b := [(e3, true)] ++ eh0.H.b }
theorem esg0_w4_0 : (segL Try.prog G Gh eD ehs [] 3000 0 7 { eh0 with H := eH0_w4_0 }).map LT.bare = some (.jump 0 eT0 ⟨[(2, (.v 2)), (5, (.v 5)), (9, (.v 9)), (8, (.v 8)), (6, (.v 6)), (7, e29), (4, e31), (3, (.v 3)), (1, e6)], [(0, (.bv 0))], [(4, (.av 4)), (5, e34), (3, (.av 3))]⟩) := by kernel_rfl
theorem evc0_w4_0 (hB : eBase x0 n A B C) (hJ : eJ0 n a b c d f g h i j z0 A B C L M N) (hH : Hyp.ok eH0_w4_0 (eV x0 n a b c d f g h i j z0 A B C L M N)) (hF0 : 0 ≤ a ∧ a ≤ 9223372036854775806) (hF1 : 0 ≤ A a.toNat ∧ A a.toNat ≤ 0) (hF2 : 4 ≤ B a.toNat ∧ B a.toNat ≤ 4) (hF3 : 512 ≤ d ∧ d ≤ 1023) (hG0 : a < n) :
    eW x0 (eV x0 n a b c d f g h i j z0 A B C L M N) (.jump 0 eT0 ⟨[(2, (.v 2)), (5, (.v 5)), (9, (.v 9)), (8, (.v 8)), (6, (.v 6)), (7, e29), (4, e31), (3, (.v 3)), (1, e6)], [(0, (.bv 0))], [(4, (.av 4)), (5, e34), (3, (.av 3))]⟩) := by
  simp only [eW, LT.holds, retTrue]
  have hB3 := hB
  have hJ3 := hJ
  simp only [eBase] at hB3
  simp only [eJ0] at hJ3
  obtain ⟨b0, c0, c1, c2, en, ea0, ea1, ea2, _⟩ := hB3
  obtain ⟨l1, l2, l3, l4, l5, l6, l7, l8, l9, m3, m4, m5, hk, _⟩ := hJ3
  refine ⟨ehT0, ⟨n, (_root_.Go.Sx.E.i (eV x0 n a b c d f g h i j z0 A B C L M N) e6), b, c, (_root_.Go.Sx.E.i (eV x0 n a b c d f g h i j z0 A B C L M N) e31), f, g, (_root_.Go.Sx.E.i (eV x0 n a b c d f g h i j z0 A B C L M N) e29), i, j, z0, A, B, C, L, M, (_root_.Go.Sx.E.a (eV x0 n a b c d f g h i j z0 A B C L M N) e34), (by kernel_rfl), hB, ?_⟩, ?_⟩
  · exact ⟨(show 0 ≤ a + 1 ∧ a + 1 ≤ 9223372036854775807 by omega), l2, l3, (rng_at hH (by kernel_rfl)), l5, l6, (rng_at hH (by kernel_rfl)), l8, l9, m3, m4, (arr_at hH (by kernel_rfl)), (show a + 1 ≤ n by omega), trivial⟩
  show (n - (a + 1)).toNat < (n - a).toNat
  omega
noncomputable def eH0_w4_1 : Hyp := { eh0.H with e := [((.v 1), (0, 9223372036854775806)), (e0, (0, 0)), (e1, (4, 4)), ((.v 4), (1, 511)), (e27, (1, 1))] ++ eh0.H.e, b := [(e3, true)] ++ eh0.H.b }
theorem esg0_w4_1 : (segL Try.prog G Gh eD ehs [] 3000 0 7 { eh0 with H := eH0_w4_1 }).map LT.bare = some (.jump 0 eT0 ⟨[(2, (.v 2)), (5, (.v 5)), (9, (.v 9)), (8, (.v 8)), (6, (.v 6)), (7, (.v 7)), (4, e30), (3, (.v 3)), (1, e6)], [(0, (.bv 0))], [(4, (.av 4)), (5, e37), (3, (.av 3))]⟩) := by kernel_rfl
theorem evc0_w4_1 (hB : eBase x0 n A B C) (hJ : eJ0 n a b c d f g h i j z0 A B C L M N) (hH : Hyp.ok eH0_w4_1 (eV x0 n a b c d f g h i j z0 A B C L M N)) (hF0 : 0 ≤ a ∧ a ≤ 9223372036854775806) (hF1 : 0 ≤ A a.toNat ∧ A a.toNat ≤ 0) (hF2 : 4 ≤ B a.toNat ∧ B a.toNat ≤ 4) (hF3 : 1 ≤ d ∧ d ≤ 511) (hF4 : 1 ≤ (d % 2) ∧ (d % 2) ≤ 1) (hG0 : a < n) :
    eW x0 (eV x0 n a b c d f g h i j z0 A B C L M N) (.jump 0 eT0 ⟨[(2, (.v 2)), (5, (.v 5)), (9, (.v 9)), (8, (.v 8)), (6, (.v 6)), (7, (.v 7)), (4, e30), (3, (.v 3)), (1, e6)], [(0, (.bv 0))], [(4, (.av 4)), (5, e37), (3, (.av 3))]⟩) := by
  simp only [eW, LT.holds, retTrue]
  have hB3 := hB
  have hJ3 := hJ
  simp only [eBase] at hB3
  simp only [eJ0] at hJ3
  obtain ⟨b0, c0, c1, c2, en, ea0, ea1, ea2, _⟩ := hB3
  obtain ⟨l1, l2, l3, l4, l5, l6, l7, l8, l9, m3, m4, m5, hk, _⟩ := hJ3
  refine ⟨ehT0, ⟨n, (_root_.Go.Sx.E.i (eV x0 n a b c d f g h i j z0 A B C L M N) e6), b, c, (_root_.Go.Sx.E.i (eV x0 n a b c d f g h i j z0 A B C L M N) e30), f, g, h, i, j, z0, A, B, C, L, M, (_root_.Go.Sx.E.a (eV x0 n a b c d f g h i j z0 A B C L M N) e37), (by kernel_rfl), hB, ?_⟩, ?_⟩
  · exact ⟨(show 0 ≤ a + 1 ∧ a + 1 ≤ 9223372036854775807 by omega), l2, l3, (rng_at hH (by kernel_rfl)), l5, l6, l7, l8, l9, m3, m4, (arr_at hH (by kernel_rfl)), (show a + 1 ≤ n by omega), trivial⟩
  show (n - (a + 1)).toNat < (n - a).toNat
  omega
noncomputable def eH0_w4_2 : Hyp := { eh0.H with e := [((.v 1), (0, 9223372036854775806)), (e0, (0, 0)), (e1, (4, 4)), ((.v 4), (0, 511)), (e27, (0, 0))] ++ eh0.H.e, b := [(e3, true)] ++ eh0.H.b }
theorem esg0_w4_2 : (segL Try.prog G Gh eD ehs [] 3000 0 7 { eh0 with H := eH0_w4_2 }).map LT.bare = some (.jump 0 eT0 ⟨[(2, (.v 2)), (5, (.v 5)), (9, (.v 9)), (8, (.v 8)), (6, (.v 6)), (7, e8), (4, e30), (3, (.v 3)), (1, e6)], [(0, (.bv 0))], [(4, (.av 4)), (5, (.av 5)), (3, (.av 3))]⟩) := by kernel_rfl
theorem evc0_w4_2 (hB : eBase x0 n A B C) (hJ : eJ0 n a b c d f g h i j z0 A B C L M N) (hH : Hyp.ok eH0_w4_2 (eV x0 n a b c d f g h i j z0 A B C L M N)) (hF0 : 0 ≤ a ∧ a ≤ 9223372036854775806) (hF1 : 0 ≤ A a.toNat ∧ A a.toNat ≤ 0) (hF2 : 4 ≤ B a.toNat ∧ B a.toNat ≤ 4) (hF3 : 0 ≤ d ∧ d ≤ 511) (hF4 : 0 ≤ (d % 2) ∧ (d % 2) ≤ 0) (hG0 : a < n) :
    eW x0 (eV x0 n a b c d f g h i j z0 A B C L M N) (.jump 0 eT0 ⟨[(2, (.v 2)), (5, (.v 5)), (9, (.v 9)), (8, (.v 8)), (6, (.v 6)), (7, e8), (4, e30), (3, (.v 3)), (1, e6)], [(0, (.bv 0))], [(4, (.av 4)), (5, (.av 5)), (3, (.av 3))]⟩) := by
  simp only [eW, LT.holds, retTrue]
  have hB3 := hB
  have hJ3 := hJ
  simp only [eBase] at hB3
  simp only [eJ0] at hJ3
  obtain ⟨b0, c0, c1, c2, en, ea0, ea1, ea2, _⟩ := hB3
  obtain ⟨l1, l2, l3, l4, l5, l6, l7, l8, l9, m3, m4, m5, hk, _⟩ := hJ3
  refine ⟨ehT0, ⟨n, (_root_.Go.Sx.E.i (eV x0 n a b c d f g h i j z0 A B C L M N) e6), b, c, (_root_.Go.Sx.E.i (eV x0 n a b c d f g h i j z0 A B C L M N) e30), f, g, (_root_.Go.Sx.E.i (eV x0 n a b c d f g h i j z0 A B C L M N) e8), i, j, z0, A, B, C, L, M, N, (by kernel_rfl), hB, ?_⟩, ?_⟩
  · exact ⟨(show 0 ≤ a + 1 ∧ a + 1 ≤ 9223372036854775807 by omega), l2, l3, (rng_at hH (by kernel_rfl)), l5, l6, (rng_at hH (by kernel_rfl)), l8, l9, m3, m4, m5, (show a + 1 ≤ n by omega), trivial⟩
  show (n - (a + 1)).toNat < (n - a).toNat
  omega
noncomputable def eH0_wo0 : Hyp := { eh0.H with e := [((.v 1), (0, 9223372036854775806)), (e0, (0, 0)), (e1, (0, 1))] ++ eh0.H.e, b := [(e3, true)] ++ eh0.H.b }
theorem esg0_wo0 : (segL Try.prog G Gh eD ehs [] 3000 0 7 { eh0 with H := eH0_wo0 }).map LT.bare = some (.jump 0 eT0 ⟨[(2, (.v 2)), (5, (.v 5)), (9, (.v 9)), (8, (.v 8)), (6, (.v 6)), (7, (.v 7)), (4, (.v 4)), (3, (.v 3)), (1, e6)], [(0, (.bv 0))], [(4, (.av 4)), (5, (.av 5)), (3, (.av 3))]⟩) := by kernel_rfl
theorem evc0_wo0 (hB : eBase x0 n A B C) (hJ : eJ0 n a b c d f g h i j z0 A B C L M N) (hH : Hyp.ok eH0_wo0 (eV x0 n a b c d f g h i j z0 A B C L M N)) (hF0 : 0 ≤ a ∧ a ≤ 9223372036854775806) (hF1 : 0 ≤ A a.toNat ∧ A a.toNat ≤ 0) (hF2 : 0 ≤ B a.toNat ∧ B a.toNat ≤ 1) (hG0 : a < n) :
    eW x0 (eV x0 n a b c d f g h i j z0 A B C L M N) (.jump 0 eT0 ⟨[(2, (.v 2)), (5, (.v 5)), (9, (.v 9)), (8, (.v 8)), (6, (.v 6)), (7, (.v 7)), (4, (.v 4)), (3, (.v 3)), (1, e6)], [(0, (.bv 0))], [(4, (.av 4)), (5, (.av 5)), (3, (.av 3))]⟩) := by
  simp only [eW, LT.holds, retTrue]
  have hB3 := hB
  have hJ3 := hJ
  simp only [eBase] at hB3
  simp only [eJ0] at hJ3
  obtain ⟨b0, c0, c1, c2, en, ea0, ea1, ea2, _⟩ := hB3
  obtain ⟨l1, l2, l3, l4, l5, l6, l7, l8, l9, m3, m4, m5, hk, _⟩ := hJ3
  refine ⟨ehT0, ⟨n, (_root_.Go.Sx.E.i (eV x0 n a b c d f g h i j z0 A B C L M N) e6), b, c, d, f, g, h, i, j, z0, A, B, C, L, M, N, (by kernel_rfl), hB, ?_⟩, ?_⟩
  · exact ⟨(show 0 ≤ a + 1 ∧ a + 1 ≤ 9223372036854775807 by omega), l2, l3, l4, l5, l6, l7, l8, l9, m3, m4, m5, (show a + 1 ≤ n by omega), trivial⟩
  show (n - (a + 1)).toNat < (n - a).toNat
  omega
noncomputable def eH0_wo1 : Hyp := { eh0.H with e := [((.v 1), (0, 9223372036854775806)), (e0, (0, 0)), (e1, (5, 20))] ++ eh0.H.e, b := [(e3, true)] ++ eh0.H.b }
theorem esg0_wo1 : (segL Try.prog G Gh eD ehs [] 3000 0 7 { eh0 with H := eH0_wo1 }).map LT.bare = some (.jump 0 eT0 ⟨[(2, (.v 2)), (5, (.v 5)), (9, (.v 9)), (8, (.v 8)), (6, (.v 6)), (7, (.v 7)), (4, (.v 4)), (3, (.v 3)), (1, e6)], [(0, (.bv 0))], [(4, (.av 4)), (5, (.av 5)), (3, (.av 3))]⟩) := by kernel_rfl
theorem evc0_wo1 (hB : eBase x0 n A B C) (hJ : eJ0 n a b c d f g h i j z0 A B C L M N) (hH : Hyp.ok eH0_wo1 (eV x0 n a b c d f g h i j z0 A B C L M N)) (hF0 : 0 ≤ a ∧ a ≤ 9223372036854775806) (hF1 : 0 ≤ A a.toNat ∧ A a.toNat ≤ 0) (hF2 : 5 ≤ B a.toNat ∧ B a.toNat ≤ 20) (hG0 : a < n) :
    eW x0 (eV x0 n a b c d f g h i j z0 A B C L M N) (.jump 0 eT0 ⟨[(2, (.v 2)), (5, (.v 5)), (9, (.v 9)), (8, (.v 8)), (6, (.v 6)), (7, (.v 7)), (4, (.v 4)), (3, (.v 3)), (1, e6)], [(0, (.bv 0))], [(4, (.av 4)), (5, (.av 5)), (3, (.av 3))]⟩) := by
  simp only [eW, LT.holds, retTrue]
  have hB3 := hB
  have hJ3 := hJ
  simp only [eBase] at hB3
  simp only [eJ0] at hJ3
  obtain ⟨b0, c0, c1, c2, en, ea0, ea1, ea2, _⟩ := hB3
  obtain ⟨l1, l2, l3, l4, l5, l6, l7, l8, l9, m3, m4, m5, hk, _⟩ := hJ3
  refine ⟨ehT0, ⟨n, (_root_.Go.Sx.E.i (eV x0 n a b c d f g h i j z0 A B C L M N) e6), b, c, d, f, g, h, i, j, z0, A, B, C, L, M, N, (by kernel_rfl), hB, ?_⟩, ?_⟩
  · exact ⟨(show 0 ≤ a + 1 ∧ a + 1 ≤ 9223372036854775807 by omega), l2, l3, l4, l5, l6, l7, l8, l9, m3, m4, m5, (show a + 1 ≤ n by omega), trivial⟩
  show (n - (a + 1)).toNat < (n - a).toNat
  omega
noncomputable def eH0_wo2 : Hyp := { eh0.H with e := [((.v 1), (0, 9223372036854775806)), (e0, (0, 0)), (e1, (26, 32))] ++ eh0.H.e, b := [(e3, true)] ++ eh0.H.b }
theorem esg0_wo2 : (segL Try.prog G Gh eD ehs [] 3000 0 7 { eh0 with H := eH0_wo2 }).map LT.bare = some (.jump 0 eT0 ⟨[(2, (.v 2)), (5, (.v 5)), (9, (.v 9)), (8, (.v 8)), (6, (.v 6)), (7, (.v 7)), (4, (.v 4)), (3, (.v 3)), (1, e6)], [(0, (.bv 0))], [(4, (.av 4)), (5, (.av 5)), (3, (.av 3))]⟩) := by kernel_rfl
theorem evc0_wo2 (hB : eBase x0 n A B C) (hJ : eJ0 n a b c d f g h i j z0 A B C L M N) (hH : Hyp.ok eH0_wo2 (eV x0 n a b c d f g h i j z0 A B C L M N)) (hF0 : 0 ≤ a ∧ a ≤ 9223372036854775806) (hF1 : 0 ≤ A a.toNat ∧ A a.toNat ≤ 0) (hF2 : 26 ≤ B a.toNat ∧ B a.toNat ≤ 32) (hG0 : a < n) :
    eW x0 (eV x0 n a b c d f g h i j z0 A B C L M N) (.jump 0 eT0 ⟨[(2, (.v 2)), (5, (.v 5)), (9, (.v 9)), (8, (.v 8)), (6, (.v 6)), (7, (.v 7)), (4, (.v 4)), (3, (.v 3)), (1, e6)], [(0, (.bv 0))], [(4, (.av 4)), (5, (.av 5)), (3, (.av 3))]⟩) := by
  simp only [eW, LT.holds, retTrue]
  have hB3 := hB
  have hJ3 := hJ
  simp only [eBase] at hB3
  simp only [eJ0] at hJ3
  obtain ⟨b0, c0, c1, c2, en, ea0, ea1, ea2, _⟩ := hB3
  obtain ⟨l1, l2, l3, l4, l5, l6, l7, l8, l9, m3, m4, m5, hk, _⟩ := hJ3
  refine ⟨ehT0, ⟨n, (_root_.Go.Sx.E.i (eV x0 n a b c d f g h i j z0 A B C L M N) e6), b, c, d, f, g, h, i, j, z0, A, B, C, L, M, N, (by kernel_rfl), hB, ?_⟩, ?_⟩
  · exact ⟨(show 0 ≤ a + 1 ∧ a + 1 ≤ 9223372036854775807 by omega), l2, l3, l4, l5, l6, l7, l8, l9, m3, m4, m5, (show a + 1 ≤ n by omega), trivial⟩
  show (n - (a + 1)).toNat < (n - a).toNat
  omega
noncomputable def eH0_wo3 : Hyp := { eh0.H with e := [((.v 1), (0, 9223372036854775806)), (e0, (0, 0)), (e1, (35, 255))] ++ eh0.H.e, b := [(e3, true)] ++ eh0.H.b }
theorem esg0_wo3 : (segL Try.prog G Gh eD ehs [] 3000 0 7 { eh0 with H := eH0_wo3 }).map LT.bare = some (.jump 0 eT0 ⟨[(2, (.v 2)), (5, (.v 5)), (9, (.v 9)), (8, (.v 8)), (6, (.v 6)), (7, (.v 7)), (4, (.v 4)), (3, (.v 3)), (1, e6)], [(0, (.bv 0))], [(4, (.av 4)), (5, (.av 5)), (3, (.av 3))]⟩) := by kernel_rfl
theorem evc0_wo3 (hB : eBase x0 n A B C) (hJ : eJ0 n a b c d f g h i j z0 A B C L M N) (hH : Hyp.ok eH0_wo3 (eV x0 n a b c d f g h i j z0 A B C L M N)) (hF0 : 0 ≤ a ∧ a ≤ 9223372036854775806) (hF1 : 0 ≤ A a.toNat ∧ A a.toNat ≤ 0) (hF2 : 35 ≤ B a.toNat ∧ B a.toNat ≤ 255) (hG0 : a < n) :
    eW x0 (eV x0 n a b c d f g h i j z0 A B C L M N) (.jump 0 eT0 ⟨[(2, (.v 2)), (5, (.v 5)), (9, (.v 9)), (8, (.v 8)), (6, (.v 6)), (7, (.v 7)), (4, (.v 4)), (3, (.v 3)), (1, e6)], [(0, (.bv 0))], [(4, (.av 4)), (5, (.av 5)), (3, (.av 3))]⟩) := by
  simp only [eW, LT.holds, retTrue]
  have hB3 := hB
  have hJ3 := hJ
  simp only [eBase] at hB3
  simp only [eJ0] at hJ3
  obtain ⟨b0, c0, c1, c2, en, ea0, ea1, ea2, _⟩ := hB3
  obtain ⟨l1, l2, l3, l4, l5, l6, l7, l8, l9, m3, m4, m5, hk, _⟩ := hJ3
  refine ⟨ehT0, ⟨n, (_root_.Go.Sx.E.i (eV x0 n a b c d f g h i j z0 A B C L M N) e6), b, c, d, f, g, h, i, j, z0, A, B, C, L, M, N, (by kernel_rfl), hB, ?_⟩, ?_⟩
  · exact ⟨(show 0 ≤ a + 1 ∧ a + 1 ≤ 9223372036854775807 by omega), l2, l3, l4, l5, l6, l7, l8, l9, m3, m4, m5, (show a + 1 ≤ n by omega), trivial⟩
  show (n - (a + 1)).toNat < (n - a).toNat
  omega
end Go.Proofs.Ytjegnoknenahpaa.VramScripts
