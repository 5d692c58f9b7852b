/- The whole of the law SaveChanged, which returns true for every input. Saved bytes of which any one byte is changed, or some are left out at the end, or more stand behind, are refused. Where what comes in is of bulk at most 1048576. No condition. -/
import Derived.Test.YtflamojcdfmimaaSaveChangedL0
import Derived.Test.YtflamojcdfmimaaSaveChangedL1
import Derived.Test.YtflamojcdfmimaaSaveChangedL2
import Derived.Test.YtflamojcdfmimaaSaveChangedL3
namespace Go.Proofs.Ytflamojcdfmimaa.SaveChanged
open Go.Sx Go.ChangeShapes Go.WideShapes Go.ChangeAt Go.RowKit
set_option linter.unusedVariables false
set_option linter.unusedSimpArgs false
set_option maxRecDepth 100000
set_option maxHeartbeats 20000000 in
theorem ecalls (x0 : Ext) (Y0 : Nat → Ext) (aP1 bP1 cP1 : Int) (ra1 : inR (krng .i64) aP1) (rb1 : inR (krng .u8) bP1) (rc1 : inR (krng .i64) cP1) (x2 : Ext) (hex0 : 0 ≤ ((x2.n : Int)) ∧ ((x2.n : Int)) ≤ 1048575) (w : World) (g0 : PFit x0 Y0 w) (g2 : XFit x2 w [some .u8]) :
    Calls Try.prog 4 #[x0.v, .agg #[.int .i64 aP1, .int .u8 bP1, .int .i64 cP1, x2.v]] w fun r w' => r = .returned (.bool true) ∧ Below w.heap.size w w' := by
  have hx0 : SV.conc (⟨[(x0.n : Int), aP1, bP1, cP1, (x2.n : Int), 0, 1, 0, 0, 0, 13, 0], [], [xArr x0 3 0, xArr x0 3 1, nLen Y0, nArr Y0, xArr x2 1 0, fun _ => 0, fun _ => 0, fun _ => 0], [], Iv (fun i j => match i, j with | 0, 0 => x0 | 1, j => Y0 j | 2, 0 => x2 | _, _ => Ext.none)⟩ : Env) Loc.id (.s (.xslc 0 (.lit 0) (.lit 0) (.v 0))) = x0.v := conc_extP g0 rfl rfl
  have hx2 : SV.conc (⟨[(x0.n : Int), aP1, bP1, cP1, (x2.n : Int), 0, 1, 0, 0, 0, 13, 0], [], [xArr x0 3 0, xArr x0 3 1, nLen Y0, nArr Y0, xArr x2 1 0, fun _ => 0, fun _ => 0, fun _ => 0], [], Iv (fun i j => match i, j with | 0, 0 => x0 | 1, j => Y0 j | 2, 0 => x2 | _, _ => Ext.none)⟩ : Env) Loc.id (.s (.xslc 2 (.lit 0) (.lit 0) (.v 4))) = x2.v := conc_ext g2 rfl rfl
  have hargs : (eLs.map (SV.conc (⟨[(x0.n : Int), aP1, bP1, cP1, (x2.n : Int), 0, 1, 0, 0, 0, 13, 0], [], [xArr x0 3 0, xArr x0 3 1, nLen Y0, nArr Y0, xArr x2 1 0, fun _ => 0, fun _ => 0, fun _ => 0], [], Iv (fun i j => match i, j with | 0, 0 => x0 | 1, j => Y0 j | 2, 0 => x2 | _, _ => Ext.none)⟩ : Env) Loc.id)).toArray = #[x0.v, .agg #[.int .i64 aP1, .int .u8 bP1, .int .i64 cP1, x2.v]] := by
    refine congrArg List.toArray ?_
    exact (cons_eq hx0 (cons_eq (rows_eq4 rfl rfl rfl hx2) rfl))
  rw [← hargs]
  have hok : Hyp.ok eHy (⟨[(x0.n : Int), aP1, bP1, cP1, (x2.n : Int), 0, 1, 0, 0, 0, 13, 0], [], [xArr x0 3 0, xArr x0 3 1, nLen Y0, nArr Y0, xArr x2 1 0, fun _ => 0, fun _ => 0, fun _ => 0], [], Iv (fun i j => match i, j with | 0, 0 => x0 | 1, j => Y0 j | 2, 0 => x2 | _, _ => Ext.none)⟩ : Env) := by
    refine ⟨?_, ?_, ?_, (fun p hp is bs xs => by simp only [eHy, List.mem_cons, List.not_mem_nil, or_false] at hp; subst hp; exact sumF_rng _ _), ?_, by simp [eHy]⟩
    · intro p hp
      simp only [eHy, List.mem_cons, List.not_mem_nil, or_false] at hp
      rcases hp with rfl | rfl
      · exact (xi_okP (n := .v 0) g0 rfl (fun _ => rfl) rfl rfl rfl rfl rfl)
      · exact xi_ok g2 rfl rfl rfl
    · intro p hp
      simp only [eHy, List.mem_cons, List.not_mem_nil, or_false] at hp
      rcases hp with rfl | rfl | rfl | rfl | rfl | rfl
      · exact (by have hx := hex0; first | exact ⟨Int.le_of_eq hx.symm, Int.le_of_eq hx⟩ | exact hx)
      · exact plen_rng g0
      · exact ra1
      · exact rb1
      · exact rc1
      · exact xlen_rng g2
    · intro p hp
      simp only [eHy, List.mem_cons, List.not_mem_nil, or_false] at hp
      rcases hp with rfl | rfl | rfl | rfl | rfl
      · exact pnum_rng g0.1 0 (by decide)
      · exact pnum_rng g0.1 1 (by decide)
      · exact nLen_rng g0
      · exact nArr_rng g0.1
      · exact xArr_rng g2
    · simp [eHy]
  refine law_loops3 (u := 0) (u0 := 0) (D := eD) (hs := ehs) (ρ := (⟨[(x0.n : Int), aP1, bP1, cP1, (x2.n : Int), 0, 1, 0, 0, 0, 13, 0], [], [xArr x0 3 0, xArr x0 3 1, nLen Y0, nArr Y0, xArr x2 1 0, fun _ => 0, fun _ => 0, fun _ => 0], [], Iv (fun i j => match i, j with | 0, 0 => x0 | 1, j => Y0 j | 2, 0 => x2 | _, _ => Ext.none)⟩ : Env)) (G_ok _) (by kernel_rfl) rfl (eInv x0 Y0 x2 ) emu est rfl ⟨rfl, rfl, rfl⟩ hok (evcS x0 Y0 x2 ((x0.n : Int)) (aP1) (bP1) (cP1) ((x2.n : Int)) (xArr x0 3 0) (xArr x0 3 1) (nLen Y0) (nArr Y0) (xArr x2 1 0) ⟨plen_rng g0, ra1, rb1, rc1, xlen_rng g2, pnum_rng g0.1 0 (by decide), pnum_rng g0.1 1 (by decide), nLen_rng g0, nArr_rng g0.1, xArr_rng g2, rfl, rfl, rfl, rfl, rfl, rfl, rfl, g0.sum, hex0, trivial⟩) ?_ w (fun i j => by rcases i with _ | _ | _ | i <;> rcases j with _ | j <;> first | exact Ext.none_ok _ | exact g0.ok | exact (g0.row _).ok | exact g2.ok)
  intro j h ρ hj hI hz hInv
  rcases j with _ | _ | _ | _ | _ | j
  · simp only [ehs, List.getElem?_cons_zero, List.getElem?_cons_succ, Option.some.injEq] at hj; subst hj
    obtain ⟨n, u, r, s, q, a, b, c, d, f, g, h, A, B, C, F, K, L, M, N, rfl, hB, hJ⟩ := hInv
    have hok2 : Hyp.ok eh0.H (eV x0 Y0 x2 n u r s q a b c d f g h A B C F K L M N) := by
      have hB2 := hB; have hJ2 := hJ
      simp only [eBase] at hB2; simp only [eJ0] at hJ2
      obtain ⟨hb0, hb1, hb2, hb3, hb4, hb5, hb6, hb7, hb8, hb9, hn0, hn2, ha0_0, ha0_1, ha0_2, ha0_3, ha2_0, hsum0, hex0, _⟩ := hB2
      obtain ⟨hl0, hl1, hl2, hl3, hl4, hl5, hl6, hl7, hl8, hl9, _⟩ := hJ2
      refine ⟨?_, ?_, ?_, (fun p hp is bs xs => by simp only [eh0, List.mem_cons, List.not_mem_nil, or_false] at hp; subst hp; exact sumF_rng _ _), ?_, by simp [eh0]⟩
      · intro p hp
        simp only [eh0, List.mem_cons, List.not_mem_nil, or_false] at hp
        rcases hp with rfl | rfl
        · exact (xi_okP (n := .v 0) g0 rfl (fun _ => rfl) hn0 ha0_0 ha0_1 ha0_2 ha0_3)
        · exact xi_ok g2 rfl hn2 ha2_0
      · intro p hp
        simp only [eh0, List.mem_cons, List.not_mem_nil, or_false] at hp
        rcases hp with rfl | rfl | rfl | rfl | rfl | rfl | rfl | rfl | rfl | rfl | rfl | rfl | rfl
        · exact (by have hx := hex0; first | exact ⟨Int.le_of_eq hx.symm, Int.le_of_eq hx⟩ | exact hx)
        · exact hb0
        · exact hb1
        · exact hb2
        · exact hb3
        · exact hb4
        · exact hl0
        · exact hl1
        · exact hl2
        · exact hl3
        · exact hl4
        · exact hl5
        · exact hl6
      · intro p hp
        simp only [eh0, List.mem_cons, List.not_mem_nil, or_false] at hp
        rcases hp with rfl | rfl | rfl | rfl | rfl | rfl | rfl | rfl
        · exact hb5
        · exact hb6
        · exact hb7
        · exact hb8
        · exact hb9
        · exact hl7
        · exact hl8
        · exact hl9
      · simp [eh0]
    have hB2 := hB
    simp only [eBase] at hB2
    obtain ⟨b0, b1, b2, b3, b4, c0, c1, c2, c3, c4, en0, en2, ea0, ea1, ea2, ea3, ea4, hs, hx0, _⟩ := hB2
    have hJ2 := hJ
    simp only [eJ0] at hJ2
    obtain ⟨l5, l6, l7, l8, l9, l10, l11, m5, m6, m7, _⟩ := hJ2
    have cw := c0 d.toNat
    rcases Decidable.em (d < n) with g | g
    · rcases (show f ≤ 0 ∨ 1 ≤ f by omega) with qhe | qhe
      · have he : 0 ≤ f ∧ f ≤ 0 := by omega
        rcases (show (A d.toNat) ≤ -1 ∨ 0 ≤ (A d.toNat) by omega) with qhw | qhw
        · have hw : -9223372036854775808 ≤ (A d.toNat) ∧ (A d.toNat) ≤ -1 := by omega
          exact (fun h => ⟨_, h, LT.of_bare esg0_wm (evc0_wm hB hJ h he hw g)⟩) (Hyp.more hok2 _ _ (m1 he (m1 hw m0)) (m1 (decide_eq_true g) m0) : Hyp.ok eH0_wm _)
        · rcases (show (A d.toNat) ≤ 0 ∨ 1 ≤ (A d.toNat) by omega) with qhw | qhw
          · have hw : 0 ≤ (A d.toNat) ∧ (A d.toNat) ≤ 0 := by omega
            exact (fun h => ⟨_, h, LT.of_bare esg0_w0 (evc0_w0 hB hJ h he hw g)⟩) (Hyp.more hok2 _ _ (m1 he (m1 hw m0)) (m1 (decide_eq_true g) m0) : Hyp.ok eH0_w0 _)
          · rcases (show (A d.toNat) ≤ 1 ∨ 2 ≤ (A d.toNat) by omega) with qhw | qhw
            · have hw : 1 ≤ (A d.toNat) ∧ (A d.toNat) ≤ 1 := by omega
              exact (fun h => ⟨_, h, LT.of_bare esg0_w1 (evc0_w1 hB hJ h he hw g)⟩) (Hyp.more hok2 _ _ (m1 he (m1 hw m0)) (m1 (decide_eq_true g) m0) : Hyp.ok eH0_w1 _)
            · rcases (show (A d.toNat) ≤ 2 ∨ 3 ≤ (A d.toNat) by omega) with qhw | qhw
              · have hw : 2 ≤ (A d.toNat) ∧ (A d.toNat) ≤ 2 := by omega
                exact (fun h => ⟨_, h, LT.of_bare esg0_w2 (evc0_w2 hB hJ h he hw g)⟩) (Hyp.more hok2 _ _ (m1 he (m1 hw m0)) (m1 (decide_eq_true g) m0) : Hyp.ok eH0_w2 _)
              · rcases (show (A d.toNat) ≤ 3 ∨ 4 ≤ (A d.toNat) by omega) with qhw | qhw
                · have hw : 3 ≤ (A d.toNat) ∧ (A d.toNat) ≤ 3 := by omega
                  exact (fun h => ⟨_, h, LT.of_bare esg0_w3 (evc0_w3 hB hJ h he hw g)⟩) (Hyp.more hok2 _ _ (m1 he (m1 hw m0)) (m1 (decide_eq_true g) m0) : Hyp.ok eH0_w3 _)
                · rcases (show (A d.toNat) ≤ 4 ∨ 5 ≤ (A d.toNat) by omega) with qhw | qhw
                  · have hw : 4 ≤ (A d.toNat) ∧ (A d.toNat) ≤ 4 := by omega
                    exact (fun h => ⟨_, h, LT.of_bare esg0_w4 (evc0_w4 hB hJ h he hw g)⟩) (Hyp.more hok2 _ _ (m1 he (m1 hw m0)) (m1 (decide_eq_true g) m0) : Hyp.ok eH0_w4 _)
                  · rcases (show (A d.toNat) ≤ 5 ∨ 6 ≤ (A d.toNat) by omega) with qhw | qhw
                    · have hw : 5 ≤ (A d.toNat) ∧ (A d.toNat) ≤ 5 := by omega
                      exact (fun h => ⟨_, h, LT.of_bare esg0_w5 (evc0_w5 hB hJ h he hw g)⟩) (Hyp.more hok2 _ _ (m1 he (m1 hw m0)) (m1 (decide_eq_true g) m0) : Hyp.ok eH0_w5 _)
                    · rcases (show (A d.toNat) ≤ 6 ∨ 7 ≤ (A d.toNat) by omega) with qhw | qhw
                      · have hw : 6 ≤ (A d.toNat) ∧ (A d.toNat) ≤ 6 := by omega
                        exact (fun h => ⟨_, h, LT.of_bare esg0_w6 (evc0_w6 hB hJ h he hw g)⟩) (Hyp.more hok2 _ _ (m1 he (m1 hw m0)) (m1 (decide_eq_true g) m0) : Hyp.ok eH0_w6 _)
                      · have hw : 7 ≤ (A d.toNat) ∧ (A d.toNat) ≤ 9223372036854775807 := by omega
                        exact (fun h => ⟨_, h, LT.of_bare esg0_w7 (evc0_w7 hB hJ h he hw g)⟩) (Hyp.more hok2 _ _ (m1 he (m1 hw m0)) (m1 (decide_eq_true g) m0) : Hyp.ok eH0_w7 _)
      · have he : 1 ≤ f ∧ f ≤ 255 := by omega
        exact (fun h => ⟨_, h, LT.of_bare esg0_ge (evc0_ge hB hJ h he g)⟩) (Hyp.more hok2 _ _ (m1 he m0) (m1 (decide_eq_true g) m0) : Hyp.ok eH0_ge _)
    · rcases (show f ≤ 0 ∨ 1 ≤ f by omega) with qhe | qhe
      · have he : 0 ≤ f ∧ f ≤ 0 := by omega
        exact (fun h => ⟨_, h, LT.of_bare esg0_x0 (evc0_x0 hB hJ h he g)⟩) (Hyp.more hok2 _ _ (m1 he m0) (m1 (decide_eq_false g) m0) : Hyp.ok eH0_x0 _)
      · have he : 1 ≤ f ∧ f ≤ 255 := by omega
        exact (fun h => ⟨_, h, LT.of_bare esg0_xe (evc0_xe hB hJ h he g)⟩) (Hyp.more hok2 _ _ (m1 he m0) (m1 (decide_eq_false g) m0) : Hyp.ok eH0_xe _)
  · simp only [ehs, List.getElem?_cons_zero, List.getElem?_cons_succ, Option.some.injEq] at hj; subst hj
    obtain ⟨n, u, r, s, q, a, b, c, d, f, g, h, A, B, C, F, K, L, M, N, rfl, hB, hJ⟩ := hInv
    have hok2 : Hyp.ok eh1.H (eV x0 Y0 x2 n u r s q a b c d f g h A B C F K L M N) := by
      have hB2 := hB; have hJ2 := hJ
      simp only [eBase] at hB2; simp only [eJ1] at hJ2
      obtain ⟨hb0, hb1, hb2, hb3, hb4, hb5, hb6, hb7, hb8, hb9, hn0, hn2, ha0_0, ha0_1, ha0_2, ha0_3, ha2_0, hsum0, hex0, _⟩ := hB2
      obtain ⟨hl0, hl1, hl2, hl3, hl4, hl5, hl6, hl7, hl8, hl9, hx, _⟩ := hJ2
      refine ⟨?_, ?_, ?_, (fun p hp is bs xs => by simp only [eh1, List.mem_cons, List.not_mem_nil, or_false] at hp; subst hp; exact sumF_rng _ _), ?_, by simp [eh1]⟩
      · intro p hp
        simp only [eh1, List.mem_cons, List.not_mem_nil, or_false] at hp
        rcases hp with rfl | rfl
        · exact (xi_okP (n := .v 0) g0 rfl (fun _ => rfl) hn0 ha0_0 ha0_1 ha0_2 ha0_3)
        · exact xi_ok g2 rfl hn2 ha2_0
      · intro p hp
        simp only [eh1, List.mem_cons, List.not_mem_nil, or_false] at hp
        rcases hp with rfl | rfl | rfl | rfl | rfl | rfl | rfl | rfl | rfl | rfl | rfl | rfl | rfl
        · exact (by have hx := hex0; first | exact ⟨Int.le_of_eq hx.symm, Int.le_of_eq hx⟩ | exact hx)
        · exact hb0
        · exact hb1
        · exact hb2
        · exact hb3
        · exact hb4
        · exact hl0
        · exact hl1
        · exact hl2
        · exact hl3
        · exact hl4
        · exact hl5
        · exact hl6
      · intro p hp
        simp only [eh1, List.mem_cons, List.not_mem_nil, or_false] at hp
        rcases hp with rfl | rfl | rfl | rfl | rfl | rfl | rfl | rfl
        · exact hb5
        · exact hb6
        · exact hb7
        · exact hb8
        · exact hb9
        · exact hl7
        · exact hl8
        · exact hl9
      · simp [eh1]
    have hB2 := hB
    simp only [eBase] at hB2
    obtain ⟨b0, b1, b2, b3, b4, c0, c1, c2, c3, c4, en0, en2, ea0, ea1, ea2, ea3, ea4, hs, hx0, _⟩ := hB2
    have hJ2 := hJ
    simp only [eJ1] at hJ2
    obtain ⟨l5, l6, l7, l8, l9, l10, l11, m5, m6, m7, i1, i2, _⟩ := hJ2
    have cw := c0 a.toNat
    rcases Decidable.em (a < n) with g | g
    · rcases (show h ≤ 0 ∨ 1 ≤ h by omega) with qhe | qhe
      · have he : 0 ≤ h ∧ h ≤ 0 := by omega
        rcases (show (A a.toNat) ≤ -1 ∨ 0 ≤ (A a.toNat) by omega) with qhw | qhw
        · have hw : -9223372036854775808 ≤ (A a.toNat) ∧ (A a.toNat) ≤ -1 := by omega
          rcases (show c ≤ 0 ∨ 1 ≤ c by omega) with qhn | qhn
          · have hn : 0 ≤ c ∧ c ≤ 0 := by omega
            exact (fun h => ⟨_, h, LT.of_bare esg1_wm_0 (evc1_wm_0 hB hJ h he hw hn g)⟩) (Hyp.more hok2 _ _ (m1 he (m1 hw (m1 hn m0))) (m1 (decide_eq_true g) m0) : Hyp.ok eH1_wm_0 _)
          · rcases (show c ≤ 1 ∨ 2 ≤ c by omega) with qhn | qhn
            · have hn : 1 ≤ c ∧ c ≤ 1 := by omega
              exact (fun h => ⟨_, h, LT.of_bare esg1_wm_1 (evc1_wm_1 hB hJ h he hw hn g)⟩) (Hyp.more hok2 _ _ (m1 he (m1 hw (m1 hn m0))) (m1 (decide_eq_true g) m0) : Hyp.ok eH1_wm_1 _)
            · have hn : 2 ≤ c ∧ c ≤ 16 := by omega
              exact (fun h => ⟨_, h, LT.of_bare esg1_wm_2 (evc1_wm_2 hB hJ h he hw hn g)⟩) (Hyp.more hok2 _ _ (m1 he (m1 hw (m1 hn m0))) (m1 (decide_eq_true g) m0) : Hyp.ok eH1_wm_2 _)
        · rcases (show (A a.toNat) ≤ 0 ∨ 1 ≤ (A a.toNat) by omega) with qhw | qhw
          · have hw : 0 ≤ (A a.toNat) ∧ (A a.toNat) ≤ 0 := by omega
            rcases (show c ≤ 0 ∨ 1 ≤ c by omega) with qhn | qhn
            · have hn : 0 ≤ c ∧ c ≤ 0 := by omega
              exact (fun h => ⟨_, h, LT.of_bare esg1_w0_0 (evc1_w0_0 hB hJ h he hw hn g)⟩) (Hyp.more hok2 _ _ (m1 he (m1 hw (m1 hn m0))) (m1 (decide_eq_true g) m0) : Hyp.ok eH1_w0_0 _)
            · have hn : 1 ≤ c ∧ c ≤ 16 := by omega
              exact (fun h => ⟨_, h, LT.of_bare esg1_w0_1 (evc1_w0_1 hB hJ h he hw hn g)⟩) (Hyp.more hok2 _ _ (m1 he (m1 hw (m1 hn m0))) (m1 (decide_eq_true g) m0) : Hyp.ok eH1_w0_1 _)
          · rcases (show (A a.toNat) ≤ 1 ∨ 2 ≤ (A a.toNat) by omega) with qhw | qhw
            · have hw : 1 ≤ (A a.toNat) ∧ (A a.toNat) ≤ 1 := by omega
              rcases (show c ≤ 0 ∨ 1 ≤ c by omega) with qhn | qhn
              · have hn : 0 ≤ c ∧ c ≤ 0 := by omega
                exact (fun h => ⟨_, h, LT.of_bare esg1_w1_0 (evc1_w1_0 hB hJ h he hw hn g)⟩) (Hyp.more hok2 _ _ (m1 he (m1 hw (m1 hn m0))) (m1 (decide_eq_true g) m0) : Hyp.ok eH1_w1_0 _)
              · have hn : 1 ≤ c ∧ c ≤ 16 := by omega
                exact (fun h => ⟨_, h, LT.of_bare esg1_w1_1 (evc1_w1_1 hB hJ h he hw hn g)⟩) (Hyp.more hok2 _ _ (m1 he (m1 hw (m1 hn m0))) (m1 (decide_eq_true g) m0) : Hyp.ok eH1_w1_1 _)
            · rcases (show (A a.toNat) ≤ 2 ∨ 3 ≤ (A a.toNat) by omega) with qhw | qhw
              · have hw : 2 ≤ (A a.toNat) ∧ (A a.toNat) ≤ 2 := by omega
                rcases (show c ≤ 0 ∨ 1 ≤ c by omega) with qhn | qhn
                · have hn : 0 ≤ c ∧ c ≤ 0 := by omega
                  exact (fun h => ⟨_, h, LT.of_bare esg1_w2_0 (evc1_w2_0 hB hJ h he hw hn g)⟩) (Hyp.more hok2 _ _ (m1 he (m1 hw (m1 hn m0))) (m1 (decide_eq_true g) m0) : Hyp.ok eH1_w2_0 _)
                · have hn : 1 ≤ c ∧ c ≤ 16 := by omega
                  exact (fun h => ⟨_, h, LT.of_bare esg1_w2_1 (evc1_w2_1 hB hJ h he hw hn g)⟩) (Hyp.more hok2 _ _ (m1 he (m1 hw (m1 hn m0))) (m1 (decide_eq_true g) m0) : Hyp.ok eH1_w2_1 _)
              · rcases (show (A a.toNat) ≤ 3 ∨ 4 ≤ (A a.toNat) by omega) with qhw | qhw
                · have hw : 3 ≤ (A a.toNat) ∧ (A a.toNat) ≤ 3 := by omega
                  rcases (show c ≤ 0 ∨ 1 ≤ c by omega) with qhn | qhn
                  · have hn : 0 ≤ c ∧ c ≤ 0 := by omega
                    exact (fun h => ⟨_, h, LT.of_bare esg1_w3_0 (evc1_w3_0 hB hJ h he hw hn g)⟩) (Hyp.more hok2 _ _ (m1 he (m1 hw (m1 hn m0))) (m1 (decide_eq_true g) m0) : Hyp.ok eH1_w3_0 _)
                  · have hn : 1 ≤ c ∧ c ≤ 16 := by omega
                    exact (fun h => ⟨_, h, LT.of_bare esg1_w3_1 (evc1_w3_1 hB hJ h he hw hn g)⟩) (Hyp.more hok2 _ _ (m1 he (m1 hw (m1 hn m0))) (m1 (decide_eq_true g) m0) : Hyp.ok eH1_w3_1 _)
                · rcases (show (A a.toNat) ≤ 4 ∨ 5 ≤ (A a.toNat) by omega) with qhw | qhw
                  · have hw : 4 ≤ (A a.toNat) ∧ (A a.toNat) ≤ 4 := by omega
                    rcases (show c ≤ 0 ∨ 1 ≤ c by omega) with qhn | qhn
                    · have hn : 0 ≤ c ∧ c ≤ 0 := by omega
                      exact (fun h => ⟨_, h, LT.of_bare esg1_w4_0 (evc1_w4_0 hB hJ h he hw hn g)⟩) (Hyp.more hok2 _ _ (m1 he (m1 hw (m1 hn m0))) (m1 (decide_eq_true g) m0) : Hyp.ok eH1_w4_0 _)
                    · have hn : 1 ≤ c ∧ c ≤ 16 := by omega
                      exact (fun h => ⟨_, h, LT.of_bare esg1_w4_1 (evc1_w4_1 hB hJ h he hw hn g)⟩) (Hyp.more hok2 _ _ (m1 he (m1 hw (m1 hn m0))) (m1 (decide_eq_true g) m0) : Hyp.ok eH1_w4_1 _)
                  · rcases (show (A a.toNat) ≤ 5 ∨ 6 ≤ (A a.toNat) by omega) with qhw | qhw
                    · have hw : 5 ≤ (A a.toNat) ∧ (A a.toNat) ≤ 5 := by omega
                      rcases (show c ≤ 0 ∨ 1 ≤ c by omega) with qhn | qhn
                      · have hn : 0 ≤ c ∧ c ≤ 0 := by omega
                        exact (fun h => ⟨_, h, LT.of_bare esg1_w5_0 (evc1_w5_0 hB hJ h he hw hn g)⟩) (Hyp.more hok2 _ _ (m1 he (m1 hw (m1 hn m0))) (m1 (decide_eq_true g) m0) : Hyp.ok eH1_w5_0 _)
                      · have hn : 1 ≤ c ∧ c ≤ 16 := by omega
                        exact (fun h => ⟨_, h, LT.of_bare esg1_w5_1 (evc1_w5_1 hB hJ h he hw hn g)⟩) (Hyp.more hok2 _ _ (m1 he (m1 hw (m1 hn m0))) (m1 (decide_eq_true g) m0) : Hyp.ok eH1_w5_1 _)
                    · rcases (show (A a.toNat) ≤ 6 ∨ 7 ≤ (A a.toNat) by omega) with qhw | qhw
                      · have hw : 6 ≤ (A a.toNat) ∧ (A a.toNat) ≤ 6 := by omega
                        rcases (show c ≤ 15 ∨ 16 ≤ c by omega) with qhn | qhn
                        · have hn : 0 ≤ c ∧ c ≤ 15 := by omega
                          exact (fun h => ⟨_, h, LT.of_bare esg1_w6_0 (evc1_w6_0 hB hJ h he hw hn g)⟩) (Hyp.more hok2 _ _ (m1 he (m1 hw (m1 hn m0))) (m1 (decide_eq_true g) m0) : Hyp.ok eH1_w6_0 _)
                        · have hn : 16 ≤ c ∧ c ≤ 16 := by omega
                          exact (fun h => ⟨_, h, LT.of_bare esg1_w6_16 (evc1_w6_16 hB hJ h he hw hn g)⟩) (Hyp.more hok2 _ _ (m1 he (m1 hw (m1 hn m0))) (m1 (decide_eq_true g) m0) : Hyp.ok eH1_w6_16 _)
                      · have hw : 7 ≤ (A a.toNat) ∧ (A a.toNat) ≤ 9223372036854775807 := by omega
                        rcases (show c ≤ 0 ∨ 1 ≤ c by omega) with qhn | qhn
                        · have hn : 0 ≤ c ∧ c ≤ 0 := by omega
                          exact (fun h => ⟨_, h, LT.of_bare esg1_w7_0 (evc1_w7_0 hB hJ h he hw hn g)⟩) (Hyp.more hok2 _ _ (m1 he (m1 hw (m1 hn m0))) (m1 (decide_eq_true g) m0) : Hyp.ok eH1_w7_0 _)
                        · rcases (show c ≤ 1 ∨ 2 ≤ c by omega) with qhn | qhn
                          · have hn : 1 ≤ c ∧ c ≤ 1 := by omega
                            exact (fun h => ⟨_, h, LT.of_bare esg1_w7_1 (evc1_w7_1 hB hJ h he hw hn g)⟩) (Hyp.more hok2 _ _ (m1 he (m1 hw (m1 hn m0))) (m1 (decide_eq_true g) m0) : Hyp.ok eH1_w7_1 _)
                          · have hn : 2 ≤ c ∧ c ≤ 16 := by omega
                            exact (fun h => ⟨_, h, LT.of_bare esg1_w7_2 (evc1_w7_2 hB hJ h he hw hn g)⟩) (Hyp.more hok2 _ _ (m1 he (m1 hw (m1 hn m0))) (m1 (decide_eq_true g) m0) : Hyp.ok eH1_w7_2 _)
      · have he : 1 ≤ h ∧ h ≤ 255 := by omega
        exact (fun h => ⟨_, h, LT.of_bare esg1_ge (evc1_ge hB hJ h he g)⟩) (Hyp.more hok2 _ _ (m1 he m0) (m1 (decide_eq_true g) m0) : Hyp.ok eH1_ge _)
    · rcases (show h ≤ 0 ∨ 1 ≤ h by omega) with qhe | qhe
      · have he : 0 ≤ h ∧ h ≤ 0 := by omega
        rcases (show c ≤ 0 ∨ 1 ≤ c by omega) with qhn | qhn
        · have hn : 0 ≤ c ∧ c ≤ 0 := by omega
          exact (fun h => ⟨_, h, LT.of_bare esg1_x0 (evc1_x0 hB hJ h he hn g)⟩) (Hyp.more hok2 _ _ (m1 he (m1 hn m0)) (m1 (decide_eq_false g) m0) : Hyp.ok eH1_x0 _)
        · have hn : 1 ≤ c ∧ c ≤ 16 := by omega
          exact (fun h => ⟨_, h, LT.of_bare esg1_x1 (evc1_x1 hB hJ h he hn g)⟩) (Hyp.more hok2 _ _ (m1 he (m1 hn m0)) (m1 (decide_eq_false g) m0) : Hyp.ok eH1_x1 _)
      · have he : 1 ≤ h ∧ h ≤ 255 := by omega
        exact (fun h => ⟨_, h, LT.of_bare esg1_xe (evc1_xe hB hJ h he g)⟩) (Hyp.more hok2 _ _ (m1 he m0) (m1 (decide_eq_false g) m0) : Hyp.ok eH1_xe _)
  · simp only [ehs, List.getElem?_cons_zero, List.getElem?_cons_succ, Option.some.injEq] at hj; subst hj
    obtain ⟨n, u, r, s, q, a, b, c, d, f, g, h, A, B, C, F, K, L, M, N, rfl, hB, hJ⟩ := hInv
    have hok2 : Hyp.ok eh2.H (eV x0 Y0 x2 n u r s q a b c d f g h A B C F K L M N) := by
      have hB2 := hB; have hJ2 := hJ
      simp only [eBase] at hB2; simp only [eJ2] at hJ2
      obtain ⟨hb0, hb1, hb2, hb3, hb4, hb5, hb6, hb7, hb8, hb9, hn0, hn2, ha0_0, ha0_1, ha0_2, ha0_3, ha2_0, hsum0, hex0, _⟩ := hB2
      obtain ⟨hl0, hl1, hl2, hl3, hl4, hl5, hl6, hl7, hl8, hl9, hx, _⟩ := hJ2
      refine ⟨?_, ?_, ?_, (fun p hp is bs xs => by simp only [eh2, List.mem_cons, List.not_mem_nil, or_false] at hp; subst hp; exact sumF_rng _ _), ?_, by simp [eh2]⟩
      · intro p hp
        simp only [eh2, List.mem_cons, List.not_mem_nil, or_false] at hp
        rcases hp with rfl | rfl
        · exact (xi_okP (n := .v 0) g0 rfl (fun _ => rfl) hn0 ha0_0 ha0_1 ha0_2 ha0_3)
        · exact xi_ok g2 rfl hn2 ha2_0
      · intro p hp
        simp only [eh2, List.mem_cons, List.not_mem_nil, or_false] at hp
        rcases hp with rfl | rfl | rfl | rfl | rfl | rfl | rfl | rfl | rfl | rfl | rfl | rfl | rfl
        · exact (by have hx := hex0; first | exact ⟨Int.le_of_eq hx.symm, Int.le_of_eq hx⟩ | exact hx)
        · exact hb0
        · exact hb1
        · exact hb2
        · exact hb3
        · exact hb4
        · exact hl0
        · exact hl1
        · exact hl2
        · exact hl3
        · exact hl4
        · exact hl5
        · exact hl6
      · intro p hp
        simp only [eh2, List.mem_cons, List.not_mem_nil, or_false] at hp
        rcases hp with rfl | rfl | rfl | rfl | rfl | rfl | rfl | rfl
        · exact hb5
        · exact hb6
        · exact hb7
        · exact hb8
        · exact hb9
        · exact hl7
        · exact hl8
        · exact hl9
      · simp [eh2]
    have hB2 := hB
    simp only [eBase] at hB2
    obtain ⟨b0, b1, b2, b3, b4, c0, c1, c2, c3, c4, en0, en2, ea0, ea1, ea2, ea3, ea4, hs, hx0, _⟩ := hB2
    have hJ2 := hJ
    simp only [eJ2] at hJ2
    obtain ⟨l5, l6, l7, l8, l9, l10, l11, m5, m6, m7, hw, _⟩ := hJ2
    rcases (show r ≤ 0 ∨ 1 ≤ r by omega) with qhy | qhy
    · have hy : 0 ≤ r ∧ r ≤ 0 := by omega
      exact (fun h => ⟨_, h, LT.of_bare esg2_b0 (evc2_b0 hB hJ h hy)⟩) (Hyp.more hok2 _ _ (m1 hy m0) m0 : Hyp.ok eH2_b0 _)
    · have hy : 1 ≤ r ∧ r ≤ 255 := by omega
      rcases (show u ≤ -1 ∨ 0 ≤ u by omega) with qa | qa
      · have ha : -9223372036854775808 ≤ u ∧ u ≤ -1 := by omega
        exact (fun h => ⟨_, h, LT.of_bare esg2_an (evc2_an hB hJ h hy ha)⟩) (Hyp.more hok2 _ _ (m1 hy (m1 ha m0)) m0 : Hyp.ok eH2_an _)
      · rcases Decidable.em (u < g) with hl | hl
        · rcases (show g ≤ 13 ∨ 14 ≤ g by omega) with qhn | qhn
          · have hn : 13 ≤ g ∧ g ≤ 13 := by omega
            rcases (show u ≤ 0 ∨ 1 ≤ u by omega) with qha | qha
            · have ha : 0 ≤ u ∧ u ≤ 0 := by omega
              exact (fun h => ⟨_, h, LT.of_bare esg2_z0 (evc2_z0 hB hJ h hy ha hn hl)⟩) (Hyp.more hok2 _ _ (m1 hy (m1 ha (m1 hn m0))) (m1 (decide_eq_true hl) m0) : Hyp.ok eH2_z0 _)
            · rcases (show u ≤ 1 ∨ 2 ≤ u by omega) with qha | qha
              · have ha : 1 ≤ u ∧ u ≤ 1 := by omega
                exact (fun h => ⟨_, h, LT.of_bare esg2_z1 (evc2_z1 hB hJ h hy ha hn hl)⟩) (Hyp.more hok2 _ _ (m1 hy (m1 ha (m1 hn m0))) (m1 (decide_eq_true hl) m0) : Hyp.ok eH2_z1 _)
              · rcases (show u ≤ 2 ∨ 3 ≤ u by omega) with qha | qha
                · have ha : 2 ≤ u ∧ u ≤ 2 := by omega
                  exact (fun h => ⟨_, h, LT.of_bare esg2_z2 (evc2_z2 hB hJ h hy ha hn hl)⟩) (Hyp.more hok2 _ _ (m1 hy (m1 ha (m1 hn m0))) (m1 (decide_eq_true hl) m0) : Hyp.ok eH2_z2 _)
                · rcases (show u ≤ 3 ∨ 4 ≤ u by omega) with qha | qha
                  · have ha : 3 ≤ u ∧ u ≤ 3 := by omega
                    exact (fun h => ⟨_, h, LT.of_bare esg2_z3 (evc2_z3 hB hJ h hy ha hn hl)⟩) (Hyp.more hok2 _ _ (m1 hy (m1 ha (m1 hn m0))) (m1 (decide_eq_true hl) m0) : Hyp.ok eH2_z3 _)
                  · rcases (show u ≤ 4 ∨ 5 ≤ u by omega) with qha | qha
                    · have ha : 4 ≤ u ∧ u ≤ 4 := by omega
                      exact (fun h => ⟨_, h, LT.of_bare esg2_z4 (evc2_z4 hB hJ h hy ha hn hl)⟩) (Hyp.more hok2 _ _ (m1 hy (m1 ha (m1 hn m0))) (m1 (decide_eq_true hl) m0) : Hyp.ok eH2_z4 _)
                    · rcases (show u ≤ 5 ∨ 6 ≤ u by omega) with qha | qha
                      · have ha : 5 ≤ u ∧ u ≤ 5 := by omega
                        exact (fun h => ⟨_, h, LT.of_bare esg2_z5 (evc2_z5 hB hJ h hy ha hn hl)⟩) (Hyp.more hok2 _ _ (m1 hy (m1 ha (m1 hn m0))) (m1 (decide_eq_true hl) m0) : Hyp.ok eH2_z5 _)
                      · rcases (show u ≤ 6 ∨ 7 ≤ u by omega) with qha | qha
                        · have ha : 6 ≤ u ∧ u ≤ 6 := by omega
                          exact (fun h => ⟨_, h, LT.of_bare esg2_z6 (evc2_z6 hB hJ h hy ha hn hl)⟩) (Hyp.more hok2 _ _ (m1 hy (m1 ha (m1 hn m0))) (m1 (decide_eq_true hl) m0) : Hyp.ok eH2_z6 _)
                        · rcases (show u ≤ 7 ∨ 8 ≤ u by omega) with qha | qha
                          · have ha : 7 ≤ u ∧ u ≤ 7 := by omega
                            exact (fun h => ⟨_, h, LT.of_bare esg2_z7 (evc2_z7 hB hJ h hy ha hn hl)⟩) (Hyp.more hok2 _ _ (m1 hy (m1 ha (m1 hn m0))) (m1 (decide_eq_true hl) m0) : Hyp.ok eH2_z7 _)
                          · rcases (show u ≤ 8 ∨ 9 ≤ u by omega) with qha | qha
                            · have ha : 8 ≤ u ∧ u ≤ 8 := by omega
                              exact (fun h => ⟨_, h, LT.of_bare esg2_z8 (evc2_z8 hB hJ h hy ha hn hl)⟩) (Hyp.more hok2 _ _ (m1 hy (m1 ha (m1 hn m0))) (m1 (decide_eq_true hl) m0) : Hyp.ok eH2_z8 _)
                            · rcases (show u ≤ 9 ∨ 10 ≤ u by omega) with qha | qha
                              · have ha : 9 ≤ u ∧ u ≤ 9 := by omega
                                exact (fun h => ⟨_, h, LT.of_bare esg2_z9 (evc2_z9 hB hJ h hy ha hn hl)⟩) (Hyp.more hok2 _ _ (m1 hy (m1 ha (m1 hn m0))) (m1 (decide_eq_true hl) m0) : Hyp.ok eH2_z9 _)
                              · rcases (show u ≤ 10 ∨ 11 ≤ u by omega) with qha | qha
                                · have ha : 10 ≤ u ∧ u ≤ 10 := by omega
                                  exact (fun h => ⟨_, h, LT.of_bare esg2_z10 (evc2_z10 hB hJ h hy ha hn hl)⟩) (Hyp.more hok2 _ _ (m1 hy (m1 ha (m1 hn m0))) (m1 (decide_eq_true hl) m0) : Hyp.ok eH2_z10 _)
                                · rcases (show u ≤ 11 ∨ 12 ≤ u by omega) with qha | qha
                                  · have ha : 11 ≤ u ∧ u ≤ 11 := by omega
                                    exact (fun h => ⟨_, h, LT.of_bare esg2_z11 (evc2_z11 hB hJ h hy ha hn hl)⟩) (Hyp.more hok2 _ _ (m1 hy (m1 ha (m1 hn m0))) (m1 (decide_eq_true hl) m0) : Hyp.ok eH2_z11 _)
                                  · rcases (show u ≤ 12 ∨ 13 ≤ u by omega) with qha | qha
                                    · have ha : 12 ≤ u ∧ u ≤ 12 := by omega
                                      exact (fun h => ⟨_, h, LT.of_bare esg2_z12 (evc2_z12 hB hJ h hy ha hn hl)⟩) (Hyp.more hok2 _ _ (m1 hy (m1 ha (m1 hn m0))) (m1 (decide_eq_true hl) m0) : Hyp.ok eH2_z12 _)
                                    · have ha : 13 ≤ u ∧ u ≤ 9223372036854775807 := by omega
                                      exfalso; omega
          · have hn : 14 ≤ g ∧ g ≤ 2097165 := by omega
            rcases (show u ≤ 0 ∨ 1 ≤ u by omega) with qha | qha
            · have ha : 0 ≤ u ∧ u ≤ 0 := by omega
              exact (fun h => ⟨_, h, LT.of_bare esg2_a0 (evc2_a0 hB hJ h hy ha hn hl)⟩) (Hyp.more hok2 _ _ (m1 hy (m1 ha (m1 hn m0))) (m1 (decide_eq_true hl) m0) : Hyp.ok eH2_a0 _)
            · rcases (show u ≤ 1 ∨ 2 ≤ u by omega) with qha | qha
              · have ha : 1 ≤ u ∧ u ≤ 1 := by omega
                exact (fun h => ⟨_, h, LT.of_bare esg2_a1 (evc2_a1 hB hJ h hy ha hn hl)⟩) (Hyp.more hok2 _ _ (m1 hy (m1 ha (m1 hn m0))) (m1 (decide_eq_true hl) m0) : Hyp.ok eH2_a1 _)
              · rcases (show u ≤ 2 ∨ 3 ≤ u by omega) with qha | qha
                · have ha : 2 ≤ u ∧ u ≤ 2 := by omega
                  exact (fun h => ⟨_, h, LT.of_bare esg2_a2 (evc2_a2 hB hJ h hy ha hn hl)⟩) (Hyp.more hok2 _ _ (m1 hy (m1 ha (m1 hn m0))) (m1 (decide_eq_true hl) m0) : Hyp.ok eH2_a2 _)
                · rcases (show u ≤ 3 ∨ 4 ≤ u by omega) with qha | qha
                  · have ha : 3 ≤ u ∧ u ≤ 3 := by omega
                    exact (fun h => ⟨_, h, LT.of_bare esg2_a3 (evc2_a3 hB hJ h hy ha hn hl)⟩) (Hyp.more hok2 _ _ (m1 hy (m1 ha (m1 hn m0))) (m1 (decide_eq_true hl) m0) : Hyp.ok eH2_a3 _)
                  · rcases (show u ≤ 4 ∨ 5 ≤ u by omega) with qha | qha
                    · have ha : 4 ≤ u ∧ u ≤ 4 := by omega
                      exact (fun h => ⟨_, h, LT.of_bare esg2_a4 (evc2_a4 hB hJ h hy ha hn hl)⟩) (Hyp.more hok2 _ _ (m1 hy (m1 ha (m1 hn m0))) (m1 (decide_eq_true hl) m0) : Hyp.ok eH2_a4 _)
                    · rcases (show u ≤ 5 ∨ 6 ≤ u by omega) with qha | qha
                      · have ha : 5 ≤ u ∧ u ≤ 5 := by omega
                        exact (fun h => ⟨_, h, LT.of_bare esg2_a5 (evc2_a5 hB hJ h hy ha hn hl)⟩) (Hyp.more hok2 _ _ (m1 hy (m1 ha (m1 hn m0))) (m1 (decide_eq_true hl) m0) : Hyp.ok eH2_a5 _)
                      · rcases (show u ≤ 6 ∨ 7 ≤ u by omega) with qha | qha
                        · have ha : 6 ≤ u ∧ u ≤ 6 := by omega
                          exact (fun h => ⟨_, h, LT.of_bare esg2_a6 (evc2_a6 hB hJ h hy ha hn hl)⟩) (Hyp.more hok2 _ _ (m1 hy (m1 ha (m1 hn m0))) (m1 (decide_eq_true hl) m0) : Hyp.ok eH2_a6 _)
                        · rcases (show u ≤ 7 ∨ 8 ≤ u by omega) with qha | qha
                          · have ha : 7 ≤ u ∧ u ≤ 7 := by omega
                            exact (fun h => ⟨_, h, LT.of_bare esg2_a7 (evc2_a7 hB hJ h hy ha hn hl)⟩) (Hyp.more hok2 _ _ (m1 hy (m1 ha (m1 hn m0))) (m1 (decide_eq_true hl) m0) : Hyp.ok eH2_a7 _)
                          · rcases (show u ≤ 8 ∨ 9 ≤ u by omega) with qha | qha
                            · have ha : 8 ≤ u ∧ u ≤ 8 := by omega
                              exact (fun h => ⟨_, h, LT.of_bare esg2_a8 (evc2_a8 hB hJ h hy ha hn hl)⟩) (Hyp.more hok2 _ _ (m1 hy (m1 ha (m1 hn m0))) (m1 (decide_eq_true hl) m0) : Hyp.ok eH2_a8 _)
                            · rcases (show u ≤ 9 ∨ 10 ≤ u by omega) with qha | qha
                              · have ha : 9 ≤ u ∧ u ≤ 9 := by omega
                                exact (fun h => ⟨_, h, LT.of_bare esg2_a9 (evc2_a9 hB hJ h hy ha hn hl)⟩) (Hyp.more hok2 _ _ (m1 hy (m1 ha (m1 hn m0))) (m1 (decide_eq_true hl) m0) : Hyp.ok eH2_a9 _)
                              · rcases (show u ≤ 10 ∨ 11 ≤ u by omega) with qha | qha
                                · have ha : 10 ≤ u ∧ u ≤ 10 := by omega
                                  exact (fun h => ⟨_, h, LT.of_bare esg2_a10 (evc2_a10 hB hJ h hy ha hn hl)⟩) (Hyp.more hok2 _ _ (m1 hy (m1 ha (m1 hn m0))) (m1 (decide_eq_true hl) m0) : Hyp.ok eH2_a10 _)
                                · rcases (show u ≤ 11 ∨ 12 ≤ u by omega) with qha | qha
                                  · have ha : 11 ≤ u ∧ u ≤ 11 := by omega
                                    exact (fun h => ⟨_, h, LT.of_bare esg2_a11 (evc2_a11 hB hJ h hy ha hn hl)⟩) (Hyp.more hok2 _ _ (m1 hy (m1 ha (m1 hn m0))) (m1 (decide_eq_true hl) m0) : Hyp.ok eH2_a11 _)
                                  · rcases (show u ≤ 12 ∨ 13 ≤ u by omega) with qha | qha
                                    · have ha : 12 ≤ u ∧ u ≤ 12 := by omega
                                      exact (fun h => ⟨_, h, LT.of_bare esg2_a12 (evc2_a12 hB hJ h hy ha hn hl)⟩) (Hyp.more hok2 _ _ (m1 hy (m1 ha (m1 hn m0))) (m1 (decide_eq_true hl) m0) : Hyp.ok eH2_a12 _)
                                    · have ha : 13 ≤ u ∧ u ≤ 9223372036854775807 := by omega
                                      exact (fun h => ⟨_, h, LT.of_bare esg2_ab (evc2_ab hB hJ h hy ha hn hl)⟩) (Hyp.more hok2 _ _ (m1 hy (m1 ha (m1 hn m0))) (m1 (decide_eq_true hl) m0) : Hyp.ok eH2_ab _)
        · have ha : 0 ≤ u ∧ u ≤ 9223372036854775807 := by omega
          exact (fun h => ⟨_, h, LT.of_bare esg2_ao (evc2_ao hB hJ h hy ha hl)⟩) (Hyp.more hok2 _ _ (m1 hy (m1 ha m0)) (m1 (decide_eq_false hl) m0) : Hyp.ok eH2_ao _)
  · simp only [ehs, List.getElem?_cons_zero, List.getElem?_cons_succ, Option.some.injEq] at hj; subst hj
    obtain ⟨n, u, r, s, q, a, b, c, d, f, g, h, A, B, C, F, K, L, M, N, rfl, hB, hJ⟩ := hInv
    have hok2 : Hyp.ok eh3.H (eV x0 Y0 x2 n u r s q a b c d f g h A B C F K L M N) := by
      have hB2 := hB; have hJ2 := hJ
      simp only [eBase] at hB2; simp only [eJ3] at hJ2
      obtain ⟨hb0, hb1, hb2, hb3, hb4, hb5, hb6, hb7, hb8, hb9, hn0, hn2, ha0_0, ha0_1, ha0_2, ha0_3, ha2_0, hsum0, hex0, _⟩ := hB2
      obtain ⟨hl0, hl1, hl2, hl3, hl4, hl5, hl6, hl7, hl8, hl9, hx, _⟩ := hJ2
      refine ⟨?_, ?_, ?_, (fun p hp is bs xs => by simp only [eh3, List.mem_cons, List.not_mem_nil, or_false] at hp; subst hp; exact sumF_rng _ _), ?_, by simp [eh3]⟩
      · intro p hp
        simp only [eh3, List.mem_cons, List.not_mem_nil, or_false] at hp
        rcases hp with rfl | rfl
        · exact (xi_okP (n := .v 0) g0 rfl (fun _ => rfl) hn0 ha0_0 ha0_1 ha0_2 ha0_3)
        · exact xi_ok g2 rfl hn2 ha2_0
      · intro p hp
        simp only [eh3, List.mem_cons, List.not_mem_nil, or_false] at hp
        rcases hp with rfl | rfl | rfl | rfl | rfl | rfl | rfl | rfl | rfl | rfl | rfl | rfl | rfl
        · exact (by have hx := hex0; first | exact ⟨Int.le_of_eq hx.symm, Int.le_of_eq hx⟩ | exact hx)
        · exact hb0
        · exact hb1
        · exact hb2
        · exact hb3
        · exact hb4
        · exact hl0
        · exact hl1
        · exact hl2
        · exact hl3
        · exact hl4
        · exact hl5
        · exact hl6
      · intro p hp
        simp only [eh3, List.mem_cons, List.not_mem_nil, or_false] at hp
        rcases hp with rfl | rfl | rfl | rfl | rfl | rfl | rfl | rfl
        · exact hb5
        · exact hb6
        · exact hb7
        · exact hb8
        · exact hb9
        · exact hl7
        · exact hl8
        · exact hl9
      · simp [eh3]
    have hB2 := hB
    simp only [eBase] at hB2
    obtain ⟨b0, b1, b2, b3, b4, c0, c1, c2, c3, c4, en0, en2, ea0, ea1, ea2, ea3, ea4, hs, hx0, _⟩ := hB2
    have hJ2 := hJ
    simp only [eJ3] at hJ2
    obtain ⟨l5, l6, l7, l8, l9, l10, l11, m5, m6, m7, hw, _⟩ := hJ2
    rcases (show s ≤ 0 ∨ 1 ≤ s by omega) with qhy | qhy
    · have hy : -9223372036854775808 ≤ s ∧ s ≤ 0 := by omega
      exact (fun h => ⟨_, h, LT.of_bare esg3_l0 (evc3_l0 hB hJ h hy)⟩) (Hyp.more hok2 _ _ (m1 hy m0) m0 : Hyp.ok eH3_l0 _)
    · have hy : 1 ≤ s ∧ s ≤ 9223372036854775807 := by omega
      rcases Decidable.em (s ≤ g) with hl | hl
      · rcases (show (g - s) ≤ 12 ∨ 13 ≤ (g - s) by omega) with qhs3 | qhs3
        · have hs3 : 0 ≤ (g - s) ∧ (g - s) ≤ 12 := by omega
          exact (fun h => ⟨_, h, LT.of_bare esg3_ls (evc3_ls hB hJ h hy hs3 hl)⟩) (Hyp.more hok2 _ _ (m1 hy (m1 hs3 m0)) (m1 (decide_eq_true hl) m0) : Hyp.ok eH3_ls _)
        · rcases (show (g - s) ≤ 13 ∨ 14 ≤ (g - s) by omega) with qhs3 | qhs3
          · have hs3 : 13 ≤ (g - s) ∧ (g - s) ≤ 13 := by omega
            exact (fun h => ⟨_, h, LT.of_bare esg3_l3 (evc3_l3 hB hJ h hy hs3 hl)⟩) (Hyp.more hok2 _ _ (m1 hy (m1 hs3 m0)) (m1 (decide_eq_true hl) m0) : Hyp.ok eH3_l3 _)
          · have hs3 : 14 ≤ (g - s) ∧ (g - s) ≤ 2097165 := by omega
            exact (fun h => ⟨_, h, LT.of_bare esg3_lb (evc3_lb hB hJ h hy hs3 hl)⟩) (Hyp.more hok2 _ _ (m1 hy (m1 hs3 m0)) (m1 (decide_eq_true hl) m0) : Hyp.ok eH3_lb _)
      · exact (fun h => ⟨_, h, LT.of_bare esg3_lo (evc3_lo hB hJ h hy hl)⟩) (Hyp.more hok2 _ _ (m1 hy m0) (m1 (decide_eq_false hl) m0) : Hyp.ok eH3_lo _)
  · simp only [ehs, List.getElem?_cons_zero, List.getElem?_cons_succ, Option.some.injEq] at hj; subst hj
    obtain ⟨n, u, r, s, q, a, b, c, d, f, g, h, A, B, C, F, K, L, M, N, rfl, hB, hJ⟩ := hInv
    have hok2 : Hyp.ok eh4.H (eV x0 Y0 x2 n u r s q a b c d f g h A B C F K L M N) := by
      have hB2 := hB; have hJ2 := hJ
      simp only [eBase] at hB2; simp only [eJ4] at hJ2
      obtain ⟨hb0, hb1, hb2, hb3, hb4, hb5, hb6, hb7, hb8, hb9, hn0, hn2, ha0_0, ha0_1, ha0_2, ha0_3, ha2_0, hsum0, hex0, _⟩ := hB2
      obtain ⟨hl0, hl1, hl2, hl3, hl4, hl5, hl6, hl7, hl8, hl9, hx, _⟩ := hJ2
      refine ⟨?_, ?_, ?_, (fun p hp is bs xs => by simp only [eh4, List.mem_cons, List.not_mem_nil, or_false] at hp; subst hp; exact sumF_rng _ _), ?_, by simp [eh4]⟩
      · intro p hp
        simp only [eh4, List.mem_cons, List.not_mem_nil, or_false] at hp
        rcases hp with rfl | rfl
        · exact (xi_okP (n := .v 0) g0 rfl (fun _ => rfl) hn0 ha0_0 ha0_1 ha0_2 ha0_3)
        · exact xi_ok g2 rfl hn2 ha2_0
      · intro p hp
        simp only [eh4, List.mem_cons, List.not_mem_nil, or_false] at hp
        rcases hp with rfl | rfl | rfl | rfl | rfl | rfl | rfl | rfl | rfl | rfl | rfl | rfl | rfl
        · exact (by have hx := hex0; first | exact ⟨Int.le_of_eq hx.symm, Int.le_of_eq hx⟩ | exact hx)
        · exact hb0
        · exact hb1
        · exact hb2
        · exact hb3
        · exact hb4
        · exact hl0
        · exact hl1
        · exact hl2
        · exact hl3
        · exact hl4
        · exact hl5
        · exact hl6
      · intro p hp
        simp only [eh4, List.mem_cons, List.not_mem_nil, or_false] at hp
        rcases hp with rfl | rfl | rfl | rfl | rfl | rfl | rfl | rfl
        · exact hb5
        · exact hb6
        · exact hb7
        · exact hb8
        · exact hb9
        · exact hl7
        · exact hl8
        · exact hl9
      · simp [eh4]
    have hB2 := hB
    simp only [eBase] at hB2
    obtain ⟨b0, b1, b2, b3, b4, c0, c1, c2, c3, c4, en0, en2, ea0, ea1, ea2, ea3, ea4, hs, hx0, _⟩ := hB2
    have hJ2 := hJ
    simp only [eJ4] at hJ2
    obtain ⟨l5, l6, l7, l8, l9, l10, l11, m5, m6, m7, hw, _⟩ := hJ2
    have hm2 : q ≤ 1048575 := hx0.2
    rcases (show q ≤ 0 ∨ 1 ≤ q by omega) with qhy | qhy
    · have hy : 0 ≤ q ∧ q ≤ 0 := by omega
      exact (fun h => ⟨_, h, LT.of_bare esg4_m0 (evc4_m0 hB hJ h hy)⟩) (Hyp.more hok2 _ _ (m1 hy m0) m0 : Hyp.ok eH4_m0 _)
    · have hy : 1 ≤ q ∧ q ≤ 1048575 := by omega
      exact (fun h => ⟨_, h, LT.of_bare esg4_mb (evc4_mb hB hJ h hy)⟩) (Hyp.more hok2 _ _ (m1 hy m0) m0 : Hyp.ok eH4_mb _)
  · simp [ehs] at hj
theorem calls (x0 : Ext) (Y0 : Nat → Ext) (aP1 bP1 cP1 : Int) (ra1 : inR (krng .i64) aP1) (rb1 : inR (krng .u8) bP1) (rc1 : inR (krng .i64) cP1) (x2 : Ext) (w : World) (g0 : PFit x0 Y0 w) (g2 : XFit x2 w [some .u8]) (m2 : (x2.n : Int) ≤ 1048575) :
    Calls Try.prog 4 #[x0.v, .agg #[.int .i64 aP1, .int .u8 bP1, .int .i64 cP1, x2.v]] w fun r w' => r = .returned (.bool true) ∧ Below w.heap.size w w' :=
  ecalls x0 Y0 aP1 bP1 cP1 ra1 rb1 rc1 x2 ⟨by omega, m2⟩ w g0 g2
theorem bulk_one {H : Type} (d : DataW H) : 1 ≤ Rows.uptoBulk d := by
  cases d with
  | lit l => cases l <;> simp [Rows.uptoBulk]
  | _ => simp [Rows.uptoBulk]
theorem bulk_all {H : Type} (l : List (DataW H)) : l.length ≤ Rows.uptoBulkAll l := by
  induction l with
  | nil => simp [Rows.uptoBulkAll]
  | cons x r ih => have := bulk_one x; simp only [Rows.uptoBulkAll, List.length_cons]; omega
theorem bulk_len {H : Type} {n : Nat} {d : DataW H} (h : n = 0 ∨ ∃ l sp, d = .slice l sp ∧ l.length = n) : n + 1 ≤ Rows.uptoBulk d := by
  rcases h with rfl | ⟨l, sp, rfl, rfl⟩
  · exact bulk_one d
  · have := bulk_all l
    simp only [Rows.uptoBulk]; omega
theorem bulk_at {H : Type} : ∀ (l : List (DataW H)) (j : Nat) (d : DataW H), l[j]? = some d → Rows.uptoBulk d ≤ Rows.uptoBulkAll l
  | [], j, d, h => by simp at h
  | x :: r, 0, d, h => by
    simp only [List.getElem?_cons_zero, Option.some.injEq] at h; subst h
    simp only [Rows.uptoBulkAll]; omega
  | x :: r, j + 1, d, h => by
    have := bulk_at r j d (by simpa using h)
    simp only [Rows.uptoBulkAll]; omega
theorem bulk_put {H : Type} {n : Nat} {d : DataW H} (h : n = 0 ∨ ∃ parts l sp, d = .agg parts ∧ parts[2]? = some (.slice l sp) ∧ l.length = n) : n + 1 ≤ Rows.uptoBulk d := by
  rcases h with rfl | ⟨parts, l, sp, rfl, hp, rfl⟩
  · exact bulk_one d
  · have h1 := bulk_at parts 2 _ hp
    have h2 := bulk_all l
    simp only [Rows.uptoBulk] at h1 ⊢; omega
theorem bulk_harm {H : Type} {n : Nat} {d : DataW H} (h : n = 0 ∨ ∃ parts l sp, d = .agg parts ∧ parts[3]? = some (.slice l sp) ∧ l.length = n) : n + 1 ≤ Rows.uptoBulk d := by
  rcases h with rfl | ⟨parts, l, sp, rfl, hp, rfl⟩
  · exact bulk_one d
  · have h1 := bulk_at parts 3 _ hp
    have h2 := bulk_all l
    simp only [Rows.uptoBulk] at h1 ⊢; omega
theorem bulk_three {H : Type} (l : List (DataW H)) (a b c : DataW H) (h0 : l[0]? = some a) (h1 : l[1]? = some b) (h2 : l[2]? = some c) : Rows.uptoBulk a + Rows.uptoBulk b + Rows.uptoBulk c ≤ Rows.uptoBulkAll l := by
  match l, h0, h1, h2 with
  | x :: y :: z :: r, h0, h1, h2 =>
    simp only [List.getElem?_cons_zero, List.getElem?_cons_succ, Option.some.injEq] at h0 h1 h2
    subst h0; subst h1; subst h2
    simp only [Rows.uptoBulkAll]; omega
theorem bulk_take {H : Type} : ∀ (l : List (DataW H)) (k : Nat) (d : DataW H), l[k]? = some d → Rows.uptoBulkAll (l.take (k + 1)) = Rows.uptoBulkAll (l.take k) + Rows.uptoBulk d
  | [], k, d, h => by simp at h
  | x :: r, 0, d, h => by
    simp only [List.getElem?_cons_zero, Option.some.injEq] at h; subst h
    simp [Rows.uptoBulkAll]
  | x :: r, k + 1, d, h => by
    have := bulk_take r k d (by simpa using h)
    simp only [List.take_succ_cons, Rows.uptoBulkAll] at this ⊢; omega
theorem bulk_take_le {H : Type} : ∀ (l : List (DataW H)) (k : Nat), Rows.uptoBulkAll (l.take k) ≤ Rows.uptoBulkAll l
  | [], k => by simp
  | x :: r, 0 => by simp [Rows.uptoBulkAll]
  | x :: r, k + 1 => by
    have := bulk_take_le r k
    simp only [List.take_succ_cons, Rows.uptoBulkAll]; omega
theorem bulk_puts {H : Type} {n : Nat} {ys : Nat → Ext} {d : DataW H} (h : n = 0 ∨ ∃ l sp, d = .slice l sp ∧ l.length = n ∧ ∀ k, k < n → ∃ parts p0 p1 p2, l[k]? = some (.agg parts) ∧ parts[0]? = some p0 ∧ parts[1]? = some p1 ∧ parts[2]? = some p2 ∧ ((ys k).n = 0 ∨ ∃ l' sp', p2 = .slice l' sp' ∧ l'.length = (ys k).n)) :
    ∀ k : Nat, k ≤ n → pSum (nLen ys) k + 2 ≤ 2 * (Rows.uptoBulk d : Int) := by
  rcases h with rfl | ⟨l, sp, rfl, rfl, hk⟩
  · intro k h0
    obtain rfl : k = 0 := by omega
    have := bulk_one d
    simp only [pSum]; omega
  · have key : ∀ k : Nat, k ≤ l.length → pSum (nLen ys) k ≤ 2 * (Rows.uptoBulkAll (l.take k) : Int) := by
      intro k
      induction k with
      | zero => intro _; simp [pSum]; omega
      | succ k ih =>
        intro hl
        have ih := ih (by omega)
        obtain ⟨parts, p0, p1, p2, hp, h0, h1, h2, h3⟩ := hk k (by omega)
        have e := bulk_take l k _ hp
        have q := bulk_three parts p0 p1 p2 h0 h1 h2
        have r0 := bulk_one p0
        have r1 := bulk_one p1
        have r2 := bulk_len h3
        have s : Rows.uptoBulk (.agg parts) = Rows.uptoBulkAll parts + 1 := by simp only [Rows.uptoBulk]
        simp only [pSum, nLen]
        rw [e]; omega
    intro k hl
    have h1 := key k hl
    have h2 := bulk_take_le l k
    simp only [Rows.uptoBulk]; omega
theorem own : ownKnob Try.prog.godebug = none := by kernel_rfl
theorem lifted (os : Os) (started : os.Started) (H : Type) (enc : TypeId × Value → H) (F : Stop.Interp) :
    ReturnsInHanded {} Try.checked os 4 .any ((Rows.OpenSpec.upto Rows.saveChangedSpec).pre6 enc Try.prog Try.f4 Rows.saveChangedUptoRow.domain false) (((Rows.OpenSpec.upto Rows.saveChangedSpec).at F).post enc Try.prog Try.f4 false true false false) := by
  refine returnsInHanded_of_cond (C := Try.checked) (s := Rows.OpenSpec.upto Rows.saveChangedSpec) (k := Rows.uptoSmall) rfl own started (by kernel_rfl) Try.func4
    (OpenSpec.witness (enc := enc) (C := Try.checked) (s := Rows.OpenSpec.upto Rows.saveChangedSpec) (k := Rows.uptoSmall) rfl false ⟨#[], #[.slice none 0 0, .agg #[.int .i64 0, .int .u8 0, .int .i64 0, .slice none 0 0]], []⟩ 8 (by kernel_rfl) (by kernel_rfl) (by kernel_rfl)
      (x := ([.nil, .agg [.lit (.int .i64 0), .lit (.int .u8 0), .lit (.int .i64 0), .nil]], [], [])) (by kernel_rfl) rfl (by kernel_rfl)) ?_
  intro W base args ds gs before hval0 hW _ hk _
  have hval : ∀ (j : Nat) t v, Try.f4.params[j]? = some t → args[j]? = some v → Value.okWide Try.prog W .any base t v := hval0
  have hW' := hW
  obtain ⟨p, q, hA0, hV, rfl, hfz, hnd⟩ := hW
  have hA1 : DataW.TrodAll enc Try.prog W 0 (fun _ => true) true Try.f4.params.toList args.toList ds p := hA0
  rw [Try.params4] at hA1 hval
  obtain ⟨v0, vs0, d0, ds0, p0, q0, hargs, rfl, rfl, h0, r0⟩ := trodAll_cons hA1
  obtain ⟨v1, vs1, d1, ds1, p1, q1, rfl, rfl, rfl, h1, r1⟩ := trodAll_cons r0
  obtain ⟨rfl, rfl, rfl⟩ := trodAll_nil r1
  obtain rfl : args = #[v0, v1] := by cases args; simp_all
  obtain ⟨x0, Y0, rfl, g0, u0⟩ := open_puts 8 Try.underlying22 Try.underlying32 (by kernel_rfl) rfl Try.underlying25 (by kernel_rfl) (by kernel_rfl) (by kernel_rfl) (by kernel_rfl) (by kernel_rfl) (hval 0 22 v0 rfl rfl) h0
  obtain ⟨aP1, bP1, cP1, x2, rfl, ra1, rb1, rc1, g2, u2⟩ := open_harm (k0 := .i64) (k1 := .u8) (k2 := .i64) (k3 := some .u8) 8 Try.underlying43 (by kernel_rfl) rfl Try.underlying25 (by kernel_rfl) (by kernel_rfl) (by kernel_rfl) (by kernel_rfl) (by kernel_rfl) (by kernel_rfl) (hval 1 43 v1 rfl rfl) h1
  obtain ⟨rfl, rfl⟩ := trodVars_none hV
  have hk2 : Rows.uptoBulkAll _ ≤ 1048576 := of_decide_eq_true hk
  simp only [List.append_nil, Rows.uptoBulkAll] at hk2
  have g0 : PFit x0 Y0 W := ⟨g0.1, fun k hk => by
    have := bulk_puts u0 k hk
    omega, g0.2⟩
  have m2 : (x2.n : Int) ≤ 1048575 := by
    have := bulk_harm u2
    omega
  refine (calls x0 Y0 aP1 bP1 cP1 ra1 rb1 rc1 x2 W g0 g2 m2).mono fun e W' ⟨he, hb⟩ => ⟨_, he, ?_⟩
  exact law_post (by kernel_rfl) (by kernel_rfl) rfl (by kernel_rfl) Try.underlying4 rfl hW' hb
theorem proved : Rows.SaveChangedUptoSaid :=
  OpenClaim.holds_of_cond 4 Try.f4 rfl rfl rfl rfl rfl rfl rfl ⟨rfl, rfl, rfl, rfl, rfl⟩ rfl rfl rfl rfl rfl (by kernel_rfl) Try.func4 (by kernel_rfl)
    (of_decide_eq_true (by kernel_rfl)) (by unfold Func.isWrapper; first | (rw [if_pos (by decide +kernel)]; kernel_rfl) | (rw [if_neg (by decide +kernel)]; exact ⟨rfl, rfl⟩))
    (fun os started H enc _ F => lifted os started H enc F)
#print axioms proved
end Go.Proofs.Ytflamojcdfmimaa.SaveChanged
