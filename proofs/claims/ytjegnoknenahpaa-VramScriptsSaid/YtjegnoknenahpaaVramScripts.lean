/- The whole of the law VramScripts, which returns true for every input. The ports, in whatever order they are written and read, saving and loading between, do to the memories what the document says, and read what it says. No condition. -/
import Derived.Test.YtjegnoknenahpaaVramScriptsL0
import Derived.Test.YtjegnoknenahpaaVramScriptsL1
import Derived.Test.YtjegnoknenahpaaVramScriptsL2
import Derived.Test.YtjegnoknenahpaaVramScriptsL3
namespace Go.Proofs.Ytjegnoknenahpaa.VramScripts
open Go.Sx Go.ChangeShapes Go.WideShapes Go.ChangeAt Go.RowKit
set_option linter.unusedVariables false
set_option linter.unusedSimpArgs false
set_option maxRecDepth 100000
set_option maxHeartbeats 20000000 in
theorem ecalls (x0 : Ext) (w : World) (g0 : XFit x0 w [some .i64, some .u8, some .u8]) :
    Calls Try.prog 7 #[x0.v] w fun r w' => r = .returned (.bool true) ∧ Below w.heap.size w w' := by
  have hx0 : SV.conc (⟨[(x0.n : Int), 0, 0, 0, 0, 0, 0, 0, 0, 0], [false], [xArr x0 3 0, xArr x0 3 1, xArr x0 3 2, fun _ => 0, fun _ => 0, fun _ => 0], [], Iv (fun i j => match i, j with | 0, 0 => x0 | _, _ => Ext.none)⟩ : Env) Loc.id (.s (.xslc 0 (.lit 0) (.lit 0) (.v 0))) = x0.v := conc_ext g0 rfl rfl
  have hargs : (eLs.map (SV.conc (⟨[(x0.n : Int), 0, 0, 0, 0, 0, 0, 0, 0, 0], [false], [xArr x0 3 0, xArr x0 3 1, xArr x0 3 2, fun _ => 0, fun _ => 0, fun _ => 0], [], Iv (fun i j => match i, j with | 0, 0 => x0 | _, _ => Ext.none)⟩ : Env) Loc.id)).toArray = #[x0.v] := by
    refine congrArg List.toArray ?_
    exact (cons_eq hx0 rfl)
  rw [← hargs]
  have hok : Hyp.ok eHy (⟨[(x0.n : Int), 0, 0, 0, 0, 0, 0, 0, 0, 0], [false], [xArr x0 3 0, xArr x0 3 1, xArr x0 3 2, fun _ => 0, fun _ => 0, fun _ => 0], [], Iv (fun i j => match i, j with | 0, 0 => x0 | _, _ => Ext.none)⟩ : Env) := by
    refine ⟨?_, ?_, ?_, (fun p hp is bs xs => by simp only [eHy, List.mem_cons, List.not_mem_nil, or_false] at hp; subst hp; exact sumF_rng _ _), ?_, by simp [eHy]⟩
    · intro p hp
      simp only [eHy, List.mem_cons, List.not_mem_nil, or_false] at hp
      rcases hp with rfl
      · exact (xi_okN (n := .v 0) [.i64, .u8, .u8] [0, 1, 2] g0 (by decide) rfl rfl rfl (fun f a h => by rcases f with _ | _ | _ | f <;> simp only [List.getElem?_cons_zero, List.getElem?_cons_succ, List.getElem?_nil, Option.some.injEq, reduceCtorEq] at h <;> subst h <;> first | exact rfl | exact rfl | exact rfl))
    · intro p hp
      simp only [eHy, List.mem_cons, List.not_mem_nil, or_false] at hp
      rcases hp with rfl
      · exact xlen_rng g0
    · intro p hp
      simp only [eHy, List.mem_cons, List.not_mem_nil, or_false] at hp
      rcases hp with rfl | rfl | rfl
      · exact xArr_rngN [.i64, .u8, .u8] g0 0 rfl
      · exact xArr_rngN [.i64, .u8, .u8] g0 1 rfl
      · exact xArr_rngN [.i64, .u8, .u8] g0 2 rfl
    · intro p hp is bs xs j
      simp only [eHy, List.mem_cons, List.not_mem_nil, or_false] at hp
      subst hp
      exact rowB_rng _ j
  refine law_loops3 (u := 0) (u0 := 0) (D := eD) (hs := ehs) (ρ := (⟨[(x0.n : Int), 0, 0, 0, 0, 0, 0, 0, 0, 0], [false], [xArr x0 3 0, xArr x0 3 1, xArr x0 3 2, fun _ => 0, fun _ => 0, fun _ => 0], [], Iv (fun i j => match i, j with | 0, 0 => x0 | _, _ => Ext.none)⟩ : Env)) (G_ok _) (by kernel_rfl) rfl (eInv x0 ) emu est rfl ⟨rfl, rfl, rfl⟩ hok (evcS x0 ((x0.n : Int)) (xArr x0 3 0) (xArr x0 3 1) (xArr x0 3 2) ⟨xlen_rng g0, xArr_rngN [.i64, .u8, .u8] g0 0 rfl, xArr_rngN [.i64, .u8, .u8] g0 1 rfl, xArr_rngN [.i64, .u8, .u8] g0 2 rfl, rfl, rfl, rfl, rfl, trivial⟩) ?_ w (fun i j => by rcases i with _ | i <;> rcases j with _ | j <;> first | exact Ext.none_ok _ | exact g0.ok)
  intro j h ρ hj hI hz hInv
  rcases j with _ | j
  · simp only [ehs, List.getElem?_cons_zero, List.getElem?_cons_succ, Option.some.injEq] at hj; subst hj
    obtain ⟨nx0, y1, y2, y3, y4, y5, y6, y7, y8, y9, z0, Ax0_0, Ax0_1, Ax0_2, Z3, Z4, Z5, rfl, hB, hJ⟩ := hInv
    have hok2 : Hyp.ok eh0.H (eV x0 nx0 y1 y2 y3 y4 y5 y6 y7 y8 y9 z0 Ax0_0 Ax0_1 Ax0_2 Z3 Z4 Z5) := by
      have hB2 := hB; have hJ2 := hJ
      simp only [eBase] at hB2; simp only [eJ0] at hJ2
      obtain ⟨hb0, hb1, hb2, hb3, hn0, ha0_0, ha0_1, ha0_2, _⟩ := hB2
      obtain ⟨hl0, hl1, hl2, hl3, hl4, hl5, hl6, hl7, hl8, hl9, hl10, hl11, hx, _⟩ := hJ2
      refine ⟨?_, ?_, ?_, (fun p hp is bs xs => by simp only [eh0, List.mem_cons, List.not_mem_nil, or_false] at hp; subst hp; exact sumF_rng _ _), ?_, by simp [eh0]⟩
      · intro p hp
        simp only [eh0, List.mem_cons, List.not_mem_nil, or_false] at hp
        rcases hp with rfl
        · exact (xi_okN (n := .v 0) [.i64, .u8, .u8] [0, 1, 2] g0 (by decide) rfl rfl hn0 (fun f a h => by rcases f with _ | _ | _ | f <;> simp only [List.getElem?_cons_zero, List.getElem?_cons_succ, List.getElem?_nil, Option.some.injEq, reduceCtorEq] at h <;> subst h <;> first | exact ha0_0 | exact ha0_1 | exact ha0_2))
      · intro p hp
        simp only [eh0, List.mem_cons, List.not_mem_nil, or_false] at hp
        rcases hp with rfl | rfl | rfl | rfl | rfl | rfl | rfl | rfl | rfl | rfl
        · exact hb0
        · exact hl0
        · exact hl1
        · exact hl2
        · exact hl3
        · exact hl4
        · exact hl5
        · exact hl6
        · exact hl7
        · exact hl8
      · intro p hp
        simp only [eh0, List.mem_cons, List.not_mem_nil, or_false] at hp
        rcases hp with rfl | rfl | rfl | rfl | rfl | rfl
        · exact hb1
        · exact hb2
        · exact hb3
        · exact hl9
        · exact hl10
        · exact hl11
      · intro p hp is bs xs j
        simp only [eh0, List.mem_cons, List.not_mem_nil, or_false] at hp
        subst hp
        exact rowB_rng _ j
    have hB3 := hB
    have hJ3 := hJ
    simp only [eBase] at hB3
    simp only [eJ0] at hJ3
    obtain ⟨b0, c0, c1, c2, en, ea0, ea1, ea2, _⟩ := hB3
    obtain ⟨l1, l2, l3, l4, l5, l6, l7, l8, l9, m3, m4, m5, hk, _⟩ := hJ3
    have cw := c0 y1.toNat
    have cp := c1 y1.toNat
    rcases Decidable.em (y1 < nx0) with g | g
    · have hk2 : 0 ≤ y1 ∧ y1 ≤ 9223372036854775806 := by omega
      rcases (show (Ax0_0 y1.toNat) ≤ -1 ∨ 0 ≤ (Ax0_0 y1.toNat) by omega) with qhw | qhw
      · have hw : -9223372036854775808 ≤ (Ax0_0 y1.toNat) ∧ (Ax0_0 y1.toNat) ≤ -1 := by omega
        exact (fun h => ⟨_, h, LT.of_bare esg0_n (evc0_n hB hJ h hk2 hw g)⟩) (Hyp.more hok2 _ _ (m1 hk2 (m1 hw m0)) (m1 (decide_eq_true g) m0) : Hyp.ok eH0_n _)
      · rcases (show (Ax0_0 y1.toNat) ≤ 0 ∨ 1 ≤ (Ax0_0 y1.toNat) by omega) with qhw | qhw
        · have hw : 0 ≤ (Ax0_0 y1.toNat) ∧ (Ax0_0 y1.toNat) ≤ 0 := by omega
          rcases (show (Ax0_1 y1.toNat) ≤ 1 ∨ 2 ≤ (Ax0_1 y1.toNat) by omega) with qhp | qhp
          · have hp : 0 ≤ (Ax0_1 y1.toNat) ∧ (Ax0_1 y1.toNat) ≤ 1 := by omega
            exact (fun h => ⟨_, h, LT.of_bare esg0_wo0 (evc0_wo0 hB hJ h hk2 hw hp g)⟩) (Hyp.more hok2 _ _ (m1 hk2 (m1 hw (m1 hp m0))) (m1 (decide_eq_true g) m0) : Hyp.ok eH0_wo0 _)
          · rcases (show (Ax0_1 y1.toNat) ≤ 2 ∨ 3 ≤ (Ax0_1 y1.toNat) by omega) with qhp | qhp
            · have hp : 2 ≤ (Ax0_1 y1.toNat) ∧ (Ax0_1 y1.toNat) ≤ 2 := by omega
              exact (fun h => ⟨_, h, LT.of_bare esg0_w2 (evc0_w2 hB hJ h hk2 hw hp g)⟩) (Hyp.more hok2 _ _ (m1 hk2 (m1 hw (m1 hp m0))) (m1 (decide_eq_true g) m0) : Hyp.ok eH0_w2 _)
            · rcases (show (Ax0_1 y1.toNat) ≤ 3 ∨ 4 ≤ (Ax0_1 y1.toNat) by omega) with qhp | qhp
              · have hp : 3 ≤ (Ax0_1 y1.toNat) ∧ (Ax0_1 y1.toNat) ≤ 3 := by omega
                exact (fun h => ⟨_, h, LT.of_bare esg0_w3 (evc0_w3 hB hJ h hk2 hw hp g)⟩) (Hyp.more hok2 _ _ (m1 hk2 (m1 hw (m1 hp m0))) (m1 (decide_eq_true g) m0) : Hyp.ok eH0_w3 _)
              · rcases (show (Ax0_1 y1.toNat) ≤ 4 ∨ 5 ≤ (Ax0_1 y1.toNat) by omega) with qhp | qhp
                · have hp : 4 ≤ (Ax0_1 y1.toNat) ∧ (Ax0_1 y1.toNat) ≤ 4 := by omega
                  rcases (show y4 ≤ 511 ∨ 512 ≤ y4 by omega) with qhx | qhx
                  · have hx : 0 ≤ y4 ∧ y4 ≤ 511 := by omega
                    rcases (show (y4 % 2) ≤ 0 ∨ 1 ≤ (y4 % 2) by omega) with qhz | qhz
                    · have hz : 0 ≤ (y4 % 2) ∧ (y4 % 2) ≤ 0 := by omega
                      have hx : 0 ≤ y4 ∧ y4 ≤ 511 := by omega
                      exact (fun h => ⟨_, h, LT.of_bare esg0_w4_2 (evc0_w4_2 hB hJ h hk2 hw hp hx hz g)⟩) (Hyp.more hok2 _ _ (m1 hk2 (m1 hw (m1 hp (m1 hx (m1 hz m0))))) (m1 (decide_eq_true g) m0) : Hyp.ok eH0_w4_2 _)
                    · have hz : 1 ≤ (y4 % 2) ∧ (y4 % 2) ≤ 1 := by omega
                      have hx : 1 ≤ y4 ∧ y4 ≤ 511 := by omega
                      exact (fun h => ⟨_, h, LT.of_bare esg0_w4_1 (evc0_w4_1 hB hJ h hk2 hw hp hx hz g)⟩) (Hyp.more hok2 _ _ (m1 hk2 (m1 hw (m1 hp (m1 hx (m1 hz m0))))) (m1 (decide_eq_true g) m0) : Hyp.ok eH0_w4_1 _)
                  · have hx : 512 ≤ y4 ∧ y4 ≤ 1023 := by omega
                    exact (fun h => ⟨_, h, LT.of_bare esg0_w4_0 (evc0_w4_0 hB hJ h hk2 hw hp hx g)⟩) (Hyp.more hok2 _ _ (m1 hk2 (m1 hw (m1 hp (m1 hx m0)))) (m1 (decide_eq_true g) m0) : Hyp.ok eH0_w4_0 _)
                · rcases (show (Ax0_1 y1.toNat) ≤ 20 ∨ 21 ≤ (Ax0_1 y1.toNat) by omega) with qhp | qhp
                  · have hp : 5 ≤ (Ax0_1 y1.toNat) ∧ (Ax0_1 y1.toNat) ≤ 20 := by omega
                    exact (fun h => ⟨_, h, LT.of_bare esg0_wo1 (evc0_wo1 hB hJ h hk2 hw hp g)⟩) (Hyp.more hok2 _ _ (m1 hk2 (m1 hw (m1 hp m0))) (m1 (decide_eq_true g) m0) : Hyp.ok eH0_wo1 _)
                  · rcases (show (Ax0_1 y1.toNat) ≤ 21 ∨ 22 ≤ (Ax0_1 y1.toNat) by omega) with qhp | qhp
                    · have hp : 21 ≤ (Ax0_1 y1.toNat) ∧ (Ax0_1 y1.toNat) ≤ 21 := by omega
                      exact (fun h => ⟨_, h, LT.of_bare esg0_w21 (evc0_w21 hB hJ h hk2 hw hp g)⟩) (Hyp.more hok2 _ _ (m1 hk2 (m1 hw (m1 hp m0))) (m1 (decide_eq_true g) m0) : Hyp.ok eH0_w21 _)
                    · rcases (show (Ax0_1 y1.toNat) ≤ 22 ∨ 23 ≤ (Ax0_1 y1.toNat) by omega) with qhp | qhp
                      · have hp : 22 ≤ (Ax0_1 y1.toNat) ∧ (Ax0_1 y1.toNat) ≤ 22 := by omega
                        rcases (show (y6 / 4 % 4) ≤ 0 ∨ 1 ≤ (y6 / 4 % 4) by omega) with qhq | qhq
                        · have hq : 0 ≤ (y6 / 4 % 4) ∧ (y6 / 4 % 4) ≤ 0 := by omega
                          exact (fun h => ⟨_, h, LT.of_bare esg0_w22_0 (evc0_w22_0 hB hJ h hk2 hw hp hq g)⟩) (Hyp.more hok2 _ _ (m1 hk2 (m1 hw (m1 hp (m1 hq m0)))) (m1 (decide_eq_true g) m0) : Hyp.ok eH0_w22_0 _)
                        · rcases (show (y6 / 4 % 4) ≤ 1 ∨ 2 ≤ (y6 / 4 % 4) by omega) with qhq | qhq
                          · have hq : 1 ≤ (y6 / 4 % 4) ∧ (y6 / 4 % 4) ≤ 1 := by omega
                            exact (fun h => ⟨_, h, LT.of_bare esg0_w22_1 (evc0_w22_1 hB hJ h hk2 hw hp hq g)⟩) (Hyp.more hok2 _ _ (m1 hk2 (m1 hw (m1 hp (m1 hq m0)))) (m1 (decide_eq_true g) m0) : Hyp.ok eH0_w22_1 _)
                          · rcases (show (y6 / 4 % 4) ≤ 2 ∨ 3 ≤ (y6 / 4 % 4) by omega) with qhq | qhq
                            · have hq : 2 ≤ (y6 / 4 % 4) ∧ (y6 / 4 % 4) ≤ 2 := by omega
                              exact (fun h => ⟨_, h, LT.of_bare esg0_w22_2 (evc0_w22_2 hB hJ h hk2 hw hp hq g)⟩) (Hyp.more hok2 _ _ (m1 hk2 (m1 hw (m1 hp (m1 hq m0)))) (m1 (decide_eq_true g) m0) : Hyp.ok eH0_w22_2 _)
                            · have hq : 3 ≤ (y6 / 4 % 4) ∧ (y6 / 4 % 4) ≤ 3 := by omega
                              exact (fun h => ⟨_, h, LT.of_bare esg0_w22_3 (evc0_w22_3 hB hJ h hk2 hw hp hq g)⟩) (Hyp.more hok2 _ _ (m1 hk2 (m1 hw (m1 hp (m1 hq m0)))) (m1 (decide_eq_true g) m0) : Hyp.ok eH0_w22_3 _)
                      · rcases (show (Ax0_1 y1.toNat) ≤ 23 ∨ 24 ≤ (Ax0_1 y1.toNat) by omega) with qhp | qhp
                        · have hp : 23 ≤ (Ax0_1 y1.toNat) ∧ (Ax0_1 y1.toNat) ≤ 23 := by omega
                          rcases (show (y6 / 4 % 4) ≤ 0 ∨ 1 ≤ (y6 / 4 % 4) by omega) with qhq | qhq
                          · have hq : 0 ≤ (y6 / 4 % 4) ∧ (y6 / 4 % 4) ≤ 0 := by omega
                            exact (fun h => ⟨_, h, LT.of_bare esg0_w23_0 (evc0_w23_0 hB hJ h hk2 hw hp hq g)⟩) (Hyp.more hok2 _ _ (m1 hk2 (m1 hw (m1 hp (m1 hq m0)))) (m1 (decide_eq_true g) m0) : Hyp.ok eH0_w23_0 _)
                          · rcases (show (y6 / 4 % 4) ≤ 1 ∨ 2 ≤ (y6 / 4 % 4) by omega) with qhq | qhq
                            · have hq : 1 ≤ (y6 / 4 % 4) ∧ (y6 / 4 % 4) ≤ 1 := by omega
                              exact (fun h => ⟨_, h, LT.of_bare esg0_w23_1 (evc0_w23_1 hB hJ h hk2 hw hp hq g)⟩) (Hyp.more hok2 _ _ (m1 hk2 (m1 hw (m1 hp (m1 hq m0)))) (m1 (decide_eq_true g) m0) : Hyp.ok eH0_w23_1 _)
                            · rcases (show (y6 / 4 % 4) ≤ 2 ∨ 3 ≤ (y6 / 4 % 4) by omega) with qhq | qhq
                              · have hq : 2 ≤ (y6 / 4 % 4) ∧ (y6 / 4 % 4) ≤ 2 := by omega
                                exact (fun h => ⟨_, h, LT.of_bare esg0_w23_2 (evc0_w23_2 hB hJ h hk2 hw hp hq g)⟩) (Hyp.more hok2 _ _ (m1 hk2 (m1 hw (m1 hp (m1 hq m0)))) (m1 (decide_eq_true g) m0) : Hyp.ok eH0_w23_2 _)
                              · have hq : 3 ≤ (y6 / 4 % 4) ∧ (y6 / 4 % 4) ≤ 3 := by omega
                                exact (fun h => ⟨_, h, LT.of_bare esg0_w23_3 (evc0_w23_3 hB hJ h hk2 hw hp hq g)⟩) (Hyp.more hok2 _ _ (m1 hk2 (m1 hw (m1 hp (m1 hq m0)))) (m1 (decide_eq_true g) m0) : Hyp.ok eH0_w23_3 _)
                        · rcases (show (Ax0_1 y1.toNat) ≤ 24 ∨ 25 ≤ (Ax0_1 y1.toNat) by omega) with qhp | qhp
                          · have hp : 24 ≤ (Ax0_1 y1.toNat) ∧ (Ax0_1 y1.toNat) ≤ 24 := by omega
                            rcases (show y6 ≤ 127 ∨ 128 ≤ y6 by omega) with qhh | qhh
                            · have hh : 0 ≤ y6 ∧ y6 ≤ 127 := by omega
                              rcases (show (y6 / 4 % 4) ≤ 0 ∨ 1 ≤ (y6 / 4 % 4) by omega) with qhq | qhq
                              · have hq : 0 ≤ (y6 / 4 % 4) ∧ (y6 / 4 % 4) ≤ 0 := by omega
                                exact (fun h => ⟨_, h, LT.of_bare esg0_w24_0_y (evc0_w24_0_y hB hJ h hk2 hw hp hq hh g)⟩) (Hyp.more hok2 _ _ (m1 hk2 (m1 hw (m1 hp (m1 hq (m1 hh m0))))) (m1 (decide_eq_true g) m0) : Hyp.ok eH0_w24_0_y _)
                              · rcases (show (y6 / 4 % 4) ≤ 1 ∨ 2 ≤ (y6 / 4 % 4) by omega) with qhq | qhq
                                · have hq : 1 ≤ (y6 / 4 % 4) ∧ (y6 / 4 % 4) ≤ 1 := by omega
                                  exact (fun h => ⟨_, h, LT.of_bare esg0_w24_1_y (evc0_w24_1_y hB hJ h hk2 hw hp hq hh g)⟩) (Hyp.more hok2 _ _ (m1 hk2 (m1 hw (m1 hp (m1 hq (m1 hh m0))))) (m1 (decide_eq_true g) m0) : Hyp.ok eH0_w24_1_y _)
                                · rcases (show (y6 / 4 % 4) ≤ 2 ∨ 3 ≤ (y6 / 4 % 4) by omega) with qhq | qhq
                                  · have hq : 2 ≤ (y6 / 4 % 4) ∧ (y6 / 4 % 4) ≤ 2 := by omega
                                    exact (fun h => ⟨_, h, LT.of_bare esg0_w24_2_y (evc0_w24_2_y hB hJ h hk2 hw hp hq hh g)⟩) (Hyp.more hok2 _ _ (m1 hk2 (m1 hw (m1 hp (m1 hq (m1 hh m0))))) (m1 (decide_eq_true g) m0) : Hyp.ok eH0_w24_2_y _)
                                  · have hq : 3 ≤ (y6 / 4 % 4) ∧ (y6 / 4 % 4) ≤ 3 := by omega
                                    exact (fun h => ⟨_, h, LT.of_bare esg0_w24_3_y (evc0_w24_3_y hB hJ h hk2 hw hp hq hh g)⟩) (Hyp.more hok2 _ _ (m1 hk2 (m1 hw (m1 hp (m1 hq (m1 hh m0))))) (m1 (decide_eq_true g) m0) : Hyp.ok eH0_w24_3_y _)
                            · have hh : 128 ≤ y6 ∧ y6 ≤ 255 := by omega
                              rcases (show (y6 / 4 % 4) ≤ 0 ∨ 1 ≤ (y6 / 4 % 4) by omega) with qhq | qhq
                              · have hq : 0 ≤ (y6 / 4 % 4) ∧ (y6 / 4 % 4) ≤ 0 := by omega
                                exact (fun h => ⟨_, h, LT.of_bare esg0_w24_0_n (evc0_w24_0_n hB hJ h hk2 hw hp hq hh g)⟩) (Hyp.more hok2 _ _ (m1 hk2 (m1 hw (m1 hp (m1 hq (m1 hh m0))))) (m1 (decide_eq_true g) m0) : Hyp.ok eH0_w24_0_n _)
                              · rcases (show (y6 / 4 % 4) ≤ 1 ∨ 2 ≤ (y6 / 4 % 4) by omega) with qhq | qhq
                                · have hq : 1 ≤ (y6 / 4 % 4) ∧ (y6 / 4 % 4) ≤ 1 := by omega
                                  exact (fun h => ⟨_, h, LT.of_bare esg0_w24_1_n (evc0_w24_1_n hB hJ h hk2 hw hp hq hh g)⟩) (Hyp.more hok2 _ _ (m1 hk2 (m1 hw (m1 hp (m1 hq (m1 hh m0))))) (m1 (decide_eq_true g) m0) : Hyp.ok eH0_w24_1_n _)
                                · rcases (show (y6 / 4 % 4) ≤ 2 ∨ 3 ≤ (y6 / 4 % 4) by omega) with qhq | qhq
                                  · have hq : 2 ≤ (y6 / 4 % 4) ∧ (y6 / 4 % 4) ≤ 2 := by omega
                                    exact (fun h => ⟨_, h, LT.of_bare esg0_w24_2_n (evc0_w24_2_n hB hJ h hk2 hw hp hq hh g)⟩) (Hyp.more hok2 _ _ (m1 hk2 (m1 hw (m1 hp (m1 hq (m1 hh m0))))) (m1 (decide_eq_true g) m0) : Hyp.ok eH0_w24_2_n _)
                                  · have hq : 3 ≤ (y6 / 4 % 4) ∧ (y6 / 4 % 4) ≤ 3 := by omega
                                    exact (fun h => ⟨_, h, LT.of_bare esg0_w24_3_n (evc0_w24_3_n hB hJ h hk2 hw hp hq hh g)⟩) (Hyp.more hok2 _ _ (m1 hk2 (m1 hw (m1 hp (m1 hq (m1 hh m0))))) (m1 (decide_eq_true g) m0) : Hyp.ok eH0_w24_3_n _)
                          · rcases (show (Ax0_1 y1.toNat) ≤ 25 ∨ 26 ≤ (Ax0_1 y1.toNat) by omega) with qhp | qhp
                            · have hp : 25 ≤ (Ax0_1 y1.toNat) ∧ (Ax0_1 y1.toNat) ≤ 25 := by omega
                              rcases (show y6 ≤ 127 ∨ 128 ≤ y6 by omega) with qhh | qhh
                              · have hh : 0 ≤ y6 ∧ y6 ≤ 127 := by omega
                                rcases (show (y6 / 4 % 4) ≤ 0 ∨ 1 ≤ (y6 / 4 % 4) by omega) with qhq | qhq
                                · have hq : 0 ≤ (y6 / 4 % 4) ∧ (y6 / 4 % 4) ≤ 0 := by omega
                                  exact (fun h => ⟨_, h, LT.of_bare esg0_w25_0_n (evc0_w25_0_n hB hJ h hk2 hw hp hq hh g)⟩) (Hyp.more hok2 _ _ (m1 hk2 (m1 hw (m1 hp (m1 hq (m1 hh m0))))) (m1 (decide_eq_true g) m0) : Hyp.ok eH0_w25_0_n _)
                                · rcases (show (y6 / 4 % 4) ≤ 1 ∨ 2 ≤ (y6 / 4 % 4) by omega) with qhq | qhq
                                  · have hq : 1 ≤ (y6 / 4 % 4) ∧ (y6 / 4 % 4) ≤ 1 := by omega
                                    exact (fun h => ⟨_, h, LT.of_bare esg0_w25_1_n (evc0_w25_1_n hB hJ h hk2 hw hp hq hh g)⟩) (Hyp.more hok2 _ _ (m1 hk2 (m1 hw (m1 hp (m1 hq (m1 hh m0))))) (m1 (decide_eq_true g) m0) : Hyp.ok eH0_w25_1_n _)
                                  · rcases (show (y6 / 4 % 4) ≤ 2 ∨ 3 ≤ (y6 / 4 % 4) by omega) with qhq | qhq
                                    · have hq : 2 ≤ (y6 / 4 % 4) ∧ (y6 / 4 % 4) ≤ 2 := by omega
                                      exact (fun h => ⟨_, h, LT.of_bare esg0_w25_2_n (evc0_w25_2_n hB hJ h hk2 hw hp hq hh g)⟩) (Hyp.more hok2 _ _ (m1 hk2 (m1 hw (m1 hp (m1 hq (m1 hh m0))))) (m1 (decide_eq_true g) m0) : Hyp.ok eH0_w25_2_n _)
                                    · have hq : 3 ≤ (y6 / 4 % 4) ∧ (y6 / 4 % 4) ≤ 3 := by omega
                                      exact (fun h => ⟨_, h, LT.of_bare esg0_w25_3_n (evc0_w25_3_n hB hJ h hk2 hw hp hq hh g)⟩) (Hyp.more hok2 _ _ (m1 hk2 (m1 hw (m1 hp (m1 hq (m1 hh m0))))) (m1 (decide_eq_true g) m0) : Hyp.ok eH0_w25_3_n _)
                              · have hh : 128 ≤ y6 ∧ y6 ≤ 255 := by omega
                                rcases (show (y6 / 4 % 4) ≤ 0 ∨ 1 ≤ (y6 / 4 % 4) by omega) with qhq | qhq
                                · have hq : 0 ≤ (y6 / 4 % 4) ∧ (y6 / 4 % 4) ≤ 0 := by omega
                                  exact (fun h => ⟨_, h, LT.of_bare esg0_w25_0_y (evc0_w25_0_y hB hJ h hk2 hw hp hq hh g)⟩) (Hyp.more hok2 _ _ (m1 hk2 (m1 hw (m1 hp (m1 hq (m1 hh m0))))) (m1 (decide_eq_true g) m0) : Hyp.ok eH0_w25_0_y _)
                                · rcases (show (y6 / 4 % 4) ≤ 1 ∨ 2 ≤ (y6 / 4 % 4) by omega) with qhq | qhq
                                  · have hq : 1 ≤ (y6 / 4 % 4) ∧ (y6 / 4 % 4) ≤ 1 := by omega
                                    exact (fun h => ⟨_, h, LT.of_bare esg0_w25_1_y (evc0_w25_1_y hB hJ h hk2 hw hp hq hh g)⟩) (Hyp.more hok2 _ _ (m1 hk2 (m1 hw (m1 hp (m1 hq (m1 hh m0))))) (m1 (decide_eq_true g) m0) : Hyp.ok eH0_w25_1_y _)
                                  · rcases (show (y6 / 4 % 4) ≤ 2 ∨ 3 ≤ (y6 / 4 % 4) by omega) with qhq | qhq
                                    · have hq : 2 ≤ (y6 / 4 % 4) ∧ (y6 / 4 % 4) ≤ 2 := by omega
                                      exact (fun h => ⟨_, h, LT.of_bare esg0_w25_2_y (evc0_w25_2_y hB hJ h hk2 hw hp hq hh g)⟩) (Hyp.more hok2 _ _ (m1 hk2 (m1 hw (m1 hp (m1 hq (m1 hh m0))))) (m1 (decide_eq_true g) m0) : Hyp.ok eH0_w25_2_y _)
                                    · have hq : 3 ≤ (y6 / 4 % 4) ∧ (y6 / 4 % 4) ≤ 3 := by omega
                                      exact (fun h => ⟨_, h, LT.of_bare esg0_w25_3_y (evc0_w25_3_y hB hJ h hk2 hw hp hq hh g)⟩) (Hyp.more hok2 _ _ (m1 hk2 (m1 hw (m1 hp (m1 hq (m1 hh m0))))) (m1 (decide_eq_true g) m0) : Hyp.ok eH0_w25_3_y _)
                            · rcases (show (Ax0_1 y1.toNat) ≤ 32 ∨ 33 ≤ (Ax0_1 y1.toNat) by omega) with qhp | qhp
                              · have hp : 26 ≤ (Ax0_1 y1.toNat) ∧ (Ax0_1 y1.toNat) ≤ 32 := by omega
                                exact (fun h => ⟨_, h, LT.of_bare esg0_wo2 (evc0_wo2 hB hJ h hk2 hw hp g)⟩) (Hyp.more hok2 _ _ (m1 hk2 (m1 hw (m1 hp m0))) (m1 (decide_eq_true g) m0) : Hyp.ok eH0_wo2 _)
                              · rcases (show (Ax0_1 y1.toNat) ≤ 33 ∨ 34 ≤ (Ax0_1 y1.toNat) by omega) with qhp | qhp
                                · have hp : 33 ≤ (Ax0_1 y1.toNat) ∧ (Ax0_1 y1.toNat) ≤ 33 := by omega
                                  exact (fun h => ⟨_, h, LT.of_bare esg0_w33 (evc0_w33 hB hJ h hk2 hw hp g)⟩) (Hyp.more hok2 _ _ (m1 hk2 (m1 hw (m1 hp m0))) (m1 (decide_eq_true g) m0) : Hyp.ok eH0_w33 _)
                                · rcases (show (Ax0_1 y1.toNat) ≤ 34 ∨ 35 ≤ (Ax0_1 y1.toNat) by omega) with qhp | qhp
                                  · have hp : 34 ≤ (Ax0_1 y1.toNat) ∧ (Ax0_1 y1.toNat) ≤ 34 := by omega
                                    rcases (show (y5 % 2) ≤ 0 ∨ 1 ≤ (y5 % 2) by omega) with qhx | qhx
                                    · have hx : 0 ≤ (y5 % 2) ∧ (y5 % 2) ≤ 0 := by omega
                                      exact (fun h => ⟨_, h, LT.of_bare esg0_w34_5 (evc0_w34_5 hB hJ h hk2 hw hp hx g)⟩) (Hyp.more hok2 _ _ (m1 hk2 (m1 hw (m1 hp (m1 hx m0)))) (m1 (decide_eq_true g) m0) : Hyp.ok eH0_w34_5 _)
                                    · have hx : 1 ≤ (y5 % 2) ∧ (y5 % 2) ≤ 1 := by omega
                                      exact (fun h => ⟨_, h, LT.of_bare esg0_w34_4 (evc0_w34_4 hB hJ h hk2 hw hp hx g)⟩) (Hyp.more hok2 _ _ (m1 hk2 (m1 hw (m1 hp (m1 hx m0)))) (m1 (decide_eq_true g) m0) : Hyp.ok eH0_w34_4 _)
                                  · have hp : 35 ≤ (Ax0_1 y1.toNat) ∧ (Ax0_1 y1.toNat) ≤ 255 := by omega
                                    exact (fun h => ⟨_, h, LT.of_bare esg0_wo3 (evc0_wo3 hB hJ h hk2 hw hp g)⟩) (Hyp.more hok2 _ _ (m1 hk2 (m1 hw (m1 hp m0))) (m1 (decide_eq_true g) m0) : Hyp.ok eH0_wo3 _)
        · rcases (show (Ax0_0 y1.toNat) ≤ 1 ∨ 2 ≤ (Ax0_0 y1.toNat) by omega) with qhw | qhw
          · have hw : 1 ≤ (Ax0_0 y1.toNat) ∧ (Ax0_0 y1.toNat) ≤ 1 := by omega
            rcases (show (Ax0_1 y1.toNat) ≤ 55 ∨ 56 ≤ (Ax0_1 y1.toNat) by omega) with qhp | qhp
            · have hp : 0 ≤ (Ax0_1 y1.toNat) ∧ (Ax0_1 y1.toNat) ≤ 55 := by omega
              exact (fun h => ⟨_, h, LT.of_bare esg0_ro0 (evc0_ro0 hB hJ h hk2 hw hp g)⟩) (Hyp.more hok2 _ _ (m1 hk2 (m1 hw (m1 hp m0))) (m1 (decide_eq_true g) m0) : Hyp.ok eH0_ro0 _)
            · rcases (show (Ax0_1 y1.toNat) ≤ 56 ∨ 57 ≤ (Ax0_1 y1.toNat) by omega) with qhp | qhp
              · have hp : 56 ≤ (Ax0_1 y1.toNat) ∧ (Ax0_1 y1.toNat) ≤ 56 := by omega
                rcases (show y4 ≤ 511 ∨ 512 ≤ y4 by omega) with qhx | qhx
                · have hx : 0 ≤ y4 ∧ y4 ≤ 511 := by omega
                  exact (fun h => ⟨_, h, LT.of_bare esg0_r56_3 (evc0_r56_3 hB hJ h hk2 hw hp hx g)⟩) (Hyp.more hok2 _ _ (m1 hk2 (m1 hw (m1 hp (m1 hx m0)))) (m1 (decide_eq_true g) m0) : Hyp.ok eH0_r56_3 _)
                · have hx : 512 ≤ y4 ∧ y4 ≤ 1023 := by omega
                  exact (fun h => ⟨_, h, LT.of_bare esg0_r56_0 (evc0_r56_0 hB hJ h hk2 hw hp hx g)⟩) (Hyp.more hok2 _ _ (m1 hk2 (m1 hw (m1 hp (m1 hx m0)))) (m1 (decide_eq_true g) m0) : Hyp.ok eH0_r56_0 _)
              · rcases (show (Ax0_1 y1.toNat) ≤ 57 ∨ 58 ≤ (Ax0_1 y1.toNat) by omega) with qhp | qhp
                · have hp : 57 ≤ (Ax0_1 y1.toNat) ∧ (Ax0_1 y1.toNat) ≤ 57 := by omega
                  rcases (show y6 ≤ 127 ∨ 128 ≤ y6 by omega) with qhh | qhh
                  · have hh : 0 ≤ y6 ∧ y6 ≤ 127 := by omega
                    rcases (show (y6 / 4 % 4) ≤ 0 ∨ 1 ≤ (y6 / 4 % 4) by omega) with qhq | qhq
                    · have hq : 0 ≤ (y6 / 4 % 4) ∧ (y6 / 4 % 4) ≤ 0 := by omega
                      exact (fun h => ⟨_, h, LT.of_bare esg0_r57_0_y (evc0_r57_0_y hB hJ h hk2 hw hp hq hh g)⟩) (Hyp.more hok2 _ _ (m1 hk2 (m1 hw (m1 hp (m1 hq (m1 hh m0))))) (m1 (decide_eq_true g) m0) : Hyp.ok eH0_r57_0_y _)
                    · rcases (show (y6 / 4 % 4) ≤ 1 ∨ 2 ≤ (y6 / 4 % 4) by omega) with qhq | qhq
                      · have hq : 1 ≤ (y6 / 4 % 4) ∧ (y6 / 4 % 4) ≤ 1 := by omega
                        exact (fun h => ⟨_, h, LT.of_bare esg0_r57_1_y (evc0_r57_1_y hB hJ h hk2 hw hp hq hh g)⟩) (Hyp.more hok2 _ _ (m1 hk2 (m1 hw (m1 hp (m1 hq (m1 hh m0))))) (m1 (decide_eq_true g) m0) : Hyp.ok eH0_r57_1_y _)
                      · rcases (show (y6 / 4 % 4) ≤ 2 ∨ 3 ≤ (y6 / 4 % 4) by omega) with qhq | qhq
                        · have hq : 2 ≤ (y6 / 4 % 4) ∧ (y6 / 4 % 4) ≤ 2 := by omega
                          exact (fun h => ⟨_, h, LT.of_bare esg0_r57_2_y (evc0_r57_2_y hB hJ h hk2 hw hp hq hh g)⟩) (Hyp.more hok2 _ _ (m1 hk2 (m1 hw (m1 hp (m1 hq (m1 hh m0))))) (m1 (decide_eq_true g) m0) : Hyp.ok eH0_r57_2_y _)
                        · have hq : 3 ≤ (y6 / 4 % 4) ∧ (y6 / 4 % 4) ≤ 3 := by omega
                          exact (fun h => ⟨_, h, LT.of_bare esg0_r57_3_y (evc0_r57_3_y hB hJ h hk2 hw hp hq hh g)⟩) (Hyp.more hok2 _ _ (m1 hk2 (m1 hw (m1 hp (m1 hq (m1 hh m0))))) (m1 (decide_eq_true g) m0) : Hyp.ok eH0_r57_3_y _)
                  · have hh : 128 ≤ y6 ∧ y6 ≤ 255 := by omega
                    exact (fun h => ⟨_, h, LT.of_bare esg0_r57_n (evc0_r57_n hB hJ h hk2 hw hp hh g)⟩) (Hyp.more hok2 _ _ (m1 hk2 (m1 hw (m1 hp (m1 hh m0)))) (m1 (decide_eq_true g) m0) : Hyp.ok eH0_r57_n _)
                · rcases (show (Ax0_1 y1.toNat) ≤ 58 ∨ 59 ≤ (Ax0_1 y1.toNat) by omega) with qhp | qhp
                  · have hp : 58 ≤ (Ax0_1 y1.toNat) ∧ (Ax0_1 y1.toNat) ≤ 58 := by omega
                    rcases (show y6 ≤ 127 ∨ 128 ≤ y6 by omega) with qhh | qhh
                    · have hh : 0 ≤ y6 ∧ y6 ≤ 127 := by omega
                      exact (fun h => ⟨_, h, LT.of_bare esg0_r58_n (evc0_r58_n hB hJ h hk2 hw hp hh g)⟩) (Hyp.more hok2 _ _ (m1 hk2 (m1 hw (m1 hp (m1 hh m0)))) (m1 (decide_eq_true g) m0) : Hyp.ok eH0_r58_n _)
                    · have hh : 128 ≤ y6 ∧ y6 ≤ 255 := by omega
                      rcases (show (y6 / 4 % 4) ≤ 0 ∨ 1 ≤ (y6 / 4 % 4) by omega) with qhq | qhq
                      · have hq : 0 ≤ (y6 / 4 % 4) ∧ (y6 / 4 % 4) ≤ 0 := by omega
                        exact (fun h => ⟨_, h, LT.of_bare esg0_r58_0_y (evc0_r58_0_y hB hJ h hk2 hw hp hq hh g)⟩) (Hyp.more hok2 _ _ (m1 hk2 (m1 hw (m1 hp (m1 hq (m1 hh m0))))) (m1 (decide_eq_true g) m0) : Hyp.ok eH0_r58_0_y _)
                      · rcases (show (y6 / 4 % 4) ≤ 1 ∨ 2 ≤ (y6 / 4 % 4) by omega) with qhq | qhq
                        · have hq : 1 ≤ (y6 / 4 % 4) ∧ (y6 / 4 % 4) ≤ 1 := by omega
                          exact (fun h => ⟨_, h, LT.of_bare esg0_r58_1_y (evc0_r58_1_y hB hJ h hk2 hw hp hq hh g)⟩) (Hyp.more hok2 _ _ (m1 hk2 (m1 hw (m1 hp (m1 hq (m1 hh m0))))) (m1 (decide_eq_true g) m0) : Hyp.ok eH0_r58_1_y _)
                        · rcases (show (y6 / 4 % 4) ≤ 2 ∨ 3 ≤ (y6 / 4 % 4) by omega) with qhq | qhq
                          · have hq : 2 ≤ (y6 / 4 % 4) ∧ (y6 / 4 % 4) ≤ 2 := by omega
                            exact (fun h => ⟨_, h, LT.of_bare esg0_r58_2_y (evc0_r58_2_y hB hJ h hk2 hw hp hq hh g)⟩) (Hyp.more hok2 _ _ (m1 hk2 (m1 hw (m1 hp (m1 hq (m1 hh m0))))) (m1 (decide_eq_true g) m0) : Hyp.ok eH0_r58_2_y _)
                          · have hq : 3 ≤ (y6 / 4 % 4) ∧ (y6 / 4 % 4) ≤ 3 := by omega
                            exact (fun h => ⟨_, h, LT.of_bare esg0_r58_3_y (evc0_r58_3_y hB hJ h hk2 hw hp hq hh g)⟩) (Hyp.more hok2 _ _ (m1 hk2 (m1 hw (m1 hp (m1 hq (m1 hh m0))))) (m1 (decide_eq_true g) m0) : Hyp.ok eH0_r58_3_y _)
                  · rcases (show (Ax0_1 y1.toNat) ≤ 59 ∨ 60 ≤ (Ax0_1 y1.toNat) by omega) with qhp | qhp
                    · have hp : 59 ≤ (Ax0_1 y1.toNat) ∧ (Ax0_1 y1.toNat) ≤ 59 := by omega
                      rcases (show (y5 % 2) ≤ 0 ∨ 1 ≤ (y5 % 2) by omega) with qhx | qhx
                      · have hx : 0 ≤ (y5 % 2) ∧ (y5 % 2) ≤ 0 := by omega
                        exact (fun h => ⟨_, h, LT.of_bare esg0_r59_5 (evc0_r59_5 hB hJ h hk2 hw hp hx g)⟩) (Hyp.more hok2 _ _ (m1 hk2 (m1 hw (m1 hp (m1 hx m0)))) (m1 (decide_eq_true g) m0) : Hyp.ok eH0_r59_5 _)
                      · have hx : 1 ≤ (y5 % 2) ∧ (y5 % 2) ≤ 1 := by omega
                        exact (fun h => ⟨_, h, LT.of_bare esg0_r59_4 (evc0_r59_4 hB hJ h hk2 hw hp hx g)⟩) (Hyp.more hok2 _ _ (m1 hk2 (m1 hw (m1 hp (m1 hx m0)))) (m1 (decide_eq_true g) m0) : Hyp.ok eH0_r59_4 _)
                    · have hp : 60 ≤ (Ax0_1 y1.toNat) ∧ (Ax0_1 y1.toNat) ≤ 255 := by omega
                      exact (fun h => ⟨_, h, LT.of_bare esg0_ro1 (evc0_ro1 hB hJ h hk2 hw hp g)⟩) (Hyp.more hok2 _ _ (m1 hk2 (m1 hw (m1 hp m0))) (m1 (decide_eq_true g) m0) : Hyp.ok eH0_ro1 _)
          · rcases (show (Ax0_0 y1.toNat) ≤ 2 ∨ 3 ≤ (Ax0_0 y1.toNat) by omega) with qhw | qhw
            · have hw : 2 ≤ (Ax0_0 y1.toNat) ∧ (Ax0_0 y1.toNat) ≤ 2 := by omega
              exact (fun h => ⟨_, h, LT.of_bare esg0_f (evc0_f hB hJ h hk2 hw g)⟩) (Hyp.more hok2 _ _ (m1 hk2 (m1 hw m0)) (m1 (decide_eq_true g) m0) : Hyp.ok eH0_f _)
            · rcases (show (Ax0_0 y1.toNat) ≤ 3 ∨ 4 ≤ (Ax0_0 y1.toNat) by omega) with qhw | qhw
              · have hw : 3 ≤ (Ax0_0 y1.toNat) ∧ (Ax0_0 y1.toNat) ≤ 3 := by omega
                exact (fun h => ⟨_, h, LT.of_bare esg0_s (evc0_s hB hJ h hk2 hw g)⟩) (Hyp.more hok2 _ _ (m1 hk2 (m1 hw m0)) (m1 (decide_eq_true g) m0) : Hyp.ok eH0_s _)
              · have hw : 4 ≤ (Ax0_0 y1.toNat) ∧ (Ax0_0 y1.toNat) ≤ 9223372036854775807 := by omega
                exact (fun h => ⟨_, h, LT.of_bare esg0_e (evc0_e hB hJ h hk2 hw g)⟩) (Hyp.more hok2 _ _ (m1 hk2 (m1 hw m0)) (m1 (decide_eq_true g) m0) : Hyp.ok eH0_e _)
    · exact (fun h => ⟨_, h, LT.of_bare esg0_x (evc0_x hB hJ h g)⟩) (Hyp.more hok2 _ _ m0 (m1 (decide_eq_false g) m0) : Hyp.ok eH0_x _)
  · simp [ehs] at hj
theorem calls (x0 : Ext) (w : World) (g0 : XFit x0 w [some .i64, some .u8, some .u8]) :
    Calls Try.prog 7 #[x0.v] w fun r w' => r = .returned (.bool true) ∧ Below w.heap.size w w' :=
  ecalls x0 w g0
theorem own : ownKnob Try.prog.godebug = none := by kernel_rfl
theorem lifted (os : Os) (started : os.Started) (H : Type) (enc : TypeId × Value → H) :
    ReturnsInHanded {} Try.checked os 7 .any (Rows.vramScriptsSpec.pre6 enc Try.prog Try.f7 Rows.vramScriptsRow.domain false) (Rows.vramScriptsSpec.post enc Try.prog Try.f7 false true false false) := by
  refine returnsInHanded_of_change (C := Try.checked) own started (by kernel_rfl) Try.func7
    (ChangeSpec.witness6 (enc := enc) (C := Try.checked) false ⟨#[], #[.slice none 0 0], []⟩ 8 (by kernel_rfl) (by kernel_rfl) (by kernel_rfl) (by kernel_rfl)) ?_
  intro W base args ds gs before hval0 hW hcnd _
  have hval : ∀ (j : Nat) t v, Try.f7.params[j]? = some t → args[j]? = some v → Value.okWide Try.prog W .any base t v := hval0
  have hW' := hW
  obtain ⟨p, q, hA0, hV, rfl, hfz, hnd⟩ := hW
  have hA1 : DataW.TrodAll enc Try.prog W 0 (fun _ => true) true Try.f7.params.toList args.toList ds p := hA0
  rw [Try.params7] at hA1 hval
  obtain ⟨v0, vs0, d0, ds0, p0, q0, hargs, rfl, rfl, h0, r0⟩ := trodAll_cons hA1
  obtain ⟨rfl, rfl, rfl⟩ := trodAll_nil r0
  obtain rfl : args = #[v0] := by cases args; simp_all
  obtain ⟨x0, rfl, g0⟩ := open_slc [some .i64, some .u8, some .u8] 4 Try.underlying58 (by kernel_rfl) (by kernel_rfl) (by decide) (hval 0 58 v0 rfl rfl) h0
  obtain ⟨rfl, rfl⟩ := trodVars_none hV

  refine (calls x0 W g0).mono fun e W' ⟨he, hb⟩ => ⟨_, he, ?_⟩
  exact law_post (by kernel_rfl) (by kernel_rfl) rfl (by kernel_rfl) Try.underlying4 rfl hW' hb
theorem over : Rows.vramScriptsRow.holds Try.pinned (OpenSpec.ofChange Rows.vramScriptsSpec) :=
  OpenClaim.holds_of_wide 7 Try.f7 rfl rfl rfl rfl rfl rfl rfl ⟨rfl, rfl, rfl, rfl, rfl⟩ rfl rfl rfl rfl rfl (by kernel_rfl) Try.func7 (by kernel_rfl)
    (of_decide_eq_true (by kernel_rfl)) (by unfold Func.isWrapper; first | (rw [if_pos (by decide +kernel)]; kernel_rfl) | (rw [if_neg (by decide +kernel)]; exact ⟨rfl, rfl⟩))
    (fun os started H enc _ => lifted os started H enc)
theorem proved : Rows.VramScriptsSaid := over
#print axioms proved
end Go.Proofs.Ytjegnoknenahpaa.VramScripts
