/- The whole of the law SaveWrites, which returns true for every input. A writer that is told values and parts, in every order, gives just the document's bytes, whenever it is asked. No condition. -/
import Derived.Test.YtflamojcdfmimaaSaveWritesL0
import Derived.Test.YtflamojcdfmimaaSaveWritesL1
import Derived.Test.YtflamojcdfmimaaSaveWritesL2
import Derived.Test.YtflamojcdfmimaaSaveWritesL3
namespace Go.Proofs.Ytflamojcdfmimaa.SaveWrites
open Go.Sx Go.ChangeShapes Go.WideShapes Go.ChangeAt Go.RowKit
set_option linter.unusedVariables false
set_option linter.unusedSimpArgs false
set_option maxRecDepth 100000
theorem calls (x0 : Ext) (Y0 : Nat → Ext) (w : World) (g0 : PFit x0 Y0 w) :
    Calls Try.prog 3 #[x0.v] w fun r w' => r = .returned (.bool true) ∧ Below w.heap.size w w' := by
  have hx0 : SV.conc (⟨[(x0.n : Int), 0, 1, 1, 0, 0, 0, 0, 0, 0], [], [xArr x0 3 0, xArr x0 3 1, nLen Y0, nArr Y0, fun _ => 0, fun _ => 0, fun _ => 0], [], Iv (fun i j => match i, j with | 0, 0 => x0 | 1, j => Y0 j | _, _ => Ext.none)⟩ : Env) Loc.id (.s (.xslc 0 (.lit 0) (.lit 0) (.v 0))) = x0.v := conc_extP g0 rfl rfl
  have hargs : (eLs.map (SV.conc (⟨[(x0.n : Int), 0, 1, 1, 0, 0, 0, 0, 0, 0], [], [xArr x0 3 0, xArr x0 3 1, nLen Y0, nArr Y0, fun _ => 0, fun _ => 0, fun _ => 0], [], Iv (fun i j => match i, j with | 0, 0 => x0 | 1, j => Y0 j | _, _ => Ext.none)⟩ : Env) Loc.id)).toArray = #[x0.v] := by
    refine congrArg List.toArray ?_
    exact (cons_eq hx0 rfl)
  rw [← hargs]
  have hok : Hyp.ok eHy (⟨[(x0.n : Int), 0, 1, 1, 0, 0, 0, 0, 0, 0], [], [xArr x0 3 0, xArr x0 3 1, nLen Y0, nArr Y0, fun _ => 0, fun _ => 0, fun _ => 0], [], Iv (fun i j => match i, j with | 0, 0 => x0 | 1, j => Y0 j | _, _ => Ext.none)⟩ : Env) := by
    refine ⟨?_, ?_, ?_, (fun p hp is bs xs => by simp only [eHy, List.mem_cons, List.not_mem_nil, or_false] at hp; subst hp; exact sumF_rng _ _), ?_, by simp [eHy]⟩
    · intro p hp
      simp only [eHy, List.mem_cons, List.not_mem_nil, or_false] at hp
      rcases hp with rfl
      · exact (xi_okP (n := .v 0) g0 rfl (fun _ => rfl) rfl rfl rfl rfl rfl)
    · intro p hp
      simp only [eHy, List.mem_cons, List.not_mem_nil, or_false] at hp
      rcases hp with rfl
      · exact plen_rng g0
    · intro p hp
      simp only [eHy, List.mem_cons, List.not_mem_nil, or_false] at hp
      rcases hp with rfl | rfl | rfl | rfl
      · exact pnum_rng g0.1 0 (by decide)
      · exact pnum_rng g0.1 1 (by decide)
      · exact nLen_rng g0
      · exact nArr_rng g0.1
    · simp [eHy]
  refine law_loops3 (u := 0) (u0 := 0) (D := eD) (hs := ehs) (ρ := (⟨[(x0.n : Int), 0, 1, 1, 0, 0, 0, 0, 0, 0], [], [xArr x0 3 0, xArr x0 3 1, nLen Y0, nArr Y0, fun _ => 0, fun _ => 0, fun _ => 0], [], Iv (fun i j => match i, j with | 0, 0 => x0 | 1, j => Y0 j | _, _ => Ext.none)⟩ : Env)) (G_ok _) (by kernel_rfl) rfl (eInv x0 Y0 ) emu est rfl ⟨rfl, rfl, rfl⟩ hok (evcS x0 Y0 ((x0.n : Int)) (xArr x0 3 0) (xArr x0 3 1) (nLen Y0) (nArr Y0) ⟨plen_rng g0, pnum_rng g0.1 0 (by decide), pnum_rng g0.1 1 (by decide), nLen_rng g0, nArr_rng g0.1, rfl, rfl, rfl, rfl, rfl, g0.sum, trivial⟩) ?_ w (fun i j => by rcases i with _ | _ | i <;> rcases j with _ | j <;> first | exact Ext.none_ok _ | exact g0.ok | exact (g0.row _).ok)
  intro j h ρ hj hI hz hInv
  rcases j with _ | _ | _ | j
  · simp only [ehs, List.getElem?_cons_zero, List.getElem?_cons_succ, Option.some.injEq] at hj; subst hj
    obtain ⟨nx0, y1, y2, y3, y4, y5, y6, y7, y8, y9, Ax0_0, Ax0_1, Ax0_2, Ax0_3, Z4, Z5, Z6, rfl, hB, hJ⟩ := hInv
    have hok2 : Hyp.ok eh0.H (⟨[nx0, y1, y2, y3, y4, y5, y6, y7, y8, y9], [], [Ax0_0, Ax0_1, Ax0_2, Ax0_3, Z4, Z5, Z6], [], Iv (fun i j => match i, j with | 0, 0 => x0 | 1, j => Y0 j | _, _ => Ext.none)⟩ : Env) := by
      have hB2 := hB; have hJ2 := hJ
      simp only [eBase] at hB2; simp only [eJ0] at hJ2
      obtain ⟨hb0, hb1, hb2, hb3, hb4, hn0, ha0_0, ha0_1, ha0_2, ha0_3, hsum0, _⟩ := hB2
      obtain ⟨hl0, hl1, hl2, hl3, hl4, hl5, hl6, hl7, hl8, hl9, hl10, hl11, _⟩ := hJ2
      refine ⟨?_, ?_, ?_, (fun p hp is bs xs => by simp only [eh0, List.mem_cons, List.not_mem_nil, or_false] at hp; subst hp; exact sumF_rng _ _), ?_, by simp [eh0]⟩
      · intro p hp
        simp only [eh0, List.mem_cons, List.not_mem_nil, or_false] at hp
        rcases hp with rfl
        · exact (xi_okP (n := .v 0) g0 rfl (fun _ => rfl) hn0 ha0_0 ha0_1 ha0_2 ha0_3)
      · intro p hp
        simp only [eh0, List.mem_cons, List.not_mem_nil, or_false] at hp
        rcases hp with rfl | rfl | rfl | rfl | rfl | rfl | rfl | rfl | rfl | rfl
        · exact hb0
        · exact hl0
        · exact hl1
        · exact hl2
        · exact hl3
        · exact hl4
        · exact hl5
        · exact hl6
        · exact hl7
        · exact hl8
      · intro p hp
        simp only [eh0, List.mem_cons, List.not_mem_nil, or_false] at hp
        rcases hp with rfl | rfl | rfl | rfl | rfl | rfl | rfl
        · exact hb1
        · exact hb2
        · exact hb3
        · exact hb4
        · exact hl9
        · exact hl10
        · exact hl11
      · simp [eh0]
    have hB2 := hB
    simp only [eBase] at hB2
    obtain ⟨b0, c0, c1, c2, c3, en, ea0, ea1, ea2, ea3, hs, _⟩ := hB2
    have hJ2 := hJ
    simp only [eJ0] at hJ2
    obtain ⟨l1, l2, l3, l4, l5, l6, l7, l8, l9, m4, m5, m6, _⟩ := hJ2
    have cw := c0 y5.toNat
    rcases Decidable.em (y5 < nx0) with g | g
    · rcases (show (0 ≤ y6 ∧ y6 ≤ 0) ∨ (1 ≤ y6 ∧ y6 ≤ 255) by omega) with he | he
      · rcases (show (-9223372036854775808 ≤ Ax0_0 y5.toNat ∧ Ax0_0 y5.toNat ≤ -1) ∨ (0 ≤ Ax0_0 y5.toNat ∧ Ax0_0 y5.toNat ≤ 0) ∨ (1 ≤ Ax0_0 y5.toNat ∧ Ax0_0 y5.toNat ≤ 1) ∨ (2 ≤ Ax0_0 y5.toNat ∧ Ax0_0 y5.toNat ≤ 2) ∨ (3 ≤ Ax0_0 y5.toNat ∧ Ax0_0 y5.toNat ≤ 3) ∨ (4 ≤ Ax0_0 y5.toNat ∧ Ax0_0 y5.toNat ≤ 4) ∨ (5 ≤ Ax0_0 y5.toNat ∧ Ax0_0 y5.toNat ≤ 5) ∨ (6 ≤ Ax0_0 y5.toNat ∧ Ax0_0 y5.toNat ≤ 6) ∨ (7 ≤ Ax0_0 y5.toNat ∧ Ax0_0 y5.toNat ≤ 9223372036854775807) by omega) with hw | hw | hw | hw | hw | hw | hw | hw | hw
        · exact (fun h => ⟨_, h, _, esg0_wm, evc0_wm x0 Y0 nx0 y1 y2 y3 y4 y5 y6 y7 y8 y9 Ax0_0 Ax0_1 Ax0_2 Ax0_3 Z4 Z5 Z6 hB hJ h he hw g⟩) (Hyp.more hok2 [((.v 6), (0, 0)), ((.sel (.av 0) (.v 5)), (-9223372036854775808, -1))] [((.lt (.v 5) (.v 0)), true)] (fun p hp => by simp only [List.mem_cons, List.not_mem_nil, or_false] at hp; rcases hp with rfl | rfl <;> first | exact he | exact hw) (fun p hp => by simp only [List.mem_cons, List.not_mem_nil, or_false] at hp; rcases hp with rfl <;> first | exact decide_eq_true g))
        · exact (fun h => ⟨_, h, _, esg0_w0, evc0_w0 x0 Y0 nx0 y1 y2 y3 y4 y5 y6 y7 y8 y9 Ax0_0 Ax0_1 Ax0_2 Ax0_3 Z4 Z5 Z6 hB hJ h he hw g⟩) (Hyp.more hok2 [((.v 6), (0, 0)), ((.sel (.av 0) (.v 5)), (0, 0))] [((.lt (.v 5) (.v 0)), true)] (fun p hp => by simp only [List.mem_cons, List.not_mem_nil, or_false] at hp; rcases hp with rfl | rfl <;> first | exact he | exact hw) (fun p hp => by simp only [List.mem_cons, List.not_mem_nil, or_false] at hp; rcases hp with rfl <;> first | exact decide_eq_true g))
        · exact (fun h => ⟨_, h, _, esg0_w1, evc0_w1 x0 Y0 nx0 y1 y2 y3 y4 y5 y6 y7 y8 y9 Ax0_0 Ax0_1 Ax0_2 Ax0_3 Z4 Z5 Z6 hB hJ h he hw g⟩) (Hyp.more hok2 [((.v 6), (0, 0)), ((.sel (.av 0) (.v 5)), (1, 1))] [((.lt (.v 5) (.v 0)), true)] (fun p hp => by simp only [List.mem_cons, List.not_mem_nil, or_false] at hp; rcases hp with rfl | rfl <;> first | exact he | exact hw) (fun p hp => by simp only [List.mem_cons, List.not_mem_nil, or_false] at hp; rcases hp with rfl <;> first | exact decide_eq_true g))
        · exact (fun h => ⟨_, h, _, esg0_w2, evc0_w2 x0 Y0 nx0 y1 y2 y3 y4 y5 y6 y7 y8 y9 Ax0_0 Ax0_1 Ax0_2 Ax0_3 Z4 Z5 Z6 hB hJ h he hw g⟩) (Hyp.more hok2 [((.v 6), (0, 0)), ((.sel (.av 0) (.v 5)), (2, 2))] [((.lt (.v 5) (.v 0)), true)] (fun p hp => by simp only [List.mem_cons, List.not_mem_nil, or_false] at hp; rcases hp with rfl | rfl <;> first | exact he | exact hw) (fun p hp => by simp only [List.mem_cons, List.not_mem_nil, or_false] at hp; rcases hp with rfl <;> first | exact decide_eq_true g))
        · exact (fun h => ⟨_, h, _, esg0_w3, evc0_w3 x0 Y0 nx0 y1 y2 y3 y4 y5 y6 y7 y8 y9 Ax0_0 Ax0_1 Ax0_2 Ax0_3 Z4 Z5 Z6 hB hJ h he hw g⟩) (Hyp.more hok2 [((.v 6), (0, 0)), ((.sel (.av 0) (.v 5)), (3, 3))] [((.lt (.v 5) (.v 0)), true)] (fun p hp => by simp only [List.mem_cons, List.not_mem_nil, or_false] at hp; rcases hp with rfl | rfl <;> first | exact he | exact hw) (fun p hp => by simp only [List.mem_cons, List.not_mem_nil, or_false] at hp; rcases hp with rfl <;> first | exact decide_eq_true g))
        · exact (fun h => ⟨_, h, _, esg0_w4, evc0_w4 x0 Y0 nx0 y1 y2 y3 y4 y5 y6 y7 y8 y9 Ax0_0 Ax0_1 Ax0_2 Ax0_3 Z4 Z5 Z6 hB hJ h he hw g⟩) (Hyp.more hok2 [((.v 6), (0, 0)), ((.sel (.av 0) (.v 5)), (4, 4))] [((.lt (.v 5) (.v 0)), true)] (fun p hp => by simp only [List.mem_cons, List.not_mem_nil, or_false] at hp; rcases hp with rfl | rfl <;> first | exact he | exact hw) (fun p hp => by simp only [List.mem_cons, List.not_mem_nil, or_false] at hp; rcases hp with rfl <;> first | exact decide_eq_true g))
        · exact (fun h => ⟨_, h, _, esg0_w5, evc0_w5 x0 Y0 nx0 y1 y2 y3 y4 y5 y6 y7 y8 y9 Ax0_0 Ax0_1 Ax0_2 Ax0_3 Z4 Z5 Z6 hB hJ h he hw g⟩) (Hyp.more hok2 [((.v 6), (0, 0)), ((.sel (.av 0) (.v 5)), (5, 5))] [((.lt (.v 5) (.v 0)), true)] (fun p hp => by simp only [List.mem_cons, List.not_mem_nil, or_false] at hp; rcases hp with rfl | rfl <;> first | exact he | exact hw) (fun p hp => by simp only [List.mem_cons, List.not_mem_nil, or_false] at hp; rcases hp with rfl <;> first | exact decide_eq_true g))
        · exact (fun h => ⟨_, h, _, esg0_w6, evc0_w6 x0 Y0 nx0 y1 y2 y3 y4 y5 y6 y7 y8 y9 Ax0_0 Ax0_1 Ax0_2 Ax0_3 Z4 Z5 Z6 hB hJ h he hw g⟩) (Hyp.more hok2 [((.v 6), (0, 0)), ((.sel (.av 0) (.v 5)), (6, 6))] [((.lt (.v 5) (.v 0)), true)] (fun p hp => by simp only [List.mem_cons, List.not_mem_nil, or_false] at hp; rcases hp with rfl | rfl <;> first | exact he | exact hw) (fun p hp => by simp only [List.mem_cons, List.not_mem_nil, or_false] at hp; rcases hp with rfl <;> first | exact decide_eq_true g))
        · exact (fun h => ⟨_, h, _, esg0_w7, evc0_w7 x0 Y0 nx0 y1 y2 y3 y4 y5 y6 y7 y8 y9 Ax0_0 Ax0_1 Ax0_2 Ax0_3 Z4 Z5 Z6 hB hJ h he hw g⟩) (Hyp.more hok2 [((.v 6), (0, 0)), ((.sel (.av 0) (.v 5)), (7, 9223372036854775807))] [((.lt (.v 5) (.v 0)), true)] (fun p hp => by simp only [List.mem_cons, List.not_mem_nil, or_false] at hp; rcases hp with rfl | rfl <;> first | exact he | exact hw) (fun p hp => by simp only [List.mem_cons, List.not_mem_nil, or_false] at hp; rcases hp with rfl <;> first | exact decide_eq_true g))
      · exact (fun h => ⟨_, h, _, esg0_ge, evc0_ge x0 Y0 nx0 y1 y2 y3 y4 y5 y6 y7 y8 y9 Ax0_0 Ax0_1 Ax0_2 Ax0_3 Z4 Z5 Z6 hB hJ h he g⟩) (Hyp.more hok2 [((.v 6), (1, 255))] [((.lt (.v 5) (.v 0)), true)] (fun p hp => by simp only [List.mem_cons, List.not_mem_nil, or_false] at hp; rcases hp with rfl <;> first | exact he) (fun p hp => by simp only [List.mem_cons, List.not_mem_nil, or_false] at hp; rcases hp with rfl <;> first | exact decide_eq_true g))
    · rcases (show (0 ≤ y6 ∧ y6 ≤ 0) ∨ (1 ≤ y6 ∧ y6 ≤ 255) by omega) with he | he
      · exact (fun h => ⟨_, h, _, esg0_x0, evc0_x0 x0 Y0 nx0 y1 y2 y3 y4 y5 y6 y7 y8 y9 Ax0_0 Ax0_1 Ax0_2 Ax0_3 Z4 Z5 Z6 hB hJ h he g⟩) (Hyp.more hok2 [((.v 6), (0, 0))] [((.lt (.v 5) (.v 0)), false)] (fun p hp => by simp only [List.mem_cons, List.not_mem_nil, or_false] at hp; rcases hp with rfl <;> first | exact he) (fun p hp => by simp only [List.mem_cons, List.not_mem_nil, or_false] at hp; rcases hp with rfl <;> first | exact decide_eq_false g))
      · exact (fun h => ⟨_, h, _, esg0_xe, evc0_xe x0 Y0 nx0 y1 y2 y3 y4 y5 y6 y7 y8 y9 Ax0_0 Ax0_1 Ax0_2 Ax0_3 Z4 Z5 Z6 hB hJ h he g⟩) (Hyp.more hok2 [((.v 6), (1, 255))] [((.lt (.v 5) (.v 0)), false)] (fun p hp => by simp only [List.mem_cons, List.not_mem_nil, or_false] at hp; rcases hp with rfl <;> first | exact he) (fun p hp => by simp only [List.mem_cons, List.not_mem_nil, or_false] at hp; rcases hp with rfl <;> first | exact decide_eq_false g))
  · simp only [ehs, List.getElem?_cons_zero, List.getElem?_cons_succ, Option.some.injEq] at hj; subst hj
    obtain ⟨nx0, y1, y2, y3, y4, y5, y6, y7, y8, y9, Ax0_0, Ax0_1, Ax0_2, Ax0_3, Z4, Z5, Z6, rfl, hB, hJ⟩ := hInv
    have hok2 : Hyp.ok eh1.H (⟨[nx0, y1, y2, y3, y4, y5, y6, y7, y8, y9], [], [Ax0_0, Ax0_1, Ax0_2, Ax0_3, Z4, Z5, Z6], [], Iv (fun i j => match i, j with | 0, 0 => x0 | 1, j => Y0 j | _, _ => Ext.none)⟩ : Env) := by
      have hB2 := hB; have hJ2 := hJ
      simp only [eBase] at hB2; simp only [eJ1] at hJ2
      obtain ⟨hb0, hb1, hb2, hb3, hb4, hn0, ha0_0, ha0_1, ha0_2, ha0_3, hsum0, _⟩ := hB2
      obtain ⟨hl0, hl1, hl2, hl3, hl4, hl5, hl6, hl7, hl8, hl9, hl10, hl11, hx, _⟩ := hJ2
      refine ⟨?_, ?_, ?_, (fun p hp is bs xs => by simp only [eh1, List.mem_cons, List.not_mem_nil, or_false] at hp; subst hp; exact sumF_rng _ _), ?_, by simp [eh1]⟩
      · intro p hp
        simp only [eh1, List.mem_cons, List.not_mem_nil, or_false] at hp
        rcases hp with rfl
        · exact (xi_okP (n := .v 0) g0 rfl (fun _ => rfl) hn0 ha0_0 ha0_1 ha0_2 ha0_3)
      · intro p hp
        simp only [eh1, List.mem_cons, List.not_mem_nil, or_false] at hp
        rcases hp with rfl | rfl | rfl | rfl | rfl | rfl | rfl | rfl | rfl | rfl
        · exact hb0
        · exact hl0
        · exact hl1
        · exact hl2
        · exact hl3
        · exact hl4
        · exact hl5
        · exact hl6
        · exact hl7
        · exact hl8
      · intro p hp
        simp only [eh1, List.mem_cons, List.not_mem_nil, or_false] at hp
        rcases hp with rfl | rfl | rfl | rfl | rfl | rfl | rfl
        · exact hb1
        · exact hb2
        · exact hb3
        · exact hb4
        · exact hl9
        · exact hl10
        · exact hl11
      · simp [eh1]
    have hB2 := hB
    simp only [eBase] at hB2
    obtain ⟨b0, c0, c1, c2, c3, en, ea0, ea1, ea2, ea3, hs, _⟩ := hB2
    have hJ2 := hJ
    simp only [eJ1] at hJ2
    obtain ⟨l1, l2, l3, l4, l5, l6, l7, l8, l9, m4, m5, m6, i1, _⟩ := hJ2
    have cw := c0 y1.toNat
    rcases Decidable.em (y1 < nx0) with g | g
    · rcases (show (0 ≤ y8 ∧ y8 ≤ 0) ∨ (1 ≤ y8 ∧ y8 ≤ 255) by omega) with he | he
      · rcases (show (-9223372036854775808 ≤ Ax0_0 y1.toNat ∧ Ax0_0 y1.toNat ≤ -1) ∨ (0 ≤ Ax0_0 y1.toNat ∧ Ax0_0 y1.toNat ≤ 0) ∨ (1 ≤ Ax0_0 y1.toNat ∧ Ax0_0 y1.toNat ≤ 1) ∨ (2 ≤ Ax0_0 y1.toNat ∧ Ax0_0 y1.toNat ≤ 2) ∨ (3 ≤ Ax0_0 y1.toNat ∧ Ax0_0 y1.toNat ≤ 3) ∨ (4 ≤ Ax0_0 y1.toNat ∧ Ax0_0 y1.toNat ≤ 4) ∨ (5 ≤ Ax0_0 y1.toNat ∧ Ax0_0 y1.toNat ≤ 5) ∨ (6 ≤ Ax0_0 y1.toNat ∧ Ax0_0 y1.toNat ≤ 6) ∨ (7 ≤ Ax0_0 y1.toNat ∧ Ax0_0 y1.toNat ≤ 9223372036854775807) by omega) with hw | hw | hw | hw | hw | hw | hw | hw | hw
        · exact (fun h => ⟨_, h, _, esg1_wm, evc1_wm x0 Y0 nx0 y1 y2 y3 y4 y5 y6 y7 y8 y9 Ax0_0 Ax0_1 Ax0_2 Ax0_3 Z4 Z5 Z6 hB hJ h he hw g⟩) (Hyp.more hok2 [((.v 8), (0, 0)), ((.sel (.av 0) (.v 1)), (-9223372036854775808, -1))] [((.lt (.v 1) (.v 0)), true)] (fun p hp => by simp only [List.mem_cons, List.not_mem_nil, or_false] at hp; rcases hp with rfl | rfl <;> first | exact he | exact hw) (fun p hp => by simp only [List.mem_cons, List.not_mem_nil, or_false] at hp; rcases hp with rfl <;> first | exact decide_eq_true g))
        · exact (fun h => ⟨_, h, _, esg1_w0, evc1_w0 x0 Y0 nx0 y1 y2 y3 y4 y5 y6 y7 y8 y9 Ax0_0 Ax0_1 Ax0_2 Ax0_3 Z4 Z5 Z6 hB hJ h he hw g⟩) (Hyp.more hok2 [((.v 8), (0, 0)), ((.sel (.av 0) (.v 1)), (0, 0))] [((.lt (.v 1) (.v 0)), true)] (fun p hp => by simp only [List.mem_cons, List.not_mem_nil, or_false] at hp; rcases hp with rfl | rfl <;> first | exact he | exact hw) (fun p hp => by simp only [List.mem_cons, List.not_mem_nil, or_false] at hp; rcases hp with rfl <;> first | exact decide_eq_true g))
        · exact (fun h => ⟨_, h, _, esg1_w1, evc1_w1 x0 Y0 nx0 y1 y2 y3 y4 y5 y6 y7 y8 y9 Ax0_0 Ax0_1 Ax0_2 Ax0_3 Z4 Z5 Z6 hB hJ h he hw g⟩) (Hyp.more hok2 [((.v 8), (0, 0)), ((.sel (.av 0) (.v 1)), (1, 1))] [((.lt (.v 1) (.v 0)), true)] (fun p hp => by simp only [List.mem_cons, List.not_mem_nil, or_false] at hp; rcases hp with rfl | rfl <;> first | exact he | exact hw) (fun p hp => by simp only [List.mem_cons, List.not_mem_nil, or_false] at hp; rcases hp with rfl <;> first | exact decide_eq_true g))
        · exact (fun h => ⟨_, h, _, esg1_w2, evc1_w2 x0 Y0 nx0 y1 y2 y3 y4 y5 y6 y7 y8 y9 Ax0_0 Ax0_1 Ax0_2 Ax0_3 Z4 Z5 Z6 hB hJ h he hw g⟩) (Hyp.more hok2 [((.v 8), (0, 0)), ((.sel (.av 0) (.v 1)), (2, 2))] [((.lt (.v 1) (.v 0)), true)] (fun p hp => by simp only [List.mem_cons, List.not_mem_nil, or_false] at hp; rcases hp with rfl | rfl <;> first | exact he | exact hw) (fun p hp => by simp only [List.mem_cons, List.not_mem_nil, or_false] at hp; rcases hp with rfl <;> first | exact decide_eq_true g))
        · exact (fun h => ⟨_, h, _, esg1_w3, evc1_w3 x0 Y0 nx0 y1 y2 y3 y4 y5 y6 y7 y8 y9 Ax0_0 Ax0_1 Ax0_2 Ax0_3 Z4 Z5 Z6 hB hJ h he hw g⟩) (Hyp.more hok2 [((.v 8), (0, 0)), ((.sel (.av 0) (.v 1)), (3, 3))] [((.lt (.v 1) (.v 0)), true)] (fun p hp => by simp only [List.mem_cons, List.not_mem_nil, or_false] at hp; rcases hp with rfl | rfl <;> first | exact he | exact hw) (fun p hp => by simp only [List.mem_cons, List.not_mem_nil, or_false] at hp; rcases hp with rfl <;> first | exact decide_eq_true g))
        · exact (fun h => ⟨_, h, _, esg1_w4, evc1_w4 x0 Y0 nx0 y1 y2 y3 y4 y5 y6 y7 y8 y9 Ax0_0 Ax0_1 Ax0_2 Ax0_3 Z4 Z5 Z6 hB hJ h he hw g⟩) (Hyp.more hok2 [((.v 8), (0, 0)), ((.sel (.av 0) (.v 1)), (4, 4))] [((.lt (.v 1) (.v 0)), true)] (fun p hp => by simp only [List.mem_cons, List.not_mem_nil, or_false] at hp; rcases hp with rfl | rfl <;> first | exact he | exact hw) (fun p hp => by simp only [List.mem_cons, List.not_mem_nil, or_false] at hp; rcases hp with rfl <;> first | exact decide_eq_true g))
        · exact (fun h => ⟨_, h, _, esg1_w5, evc1_w5 x0 Y0 nx0 y1 y2 y3 y4 y5 y6 y7 y8 y9 Ax0_0 Ax0_1 Ax0_2 Ax0_3 Z4 Z5 Z6 hB hJ h he hw g⟩) (Hyp.more hok2 [((.v 8), (0, 0)), ((.sel (.av 0) (.v 1)), (5, 5))] [((.lt (.v 1) (.v 0)), true)] (fun p hp => by simp only [List.mem_cons, List.not_mem_nil, or_false] at hp; rcases hp with rfl | rfl <;> first | exact he | exact hw) (fun p hp => by simp only [List.mem_cons, List.not_mem_nil, or_false] at hp; rcases hp with rfl <;> first | exact decide_eq_true g))
        · exact (fun h => ⟨_, h, _, esg1_w6, evc1_w6 x0 Y0 nx0 y1 y2 y3 y4 y5 y6 y7 y8 y9 Ax0_0 Ax0_1 Ax0_2 Ax0_3 Z4 Z5 Z6 hB hJ h he hw g⟩) (Hyp.more hok2 [((.v 8), (0, 0)), ((.sel (.av 0) (.v 1)), (6, 6))] [((.lt (.v 1) (.v 0)), true)] (fun p hp => by simp only [List.mem_cons, List.not_mem_nil, or_false] at hp; rcases hp with rfl | rfl <;> first | exact he | exact hw) (fun p hp => by simp only [List.mem_cons, List.not_mem_nil, or_false] at hp; rcases hp with rfl <;> first | exact decide_eq_true g))
        · exact (fun h => ⟨_, h, _, esg1_w7, evc1_w7 x0 Y0 nx0 y1 y2 y3 y4 y5 y6 y7 y8 y9 Ax0_0 Ax0_1 Ax0_2 Ax0_3 Z4 Z5 Z6 hB hJ h he hw g⟩) (Hyp.more hok2 [((.v 8), (0, 0)), ((.sel (.av 0) (.v 1)), (7, 9223372036854775807))] [((.lt (.v 1) (.v 0)), true)] (fun p hp => by simp only [List.mem_cons, List.not_mem_nil, or_false] at hp; rcases hp with rfl | rfl <;> first | exact he | exact hw) (fun p hp => by simp only [List.mem_cons, List.not_mem_nil, or_false] at hp; rcases hp with rfl <;> first | exact decide_eq_true g))
      · exact (fun h => ⟨_, h, _, esg1_ge, evc1_ge x0 Y0 nx0 y1 y2 y3 y4 y5 y6 y7 y8 y9 Ax0_0 Ax0_1 Ax0_2 Ax0_3 Z4 Z5 Z6 hB hJ h he g⟩) (Hyp.more hok2 [((.v 8), (1, 255))] [((.lt (.v 1) (.v 0)), true)] (fun p hp => by simp only [List.mem_cons, List.not_mem_nil, or_false] at hp; rcases hp with rfl <;> first | exact he) (fun p hp => by simp only [List.mem_cons, List.not_mem_nil, or_false] at hp; rcases hp with rfl <;> first | exact decide_eq_true g))
    · rcases (show (0 ≤ y8 ∧ y8 ≤ 0) ∨ (1 ≤ y8 ∧ y8 ≤ 255) by omega) with he | he
      · exact (fun h => ⟨_, h, _, esg1_x0, evc1_x0 x0 Y0 nx0 y1 y2 y3 y4 y5 y6 y7 y8 y9 Ax0_0 Ax0_1 Ax0_2 Ax0_3 Z4 Z5 Z6 hB hJ h he g⟩) (Hyp.more hok2 [((.v 8), (0, 0))] [((.lt (.v 1) (.v 0)), false)] (fun p hp => by simp only [List.mem_cons, List.not_mem_nil, or_false] at hp; rcases hp with rfl <;> first | exact he) (fun p hp => by simp only [List.mem_cons, List.not_mem_nil, or_false] at hp; rcases hp with rfl <;> first | exact decide_eq_false g))
      · exact (fun h => ⟨_, h, _, esg1_xe, evc1_xe x0 Y0 nx0 y1 y2 y3 y4 y5 y6 y7 y8 y9 Ax0_0 Ax0_1 Ax0_2 Ax0_3 Z4 Z5 Z6 hB hJ h he g⟩) (Hyp.more hok2 [((.v 8), (1, 255))] [((.lt (.v 1) (.v 0)), false)] (fun p hp => by simp only [List.mem_cons, List.not_mem_nil, or_false] at hp; rcases hp with rfl <;> first | exact he) (fun p hp => by simp only [List.mem_cons, List.not_mem_nil, or_false] at hp; rcases hp with rfl <;> first | exact decide_eq_false g))
  · simp only [ehs, List.getElem?_cons_zero, List.getElem?_cons_succ, Option.some.injEq] at hj; subst hj
    obtain ⟨nx0, y1, y2, y3, y4, y5, y6, y7, y8, y9, Ax0_0, Ax0_1, Ax0_2, Ax0_3, Z4, Z5, Z6, rfl, hB, hJ⟩ := hInv
    have hok2 : Hyp.ok eh2.H (⟨[nx0, y1, y2, y3, y4, y5, y6, y7, y8, y9], [], [Ax0_0, Ax0_1, Ax0_2, Ax0_3, Z4, Z5, Z6], [], Iv (fun i j => match i, j with | 0, 0 => x0 | 1, j => Y0 j | _, _ => Ext.none)⟩ : Env) := by
      have hB2 := hB; have hJ2 := hJ
      simp only [eBase] at hB2; simp only [eJ2] at hJ2
      obtain ⟨hb0, hb1, hb2, hb3, hb4, hn0, ha0_0, ha0_1, ha0_2, ha0_3, hsum0, _⟩ := hB2
      obtain ⟨hl0, hl1, hl2, hl3, hl4, hl5, hl6, hl7, hl8, hl9, hl10, hl11, hx, _⟩ := hJ2
      refine ⟨?_, ?_, ?_, (fun p hp is bs xs => by simp only [eh2, List.mem_cons, List.not_mem_nil, or_false] at hp; subst hp; exact sumF_rng _ _), ?_, by simp [eh2]⟩
      · intro p hp
        simp only [eh2, List.mem_cons, List.not_mem_nil, or_false] at hp
        rcases hp with rfl
        · exact (xi_okP (n := .v 0) g0 rfl (fun _ => rfl) hn0 ha0_0 ha0_1 ha0_2 ha0_3)
      · intro p hp
        simp only [eh2, List.mem_cons, List.not_mem_nil, or_false] at hp
        rcases hp with rfl | rfl | rfl | rfl | rfl | rfl | rfl | rfl | rfl | rfl
        · exact hb0
        · exact hl0
        · exact hl1
        · exact hl2
        · exact hl3
        · exact hl4
        · exact hl5
        · exact hl6
        · exact hl7
        · exact hl8
      · intro p hp
        simp only [eh2, List.mem_cons, List.not_mem_nil, or_false] at hp
        rcases hp with rfl | rfl | rfl | rfl | rfl | rfl | rfl
        · exact hb1
        · exact hb2
        · exact hb3
        · exact hb4
        · exact hl9
        · exact hl10
        · exact hl11
      · simp [eh2]
    have hB2 := hB
    simp only [eBase] at hB2
    obtain ⟨b0, c0, c1, c2, c3, en, ea0, ea1, ea2, ea3, hs, _⟩ := hB2
    have hJ2 := hJ
    simp only [eJ2] at hJ2
    obtain ⟨l1, l2, l3, l4, l5, l6, l7, l8, l9, m4, m5, m6, i1, i2, _⟩ := hJ2
    have cw := c0 y4.toNat
    rcases Decidable.em (y4 < nx0) with g | g
    · rcases (show (0 ≤ y9 ∧ y9 ≤ 0) ∨ (1 ≤ y9 ∧ y9 ≤ 255) by omega) with he | he
      · rcases (show (-9223372036854775808 ≤ Ax0_0 y4.toNat ∧ Ax0_0 y4.toNat ≤ -1) ∨ (0 ≤ Ax0_0 y4.toNat ∧ Ax0_0 y4.toNat ≤ 0) ∨ (1 ≤ Ax0_0 y4.toNat ∧ Ax0_0 y4.toNat ≤ 1) ∨ (2 ≤ Ax0_0 y4.toNat ∧ Ax0_0 y4.toNat ≤ 2) ∨ (3 ≤ Ax0_0 y4.toNat ∧ Ax0_0 y4.toNat ≤ 3) ∨ (4 ≤ Ax0_0 y4.toNat ∧ Ax0_0 y4.toNat ≤ 4) ∨ (5 ≤ Ax0_0 y4.toNat ∧ Ax0_0 y4.toNat ≤ 5) ∨ (6 ≤ Ax0_0 y4.toNat ∧ Ax0_0 y4.toNat ≤ 6) ∨ (7 ≤ Ax0_0 y4.toNat ∧ Ax0_0 y4.toNat ≤ 9223372036854775807) by omega) with hw | hw | hw | hw | hw | hw | hw | hw | hw
        · rcases (show (0 ≤ y7 ∧ y7 ≤ 0) ∨ (1 ≤ y7 ∧ y7 ≤ 1) ∨ (2 ≤ y7 ∧ y7 ≤ 16) by omega) with hn | hn | hn
          · exact (fun h => ⟨_, h, _, esg2_wm_0, evc2_wm_0 x0 Y0 nx0 y1 y2 y3 y4 y5 y6 y7 y8 y9 Ax0_0 Ax0_1 Ax0_2 Ax0_3 Z4 Z5 Z6 hB hJ h he hw hn g⟩) (Hyp.more hok2 [((.v 9), (0, 0)), ((.sel (.av 0) (.v 4)), (-9223372036854775808, -1)), ((.v 7), (0, 0))] [((.lt (.v 4) (.v 0)), true)] (fun p hp => by simp only [List.mem_cons, List.not_mem_nil, or_false] at hp; rcases hp with rfl | rfl | rfl <;> first | exact he | exact hw | exact hn) (fun p hp => by simp only [List.mem_cons, List.not_mem_nil, or_false] at hp; rcases hp with rfl <;> first | exact decide_eq_true g))
          · exact (fun h => ⟨_, h, _, esg2_wm_1, evc2_wm_1 x0 Y0 nx0 y1 y2 y3 y4 y5 y6 y7 y8 y9 Ax0_0 Ax0_1 Ax0_2 Ax0_3 Z4 Z5 Z6 hB hJ h he hw hn g⟩) (Hyp.more hok2 [((.v 9), (0, 0)), ((.sel (.av 0) (.v 4)), (-9223372036854775808, -1)), ((.v 7), (1, 1))] [((.lt (.v 4) (.v 0)), true)] (fun p hp => by simp only [List.mem_cons, List.not_mem_nil, or_false] at hp; rcases hp with rfl | rfl | rfl <;> first | exact he | exact hw | exact hn) (fun p hp => by simp only [List.mem_cons, List.not_mem_nil, or_false] at hp; rcases hp with rfl <;> first | exact decide_eq_true g))
          · exact (fun h => ⟨_, h, _, esg2_wm_2, evc2_wm_2 x0 Y0 nx0 y1 y2 y3 y4 y5 y6 y7 y8 y9 Ax0_0 Ax0_1 Ax0_2 Ax0_3 Z4 Z5 Z6 hB hJ h he hw hn g⟩) (Hyp.more hok2 [((.v 9), (0, 0)), ((.sel (.av 0) (.v 4)), (-9223372036854775808, -1)), ((.v 7), (2, 16))] [((.lt (.v 4) (.v 0)), true)] (fun p hp => by simp only [List.mem_cons, List.not_mem_nil, or_false] at hp; rcases hp with rfl | rfl | rfl <;> first | exact he | exact hw | exact hn) (fun p hp => by simp only [List.mem_cons, List.not_mem_nil, or_false] at hp; rcases hp with rfl <;> first | exact decide_eq_true g))
        · rcases (show (0 ≤ y7 ∧ y7 ≤ 0) ∨ (1 ≤ y7 ∧ y7 ≤ 16) by omega) with hn | hn
          · exact (fun h => ⟨_, h, _, esg2_w0_0, evc2_w0_0 x0 Y0 nx0 y1 y2 y3 y4 y5 y6 y7 y8 y9 Ax0_0 Ax0_1 Ax0_2 Ax0_3 Z4 Z5 Z6 hB hJ h he hw hn g⟩) (Hyp.more hok2 [((.v 9), (0, 0)), ((.sel (.av 0) (.v 4)), (0, 0)), ((.v 7), (0, 0))] [((.lt (.v 4) (.v 0)), true)] (fun p hp => by simp only [List.mem_cons, List.not_mem_nil, or_false] at hp; rcases hp with rfl | rfl | rfl <;> first | exact he | exact hw | exact hn) (fun p hp => by simp only [List.mem_cons, List.not_mem_nil, or_false] at hp; rcases hp with rfl <;> first | exact decide_eq_true g))
          · exact (fun h => ⟨_, h, _, esg2_w0_1, evc2_w0_1 x0 Y0 nx0 y1 y2 y3 y4 y5 y6 y7 y8 y9 Ax0_0 Ax0_1 Ax0_2 Ax0_3 Z4 Z5 Z6 hB hJ h he hw hn g⟩) (Hyp.more hok2 [((.v 9), (0, 0)), ((.sel (.av 0) (.v 4)), (0, 0)), ((.v 7), (1, 16))] [((.lt (.v 4) (.v 0)), true)] (fun p hp => by simp only [List.mem_cons, List.not_mem_nil, or_false] at hp; rcases hp with rfl | rfl | rfl <;> first | exact he | exact hw | exact hn) (fun p hp => by simp only [List.mem_cons, List.not_mem_nil, or_false] at hp; rcases hp with rfl <;> first | exact decide_eq_true g))
        · rcases (show (0 ≤ y7 ∧ y7 ≤ 0) ∨ (1 ≤ y7 ∧ y7 ≤ 16) by omega) with hn | hn
          · exact (fun h => ⟨_, h, _, esg2_w1_0, evc2_w1_0 x0 Y0 nx0 y1 y2 y3 y4 y5 y6 y7 y8 y9 Ax0_0 Ax0_1 Ax0_2 Ax0_3 Z4 Z5 Z6 hB hJ h he hw hn g⟩) (Hyp.more hok2 [((.v 9), (0, 0)), ((.sel (.av 0) (.v 4)), (1, 1)), ((.v 7), (0, 0))] [((.lt (.v 4) (.v 0)), true)] (fun p hp => by simp only [List.mem_cons, List.not_mem_nil, or_false] at hp; rcases hp with rfl | rfl | rfl <;> first | exact he | exact hw | exact hn) (fun p hp => by simp only [List.mem_cons, List.not_mem_nil, or_false] at hp; rcases hp with rfl <;> first | exact decide_eq_true g))
          · exact (fun h => ⟨_, h, _, esg2_w1_1, evc2_w1_1 x0 Y0 nx0 y1 y2 y3 y4 y5 y6 y7 y8 y9 Ax0_0 Ax0_1 Ax0_2 Ax0_3 Z4 Z5 Z6 hB hJ h he hw hn g⟩) (Hyp.more hok2 [((.v 9), (0, 0)), ((.sel (.av 0) (.v 4)), (1, 1)), ((.v 7), (1, 16))] [((.lt (.v 4) (.v 0)), true)] (fun p hp => by simp only [List.mem_cons, List.not_mem_nil, or_false] at hp; rcases hp with rfl | rfl | rfl <;> first | exact he | exact hw | exact hn) (fun p hp => by simp only [List.mem_cons, List.not_mem_nil, or_false] at hp; rcases hp with rfl <;> first | exact decide_eq_true g))
        · rcases (show (0 ≤ y7 ∧ y7 ≤ 0) ∨ (1 ≤ y7 ∧ y7 ≤ 16) by omega) with hn | hn
          · exact (fun h => ⟨_, h, _, esg2_w2_0, evc2_w2_0 x0 Y0 nx0 y1 y2 y3 y4 y5 y6 y7 y8 y9 Ax0_0 Ax0_1 Ax0_2 Ax0_3 Z4 Z5 Z6 hB hJ h he hw hn g⟩) (Hyp.more hok2 [((.v 9), (0, 0)), ((.sel (.av 0) (.v 4)), (2, 2)), ((.v 7), (0, 0))] [((.lt (.v 4) (.v 0)), true)] (fun p hp => by simp only [List.mem_cons, List.not_mem_nil, or_false] at hp; rcases hp with rfl | rfl | rfl <;> first | exact he | exact hw | exact hn) (fun p hp => by simp only [List.mem_cons, List.not_mem_nil, or_false] at hp; rcases hp with rfl <;> first | exact decide_eq_true g))
          · exact (fun h => ⟨_, h, _, esg2_w2_1, evc2_w2_1 x0 Y0 nx0 y1 y2 y3 y4 y5 y6 y7 y8 y9 Ax0_0 Ax0_1 Ax0_2 Ax0_3 Z4 Z5 Z6 hB hJ h he hw hn g⟩) (Hyp.more hok2 [((.v 9), (0, 0)), ((.sel (.av 0) (.v 4)), (2, 2)), ((.v 7), (1, 16))] [((.lt (.v 4) (.v 0)), true)] (fun p hp => by simp only [List.mem_cons, List.not_mem_nil, or_false] at hp; rcases hp with rfl | rfl | rfl <;> first | exact he | exact hw | exact hn) (fun p hp => by simp only [List.mem_cons, List.not_mem_nil, or_false] at hp; rcases hp with rfl <;> first | exact decide_eq_true g))
        · rcases (show (0 ≤ y7 ∧ y7 ≤ 0) ∨ (1 ≤ y7 ∧ y7 ≤ 16) by omega) with hn | hn
          · exact (fun h => ⟨_, h, _, esg2_w3_0, evc2_w3_0 x0 Y0 nx0 y1 y2 y3 y4 y5 y6 y7 y8 y9 Ax0_0 Ax0_1 Ax0_2 Ax0_3 Z4 Z5 Z6 hB hJ h he hw hn g⟩) (Hyp.more hok2 [((.v 9), (0, 0)), ((.sel (.av 0) (.v 4)), (3, 3)), ((.v 7), (0, 0))] [((.lt (.v 4) (.v 0)), true)] (fun p hp => by simp only [List.mem_cons, List.not_mem_nil, or_false] at hp; rcases hp with rfl | rfl | rfl <;> first | exact he | exact hw | exact hn) (fun p hp => by simp only [List.mem_cons, List.not_mem_nil, or_false] at hp; rcases hp with rfl <;> first | exact decide_eq_true g))
          · exact (fun h => ⟨_, h, _, esg2_w3_1, evc2_w3_1 x0 Y0 nx0 y1 y2 y3 y4 y5 y6 y7 y8 y9 Ax0_0 Ax0_1 Ax0_2 Ax0_3 Z4 Z5 Z6 hB hJ h he hw hn g⟩) (Hyp.more hok2 [((.v 9), (0, 0)), ((.sel (.av 0) (.v 4)), (3, 3)), ((.v 7), (1, 16))] [((.lt (.v 4) (.v 0)), true)] (fun p hp => by simp only [List.mem_cons, List.not_mem_nil, or_false] at hp; rcases hp with rfl | rfl | rfl <;> first | exact he | exact hw | exact hn) (fun p hp => by simp only [List.mem_cons, List.not_mem_nil, or_false] at hp; rcases hp with rfl <;> first | exact decide_eq_true g))
        · rcases (show (0 ≤ y7 ∧ y7 ≤ 0) ∨ (1 ≤ y7 ∧ y7 ≤ 16) by omega) with hn | hn
          · exact (fun h => ⟨_, h, _, esg2_w4_0, evc2_w4_0 x0 Y0 nx0 y1 y2 y3 y4 y5 y6 y7 y8 y9 Ax0_0 Ax0_1 Ax0_2 Ax0_3 Z4 Z5 Z6 hB hJ h he hw hn g⟩) (Hyp.more hok2 [((.v 9), (0, 0)), ((.sel (.av 0) (.v 4)), (4, 4)), ((.v 7), (0, 0))] [((.lt (.v 4) (.v 0)), true)] (fun p hp => by simp only [List.mem_cons, List.not_mem_nil, or_false] at hp; rcases hp with rfl | rfl | rfl <;> first | exact he | exact hw | exact hn) (fun p hp => by simp only [List.mem_cons, List.not_mem_nil, or_false] at hp; rcases hp with rfl <;> first | exact decide_eq_true g))
          · exact (fun h => ⟨_, h, _, esg2_w4_1, evc2_w4_1 x0 Y0 nx0 y1 y2 y3 y4 y5 y6 y7 y8 y9 Ax0_0 Ax0_1 Ax0_2 Ax0_3 Z4 Z5 Z6 hB hJ h he hw hn g⟩) (Hyp.more hok2 [((.v 9), (0, 0)), ((.sel (.av 0) (.v 4)), (4, 4)), ((.v 7), (1, 16))] [((.lt (.v 4) (.v 0)), true)] (fun p hp => by simp only [List.mem_cons, List.not_mem_nil, or_false] at hp; rcases hp with rfl | rfl | rfl <;> first | exact he | exact hw | exact hn) (fun p hp => by simp only [List.mem_cons, List.not_mem_nil, or_false] at hp; rcases hp with rfl <;> first | exact decide_eq_true g))
        · rcases (show (0 ≤ y7 ∧ y7 ≤ 0) ∨ (1 ≤ y7 ∧ y7 ≤ 16) by omega) with hn | hn
          · exact (fun h => ⟨_, h, _, esg2_w5_0, evc2_w5_0 x0 Y0 nx0 y1 y2 y3 y4 y5 y6 y7 y8 y9 Ax0_0 Ax0_1 Ax0_2 Ax0_3 Z4 Z5 Z6 hB hJ h he hw hn g⟩) (Hyp.more hok2 [((.v 9), (0, 0)), ((.sel (.av 0) (.v 4)), (5, 5)), ((.v 7), (0, 0))] [((.lt (.v 4) (.v 0)), true)] (fun p hp => by simp only [List.mem_cons, List.not_mem_nil, or_false] at hp; rcases hp with rfl | rfl | rfl <;> first | exact he | exact hw | exact hn) (fun p hp => by simp only [List.mem_cons, List.not_mem_nil, or_false] at hp; rcases hp with rfl <;> first | exact decide_eq_true g))
          · exact (fun h => ⟨_, h, _, esg2_w5_1, evc2_w5_1 x0 Y0 nx0 y1 y2 y3 y4 y5 y6 y7 y8 y9 Ax0_0 Ax0_1 Ax0_2 Ax0_3 Z4 Z5 Z6 hB hJ h he hw hn g⟩) (Hyp.more hok2 [((.v 9), (0, 0)), ((.sel (.av 0) (.v 4)), (5, 5)), ((.v 7), (1, 16))] [((.lt (.v 4) (.v 0)), true)] (fun p hp => by simp only [List.mem_cons, List.not_mem_nil, or_false] at hp; rcases hp with rfl | rfl | rfl <;> first | exact he | exact hw | exact hn) (fun p hp => by simp only [List.mem_cons, List.not_mem_nil, or_false] at hp; rcases hp with rfl <;> first | exact decide_eq_true g))
        · rcases (show (0 ≤ y7 ∧ y7 ≤ 15) ∨ (16 ≤ y7 ∧ y7 ≤ 16) by omega) with hn | hn
          · exact (fun h => ⟨_, h, _, esg2_w6_0, evc2_w6_0 x0 Y0 nx0 y1 y2 y3 y4 y5 y6 y7 y8 y9 Ax0_0 Ax0_1 Ax0_2 Ax0_3 Z4 Z5 Z6 hB hJ h he hw hn g⟩) (Hyp.more hok2 [((.v 9), (0, 0)), ((.sel (.av 0) (.v 4)), (6, 6)), ((.v 7), (0, 15))] [((.lt (.v 4) (.v 0)), true)] (fun p hp => by simp only [List.mem_cons, List.not_mem_nil, or_false] at hp; rcases hp with rfl | rfl | rfl <;> first | exact he | exact hw | exact hn) (fun p hp => by simp only [List.mem_cons, List.not_mem_nil, or_false] at hp; rcases hp with rfl <;> first | exact decide_eq_true g))
          · exact (fun h => ⟨_, h, _, esg2_w6_16, evc2_w6_16 x0 Y0 nx0 y1 y2 y3 y4 y5 y6 y7 y8 y9 Ax0_0 Ax0_1 Ax0_2 Ax0_3 Z4 Z5 Z6 hB hJ h he hw hn g⟩) (Hyp.more hok2 [((.v 9), (0, 0)), ((.sel (.av 0) (.v 4)), (6, 6)), ((.v 7), (16, 16))] [((.lt (.v 4) (.v 0)), true)] (fun p hp => by simp only [List.mem_cons, List.not_mem_nil, or_false] at hp; rcases hp with rfl | rfl | rfl <;> first | exact he | exact hw | exact hn) (fun p hp => by simp only [List.mem_cons, List.not_mem_nil, or_false] at hp; rcases hp with rfl <;> first | exact decide_eq_true g))
        · rcases (show (0 ≤ y7 ∧ y7 ≤ 0) ∨ (1 ≤ y7 ∧ y7 ≤ 1) ∨ (2 ≤ y7 ∧ y7 ≤ 16) by omega) with hn | hn | hn
          · exact (fun h => ⟨_, h, _, esg2_w7_0, evc2_w7_0 x0 Y0 nx0 y1 y2 y3 y4 y5 y6 y7 y8 y9 Ax0_0 Ax0_1 Ax0_2 Ax0_3 Z4 Z5 Z6 hB hJ h he hw hn g⟩) (Hyp.more hok2 [((.v 9), (0, 0)), ((.sel (.av 0) (.v 4)), (7, 9223372036854775807)), ((.v 7), (0, 0))] [((.lt (.v 4) (.v 0)), true)] (fun p hp => by simp only [List.mem_cons, List.not_mem_nil, or_false] at hp; rcases hp with rfl | rfl | rfl <;> first | exact he | exact hw | exact hn) (fun p hp => by simp only [List.mem_cons, List.not_mem_nil, or_false] at hp; rcases hp with rfl <;> first | exact decide_eq_true g))
          · exact (fun h => ⟨_, h, _, esg2_w7_1, evc2_w7_1 x0 Y0 nx0 y1 y2 y3 y4 y5 y6 y7 y8 y9 Ax0_0 Ax0_1 Ax0_2 Ax0_3 Z4 Z5 Z6 hB hJ h he hw hn g⟩) (Hyp.more hok2 [((.v 9), (0, 0)), ((.sel (.av 0) (.v 4)), (7, 9223372036854775807)), ((.v 7), (1, 1))] [((.lt (.v 4) (.v 0)), true)] (fun p hp => by simp only [List.mem_cons, List.not_mem_nil, or_false] at hp; rcases hp with rfl | rfl | rfl <;> first | exact he | exact hw | exact hn) (fun p hp => by simp only [List.mem_cons, List.not_mem_nil, or_false] at hp; rcases hp with rfl <;> first | exact decide_eq_true g))
          · exact (fun h => ⟨_, h, _, esg2_w7_2, evc2_w7_2 x0 Y0 nx0 y1 y2 y3 y4 y5 y6 y7 y8 y9 Ax0_0 Ax0_1 Ax0_2 Ax0_3 Z4 Z5 Z6 hB hJ h he hw hn g⟩) (Hyp.more hok2 [((.v 9), (0, 0)), ((.sel (.av 0) (.v 4)), (7, 9223372036854775807)), ((.v 7), (2, 16))] [((.lt (.v 4) (.v 0)), true)] (fun p hp => by simp only [List.mem_cons, List.not_mem_nil, or_false] at hp; rcases hp with rfl | rfl | rfl <;> first | exact he | exact hw | exact hn) (fun p hp => by simp only [List.mem_cons, List.not_mem_nil, or_false] at hp; rcases hp with rfl <;> first | exact decide_eq_true g))
      · exact (fun h => ⟨_, h, _, esg2_ge, evc2_ge x0 Y0 nx0 y1 y2 y3 y4 y5 y6 y7 y8 y9 Ax0_0 Ax0_1 Ax0_2 Ax0_3 Z4 Z5 Z6 hB hJ h he g⟩) (Hyp.more hok2 [((.v 9), (1, 255))] [((.lt (.v 4) (.v 0)), true)] (fun p hp => by simp only [List.mem_cons, List.not_mem_nil, or_false] at hp; rcases hp with rfl <;> first | exact he) (fun p hp => by simp only [List.mem_cons, List.not_mem_nil, or_false] at hp; rcases hp with rfl <;> first | exact decide_eq_true g))
    · rcases (show (0 ≤ y9 ∧ y9 ≤ 0) ∨ (1 ≤ y9 ∧ y9 ≤ 255) by omega) with he | he
      · rcases (show (0 ≤ y7 ∧ y7 ≤ 0) ∨ (1 ≤ y7 ∧ y7 ≤ 16) by omega) with hn | hn
        · exact (fun h => ⟨_, h, _, esg2_x0, evc2_x0 x0 Y0 nx0 y1 y2 y3 y4 y5 y6 y7 y8 y9 Ax0_0 Ax0_1 Ax0_2 Ax0_3 Z4 Z5 Z6 hB hJ h he hn g⟩) (Hyp.more hok2 [((.v 9), (0, 0)), ((.v 7), (0, 0))] [((.lt (.v 4) (.v 0)), false)] (fun p hp => by simp only [List.mem_cons, List.not_mem_nil, or_false] at hp; rcases hp with rfl | rfl <;> first | exact he | exact hn) (fun p hp => by simp only [List.mem_cons, List.not_mem_nil, or_false] at hp; rcases hp with rfl <;> first | exact decide_eq_false g))
        · exact (fun h => ⟨_, h, _, esg2_x1, evc2_x1 x0 Y0 nx0 y1 y2 y3 y4 y5 y6 y7 y8 y9 Ax0_0 Ax0_1 Ax0_2 Ax0_3 Z4 Z5 Z6 hB hJ h he hn g⟩) (Hyp.more hok2 [((.v 9), (0, 0)), ((.v 7), (1, 16))] [((.lt (.v 4) (.v 0)), false)] (fun p hp => by simp only [List.mem_cons, List.not_mem_nil, or_false] at hp; rcases hp with rfl | rfl <;> first | exact he | exact hn) (fun p hp => by simp only [List.mem_cons, List.not_mem_nil, or_false] at hp; rcases hp with rfl <;> first | exact decide_eq_false g))
      · exact (fun h => ⟨_, h, _, esg2_xe, evc2_xe x0 Y0 nx0 y1 y2 y3 y4 y5 y6 y7 y8 y9 Ax0_0 Ax0_1 Ax0_2 Ax0_3 Z4 Z5 Z6 hB hJ h he g⟩) (Hyp.more hok2 [((.v 9), (1, 255))] [((.lt (.v 4) (.v 0)), false)] (fun p hp => by simp only [List.mem_cons, List.not_mem_nil, or_false] at hp; rcases hp with rfl <;> first | exact he) (fun p hp => by simp only [List.mem_cons, List.not_mem_nil, or_false] at hp; rcases hp with rfl <;> first | exact decide_eq_false g))
  · simp [ehs] at hj
theorem bulk_one {H : Type} (d : DataW H) : 1 ≤ Rows.uptoBulk d := by
  cases d with
  | lit l => cases l <;> simp [Rows.uptoBulk]
  | _ => simp [Rows.uptoBulk]
theorem bulk_all {H : Type} (l : List (DataW H)) : l.length ≤ Rows.uptoBulkAll l := by
  induction l with
  | nil => simp [Rows.uptoBulkAll]
  | cons x r ih => have := bulk_one x; simp only [Rows.uptoBulkAll, List.length_cons]; omega
theorem bulk_len {H : Type} {n : Nat} {d : DataW H} (h : n = 0 ∨ ∃ l sp, d = .slice l sp ∧ l.length = n) : n + 1 ≤ Rows.uptoBulk d := by
  rcases h with rfl | ⟨l, sp, rfl, rfl⟩
  · exact bulk_one d
  · have := bulk_all l
    simp only [Rows.uptoBulk]; omega
theorem bulk_at {H : Type} : ∀ (l : List (DataW H)) (j : Nat) (d : DataW H), l[j]? = some d → Rows.uptoBulk d ≤ Rows.uptoBulkAll l
  | [], j, d, h => by simp at h
  | x :: r, 0, d, h => by
    simp only [List.getElem?_cons_zero, Option.some.injEq] at h; subst h
    simp only [Rows.uptoBulkAll]; omega
  | x :: r, j + 1, d, h => by
    have := bulk_at r j d (by simpa using h)
    simp only [Rows.uptoBulkAll]; omega
theorem bulk_put {H : Type} {n : Nat} {d : DataW H} (h : n = 0 ∨ ∃ parts l sp, d = .agg parts ∧ parts[2]? = some (.slice l sp) ∧ l.length = n) : n + 1 ≤ Rows.uptoBulk d := by
  rcases h with rfl | ⟨parts, l, sp, rfl, hp, rfl⟩
  · exact bulk_one d
  · have h1 := bulk_at parts 2 _ hp
    have h2 := bulk_all l
    simp only [Rows.uptoBulk] at h1 ⊢; omega
theorem bulk_three {H : Type} (l : List (DataW H)) (a b c : DataW H) (h0 : l[0]? = some a) (h1 : l[1]? = some b) (h2 : l[2]? = some c) : Rows.uptoBulk a + Rows.uptoBulk b + Rows.uptoBulk c ≤ Rows.uptoBulkAll l := by
  match l, h0, h1, h2 with
  | x :: y :: z :: r, h0, h1, h2 =>
    simp only [List.getElem?_cons_zero, List.getElem?_cons_succ, Option.some.injEq] at h0 h1 h2
    subst h0; subst h1; subst h2
    simp only [Rows.uptoBulkAll]; omega
theorem bulk_take {H : Type} : ∀ (l : List (DataW H)) (k : Nat) (d : DataW H), l[k]? = some d → Rows.uptoBulkAll (l.take (k + 1)) = Rows.uptoBulkAll (l.take k) + Rows.uptoBulk d
  | [], k, d, h => by simp at h
  | x :: r, 0, d, h => by
    simp only [List.getElem?_cons_zero, Option.some.injEq] at h; subst h
    simp [Rows.uptoBulkAll]
  | x :: r, k + 1, d, h => by
    have := bulk_take r k d (by simpa using h)
    simp only [List.take_succ_cons, Rows.uptoBulkAll] at this ⊢; omega
theorem bulk_take_le {H : Type} : ∀ (l : List (DataW H)) (k : Nat), Rows.uptoBulkAll (l.take k) ≤ Rows.uptoBulkAll l
  | [], k => by simp
  | x :: r, 0 => by simp [Rows.uptoBulkAll]
  | x :: r, k + 1 => by
    have := bulk_take_le r k
    simp only [List.take_succ_cons, Rows.uptoBulkAll]; omega
theorem bulk_puts {H : Type} {n : Nat} {ys : Nat → Ext} {d : DataW H} (h : n = 0 ∨ ∃ l sp, d = .slice l sp ∧ l.length = n ∧ ∀ k, k < n → ∃ parts p0 p1 p2, l[k]? = some (.agg parts) ∧ parts[0]? = some p0 ∧ parts[1]? = some p1 ∧ parts[2]? = some p2 ∧ ((ys k).n = 0 ∨ ∃ l' sp', p2 = .slice l' sp' ∧ l'.length = (ys k).n)) :
    ∀ k : Nat, k ≤ n → pSum (nLen ys) k + 2 ≤ 2 * (Rows.uptoBulk d : Int) := by
  rcases h with rfl | ⟨l, sp, rfl, rfl, hk⟩
  · intro k h0
    obtain rfl : k = 0 := by omega
    have := bulk_one d
    simp only [pSum]; omega
  · have key : ∀ k : Nat, k ≤ l.length → pSum (nLen ys) k ≤ 2 * (Rows.uptoBulkAll (l.take k) : Int) := by
      intro k
      induction k with
      | zero => intro _; simp [pSum]; omega
      | succ k ih =>
        intro hl
        have ih := ih (by omega)
        obtain ⟨parts, p0, p1, p2, hp, h0, h1, h2, h3⟩ := hk k (by omega)
        have e := bulk_take l k _ hp
        have q := bulk_three parts p0 p1 p2 h0 h1 h2
        have r0 := bulk_one p0
        have r1 := bulk_one p1
        have r2 := bulk_len h3
        have s : Rows.uptoBulk (.agg parts) = Rows.uptoBulkAll parts + 1 := by simp only [Rows.uptoBulk]
        simp only [pSum, nLen]
        rw [e]; omega
    intro k hl
    have h1 := key k hl
    have h2 := bulk_take_le l k
    simp only [Rows.uptoBulk]; omega
theorem own : ownKnob Try.prog.godebug = none := by kernel_rfl
theorem lifted (os : Os) (started : os.Started) (H : Type) (enc : TypeId × Value → H) (F : Stop.Interp) :
    ReturnsInHanded {} Try.checked os 3 .any ((Rows.OpenSpec.upto Rows.saveWritesSpec).pre6 enc Try.prog Try.f3 Rows.saveWritesUptoRow.domain false) (((Rows.OpenSpec.upto Rows.saveWritesSpec).at F).post enc Try.prog Try.f3 false true false false) := by
  refine returnsInHanded_of_cond (C := Try.checked) (s := Rows.OpenSpec.upto Rows.saveWritesSpec) (k := Rows.uptoSmall) rfl own started (by kernel_rfl) Try.func3
    (OpenSpec.witness (enc := enc) (C := Try.checked) (s := Rows.OpenSpec.upto Rows.saveWritesSpec) (k := Rows.uptoSmall) rfl false ⟨#[], #[.slice none 0 0], []⟩ 8 (by kernel_rfl) (by kernel_rfl) (by kernel_rfl)
      (x := ([.nil], [], [])) (by kernel_rfl) rfl (by kernel_rfl)) ?_
  intro W base args ds gs before hval0 hW _ hk _
  have hval : ∀ (j : Nat) t v, Try.f3.params[j]? = some t → args[j]? = some v → Value.okWide Try.prog W .any base t v := hval0
  have hW' := hW
  obtain ⟨p, q, hA0, hV, rfl, hfz, hnd⟩ := hW
  have hA1 : DataW.TrodAll enc Try.prog W 0 (fun _ => true) true Try.f3.params.toList args.toList ds p := hA0
  rw [Try.params3] at hA1 hval
  obtain ⟨v0, vs0, d0, ds0, p0, q0, hargs, rfl, rfl, h0, r0⟩ := trodAll_cons hA1
  obtain ⟨rfl, rfl, rfl⟩ := trodAll_nil r0
  obtain rfl : args = #[v0] := by cases args; simp_all
  obtain ⟨x0, Y0, rfl, g0, u0⟩ := open_puts 8 Try.underlying22 Try.underlying32 (by kernel_rfl) rfl Try.underlying25 (by kernel_rfl) (by kernel_rfl) (by kernel_rfl) (by kernel_rfl) (by kernel_rfl) (hval 0 22 v0 rfl rfl) h0
  obtain ⟨rfl, rfl⟩ := trodVars_none hV
  have hk2 : Rows.uptoBulkAll _ ≤ 1048576 := of_decide_eq_true hk
  simp only [List.append_nil, Rows.uptoBulkAll] at hk2
  have g0 : PFit x0 Y0 W := ⟨g0.1, fun k hk => by
    have := bulk_puts u0 k hk
    omega, g0.2⟩
  refine (calls x0 Y0 W g0).mono fun e W' ⟨he, hb⟩ => ⟨_, he, ?_⟩
  exact law_post (by kernel_rfl) (by kernel_rfl) rfl (by kernel_rfl) Try.underlying4 rfl hW' hb
theorem proved : Rows.SaveWritesUptoSaid :=
  OpenClaim.holds_of_cond 3 Try.f3 rfl rfl rfl rfl rfl rfl rfl ⟨rfl, rfl, rfl, rfl, rfl⟩ rfl rfl rfl rfl rfl (by kernel_rfl) Try.func3 (by kernel_rfl)
    (of_decide_eq_true (by kernel_rfl)) (by unfold Func.isWrapper; first | (rw [if_pos (by decide +kernel)]; kernel_rfl) | (rw [if_neg (by decide +kernel)]; exact ⟨rfl, rfl⟩))
    (fun os started H enc _ F => lifted os started H enc F)
#print axioms proved
end Go.Proofs.Ytflamojcdfmimaa.SaveWrites
