/- The parts joined of the law SaveReads, which returns true for every input. A reader of whatever bytes answers, call by call in every order, what the document says, and stands where it says. Where what comes in is of bulk at most 1048576. No condition. -/
import Derived.Test.YtflamojcdfmimaaSaveReadsL0
import Derived.Test.YtflamojcdfmimaaSaveReadsL1
import Derived.Test.YtflamojcdfmimaaSaveReadsL2
import Derived.Test.YtflamojcdfmimaaSaveReadsL3
namespace Go.Proofs.Ytflamojcdfmimaa.SaveReads
open Go.Sx Go.ChangeShapes Go.WideShapes Go.ChangeAt Go.RowKit
set_option linter.unusedVariables false
set_option linter.unusedSimpArgs false
set_option maxRecDepth 100000
set_option maxHeartbeats 20000000 in
theorem ecalls (x0 : Ext) (x1 : Ext) (Y1 : Nat → Ext) (hex0 : 14 ≤ ((x0.n : Int)) ∧ ((x0.n : Int)) ≤ 1048575) (w : World) (g0 : XFit x0 w [some .u8]) (g1 : PFit x1 Y1 w) :
    Calls Try.prog 5 #[x0.v, x1.v] w fun r w' => r = .returned (.bool true) ∧ Below w.heap.size w w' := by
  have hx0 : SV.conc (⟨[(x0.n : Int), (x1.n : Int), 0, 0, 1, 0, 0, 0, 0], [], [xArr x0 1 0, xArr x1 3 0, xArr x1 3 1, nLen Y1, nArr Y1, fun _ => 0, fun _ => 0], [], Iv (fun i j => match i, j with | 0, 0 => x0 | 1, 0 => x1 | 2, j => Y1 j | _, _ => Ext.none)⟩ : Env) Loc.id (.s (.xslc 0 (.lit 0) (.lit 0) (.v 0))) = x0.v := conc_ext g0 rfl rfl
  have hx1 : SV.conc (⟨[(x0.n : Int), (x1.n : Int), 0, 0, 1, 0, 0, 0, 0], [], [xArr x0 1 0, xArr x1 3 0, xArr x1 3 1, nLen Y1, nArr Y1, fun _ => 0, fun _ => 0], [], Iv (fun i j => match i, j with | 0, 0 => x0 | 1, 0 => x1 | 2, j => Y1 j | _, _ => Ext.none)⟩ : Env) Loc.id (.s (.xslc 1 (.lit 0) (.lit 0) (.v 1))) = x1.v := conc_extP g1 rfl rfl
  have hargs : (eLs.map (SV.conc (⟨[(x0.n : Int), (x1.n : Int), 0, 0, 1, 0, 0, 0, 0], [], [xArr x0 1 0, xArr x1 3 0, xArr x1 3 1, nLen Y1, nArr Y1, fun _ => 0, fun _ => 0], [], Iv (fun i j => match i, j with | 0, 0 => x0 | 1, 0 => x1 | 2, j => Y1 j | _, _ => Ext.none)⟩ : Env) Loc.id)).toArray = #[x0.v, x1.v] := by
    refine congrArg List.toArray ?_
    exact (cons_eq hx0 (cons_eq hx1 rfl))
  rw [← hargs]
  have hok : Hyp.ok eHy (⟨[(x0.n : Int), (x1.n : Int), 0, 0, 1, 0, 0, 0, 0], [], [xArr x0 1 0, xArr x1 3 0, xArr x1 3 1, nLen Y1, nArr Y1, fun _ => 0, fun _ => 0], [], Iv (fun i j => match i, j with | 0, 0 => x0 | 1, 0 => x1 | 2, j => Y1 j | _, _ => Ext.none)⟩ : Env) := by
    refine ⟨?_, ?_, ?_, (fun p hp is bs xs => by simp only [eHy, List.mem_cons, List.not_mem_nil, or_false] at hp; subst hp; exact sumF_rng _ _), ?_, by simp [eHy]⟩
    · intro p hp
      simp only [eHy, List.mem_cons, List.not_mem_nil, or_false] at hp
      rcases hp with rfl | rfl
      · exact xi_ok g0 rfl rfl rfl
      · exact (xi_okP (n := .v 1) g1 rfl (fun _ => rfl) rfl rfl rfl rfl rfl)
    · intro p hp
      simp only [eHy, List.mem_cons, List.not_mem_nil, or_false] at hp
      rcases hp with rfl | rfl | rfl
      · exact (by have hx := hex0; first | exact ⟨Int.le_of_eq hx.symm, Int.le_of_eq hx⟩ | exact hx)
      · exact xlen_rng g0
      · exact plen_rng g1
    · intro p hp
      simp only [eHy, List.mem_cons, List.not_mem_nil, or_false] at hp
      rcases hp with rfl | rfl | rfl | rfl | rfl
      · exact xArr_rng g0
      · exact pnum_rng g1.1 0 (by decide)
      · exact pnum_rng g1.1 1 (by decide)
      · exact nLen_rng g1
      · exact nArr_rng g1.1
    · simp [eHy]
  refine law_loops3 (u := 0) (u0 := 0) (D := eD) (hs := ehs) (ρ := (⟨[(x0.n : Int), (x1.n : Int), 0, 0, 1, 0, 0, 0, 0], [], [xArr x0 1 0, xArr x1 3 0, xArr x1 3 1, nLen Y1, nArr Y1, fun _ => 0, fun _ => 0], [], Iv (fun i j => match i, j with | 0, 0 => x0 | 1, 0 => x1 | 2, j => Y1 j | _, _ => Ext.none)⟩ : Env)) (G_ok _) (by kernel_rfl) rfl (eInv x0 x1 Y1 ) emu est rfl ⟨rfl, rfl, rfl⟩ hok (evcS x0 x1 Y1 ((x0.n : Int)) ((x1.n : Int)) (xArr x0 1 0) (xArr x1 3 0) (xArr x1 3 1) (nLen Y1) (nArr Y1) ⟨xlen_rng g0, plen_rng g1, xArr_rng g0, pnum_rng g1.1 0 (by decide), pnum_rng g1.1 1 (by decide), nLen_rng g1, nArr_rng g1.1, rfl, rfl, rfl, rfl, rfl, rfl, rfl, g1.sum, hex0, trivial⟩) ?_ w (fun i j => by rcases i with _ | _ | _ | i <;> rcases j with _ | j <;> first | exact Ext.none_ok _ | exact g0.ok | exact g1.ok | exact (g1.row _).ok)
  intro j h ρ hj hI hz hInv
  rcases j with _ | _ | j
  · simp only [ehs, List.getElem?_cons_zero, List.getElem?_cons_succ, Option.some.injEq] at hj; subst hj
    obtain ⟨mm, nn, y2, y3, y4, y5, y6, y7, y8, Bx, Cx, Dx, Fx, Gx, Z5, Z6, rfl, hB, hJ⟩ := hInv
    have hok2 : Hyp.ok eh0.H (⟨[mm, nn, y2, y3, y4, y5, y6, y7, y8], [], [Bx, Cx, Dx, Fx, Gx, Z5, Z6], [], Iv (fun i j => match i, j with | 0, 0 => x0 | 1, 0 => x1 | 2, j => Y1 j | _, _ => Ext.none)⟩ : Env) := by
      have hB2 := hB; have hJ2 := hJ
      simp only [eBase] at hB2; simp only [eJ0] at hJ2
      obtain ⟨hb0, hb1, hb2, hb3, hb4, hb5, hb6, hn0, hn1, ha0_0, ha1_0, ha1_1, ha1_2, ha1_3, hsum1, hex0, _⟩ := hB2
      obtain ⟨hl0, hl1, hl2, hl3, hl4, hl5, hl6, hl7, hl8, hx, _⟩ := hJ2
      refine ⟨?_, ?_, ?_, (fun p hp is bs xs => by simp only [eh0, List.mem_cons, List.not_mem_nil, or_false] at hp; subst hp; exact sumF_rng _ _), ?_, by simp [eh0]⟩
      · intro p hp
        simp only [eh0, List.mem_cons, List.not_mem_nil, or_false] at hp
        rcases hp with rfl | rfl
        · exact xi_ok g0 rfl hn0 ha0_0
        · exact (xi_okP (n := .v 1) g1 rfl (fun _ => rfl) hn1 ha1_0 ha1_1 ha1_2 ha1_3)
      · intro p hp
        simp only [eh0, List.mem_cons, List.not_mem_nil, or_false] at hp
        rcases hp with rfl | rfl | rfl | rfl | rfl | rfl | rfl | rfl | rfl | rfl
        · exact (by have hx := hex0; first | exact ⟨Int.le_of_eq hx.symm, Int.le_of_eq hx⟩ | exact hx)
        · exact hb0
        · exact hb1
        · exact hl0
        · exact hl1
        · exact hl2
        · exact hl3
        · exact hl4
        · exact hl5
        · exact hl6
      · intro p hp
        simp only [eh0, List.mem_cons, List.not_mem_nil, or_false] at hp
        rcases hp with rfl | rfl | rfl | rfl | rfl | rfl | rfl
        · exact hb2
        · exact hb3
        · exact hb4
        · exact hb5
        · exact hb6
        · exact hl7
        · exact hl8
      · simp [eh0]
    have hB3 := hB
    have hJ3 := hJ
    simp only [eBase] at hB3
    obtain ⟨b0, b1, c0, c1, c2, c3, c4, en0, en1, ea0, ea1, ea2, ea3, ea4, hs, hx0, _⟩ := hB3
    simp only [eJ0] at hJ3
    obtain ⟨l2, l3, l4, l5, l6, l7, l8, m5, m6, i1, i2, _⟩ := hJ3
    have d13 := c0 (y3 + 13).toNat
    have d14 := c0 (y3 + 14).toNat
    have d15 := c0 (y3 + 15).toNat
    have d16 := c0 (y3 + 16).toNat
    have d17 := c0 (y3 + 17).toNat
    have dw := c1 y2.toNat
    have dn := c2 y2.toNat
    rcases (show (y2 < nn) ∨ (¬ y2 < nn) by omega) with g | g
    · rcases (show (Cx y2.toNat = 0) ∨ (Cx y2.toNat = 1) ∨ (Cx y2.toNat = 2) ∨ (Cx y2.toNat = 3) ∨ (Cx y2.toNat = 4) ∨ (Cx y2.toNat = 5) ∨ (Cx y2.toNat = 6) ∨ (7 ≤ Cx y2.toNat ∧ Cx y2.toNat ≤ 9223372036854775807) ∨ (-9223372036854775808 ≤ Cx y2.toNat ∧ Cx y2.toNat ≤ -1) by omega) with hw | hw | hw | hw | hw | hw | hw | hw | hw
      · rcases (show ((mm - 13) - y3 < 1) ∨ (1 ≤ (mm - 13) - y3) by omega) with q | q
        · exact (fun h => ⟨_, h, LT.of_bare esg0_w0_0 (evc0_w0_0 x0 x1 Y1 mm nn y2 y3 y4 y5 y6 y7 y8 Bx Cx Dx Fx Gx Z5 Z6 hB hJ h)⟩) (Hyp.more hok2 _ _
           (fun p hp => by
            simp only [eE0_w0_0, eQ0_w0_0, List.mem_cons, List.not_mem_nil, or_false] at hp
            rcases hp with rfl | rfl | rfl | rfl | rfl
            all_goals (simp only [inR, nd, sm, sn, eV]; (try simp only [u1]); omega))
           (fun p hp => by
            simp only [eE0_w0_0, eQ0_w0_0, List.mem_cons, List.not_mem_nil, or_false] at hp
            rcases hp with rfl | rfl | rfl
            all_goals (simp only [nd, sm, sn, eV]; (try simp only [u1]); omega)) : Hyp.ok eH0_w0_0 _)
        · exact (fun h => ⟨_, h, LT.of_bare esg0_w0_1 (evc0_w0_1 x0 x1 Y1 mm nn y2 y3 y4 y5 y6 y7 y8 Bx Cx Dx Fx Gx Z5 Z6 hB hJ h)⟩) (Hyp.more hok2 _ _
           (fun p hp => by
            simp only [eE0_w0_1, eQ0_w0_1, List.mem_cons, List.not_mem_nil, or_false] at hp
            rcases hp with rfl | rfl | rfl | rfl | rfl | rfl | rfl | rfl
            all_goals (simp only [inR, nd, sm, sn, eV]; (try simp only [u1]); omega))
           (fun p hp => by
            simp only [eE0_w0_1, eQ0_w0_1, List.mem_cons, List.not_mem_nil, or_false] at hp
            rcases hp with rfl | rfl | rfl | rfl | rfl | rfl | rfl
            all_goals (simp only [nd, sm, sn, eV]; (try simp only [u1]); omega)) : Hyp.ok eH0_w0_1 _)
      · rcases (show ((mm - 13) - y3 < 2) ∨ (2 ≤ (mm - 13) - y3) by omega) with q | q
        · exact (fun h => ⟨_, h, LT.of_bare esg0_w1_0 (evc0_w1_0 x0 x1 Y1 mm nn y2 y3 y4 y5 y6 y7 y8 Bx Cx Dx Fx Gx Z5 Z6 hB hJ h)⟩) (Hyp.more hok2 _ _
           (fun p hp => by
            simp only [eE0_w1_0, eQ0_w1_0, List.mem_cons, List.not_mem_nil, or_false] at hp
            rcases hp with rfl | rfl | rfl | rfl | rfl
            all_goals (simp only [inR, nd, sm, sn, eV]; (try simp only [u1]); omega))
           (fun p hp => by
            simp only [eE0_w1_0, eQ0_w1_0, List.mem_cons, List.not_mem_nil, or_false] at hp
            rcases hp with rfl | rfl | rfl
            all_goals (simp only [nd, sm, sn, eV]; (try simp only [u1]); omega)) : Hyp.ok eH0_w1_0 _)
        · exact (fun h => ⟨_, h, LT.of_bare esg0_w1_1 (evc0_w1_1 x0 x1 Y1 mm nn y2 y3 y4 y5 y6 y7 y8 Bx Cx Dx Fx Gx Z5 Z6 hB hJ h)⟩) (Hyp.more hok2 _ _
           (fun p hp => by
            simp only [eE0_w1_1, eQ0_w1_1, List.mem_cons, List.not_mem_nil, or_false] at hp
            rcases hp with rfl | rfl | rfl | rfl | rfl | rfl | rfl | rfl | rfl | rfl
            all_goals (simp only [inR, nd, sm, sn, eV]; (try simp only [u1]); omega))
           (fun p hp => by
            simp only [eE0_w1_1, eQ0_w1_1, List.mem_cons, List.not_mem_nil, or_false] at hp
            rcases hp with rfl | rfl | rfl | rfl | rfl | rfl | rfl | rfl | rfl
            all_goals (simp only [nd, sm, sn, eV]; (try simp only [u1]); omega)) : Hyp.ok eH0_w1_1 _)
      · rcases (show ((mm - 13) - y3 < 4) ∨ (4 ≤ (mm - 13) - y3) by omega) with q | q
        · exact (fun h => ⟨_, h, LT.of_bare esg0_w2_0 (evc0_w2_0 x0 x1 Y1 mm nn y2 y3 y4 y5 y6 y7 y8 Bx Cx Dx Fx Gx Z5 Z6 hB hJ h)⟩) (Hyp.more hok2 _ _
           (fun p hp => by
            simp only [eE0_w2_0, eQ0_w2_0, List.mem_cons, List.not_mem_nil, or_false] at hp
            rcases hp with rfl | rfl | rfl | rfl | rfl
            all_goals (simp only [inR, nd, sm, sn, eV]; (try simp only [u1]); omega))
           (fun p hp => by
            simp only [eE0_w2_0, eQ0_w2_0, List.mem_cons, List.not_mem_nil, or_false] at hp
            rcases hp with rfl | rfl | rfl
            all_goals (simp only [nd, sm, sn, eV]; (try simp only [u1]); omega)) : Hyp.ok eH0_w2_0 _)
        · exact (fun h => ⟨_, h, LT.of_bare esg0_w2_1 (evc0_w2_1 x0 x1 Y1 mm nn y2 y3 y4 y5 y6 y7 y8 Bx Cx Dx Fx Gx Z5 Z6 hB hJ h)⟩) (Hyp.more hok2 _ _
           (fun p hp => by
            simp only [eE0_w2_1, eQ0_w2_1, List.mem_cons, List.not_mem_nil, or_false] at hp
            rcases hp with rfl | rfl | rfl | rfl | rfl | rfl | rfl | rfl | rfl | rfl | rfl | rfl | rfl | rfl
            all_goals (simp only [inR, nd, sm, sn, eV]; (try simp only [u1]); omega))
           (fun p hp => by
            simp only [eE0_w2_1, eQ0_w2_1, List.mem_cons, List.not_mem_nil, or_false] at hp
            rcases hp with rfl | rfl | rfl | rfl | rfl | rfl | rfl | rfl | rfl | rfl | rfl | rfl | rfl
            all_goals (simp only [nd, sm, sn, eV]; (try simp only [u1]); omega)) : Hyp.ok eH0_w2_1 _)
      · rcases (show ((mm - 13) - y3 < 8) ∨ (8 ≤ (mm - 13) - y3) by omega) with q | q
        · exact (fun h => ⟨_, h, LT.of_bare esg0_w3_0 (evc0_w3_0 x0 x1 Y1 mm nn y2 y3 y4 y5 y6 y7 y8 Bx Cx Dx Fx Gx Z5 Z6 hB hJ h)⟩) (Hyp.more hok2 _ _
           (fun p hp => by
            simp only [eE0_w3_0, eQ0_w3_0, List.mem_cons, List.not_mem_nil, or_false] at hp
            rcases hp with rfl | rfl | rfl | rfl | rfl
            all_goals (simp only [inR, nd, sm, sn, eV]; (try simp only [u1]); omega))
           (fun p hp => by
            simp only [eE0_w3_0, eQ0_w3_0, List.mem_cons, List.not_mem_nil, or_false] at hp
            rcases hp with rfl | rfl | rfl
            all_goals (simp only [nd, sm, sn, eV]; (try simp only [u1]); omega)) : Hyp.ok eH0_w3_0 _)
        · exact (fun h => ⟨_, h, LT.of_bare esg0_w3_1 (evc0_w3_1 x0 x1 Y1 mm nn y2 y3 y4 y5 y6 y7 y8 Bx Cx Dx Fx Gx Z5 Z6 hB hJ h)⟩) (Hyp.more hok2 _ _
           (fun p hp => by
            simp only [eE0_w3_1, eQ0_w3_1, List.mem_cons, List.not_mem_nil, or_false] at hp
            rcases hp with rfl | rfl | rfl | rfl | rfl | rfl | rfl | rfl | rfl | rfl | rfl | rfl | rfl | rfl | rfl | rfl | rfl | rfl | rfl | rfl | rfl | rfl
            all_goals (simp only [inR, nd, sm, sn, eV]; (try simp only [u1]); omega))
           (fun p hp => by
            simp only [eE0_w3_1, eQ0_w3_1, List.mem_cons, List.not_mem_nil, or_false] at hp
            rcases hp with rfl | rfl | rfl | rfl | rfl | rfl | rfl | rfl | rfl | rfl | rfl | rfl | rfl | rfl | rfl | rfl | rfl | rfl | rfl | rfl | rfl
            all_goals (simp only [nd, sm, sn, eV]; (try simp only [u1]); omega)) : Hyp.ok eH0_w3_1 _)
      · rcases (show ((mm - 13) - y3 < 1) ∨ (1 ≤ (mm - 13) - y3) by omega) with q | q
        · exact (fun h => ⟨_, h, LT.of_bare esg0_w4_0 (evc0_w4_0 x0 x1 Y1 mm nn y2 y3 y4 y5 y6 y7 y8 Bx Cx Dx Fx Gx Z5 Z6 hB hJ h)⟩) (Hyp.more hok2 _ _
           (fun p hp => by
            simp only [eE0_w4_0, eQ0_w4_0, List.mem_cons, List.not_mem_nil, or_false] at hp
            rcases hp with rfl | rfl | rfl | rfl | rfl
            all_goals (simp only [inR, nd, sm, sn, eV]; (try simp only [u1]); omega))
           (fun p hp => by
            simp only [eE0_w4_0, eQ0_w4_0, List.mem_cons, List.not_mem_nil, or_false] at hp
            rcases hp with rfl | rfl | rfl
            all_goals (simp only [nd, sm, sn, eV]; (try simp only [u1]); omega)) : Hyp.ok eH0_w4_0 _)
        · rcases (show (2 ≤ Bx (y3 + 13).toNat) ∨ (Bx (y3 + 13).toNat ≤ 1) by omega) with q2 | q2
          · exact (fun h => ⟨_, h, LT.of_bare esg0_w4_1 (evc0_w4_1 x0 x1 Y1 mm nn y2 y3 y4 y5 y6 y7 y8 Bx Cx Dx Fx Gx Z5 Z6 hB hJ h)⟩) (Hyp.more hok2 _ _
             (fun p hp => by
              simp only [eE0_w4_1, eQ0_w4_1, List.mem_cons, List.not_mem_nil, or_false] at hp
              rcases hp with rfl | rfl | rfl | rfl | rfl | rfl | rfl | rfl | rfl
              all_goals (simp only [inR, nd, sm, sn, eV]; (try simp only [u1]); omega))
             (fun p hp => by
              simp only [eE0_w4_1, eQ0_w4_1, List.mem_cons, List.not_mem_nil, or_false] at hp
              rcases hp with rfl | rfl | rfl | rfl | rfl | rfl | rfl | rfl
              all_goals (simp only [nd, sm, sn, eV]; (try simp only [u1]); omega)) : Hyp.ok eH0_w4_1 _)
          · exact (fun h => ⟨_, h, LT.of_bare esg0_w4_2 (evc0_w4_2 x0 x1 Y1 mm nn y2 y3 y4 y5 y6 y7 y8 Bx Cx Dx Fx Gx Z5 Z6 hB hJ h)⟩) (Hyp.more hok2 _ _
             (fun p hp => by
              simp only [eE0_w4_2, eQ0_w4_2, List.mem_cons, List.not_mem_nil, or_false] at hp
              rcases hp with rfl | rfl | rfl | rfl | rfl | rfl | rfl | rfl | rfl
              all_goals (simp only [inR, nd, sm, sn, eV]; (try simp only [u1]); omega))
             (fun p hp => by
              simp only [eE0_w4_2, eQ0_w4_2, List.mem_cons, List.not_mem_nil, or_false] at hp
              rcases hp with rfl | rfl | rfl | rfl | rfl | rfl | rfl | rfl
              all_goals (simp only [nd, sm, sn, eV]; (try simp only [u1]); omega)) : Hyp.ok eH0_w4_2 _)
      · rcases (show ((mm - 13) - y3 < 4) ∨ (4 ≤ (mm - 13) - y3) by omega) with q | q
        · exact (fun h => ⟨_, h, LT.of_bare esg0_w5_0 (evc0_w5_0 x0 x1 Y1 mm nn y2 y3 y4 y5 y6 y7 y8 Bx Cx Dx Fx Gx Z5 Z6 hB hJ h)⟩) (Hyp.more hok2 _ _
           (fun p hp => by
            simp only [eE0_w5_0, eQ0_w5_0, List.mem_cons, List.not_mem_nil, or_false] at hp
            rcases hp with rfl | rfl | rfl | rfl | rfl
            all_goals (simp only [inR, nd, sm, sn, eV]; (try simp only [u1]); omega))
           (fun p hp => by
            simp only [eE0_w5_0, eQ0_w5_0, List.mem_cons, List.not_mem_nil, or_false] at hp
            rcases hp with rfl | rfl | rfl
            all_goals (simp only [nd, sm, sn, eV]; (try simp only [u1]); omega)) : Hyp.ok eH0_w5_0 _)
        · rcases (show (Dx y2.toNat < Bx (y3 + 16).toNat * 16777216 + Bx (y3 + 15).toNat * 65536 + Bx (y3 + 14).toNat * 256 + Bx (y3 + 13).toNat) ∨ (Bx (y3 + 16).toNat * 16777216 + Bx (y3 + 15).toNat * 65536 + Bx (y3 + 14).toNat * 256 + Bx (y3 + 13).toNat ≤ Dx y2.toNat ∧ (mm - 13) - y3 - 4 < Bx (y3 + 16).toNat * 16777216 + Bx (y3 + 15).toNat * 65536 + Bx (y3 + 14).toNat * 256 + Bx (y3 + 13).toNat) ∨ (Bx (y3 + 16).toNat * 16777216 + Bx (y3 + 15).toNat * 65536 + Bx (y3 + 14).toNat * 256 + Bx (y3 + 13).toNat ≤ Dx y2.toNat ∧ Bx (y3 + 16).toNat * 16777216 + Bx (y3 + 15).toNat * 65536 + Bx (y3 + 14).toNat * 256 + Bx (y3 + 13).toNat ≤ (mm - 13) - y3 - 4 ∧ y3 + 17 < mm) ∨ (Bx (y3 + 16).toNat * 16777216 + Bx (y3 + 15).toNat * 65536 + Bx (y3 + 14).toNat * 256 + Bx (y3 + 13).toNat ≤ Dx y2.toNat ∧ Bx (y3 + 16).toNat * 16777216 + Bx (y3 + 15).toNat * 65536 + Bx (y3 + 14).toNat * 256 + Bx (y3 + 13).toNat ≤ (mm - 13) - y3 - 4 ∧ y3 + 17 = mm) by omega) with q2 | q2 | q2 | q2
          · exact (fun h => ⟨_, h, LT.of_bare esg0_w5_1 (evc0_w5_1 x0 x1 Y1 mm nn y2 y3 y4 y5 y6 y7 y8 Bx Cx Dx Fx Gx Z5 Z6 hB hJ h)⟩) (Hyp.more hok2 _ _
             (fun p hp => by
              simp only [eE0_w5_1, eQ0_w5_1, List.mem_cons, List.not_mem_nil, or_false] at hp
              rcases hp with rfl | rfl | rfl | rfl | rfl | rfl | rfl | rfl | rfl | rfl | rfl | rfl | rfl | rfl | rfl | rfl
              all_goals (simp only [inR, nd, sm, sn, eV]; (try simp only [u1]); omega))
             (fun p hp => by
              simp only [eE0_w5_1, eQ0_w5_1, List.mem_cons, List.not_mem_nil, or_false] at hp
              rcases hp with rfl | rfl | rfl | rfl | rfl | rfl | rfl | rfl | rfl | rfl | rfl | rfl | rfl | rfl
              all_goals (simp only [nd, sm, sn, eV]; (try simp only [u1]); omega)) : Hyp.ok eH0_w5_1 _)
          · exact (fun h => ⟨_, h, LT.of_bare esg0_w5_2 (evc0_w5_2 x0 x1 Y1 mm nn y2 y3 y4 y5 y6 y7 y8 Bx Cx Dx Fx Gx Z5 Z6 hB hJ h)⟩) (Hyp.more hok2 _ _
             (fun p hp => by
              simp only [eE0_w5_2, eQ0_w5_2, List.mem_cons, List.not_mem_nil, or_false] at hp
              rcases hp with rfl | rfl | rfl | rfl | rfl | rfl | rfl | rfl | rfl | rfl | rfl | rfl | rfl | rfl | rfl | rfl | rfl | rfl
              all_goals (simp only [inR, nd, sm, sn, eV]; (try simp only [u1]); omega))
             (fun p hp => by
              simp only [eE0_w5_2, eQ0_w5_2, List.mem_cons, List.not_mem_nil, or_false] at hp
              rcases hp with rfl | rfl | rfl | rfl | rfl | rfl | rfl | rfl | rfl | rfl | rfl | rfl | rfl | rfl | rfl | rfl
              all_goals (simp only [nd, sm, sn, eV]; (try simp only [u1]); omega)) : Hyp.ok eH0_w5_2 _)
          · exact (fun h => ⟨_, h, LT.of_bare esg0_w5_3 (evc0_w5_3 x0 x1 Y1 mm nn y2 y3 y4 y5 y6 y7 y8 Bx Cx Dx Fx Gx Z5 Z6 hB hJ h)⟩) (Hyp.more hok2 _ _
             (fun p hp => by
              simp only [eE0_w5_3, eQ0_w5_3, List.mem_cons, List.not_mem_nil, or_false] at hp
              rcases hp with rfl | rfl | rfl | rfl | rfl | rfl | rfl | rfl | rfl | rfl | rfl | rfl | rfl | rfl | rfl | rfl | rfl | rfl | rfl | rfl | rfl
              all_goals (simp only [inR, nd, sm, sn, eV]; (try simp only [u1]); omega))
             (fun p hp => by
              simp only [eE0_w5_3, eQ0_w5_3, List.mem_cons, List.not_mem_nil, or_false] at hp
              rcases hp with rfl | rfl | rfl | rfl | rfl | rfl | rfl | rfl | rfl | rfl | rfl | rfl | rfl | rfl | rfl | rfl | rfl | rfl | rfl | rfl
              all_goals (simp only [nd, sm, sn, eV]; (try simp only [u1]); omega)) : Hyp.ok eH0_w5_3 _)
          · exact (fun h => ⟨_, h, LT.of_bare esg0_w5_5 (evc0_w5_5 x0 x1 Y1 mm nn y2 y3 y4 y5 y6 y7 y8 Bx Cx Dx Fx Gx Z5 Z6 hB hJ h)⟩) (Hyp.more hok2 _ _
             (fun p hp => by
              simp only [eE0_w5_5, eQ0_w5_5, List.mem_cons, List.not_mem_nil, or_false] at hp
              rcases hp with rfl | rfl | rfl | rfl | rfl | rfl | rfl | rfl | rfl | rfl | rfl | rfl | rfl | rfl | rfl | rfl | rfl | rfl | rfl | rfl | rfl
              all_goals (simp only [inR, nd, sm, sn, eV]; (try simp only [u1]); omega))
             (fun p hp => by
              simp only [eE0_w5_5, eQ0_w5_5, List.mem_cons, List.not_mem_nil, or_false] at hp
              rcases hp with rfl | rfl | rfl | rfl | rfl | rfl | rfl | rfl | rfl | rfl | rfl | rfl | rfl | rfl | rfl | rfl | rfl | rfl | rfl | rfl | rfl | rfl
              all_goals (simp only [nd, sm, sn, eV]; (try simp only [u1]); omega)) : Hyp.ok eH0_w5_5 _)
      · rcases (show ((mm - 13) - y3 < 5) ∨ (5 ≤ (mm - 13) - y3) by omega) with q | q
        · exact (fun h => ⟨_, h, LT.of_bare esg0_w6_0 (evc0_w6_0 x0 x1 Y1 mm nn y2 y3 y4 y5 y6 y7 y8 Bx Cx Dx Fx Gx Z5 Z6 hB hJ h)⟩) (Hyp.more hok2 _ _
           (fun p hp => by
            simp only [eE0_w6_0, eQ0_w6_0, List.mem_cons, List.not_mem_nil, or_false] at hp
            rcases hp with rfl | rfl | rfl | rfl | rfl
            all_goals (simp only [inR, nd, sm, sn, eV]; (try simp only [u1]); omega))
           (fun p hp => by
            simp only [eE0_w6_0, eQ0_w6_0, List.mem_cons, List.not_mem_nil, or_false] at hp
            rcases hp with rfl | rfl | rfl
            all_goals (simp only [nd, sm, sn, eV]; (try simp only [u1]); omega)) : Hyp.ok eH0_w6_0 _)
        · rcases (show (¬ Bx (y3 + 13).toNat = Dx y2.toNat % 256) ∨ (Bx (y3 + 13).toNat = Dx y2.toNat % 256 ∧ (mm - 13) - y3 - 5 < Bx (y3 + 17).toNat * 16777216 + Bx (y3 + 16).toNat * 65536 + Bx (y3 + 15).toNat * 256 + Bx (y3 + 14).toNat) ∨ (Bx (y3 + 13).toNat = Dx y2.toNat % 256 ∧ Bx (y3 + 17).toNat * 16777216 + Bx (y3 + 16).toNat * 65536 + Bx (y3 + 15).toNat * 256 + Bx (y3 + 14).toNat ≤ (mm - 13) - y3 - 5) by omega) with q2 | q2 | q2
          · exact (fun h => ⟨_, h, LT.of_bare esg0_w6_1 (evc0_w6_1 x0 x1 Y1 mm nn y2 y3 y4 y5 y6 y7 y8 Bx Cx Dx Fx Gx Z5 Z6 hB hJ h)⟩) (Hyp.more hok2 _ _
             (fun p hp => by
              simp only [eE0_w6_1, eQ0_w6_1, List.mem_cons, List.not_mem_nil, or_false] at hp
              rcases hp with rfl | rfl | rfl | rfl | rfl | rfl | rfl | rfl | rfl | rfl | rfl | rfl | rfl | rfl | rfl | rfl
              all_goals (simp only [inR, nd, sm, sn, eV]; (try simp only [u1]); omega))
             (fun p hp => by
              simp only [eE0_w6_1, eQ0_w6_1, List.mem_cons, List.not_mem_nil, or_false] at hp
              rcases hp with rfl | rfl | rfl | rfl | rfl | rfl | rfl | rfl | rfl | rfl | rfl | rfl | rfl | rfl | rfl | rfl | rfl
              all_goals (simp only [nd, sm, sn, eV]; (try simp only [u1]); omega)) : Hyp.ok eH0_w6_1 _)
          · exact (fun h => ⟨_, h, LT.of_bare esg0_w6_2 (evc0_w6_2 x0 x1 Y1 mm nn y2 y3 y4 y5 y6 y7 y8 Bx Cx Dx Fx Gx Z5 Z6 hB hJ h)⟩) (Hyp.more hok2 _ _
             (fun p hp => by
              simp only [eE0_w6_2, eQ0_w6_2, List.mem_cons, List.not_mem_nil, or_false] at hp
              rcases hp with rfl | rfl | rfl | rfl | rfl | rfl | rfl | rfl | rfl | rfl | rfl | rfl | rfl | rfl | rfl | rfl | rfl | rfl | rfl | rfl | rfl
              all_goals (simp only [inR, nd, sm, sn, eV]; (try simp only [u1]); omega))
             (fun p hp => by
              simp only [eE0_w6_2, eQ0_w6_2, List.mem_cons, List.not_mem_nil, or_false] at hp
              rcases hp with rfl | rfl | rfl | rfl | rfl | rfl | rfl | rfl | rfl | rfl | rfl | rfl | rfl | rfl | rfl | rfl | rfl | rfl
              all_goals (simp only [nd, sm, sn, eV]; (try simp only [u1]); omega)) : Hyp.ok eH0_w6_2 _)
          · exact (fun h => ⟨_, h, LT.of_bare esg0_w6_3 (evc0_w6_3 x0 x1 Y1 mm nn y2 y3 y4 y5 y6 y7 y8 Bx Cx Dx Fx Gx Z5 Z6 hB hJ h)⟩) (Hyp.more hok2 _ _
             (fun p hp => by
              simp only [eE0_w6_3, eQ0_w6_3, List.mem_cons, List.not_mem_nil, or_false] at hp
              rcases hp with rfl | rfl | rfl | rfl | rfl | rfl | rfl | rfl | rfl | rfl | rfl | rfl | rfl | rfl | rfl | rfl | rfl | rfl | rfl | rfl | rfl | rfl | rfl
              all_goals (simp only [inR, nd, sm, sn, eV]; (try simp only [u1]); omega))
             (fun p hp => by
              simp only [eE0_w6_3, eQ0_w6_3, List.mem_cons, List.not_mem_nil, or_false] at hp
              rcases hp with rfl | rfl | rfl | rfl | rfl | rfl | rfl | rfl | rfl | rfl | rfl | rfl | rfl | rfl | rfl | rfl | rfl | rfl | rfl
              all_goals (simp only [nd, sm, sn, eV]; (try simp only [u1]); omega)) : Hyp.ok eH0_w6_3 _)
      · exact (fun h => ⟨_, h, LT.of_bare esg0_w7_0 (evc0_w7_0 x0 x1 Y1 mm nn y2 y3 y4 y5 y6 y7 y8 Bx Cx Dx Fx Gx Z5 Z6 hB hJ h)⟩) (Hyp.more hok2 _ _
         (fun p hp => by
          simp only [eE0_w7_0, eQ0_w7_0, List.mem_cons, List.not_mem_nil, or_false] at hp
          rcases hp with rfl | rfl | rfl | rfl
          all_goals (simp only [inR, nd, sm, sn, eV]; (try simp only [u1]); omega))
         (fun p hp => by
          simp only [eE0_w7_0, eQ0_w7_0, List.mem_cons, List.not_mem_nil, or_false] at hp
          rcases hp with rfl | rfl
          all_goals (simp only [nd, sm, sn, eV]; (try simp only [u1]); omega)) : Hyp.ok eH0_w7_0 _)
      · exact (fun h => ⟨_, h, LT.of_bare esg0_wm_0 (evc0_wm_0 x0 x1 Y1 mm nn y2 y3 y4 y5 y6 y7 y8 Bx Cx Dx Fx Gx Z5 Z6 hB hJ h)⟩) (Hyp.more hok2 _ _
         (fun p hp => by
          simp only [eE0_wm_0, eQ0_wm_0, List.mem_cons, List.not_mem_nil, or_false] at hp
          rcases hp with rfl | rfl | rfl | rfl
          all_goals (simp only [inR, nd, sm, sn, eV]; (try simp only [u1]); omega))
         (fun p hp => by
          simp only [eE0_wm_0, eQ0_wm_0, List.mem_cons, List.not_mem_nil, or_false] at hp
          rcases hp with rfl | rfl
          all_goals (simp only [nd, sm, sn, eV]; (try simp only [u1]); omega)) : Hyp.ok eH0_wm_0 _)
    · exact (fun h => ⟨_, h, LT.of_bare esg0_x (evc0_x x0 x1 Y1 mm nn y2 y3 y4 y5 y6 y7 y8 Bx Cx Dx Fx Gx Z5 Z6 hB hJ h)⟩) (Hyp.more hok2 _ _
       (fun p hp => by cases hp)
       (fun p hp => by
        simp only [eE0_x, eQ0_x, List.mem_cons, List.not_mem_nil, or_false] at hp
        rcases hp with rfl
        all_goals (simp only [nd, sm, sn, eV]; (try simp only [u1]); omega)) : Hyp.ok eH0_x _)
  · simp only [ehs, List.getElem?_cons_zero, List.getElem?_cons_succ, Option.some.injEq] at hj; subst hj
    obtain ⟨mm, nn, y2, y3, y4, y5, y6, y7, y8, Bx, Cx, Dx, Fx, Gx, Z5, Z6, rfl, hB, hJ⟩ := hInv
    have hok2 : Hyp.ok eh1.H (⟨[mm, nn, y2, y3, y4, y5, y6, y7, y8], [], [Bx, Cx, Dx, Fx, Gx, Z5, Z6], [], Iv (fun i j => match i, j with | 0, 0 => x0 | 1, 0 => x1 | 2, j => Y1 j | _, _ => Ext.none)⟩ : Env) := by
      have hB2 := hB; have hJ2 := hJ
      simp only [eBase] at hB2; simp only [eJ1] at hJ2
      obtain ⟨hb0, hb1, hb2, hb3, hb4, hb5, hb6, hn0, hn1, ha0_0, ha1_0, ha1_1, ha1_2, ha1_3, hsum1, hex0, _⟩ := hB2
      obtain ⟨hl0, hl1, hl2, hl3, hl4, hl5, hl6, hl7, hl8, hx, _⟩ := hJ2
      refine ⟨?_, ?_, ?_, (fun p hp is bs xs => by simp only [eh1, List.mem_cons, List.not_mem_nil, or_false] at hp; subst hp; exact sumF_rng _ _), ?_, by simp [eh1]⟩
      · intro p hp
        simp only [eh1, List.mem_cons, List.not_mem_nil, or_false] at hp
        rcases hp with rfl | rfl
        · exact xi_ok g0 rfl hn0 ha0_0
        · exact (xi_okP (n := .v 1) g1 rfl (fun _ => rfl) hn1 ha1_0 ha1_1 ha1_2 ha1_3)
      · intro p hp
        simp only [eh1, List.mem_cons, List.not_mem_nil, or_false] at hp
        rcases hp with rfl | rfl | rfl | rfl | rfl | rfl | rfl | rfl | rfl | rfl
        · exact (by have hx := hex0; first | exact ⟨Int.le_of_eq hx.symm, Int.le_of_eq hx⟩ | exact hx)
        · exact hb0
        · exact hb1
        · exact hl0
        · exact hl1
        · exact hl2
        · exact hl3
        · exact hl4
        · exact hl5
        · exact hl6
      · intro p hp
        simp only [eh1, List.mem_cons, List.not_mem_nil, or_false] at hp
        rcases hp with rfl | rfl | rfl | rfl | rfl | rfl | rfl
        · exact hb2
        · exact hb3
        · exact hb4
        · exact hb5
        · exact hb6
        · exact hl7
        · exact hl8
      · simp [eh1]
    have hB3 := hB
    have hJ3 := hJ
    simp only [eBase] at hB3
    obtain ⟨b0, b1, c0, c1, c2, c3, c4, en0, en1, ea0, ea1, ea2, ea3, ea4, hs, hx0, _⟩ := hB3
    simp only [eJ1] at hJ3
    obtain ⟨l2, l3, l4, l5, l6, l7, l8, m5, m6, i1, i2, i3, i4, i5, hq, _⟩ := hJ3
    have u1 : (y4 + -1).toNat = y8.toNat := by omega
    have u2 : (y4 + -2).toNat = (y8 + -1).toNat := by omega
    have u3 := hq (y8 + -1).toNat
    have u4 : 1 ≤ y8 → (y8 + -1).toNat + 1 = y8.toNat := by omega
    have u5 : (y8 + 1).toNat = y8.toNat + 1 := by omega
    have u6 : y4.toNat = y8.toNat + 1 := by omega
    have u7 := m5 y8.toNat
    have u8 := m5 (y8 + -1).toNat
    have u9 : 1 ≤ y8 → Z5 ((y8 + -1).toNat + 1) = Z5 y8.toNat := fun h => by rw [u4 h]
    have d13 := c0 (y6 + 13).toNat
    have d14 := c0 (y6 + 14).toNat
    have d15 := c0 (y6 + 15).toNat
    have d16 := c0 (y6 + 16).toNat
    have d17 := c0 (y6 + 17).toNat
    have dw := c1 y5.toNat
    have dn := c2 y5.toNat
    rcases (show (y5 < nn) ∨ (¬ y5 < nn) by omega) with g | g
    · rcases (show (Cx y5.toNat = 0) ∨ (Cx y5.toNat = 1) ∨ (Cx y5.toNat = 2) ∨ (Cx y5.toNat = 3) ∨ (Cx y5.toNat = 4) ∨ (Cx y5.toNat = 5) ∨ (Cx y5.toNat = 6) ∨ (7 ≤ Cx y5.toNat ∧ Cx y5.toNat ≤ 9223372036854775807) ∨ (-9223372036854775808 ≤ Cx y5.toNat ∧ Cx y5.toNat ≤ -1) by omega) with hw | hw | hw | hw | hw | hw | hw | hw | hw
      · rcases (show (y7 - y6 < 1) ∨ (1 ≤ y7 - y6) by omega) with q | q
        · exact (fun h => ⟨_, h, LT.of_bare esg1_w0_0 (evc1_w0_0 x0 x1 Y1 mm nn y2 y3 y4 y5 y6 y7 y8 Bx Cx Dx Fx Gx Z5 Z6 hB hJ h)⟩) (Hyp.more hok2 _ _
           (fun p hp => by
            simp only [eE1_w0_0, eQ1_w0_0, List.mem_cons, List.not_mem_nil, or_false] at hp
            rcases hp with rfl | rfl | rfl | rfl | rfl | rfl | rfl | rfl
            all_goals (simp only [inR, nd, sm, sn, eV]; (try simp only [u1]); omega))
           (fun p hp => by
            simp only [eE1_w0_0, eQ1_w0_0, List.mem_cons, List.not_mem_nil, or_false] at hp
            rcases hp with rfl | rfl | rfl | rfl | rfl | rfl
            all_goals (simp only [nd, sm, sn, eV]; (try simp only [u1]); omega)) : Hyp.ok eH1_w0_0 _)
        · exact (fun h => ⟨_, h, LT.of_bare esg1_w0_1 (evc1_w0_1 x0 x1 Y1 mm nn y2 y3 y4 y5 y6 y7 y8 Bx Cx Dx Fx Gx Z5 Z6 hB hJ h)⟩) (Hyp.more hok2 _ _
           (fun p hp => by
            simp only [eE1_w0_1, eQ1_w0_1, List.mem_cons, List.not_mem_nil, or_false] at hp
            rcases hp with rfl | rfl | rfl | rfl | rfl | rfl | rfl | rfl | rfl | rfl | rfl
            all_goals (simp only [inR, nd, sm, sn, eV]; (try simp only [u1]); omega))
           (fun p hp => by
            simp only [eE1_w0_1, eQ1_w0_1, List.mem_cons, List.not_mem_nil, or_false] at hp
            rcases hp with rfl | rfl | rfl | rfl | rfl | rfl | rfl | rfl | rfl | rfl
            all_goals (simp only [nd, sm, sn, eV]; (try simp only [u1]); omega)) : Hyp.ok eH1_w0_1 _)
      · rcases (show (y7 - y6 < 2) ∨ (2 ≤ y7 - y6) by omega) with q | q
        · exact (fun h => ⟨_, h, LT.of_bare esg1_w1_0 (evc1_w1_0 x0 x1 Y1 mm nn y2 y3 y4 y5 y6 y7 y8 Bx Cx Dx Fx Gx Z5 Z6 hB hJ h)⟩) (Hyp.more hok2 _ _
           (fun p hp => by
            simp only [eE1_w1_0, eQ1_w1_0, List.mem_cons, List.not_mem_nil, or_false] at hp
            rcases hp with rfl | rfl | rfl | rfl | rfl | rfl | rfl | rfl
            all_goals (simp only [inR, nd, sm, sn, eV]; (try simp only [u1]); omega))
           (fun p hp => by
            simp only [eE1_w1_0, eQ1_w1_0, List.mem_cons, List.not_mem_nil, or_false] at hp
            rcases hp with rfl | rfl | rfl | rfl | rfl | rfl
            all_goals (simp only [nd, sm, sn, eV]; (try simp only [u1]); omega)) : Hyp.ok eH1_w1_0 _)
        · exact (fun h => ⟨_, h, LT.of_bare esg1_w1_1 (evc1_w1_1 x0 x1 Y1 mm nn y2 y3 y4 y5 y6 y7 y8 Bx Cx Dx Fx Gx Z5 Z6 hB hJ h)⟩) (Hyp.more hok2 _ _
           (fun p hp => by
            simp only [eE1_w1_1, eQ1_w1_1, List.mem_cons, List.not_mem_nil, or_false] at hp
            rcases hp with rfl | rfl | rfl | rfl | rfl | rfl | rfl | rfl | rfl | rfl | rfl | rfl | rfl
            all_goals (simp only [inR, nd, sm, sn, eV]; (try simp only [u1]); omega))
           (fun p hp => by
            simp only [eE1_w1_1, eQ1_w1_1, List.mem_cons, List.not_mem_nil, or_false] at hp
            rcases hp with rfl | rfl | rfl | rfl | rfl | rfl | rfl | rfl | rfl | rfl | rfl | rfl
            all_goals (simp only [nd, sm, sn, eV]; (try simp only [u1]); omega)) : Hyp.ok eH1_w1_1 _)
      · rcases (show (y7 - y6 < 4) ∨ (4 ≤ y7 - y6) by omega) with q | q
        · exact (fun h => ⟨_, h, LT.of_bare esg1_w2_0 (evc1_w2_0 x0 x1 Y1 mm nn y2 y3 y4 y5 y6 y7 y8 Bx Cx Dx Fx Gx Z5 Z6 hB hJ h)⟩) (Hyp.more hok2 _ _
           (fun p hp => by
            simp only [eE1_w2_0, eQ1_w2_0, List.mem_cons, List.not_mem_nil, or_false] at hp
            rcases hp with rfl | rfl | rfl | rfl | rfl | rfl | rfl | rfl
            all_goals (simp only [inR, nd, sm, sn, eV]; (try simp only [u1]); omega))
           (fun p hp => by
            simp only [eE1_w2_0, eQ1_w2_0, List.mem_cons, List.not_mem_nil, or_false] at hp
            rcases hp with rfl | rfl | rfl | rfl | rfl | rfl
            all_goals (simp only [nd, sm, sn, eV]; (try simp only [u1]); omega)) : Hyp.ok eH1_w2_0 _)
        · exact (fun h => ⟨_, h, LT.of_bare esg1_w2_1 (evc1_w2_1 x0 x1 Y1 mm nn y2 y3 y4 y5 y6 y7 y8 Bx Cx Dx Fx Gx Z5 Z6 hB hJ h)⟩) (Hyp.more hok2 _ _
           (fun p hp => by
            simp only [eE1_w2_1, eQ1_w2_1, List.mem_cons, List.not_mem_nil, or_false] at hp
            rcases hp with rfl | rfl | rfl | rfl | rfl | rfl | rfl | rfl | rfl | rfl | rfl | rfl | rfl | rfl | rfl | rfl | rfl
            all_goals (simp only [inR, nd, sm, sn, eV]; (try simp only [u1]); omega))
           (fun p hp => by
            simp only [eE1_w2_1, eQ1_w2_1, List.mem_cons, List.not_mem_nil, or_false] at hp
            rcases hp with rfl | rfl | rfl | rfl | rfl | rfl | rfl | rfl | rfl | rfl | rfl | rfl | rfl | rfl | rfl | rfl
            all_goals (simp only [nd, sm, sn, eV]; (try simp only [u1]); omega)) : Hyp.ok eH1_w2_1 _)
      · rcases (show (y7 - y6 < 8) ∨ (8 ≤ y7 - y6) by omega) with q | q
        · exact (fun h => ⟨_, h, LT.of_bare esg1_w3_0 (evc1_w3_0 x0 x1 Y1 mm nn y2 y3 y4 y5 y6 y7 y8 Bx Cx Dx Fx Gx Z5 Z6 hB hJ h)⟩) (Hyp.more hok2 _ _
           (fun p hp => by
            simp only [eE1_w3_0, eQ1_w3_0, List.mem_cons, List.not_mem_nil, or_false] at hp
            rcases hp with rfl | rfl | rfl | rfl | rfl | rfl | rfl | rfl
            all_goals (simp only [inR, nd, sm, sn, eV]; (try simp only [u1]); omega))
           (fun p hp => by
            simp only [eE1_w3_0, eQ1_w3_0, List.mem_cons, List.not_mem_nil, or_false] at hp
            rcases hp with rfl | rfl | rfl | rfl | rfl | rfl
            all_goals (simp only [nd, sm, sn, eV]; (try simp only [u1]); omega)) : Hyp.ok eH1_w3_0 _)
        · exact (fun h => ⟨_, h, LT.of_bare esg1_w3_1 (evc1_w3_1 x0 x1 Y1 mm nn y2 y3 y4 y5 y6 y7 y8 Bx Cx Dx Fx Gx Z5 Z6 hB hJ h)⟩) (Hyp.more hok2 _ _
           (fun p hp => by
            simp only [eE1_w3_1, eQ1_w3_1, List.mem_cons, List.not_mem_nil, or_false] at hp
            rcases hp with rfl | rfl | rfl | rfl | rfl | rfl | rfl | rfl | rfl | rfl | rfl | rfl | rfl | rfl | rfl | rfl | rfl | rfl | rfl | rfl | rfl | rfl | rfl | rfl | rfl
            all_goals (simp only [inR, nd, sm, sn, eV]; (try simp only [u1]); omega))
           (fun p hp => by
            simp only [eE1_w3_1, eQ1_w3_1, List.mem_cons, List.not_mem_nil, or_false] at hp
            rcases hp with rfl | rfl | rfl | rfl | rfl | rfl | rfl | rfl | rfl | rfl | rfl | rfl | rfl | rfl | rfl | rfl | rfl | rfl | rfl | rfl | rfl | rfl | rfl | rfl
            all_goals (simp only [nd, sm, sn, eV]; (try simp only [u1]); omega)) : Hyp.ok eH1_w3_1 _)
      · rcases (show (y7 - y6 < 1) ∨ (1 ≤ y7 - y6) by omega) with q | q
        · exact (fun h => ⟨_, h, LT.of_bare esg1_w4_0 (evc1_w4_0 x0 x1 Y1 mm nn y2 y3 y4 y5 y6 y7 y8 Bx Cx Dx Fx Gx Z5 Z6 hB hJ h)⟩) (Hyp.more hok2 _ _
           (fun p hp => by
            simp only [eE1_w4_0, eQ1_w4_0, List.mem_cons, List.not_mem_nil, or_false] at hp
            rcases hp with rfl | rfl | rfl | rfl | rfl | rfl | rfl | rfl
            all_goals (simp only [inR, nd, sm, sn, eV]; (try simp only [u1]); omega))
           (fun p hp => by
            simp only [eE1_w4_0, eQ1_w4_0, List.mem_cons, List.not_mem_nil, or_false] at hp
            rcases hp with rfl | rfl | rfl | rfl | rfl | rfl
            all_goals (simp only [nd, sm, sn, eV]; (try simp only [u1]); omega)) : Hyp.ok eH1_w4_0 _)
        · rcases (show (2 ≤ Bx (y6 + 13).toNat) ∨ (Bx (y6 + 13).toNat ≤ 1) by omega) with q2 | q2
          · exact (fun h => ⟨_, h, LT.of_bare esg1_w4_1 (evc1_w4_1 x0 x1 Y1 mm nn y2 y3 y4 y5 y6 y7 y8 Bx Cx Dx Fx Gx Z5 Z6 hB hJ h)⟩) (Hyp.more hok2 _ _
             (fun p hp => by
              simp only [eE1_w4_1, eQ1_w4_1, List.mem_cons, List.not_mem_nil, or_false] at hp
              rcases hp with rfl | rfl | rfl | rfl | rfl | rfl | rfl | rfl | rfl | rfl | rfl | rfl
              all_goals (simp only [inR, nd, sm, sn, eV]; (try simp only [u1]); omega))
             (fun p hp => by
              simp only [eE1_w4_1, eQ1_w4_1, List.mem_cons, List.not_mem_nil, or_false] at hp
              rcases hp with rfl | rfl | rfl | rfl | rfl | rfl | rfl | rfl | rfl | rfl | rfl
              all_goals (simp only [nd, sm, sn, eV]; (try simp only [u1]); omega)) : Hyp.ok eH1_w4_1 _)
          · exact (fun h => ⟨_, h, LT.of_bare esg1_w4_2 (evc1_w4_2 x0 x1 Y1 mm nn y2 y3 y4 y5 y6 y7 y8 Bx Cx Dx Fx Gx Z5 Z6 hB hJ h)⟩) (Hyp.more hok2 _ _
             (fun p hp => by
              simp only [eE1_w4_2, eQ1_w4_2, List.mem_cons, List.not_mem_nil, or_false] at hp
              rcases hp with rfl | rfl | rfl | rfl | rfl | rfl | rfl | rfl | rfl | rfl | rfl | rfl
              all_goals (simp only [inR, nd, sm, sn, eV]; (try simp only [u1]); omega))
             (fun p hp => by
              simp only [eE1_w4_2, eQ1_w4_2, List.mem_cons, List.not_mem_nil, or_false] at hp
              rcases hp with rfl | rfl | rfl | rfl | rfl | rfl | rfl | rfl | rfl | rfl | rfl
              all_goals (simp only [nd, sm, sn, eV]; (try simp only [u1]); omega)) : Hyp.ok eH1_w4_2 _)
      · rcases (show (y7 - y6 < 4) ∨ (4 ≤ y7 - y6) by omega) with q | q
        · exact (fun h => ⟨_, h, LT.of_bare esg1_w5_0 (evc1_w5_0 x0 x1 Y1 mm nn y2 y3 y4 y5 y6 y7 y8 Bx Cx Dx Fx Gx Z5 Z6 hB hJ h)⟩) (Hyp.more hok2 _ _
           (fun p hp => by
            simp only [eE1_w5_0, eQ1_w5_0, List.mem_cons, List.not_mem_nil, or_false] at hp
            rcases hp with rfl | rfl | rfl | rfl | rfl | rfl | rfl | rfl
            all_goals (simp only [inR, nd, sm, sn, eV]; (try simp only [u1]); omega))
           (fun p hp => by
            simp only [eE1_w5_0, eQ1_w5_0, List.mem_cons, List.not_mem_nil, or_false] at hp
            rcases hp with rfl | rfl | rfl | rfl | rfl | rfl
            all_goals (simp only [nd, sm, sn, eV]; (try simp only [u1]); omega)) : Hyp.ok eH1_w5_0 _)
        · rcases (show (Dx y5.toNat < Bx (y6 + 16).toNat * 16777216 + Bx (y6 + 15).toNat * 65536 + Bx (y6 + 14).toNat * 256 + Bx (y6 + 13).toNat) ∨ (Bx (y6 + 16).toNat * 16777216 + Bx (y6 + 15).toNat * 65536 + Bx (y6 + 14).toNat * 256 + Bx (y6 + 13).toNat ≤ Dx y5.toNat ∧ y7 - y6 - 4 < Bx (y6 + 16).toNat * 16777216 + Bx (y6 + 15).toNat * 65536 + Bx (y6 + 14).toNat * 256 + Bx (y6 + 13).toNat) ∨ (Bx (y6 + 16).toNat * 16777216 + Bx (y6 + 15).toNat * 65536 + Bx (y6 + 14).toNat * 256 + Bx (y6 + 13).toNat ≤ Dx y5.toNat ∧ Bx (y6 + 16).toNat * 16777216 + Bx (y6 + 15).toNat * 65536 + Bx (y6 + 14).toNat * 256 + Bx (y6 + 13).toNat ≤ y7 - y6 - 4 ∧ y6 + 17 < mm) ∨ (Bx (y6 + 16).toNat * 16777216 + Bx (y6 + 15).toNat * 65536 + Bx (y6 + 14).toNat * 256 + Bx (y6 + 13).toNat ≤ Dx y5.toNat ∧ Bx (y6 + 16).toNat * 16777216 + Bx (y6 + 15).toNat * 65536 + Bx (y6 + 14).toNat * 256 + Bx (y6 + 13).toNat ≤ y7 - y6 - 4 ∧ y6 + 17 = mm) by omega) with q2 | q2 | q2 | q2
          · exact (fun h => ⟨_, h, LT.of_bare esg1_w5_1 (evc1_w5_1 x0 x1 Y1 mm nn y2 y3 y4 y5 y6 y7 y8 Bx Cx Dx Fx Gx Z5 Z6 hB hJ h)⟩) (Hyp.more hok2 _ _
             (fun p hp => by
              simp only [eE1_w5_1, eQ1_w5_1, List.mem_cons, List.not_mem_nil, or_false] at hp
              rcases hp with rfl | rfl | rfl | rfl | rfl | rfl | rfl | rfl | rfl | rfl | rfl | rfl | rfl | rfl | rfl | rfl | rfl | rfl | rfl
              all_goals (simp only [inR, nd, sm, sn, eV]; (try simp only [u1]); omega))
             (fun p hp => by
              simp only [eE1_w5_1, eQ1_w5_1, List.mem_cons, List.not_mem_nil, or_false] at hp
              rcases hp with rfl | rfl | rfl | rfl | rfl | rfl | rfl | rfl | rfl | rfl | rfl | rfl | rfl | rfl | rfl | rfl | rfl
              all_goals (simp only [nd, sm, sn, eV]; (try simp only [u1]); omega)) : Hyp.ok eH1_w5_1 _)
          · exact (fun h => ⟨_, h, LT.of_bare esg1_w5_2 (evc1_w5_2 x0 x1 Y1 mm nn y2 y3 y4 y5 y6 y7 y8 Bx Cx Dx Fx Gx Z5 Z6 hB hJ h)⟩) (Hyp.more hok2 _ _
             (fun p hp => by
              simp only [eE1_w5_2, eQ1_w5_2, List.mem_cons, List.not_mem_nil, or_false] at hp
              rcases hp with rfl | rfl | rfl | rfl | rfl | rfl | rfl | rfl | rfl | rfl | rfl | rfl | rfl | rfl | rfl | rfl | rfl | rfl | rfl | rfl | rfl
              all_goals (simp only [inR, nd, sm, sn, eV]; (try simp only [u1]); omega))
             (fun p hp => by
              simp only [eE1_w5_2, eQ1_w5_2, List.mem_cons, List.not_mem_nil, or_false] at hp
              rcases hp with rfl | rfl | rfl | rfl | rfl | rfl | rfl | rfl | rfl | rfl | rfl | rfl | rfl | rfl | rfl | rfl | rfl | rfl | rfl
              all_goals (simp only [nd, sm, sn, eV]; (try simp only [u1]); omega)) : Hyp.ok eH1_w5_2 _)
          · exact (fun h => ⟨_, h, LT.of_bare esg1_w5_3 (evc1_w5_3 x0 x1 Y1 mm nn y2 y3 y4 y5 y6 y7 y8 Bx Cx Dx Fx Gx Z5 Z6 hB hJ h)⟩) (Hyp.more hok2 _ _
             (fun p hp => by
              simp only [eE1_w5_3, eQ1_w5_3, List.mem_cons, List.not_mem_nil, or_false] at hp
              rcases hp with rfl | rfl | rfl | rfl | rfl | rfl | rfl | rfl | rfl | rfl | rfl | rfl | rfl | rfl | rfl | rfl | rfl | rfl | rfl | rfl | rfl | rfl | rfl | rfl
              all_goals (simp only [inR, nd, sm, sn, eV]; (try simp only [u1]); omega))
             (fun p hp => by
              simp only [eE1_w5_3, eQ1_w5_3, List.mem_cons, List.not_mem_nil, or_false] at hp
              rcases hp with rfl | rfl | rfl | rfl | rfl | rfl | rfl | rfl | rfl | rfl | rfl | rfl | rfl | rfl | rfl | rfl | rfl | rfl | rfl | rfl | rfl | rfl | rfl
              all_goals (simp only [nd, sm, sn, eV]; (try simp only [u1]); omega)) : Hyp.ok eH1_w5_3 _)
          · exact (fun h => ⟨_, h, LT.of_bare esg1_w5_5 (evc1_w5_5 x0 x1 Y1 mm nn y2 y3 y4 y5 y6 y7 y8 Bx Cx Dx Fx Gx Z5 Z6 hB hJ h)⟩) (Hyp.more hok2 _ _
             (fun p hp => by
              simp only [eE1_w5_5, eQ1_w5_5, List.mem_cons, List.not_mem_nil, or_false] at hp
              rcases hp with rfl | rfl | rfl | rfl | rfl | rfl | rfl | rfl | rfl | rfl | rfl | rfl | rfl | rfl | rfl | rfl | rfl | rfl | rfl | rfl | rfl | rfl | rfl | rfl
              all_goals (simp only [inR, nd, sm, sn, eV]; (try simp only [u1]); omega))
             (fun p hp => by
              simp only [eE1_w5_5, eQ1_w5_5, List.mem_cons, List.not_mem_nil, or_false] at hp
              rcases hp with rfl | rfl | rfl | rfl | rfl | rfl | rfl | rfl | rfl | rfl | rfl | rfl | rfl | rfl | rfl | rfl | rfl | rfl | rfl | rfl | rfl | rfl | rfl | rfl | rfl
              all_goals (simp only [nd, sm, sn, eV]; (try simp only [u1]); omega)) : Hyp.ok eH1_w5_5 _)
      · rcases (show (y8 = 16) ∨ (0 ≤ y8 ∧ y8 ≤ 15) by omega) with qn | qn
        · exact (fun h => ⟨_, h, LT.of_bare esg1_w6_4 (evc1_w6_4 x0 x1 Y1 mm nn y2 y3 y4 y5 y6 y7 y8 Bx Cx Dx Fx Gx Z5 Z6 hB hJ h)⟩) (Hyp.more hok2 _ _
           (fun p hp => by
            simp only [eE1_w6_4, eQ1_w6_4, List.mem_cons, List.not_mem_nil, or_false] at hp
            rcases hp with rfl | rfl | rfl | rfl | rfl | rfl | rfl | rfl
            all_goals (simp only [inR, nd, sm, sn, eV]; (try simp only [u1]); omega))
           (fun p hp => by
            simp only [eE1_w6_4, eQ1_w6_4, List.mem_cons, List.not_mem_nil, or_false] at hp
            rcases hp with rfl | rfl | rfl | rfl
            all_goals (simp only [nd, sm, sn, eV]; (try simp only [u1]); omega)) : Hyp.ok eH1_w6_4 _)
        · rcases (show (y7 - y6 < 5) ∨ (5 ≤ y7 - y6) by omega) with q | q
          · exact (fun h => ⟨_, h, LT.of_bare esg1_w6_0 (evc1_w6_0 x0 x1 Y1 mm nn y2 y3 y4 y5 y6 y7 y8 Bx Cx Dx Fx Gx Z5 Z6 hB hJ h)⟩) (Hyp.more hok2 _ _
             (fun p hp => by
              simp only [eE1_w6_0, eQ1_w6_0, List.mem_cons, List.not_mem_nil, or_false] at hp
              rcases hp with rfl | rfl | rfl | rfl | rfl | rfl | rfl | rfl | rfl | rfl
              all_goals (simp only [inR, nd, sm, sn, eV]; (try simp only [u1]); omega))
             (fun p hp => by
              simp only [eE1_w6_0, eQ1_w6_0, List.mem_cons, List.not_mem_nil, or_false] at hp
              rcases hp with rfl | rfl | rfl | rfl | rfl | rfl
              all_goals (simp only [nd, sm, sn, eV]; (try simp only [u1]); omega)) : Hyp.ok eH1_w6_0 _)
          · rcases (show (¬ Bx (y6 + 13).toNat = Dx y5.toNat % 256) ∨ (Bx (y6 + 13).toNat = Dx y5.toNat % 256 ∧ y7 - y6 - 5 < Bx (y6 + 17).toNat * 16777216 + Bx (y6 + 16).toNat * 65536 + Bx (y6 + 15).toNat * 256 + Bx (y6 + 14).toNat) ∨ (Bx (y6 + 13).toNat = Dx y5.toNat % 256 ∧ Bx (y6 + 17).toNat * 16777216 + Bx (y6 + 16).toNat * 65536 + Bx (y6 + 15).toNat * 256 + Bx (y6 + 14).toNat ≤ y7 - y6 - 5) by omega) with q2 | q2 | q2
            · exact (fun h => ⟨_, h, LT.of_bare esg1_w6_1 (evc1_w6_1 x0 x1 Y1 mm nn y2 y3 y4 y5 y6 y7 y8 Bx Cx Dx Fx Gx Z5 Z6 hB hJ h)⟩) (Hyp.more hok2 _ _
               (fun p hp => by
                simp only [eE1_w6_1, eQ1_w6_1, List.mem_cons, List.not_mem_nil, or_false] at hp
                rcases hp with rfl | rfl | rfl | rfl | rfl | rfl | rfl | rfl | rfl | rfl | rfl | rfl | rfl | rfl | rfl | rfl | rfl | rfl | rfl | rfl | rfl
                all_goals (simp only [inR, nd, sm, sn, eV]; (try simp only [u1]); omega))
               (fun p hp => by
                simp only [eE1_w6_1, eQ1_w6_1, List.mem_cons, List.not_mem_nil, or_false] at hp
                rcases hp with rfl | rfl | rfl | rfl | rfl | rfl | rfl | rfl | rfl | rfl | rfl | rfl | rfl | rfl | rfl | rfl | rfl | rfl | rfl | rfl
                all_goals (simp only [nd, sm, sn, eV]; (try simp only [u1]); omega)) : Hyp.ok eH1_w6_1 _)
            · exact (fun h => ⟨_, h, LT.of_bare esg1_w6_2 (evc1_w6_2 x0 x1 Y1 mm nn y2 y3 y4 y5 y6 y7 y8 Bx Cx Dx Fx Gx Z5 Z6 hB hJ h)⟩) (Hyp.more hok2 _ _
               (fun p hp => by
                simp only [eE1_w6_2, eQ1_w6_2, List.mem_cons, List.not_mem_nil, or_false] at hp
                rcases hp with rfl | rfl | rfl | rfl | rfl | rfl | rfl | rfl | rfl | rfl | rfl | rfl | rfl | rfl | rfl | rfl | rfl | rfl | rfl | rfl | rfl | rfl | rfl | rfl | rfl | rfl
                all_goals (simp only [inR, nd, sm, sn, eV]; (try simp only [u1]); omega))
               (fun p hp => by
                simp only [eE1_w6_2, eQ1_w6_2, List.mem_cons, List.not_mem_nil, or_false] at hp
                rcases hp with rfl | rfl | rfl | rfl | rfl | rfl | rfl | rfl | rfl | rfl | rfl | rfl | rfl | rfl | rfl | rfl | rfl | rfl | rfl | rfl | rfl
                all_goals (simp only [nd, sm, sn, eV]; (try simp only [u1]); omega)) : Hyp.ok eH1_w6_2 _)
            · exact (fun h => ⟨_, h, LT.of_bare esg1_w6_3 (evc1_w6_3 x0 x1 Y1 mm nn y2 y3 y4 y5 y6 y7 y8 Bx Cx Dx Fx Gx Z5 Z6 hB hJ h)⟩) (Hyp.more hok2 _ _
               (fun p hp => by
                simp only [eE1_w6_3, eQ1_w6_3, List.mem_cons, List.not_mem_nil, or_false] at hp
                rcases hp with rfl | rfl | rfl | rfl | rfl | rfl | rfl | rfl | rfl | rfl | rfl | rfl | rfl | rfl | rfl | rfl | rfl | rfl | rfl | rfl | rfl | rfl | rfl | rfl | rfl | rfl | rfl | rfl
                all_goals (simp only [inR, nd, sm, sn, eV]; (try simp only [u1]); omega))
               (fun p hp => by
                simp only [eE1_w6_3, eQ1_w6_3, List.mem_cons, List.not_mem_nil, or_false] at hp
                rcases hp with rfl | rfl | rfl | rfl | rfl | rfl | rfl | rfl | rfl | rfl | rfl | rfl | rfl | rfl | rfl | rfl | rfl | rfl | rfl | rfl | rfl | rfl
                all_goals (simp only [nd, sm, sn, eV]; (try simp only [u1]); omega)) : Hyp.ok eH1_w6_3 _)
      · rcases (show (y8 = 0) ∨ (1 ≤ y8 ∧ y8 ≤ 16 ∧ y6 < y7) ∨ (1 ≤ y8 ∧ y8 ≤ 16 ∧ y7 ≤ y6) by omega) with qn | qn | qn
        · exact (fun h => ⟨_, h, LT.of_bare esg1_w7_0 (evc1_w7_0 x0 x1 Y1 mm nn y2 y3 y4 y5 y6 y7 y8 Bx Cx Dx Fx Gx Z5 Z6 hB hJ h)⟩) (Hyp.more hok2 _ _
           (fun p hp => by
            simp only [eE1_w7_0, eQ1_w7_0, List.mem_cons, List.not_mem_nil, or_false] at hp
            rcases hp with rfl | rfl | rfl | rfl | rfl | rfl | rfl | rfl
            all_goals (simp only [inR, nd, sm, sn, eV]; (try simp only [u1]); omega))
           (fun p hp => by
            simp only [eE1_w7_0, eQ1_w7_0, List.mem_cons, List.not_mem_nil, or_false] at hp
            rcases hp with rfl | rfl | rfl | rfl
            all_goals (simp only [nd, sm, sn, eV]; (try simp only [u1]); omega)) : Hyp.ok eH1_w7_0 _)
        · exact (fun h => ⟨_, h, LT.of_bare esg1_w7_1 (evc1_w7_1 x0 x1 Y1 mm nn y2 y3 y4 y5 y6 y7 y8 Bx Cx Dx Fx Gx Z5 Z6 hB hJ h)⟩) (Hyp.more hok2 _ _
           (fun p hp => by
            simp only [eE1_w7_1, eQ1_w7_1, List.mem_cons, List.not_mem_nil, or_false] at hp
            rcases hp with rfl | rfl | rfl | rfl | rfl | rfl | rfl | rfl | rfl
            all_goals (simp only [inR, nd, sm, sn, eV]; (try simp only [u1]); omega))
           (fun p hp => by
            simp only [eE1_w7_1, eQ1_w7_1, List.mem_cons, List.not_mem_nil, or_false] at hp
            rcases hp with rfl | rfl | rfl | rfl | rfl | rfl | rfl
            all_goals (simp only [nd, sm, sn, eV]; (try simp only [u1]); omega)) : Hyp.ok eH1_w7_1 _)
        · exact (fun h => ⟨_, h, LT.of_bare esg1_w7_2 (evc1_w7_2 x0 x1 Y1 mm nn y2 y3 y4 y5 y6 y7 y8 Bx Cx Dx Fx Gx Z5 Z6 hB hJ h)⟩) (Hyp.more hok2 _ _
           (fun p hp => by
            simp only [eE1_w7_2, eQ1_w7_2, List.mem_cons, List.not_mem_nil, or_false] at hp
            rcases hp with rfl | rfl | rfl | rfl | rfl | rfl | rfl | rfl | rfl
            all_goals (simp only [inR, nd, sm, sn, eV]; (try simp only [u1]); omega))
           (fun p hp => by
            simp only [eE1_w7_2, eQ1_w7_2, List.mem_cons, List.not_mem_nil, or_false] at hp
            rcases hp with rfl | rfl | rfl | rfl | rfl | rfl | rfl
            all_goals (simp only [nd, sm, sn, eV]; (try simp only [u1]); omega)) : Hyp.ok eH1_w7_2 _)
      · rcases (show (y8 = 0) ∨ (1 ≤ y8 ∧ y8 ≤ 16 ∧ y6 < y7) ∨ (1 ≤ y8 ∧ y8 ≤ 16 ∧ y7 ≤ y6) by omega) with qn | qn | qn
        · exact (fun h => ⟨_, h, LT.of_bare esg1_wm_0 (evc1_wm_0 x0 x1 Y1 mm nn y2 y3 y4 y5 y6 y7 y8 Bx Cx Dx Fx Gx Z5 Z6 hB hJ h)⟩) (Hyp.more hok2 _ _
           (fun p hp => by
            simp only [eE1_wm_0, eQ1_wm_0, List.mem_cons, List.not_mem_nil, or_false] at hp
            rcases hp with rfl | rfl | rfl | rfl | rfl | rfl | rfl | rfl
            all_goals (simp only [inR, nd, sm, sn, eV]; (try simp only [u1]); omega))
           (fun p hp => by
            simp only [eE1_wm_0, eQ1_wm_0, List.mem_cons, List.not_mem_nil, or_false] at hp
            rcases hp with rfl | rfl | rfl | rfl
            all_goals (simp only [nd, sm, sn, eV]; (try simp only [u1]); omega)) : Hyp.ok eH1_wm_0 _)
        · exact (fun h => ⟨_, h, LT.of_bare esg1_wm_1 (evc1_wm_1 x0 x1 Y1 mm nn y2 y3 y4 y5 y6 y7 y8 Bx Cx Dx Fx Gx Z5 Z6 hB hJ h)⟩) (Hyp.more hok2 _ _
           (fun p hp => by
            simp only [eE1_wm_1, eQ1_wm_1, List.mem_cons, List.not_mem_nil, or_false] at hp
            rcases hp with rfl | rfl | rfl | rfl | rfl | rfl | rfl | rfl | rfl
            all_goals (simp only [inR, nd, sm, sn, eV]; (try simp only [u1]); omega))
           (fun p hp => by
            simp only [eE1_wm_1, eQ1_wm_1, List.mem_cons, List.not_mem_nil, or_false] at hp
            rcases hp with rfl | rfl | rfl | rfl | rfl | rfl | rfl
            all_goals (simp only [nd, sm, sn, eV]; (try simp only [u1]); omega)) : Hyp.ok eH1_wm_1 _)
        · exact (fun h => ⟨_, h, LT.of_bare esg1_wm_2 (evc1_wm_2 x0 x1 Y1 mm nn y2 y3 y4 y5 y6 y7 y8 Bx Cx Dx Fx Gx Z5 Z6 hB hJ h)⟩) (Hyp.more hok2 _ _
           (fun p hp => by
            simp only [eE1_wm_2, eQ1_wm_2, List.mem_cons, List.not_mem_nil, or_false] at hp
            rcases hp with rfl | rfl | rfl | rfl | rfl | rfl | rfl | rfl | rfl
            all_goals (simp only [inR, nd, sm, sn, eV]; (try simp only [u1]); omega))
           (fun p hp => by
            simp only [eE1_wm_2, eQ1_wm_2, List.mem_cons, List.not_mem_nil, or_false] at hp
            rcases hp with rfl | rfl | rfl | rfl | rfl | rfl | rfl
            all_goals (simp only [nd, sm, sn, eV]; (try simp only [u1]); omega)) : Hyp.ok eH1_wm_2 _)
    · exact (fun h => ⟨_, h, LT.of_bare esg1_x (evc1_x x0 x1 Y1 mm nn y2 y3 y4 y5 y6 y7 y8 Bx Cx Dx Fx Gx Z5 Z6 hB hJ h)⟩) (Hyp.more hok2 _ _
       (fun p hp => by cases hp)
       (fun p hp => by
        simp only [eE1_x, eQ1_x, List.mem_cons, List.not_mem_nil, or_false] at hp
        rcases hp with rfl
        all_goals (simp only [nd, sm, sn, eV]; (try simp only [u1]); omega)) : Hyp.ok eH1_x _)
  · simp [ehs] at hj
end Go.Proofs.Ytflamojcdfmimaa.SaveReads
