/- A part of the law SaveReads, which returns true for every input. A reader of whatever bytes answers, call by call in every order, what the document says, and stands where it says. Where what comes in is of bulk at most 1048576. No condition. -/
import Derived.Test.YtflamojcdfmimaaSaveReadsB
namespace Go.Proofs.Ytflamojcdfmimaa.SaveReads
open Go.Sx Go.ChangeShapes Go.WideShapes Go.ChangeAt Go.RowKit
set_option linter.unusedVariables false
set_option linter.unusedSimpArgs false
set_option maxRecDepth 100000
def eE1_w1_1 : List (E × Rng) := [((.v 0), (15, 1048575)), ((.v 6), (0, 1048560)), (e233, (14, 1048574)), (e232, (13, 1048573)), (e0, (2, 1048562)), (e234, (1, 1048561)), (e262, (15, 1048575)), (e263, (2, 1048562)), (e210, (2, 16777216)), (e211, (2, 1048562)), (e209, (0, 1048562)), ((.v 7), (0, 1048562)), (e212, (1, 1))]
def eQ1_w1_1 : List (E × Bool) := [(e264, true), (e235, true), (e265, true), (e236, true), (e266, true), (e267, true), (e268, true), (e269, true), (e215, true), (e216, true), (e217, true), (e218, true)]
noncomputable def eH1_w1_1 : Hyp := { eh1.H with e := eE1_w1_1 ++ eh1.H.e, b := eQ1_w1_1 ++ eh1.H.b }
set_option maxHeartbeats 40000000 in
theorem esg1_w1_1 : (segL Try.prog G Gh eD ehs [] 3000 0 5 { eh1 with H := eH1_w1_1 }).map LT.bare = some (.ite e282 (.ret (.s (.bool (.blit false))) []) (.jump 1 eT1 ⟨[(4, (.v 4)), (8, (.v 8)), (7, (.v 7)), (6, e263), (5, e231)], [], [(5, (.av 5)), (6, (.av 6))]⟩)) := by kernel_rfl
theorem evc1_w1_1 (x0 : Ext) (x1 : Ext) (Y1 : Nat → Ext) (mm nn y2 y3 y4 y5 y6 y7 y8 : Int) (Bx Cx Dx Fx Gx Z5 Z6 : Nat → Int) (hB : eBase x0 x1 Y1 mm nn Bx Cx Dx Fx Gx) (hJ : eJ1 mm nn y2 y3 y4 y5 y6 y7 y8 Bx Cx Dx Fx Gx Z5 Z6) (hH : Hyp.ok eH1_w1_1 (eV x0 x1 Y1 mm nn y2 y3 y4 y5 y6 y7 y8 Bx Cx Dx Fx Gx Z5 Z6))  :
    eW1 x0 x1 Y1 (eV x0 x1 Y1 mm nn y2 y3 y4 y5 y6 y7 y8 Bx Cx Dx Fx Gx Z5 Z6) (.ite e282 (.ret (.s (.bool (.blit false))) []) (.jump 1 eT1 ⟨[(4, (.v 4)), (8, (.v 8)), (7, (.v 7)), (6, e263), (5, e231)], [], [(5, (.av 5)), (6, (.av 6))]⟩)) := by
  simp only [eW1, LT.holds, retTrue]
  have hB3 := hB
  have hJ3 := hJ
  simp only [eBase] at hB3
  obtain ⟨b0, b1, c0, c1, c2, c3, c4, en0, en1, ea0, ea1, ea2, ea3, ea4, hs, hx0, _⟩ := hB3
  simp only [eJ1] at hJ3
  obtain ⟨l2, l3, l4, l5, l6, l7, l8, m5, m6, i1, i2, i3, i4, i5, hq, _⟩ := hJ3
  have u1 : (y4 + -1).toNat = y8.toNat := by omega
  have u2 : (y4 + -2).toNat = (y8 + -1).toNat := by omega
  have u3 := hq (y8 + -1).toNat
  have u4 : 1 ≤ y8 → (y8 + -1).toNat + 1 = y8.toNat := by omega
  have u5 : (y8 + 1).toNat = y8.toNat + 1 := by omega
  have u6 : y4.toNat = y8.toNat + 1 := by omega
  have u7 := m5 y8.toNat
  have u8 := m5 (y8 + -1).toNat
  have u9 : 1 ≤ y8 → Z5 ((y8 + -1).toNat + 1) = Z5 y8.toNat := fun h => by rw [u4 h]
  have fe : ∀ p ∈ eE1_w1_1, inR p.2 (p.1.i (eV x0 x1 Y1 mm nn y2 y3 y4 y5 y6 y7 y8 Bx Cx Dx Fx Gx Z5 Z6)) := fun p hp => hH.e p (List.mem_append_left _ hp)
  have fb : ∀ p ∈ eQ1_w1_1, p.1.b (eV x0 x1 Y1 mm nn y2 y3 y4 y5 y6 y7 y8 Bx Cx Dx Fx Gx Z5 Z6) = p.2 := fun p hp => hH.b p (List.mem_append_left _ hp)
  simp only [eE1_w1_1, eQ1_w1_1, List.forall_mem_cons, inR] at fe fb
  have ff := And.intro fe fb
  clear fe fb
  simp only [nd, sm, sn, eV, u1, u2, u6] at ff
  refine ⟨fun hc0 => ?_, fun hc0 => ?_⟩
  ·
    exfalso
    simp only [nd, sm, sn, eV, u1, u2, u6] at hc0
    omega
  ·
    refine ⟨ehT1, ⟨mm, nn, y2, y3, y4, (_root_.Go.Sx.E.i (eV x0 x1 Y1 mm nn y2 y3 y4 y5 y6 y7 y8 Bx Cx Dx Fx Gx Z5 Z6) e231), (_root_.Go.Sx.E.i (eV x0 x1 Y1 mm nn y2 y3 y4 y5 y6 y7 y8 Bx Cx Dx Fx Gx Z5 Z6) e263), y7, y8, Bx, Cx, Dx, Fx, Gx, Z5, Z6, (by kernel_rfl), hB, ?_⟩, ?_⟩
    ·
      simp only [eJ1]
      refine ⟨l2, l3, l4, ?_, ?_, l7, l8, m5, m6, ?_, ?_, ?_, ?_, ?_, ?_, trivial⟩
      all_goals (try simp only [nd, sm, sn, eV, u1, u2, u6, if_true, if_false])
      all_goals first
        | omega
        | exact hq
    simp only [emu, Env.app, setAll, List.map_cons, List.map_nil, List.set, nd, sm, sn, eV]
    omega
def eE1_w2_0 : List (E × Rng) := [(e210, ((-1048562), 3)), (e211, ((-1048562), 3)), (e209, (0, 1048562)), ((.v 7), (0, 1048562)), ((.v 6), (0, 1048562)), ((.v 0), (14, 1048575)), (e0, (1, 1048562)), (e212, (2, 2))]
def eQ1_w2_0 : List (E × Bool) := [(e285, true), (e286, true), (e215, true), (e216, true), (e217, true), (e218, true)]
noncomputable def eH1_w2_0 : Hyp := { eh1.H with e := eE1_w2_0 ++ eh1.H.e, b := eQ1_w2_0 ++ eh1.H.b }
set_option maxHeartbeats 40000000 in
theorem esg1_w2_0 : (segL Try.prog G Gh eD ehs [] 3000 0 5 { eh1 with H := eH1_w2_0 }).map LT.bare = some (.ite e261 (.ret (.s (.bool (.blit false))) []) (.jump 1 eT1 ⟨[(4, (.v 4)), (8, (.v 8)), (7, (.v 7)), (6, (.v 6)), (5, e231)], [], [(5, (.av 5)), (6, (.av 6))]⟩)) := by kernel_rfl
theorem evc1_w2_0 (x0 : Ext) (x1 : Ext) (Y1 : Nat → Ext) (mm nn y2 y3 y4 y5 y6 y7 y8 : Int) (Bx Cx Dx Fx Gx Z5 Z6 : Nat → Int) (hB : eBase x0 x1 Y1 mm nn Bx Cx Dx Fx Gx) (hJ : eJ1 mm nn y2 y3 y4 y5 y6 y7 y8 Bx Cx Dx Fx Gx Z5 Z6) (hH : Hyp.ok eH1_w2_0 (eV x0 x1 Y1 mm nn y2 y3 y4 y5 y6 y7 y8 Bx Cx Dx Fx Gx Z5 Z6))  :
    eW1 x0 x1 Y1 (eV x0 x1 Y1 mm nn y2 y3 y4 y5 y6 y7 y8 Bx Cx Dx Fx Gx Z5 Z6) (.ite e261 (.ret (.s (.bool (.blit false))) []) (.jump 1 eT1 ⟨[(4, (.v 4)), (8, (.v 8)), (7, (.v 7)), (6, (.v 6)), (5, e231)], [], [(5, (.av 5)), (6, (.av 6))]⟩)) := by
  simp only [eW1, LT.holds, retTrue]
  have hB3 := hB
  have hJ3 := hJ
  simp only [eBase] at hB3
  obtain ⟨b0, b1, c0, c1, c2, c3, c4, en0, en1, ea0, ea1, ea2, ea3, ea4, hs, hx0, _⟩ := hB3
  simp only [eJ1] at hJ3
  obtain ⟨l2, l3, l4, l5, l6, l7, l8, m5, m6, i1, i2, i3, i4, i5, hq, _⟩ := hJ3
  have u1 : (y4 + -1).toNat = y8.toNat := by omega
  have u2 : (y4 + -2).toNat = (y8 + -1).toNat := by omega
  have u3 := hq (y8 + -1).toNat
  have u4 : 1 ≤ y8 → (y8 + -1).toNat + 1 = y8.toNat := by omega
  have u5 : (y8 + 1).toNat = y8.toNat + 1 := by omega
  have u6 : y4.toNat = y8.toNat + 1 := by omega
  have u7 := m5 y8.toNat
  have u8 := m5 (y8 + -1).toNat
  have u9 : 1 ≤ y8 → Z5 ((y8 + -1).toNat + 1) = Z5 y8.toNat := fun h => by rw [u4 h]
  have fe : ∀ p ∈ eE1_w2_0, inR p.2 (p.1.i (eV x0 x1 Y1 mm nn y2 y3 y4 y5 y6 y7 y8 Bx Cx Dx Fx Gx Z5 Z6)) := fun p hp => hH.e p (List.mem_append_left _ hp)
  have fb : ∀ p ∈ eQ1_w2_0, p.1.b (eV x0 x1 Y1 mm nn y2 y3 y4 y5 y6 y7 y8 Bx Cx Dx Fx Gx Z5 Z6) = p.2 := fun p hp => hH.b p (List.mem_append_left _ hp)
  simp only [eE1_w2_0, eQ1_w2_0, List.forall_mem_cons, inR] at fe fb
  have ff := And.intro fe fb
  clear fe fb
  simp only [nd, sm, sn, eV, u1, u2, u6] at ff
  refine ⟨fun hc0 => ?_, fun hc0 => ?_⟩
  ·
    exfalso
    simp only [nd, sm, sn, eV, u1, u2, u6] at hc0
    omega
  ·
    refine ⟨ehT1, ⟨mm, nn, y2, y3, y4, (_root_.Go.Sx.E.i (eV x0 x1 Y1 mm nn y2 y3 y4 y5 y6 y7 y8 Bx Cx Dx Fx Gx Z5 Z6) e231), y6, y7, y8, Bx, Cx, Dx, Fx, Gx, Z5, Z6, (by kernel_rfl), hB, ?_⟩, ?_⟩
    ·
      simp only [eJ1]
      refine ⟨l2, l3, l4, ?_, l6, l7, l8, m5, m6, ?_, ?_, ?_, ?_, ?_, ?_, trivial⟩
      all_goals (try simp only [nd, sm, sn, eV, u1, u2, u6, if_true, if_false])
      all_goals first
        | omega
        | exact hq
    simp only [emu, Env.app, setAll, List.map_cons, List.map_nil, List.set, nd, sm, sn, eV]
    omega
def eE1_w2_1 : List (E × Rng) := [((.v 0), (17, 1048575)), ((.v 6), (0, 1048558)), (e287, (16, 1048574)), (e262, (15, 1048573)), (e233, (14, 1048572)), (e232, (13, 1048571)), (e0, (4, 1048562)), (e288, (3, 1048561)), (e263, (2, 1048560)), (e234, (1, 1048559)), (e289, (17, 1048575)), (e290, (4, 1048562)), (e210, (4, 16777216)), (e211, (4, 1048562)), (e209, (0, 1048562)), ((.v 7), (0, 1048562)), (e212, (2, 2))]
def eQ1_w2_1 : List (E × Bool) := [(e291, true), (e292, true), (e264, true), (e235, true), (e293, true), (e294, true), (e265, true), (e236, true), (e295, true), (e296, true), (e297, true), (e298, true), (e215, true), (e216, true), (e217, true), (e218, true)]
noncomputable def eH1_w2_1 : Hyp := { eh1.H with e := eE1_w2_1 ++ eh1.H.e, b := eQ1_w2_1 ++ eh1.H.b }
set_option maxHeartbeats 40000000 in
theorem esg1_w2_1 : (segL Try.prog G Gh eD ehs [] 3000 0 5 { eh1 with H := eH1_w2_1 }).map LT.bare = some (.ite e311 (.ret (.s (.bool (.blit false))) []) (.jump 1 eT1 ⟨[(4, (.v 4)), (8, (.v 8)), (7, (.v 7)), (6, e290), (5, e231)], [], [(5, (.av 5)), (6, (.av 6))]⟩)) := by kernel_rfl
theorem evc1_w2_1 (x0 : Ext) (x1 : Ext) (Y1 : Nat → Ext) (mm nn y2 y3 y4 y5 y6 y7 y8 : Int) (Bx Cx Dx Fx Gx Z5 Z6 : Nat → Int) (hB : eBase x0 x1 Y1 mm nn Bx Cx Dx Fx Gx) (hJ : eJ1 mm nn y2 y3 y4 y5 y6 y7 y8 Bx Cx Dx Fx Gx Z5 Z6) (hH : Hyp.ok eH1_w2_1 (eV x0 x1 Y1 mm nn y2 y3 y4 y5 y6 y7 y8 Bx Cx Dx Fx Gx Z5 Z6))  :
    eW1 x0 x1 Y1 (eV x0 x1 Y1 mm nn y2 y3 y4 y5 y6 y7 y8 Bx Cx Dx Fx Gx Z5 Z6) (.ite e311 (.ret (.s (.bool (.blit false))) []) (.jump 1 eT1 ⟨[(4, (.v 4)), (8, (.v 8)), (7, (.v 7)), (6, e290), (5, e231)], [], [(5, (.av 5)), (6, (.av 6))]⟩)) := by
  simp only [eW1, LT.holds, retTrue]
  have hB3 := hB
  have hJ3 := hJ
  simp only [eBase] at hB3
  obtain ⟨b0, b1, c0, c1, c2, c3, c4, en0, en1, ea0, ea1, ea2, ea3, ea4, hs, hx0, _⟩ := hB3
  simp only [eJ1] at hJ3
  obtain ⟨l2, l3, l4, l5, l6, l7, l8, m5, m6, i1, i2, i3, i4, i5, hq, _⟩ := hJ3
  have u1 : (y4 + -1).toNat = y8.toNat := by omega
  have u2 : (y4 + -2).toNat = (y8 + -1).toNat := by omega
  have u3 := hq (y8 + -1).toNat
  have u4 : 1 ≤ y8 → (y8 + -1).toNat + 1 = y8.toNat := by omega
  have u5 : (y8 + 1).toNat = y8.toNat + 1 := by omega
  have u6 : y4.toNat = y8.toNat + 1 := by omega
  have u7 := m5 y8.toNat
  have u8 := m5 (y8 + -1).toNat
  have u9 : 1 ≤ y8 → Z5 ((y8 + -1).toNat + 1) = Z5 y8.toNat := fun h => by rw [u4 h]
  have fe : ∀ p ∈ eE1_w2_1, inR p.2 (p.1.i (eV x0 x1 Y1 mm nn y2 y3 y4 y5 y6 y7 y8 Bx Cx Dx Fx Gx Z5 Z6)) := fun p hp => hH.e p (List.mem_append_left _ hp)
  have fb : ∀ p ∈ eQ1_w2_1, p.1.b (eV x0 x1 Y1 mm nn y2 y3 y4 y5 y6 y7 y8 Bx Cx Dx Fx Gx Z5 Z6) = p.2 := fun p hp => hH.b p (List.mem_append_left _ hp)
  simp only [eE1_w2_1, eQ1_w2_1, List.forall_mem_cons, inR] at fe fb
  have ff := And.intro fe fb
  clear fe fb
  simp only [nd, sm, sn, eV, u1, u2, u6] at ff
  refine ⟨fun hc0 => ?_, fun hc0 => ?_⟩
  ·
    exfalso
    simp only [nd, sm, sn, eV, u1, u2, u6] at hc0
    omega
  ·
    refine ⟨ehT1, ⟨mm, nn, y2, y3, y4, (_root_.Go.Sx.E.i (eV x0 x1 Y1 mm nn y2 y3 y4 y5 y6 y7 y8 Bx Cx Dx Fx Gx Z5 Z6) e231), (_root_.Go.Sx.E.i (eV x0 x1 Y1 mm nn y2 y3 y4 y5 y6 y7 y8 Bx Cx Dx Fx Gx Z5 Z6) e290), y7, y8, Bx, Cx, Dx, Fx, Gx, Z5, Z6, (by kernel_rfl), hB, ?_⟩, ?_⟩
    ·
      simp only [eJ1]
      refine ⟨l2, l3, l4, ?_, ?_, l7, l8, m5, m6, ?_, ?_, ?_, ?_, ?_, ?_, trivial⟩
      all_goals (try simp only [nd, sm, sn, eV, u1, u2, u6, if_true, if_false])
      all_goals first
        | omega
        | exact hq
    simp only [emu, Env.app, setAll, List.map_cons, List.map_nil, List.set, nd, sm, sn, eV]
    omega
def eE1_w3_0 : List (E × Rng) := [(e210, ((-1048562), 7)), (e211, ((-1048562), 7)), (e209, (0, 1048562)), ((.v 7), (0, 1048562)), ((.v 6), (0, 1048562)), ((.v 0), (14, 1048575)), (e0, (1, 1048562)), (e212, (3, 3))]
def eQ1_w3_0 : List (E × Bool) := [(e319, true), (e320, true), (e215, true), (e216, true), (e217, true), (e218, true)]
noncomputable def eH1_w3_0 : Hyp := { eh1.H with e := eE1_w3_0 ++ eh1.H.e, b := eQ1_w3_0 ++ eh1.H.b }
set_option maxHeartbeats 40000000 in
theorem esg1_w3_0 : (segL Try.prog G Gh eD ehs [] 3000 0 5 { eh1 with H := eH1_w3_0 }).map LT.bare = some (.ite e261 (.ret (.s (.bool (.blit false))) []) (.jump 1 eT1 ⟨[(4, (.v 4)), (8, (.v 8)), (7, (.v 7)), (6, (.v 6)), (5, e231)], [], [(5, (.av 5)), (6, (.av 6))]⟩)) := by kernel_rfl
theorem evc1_w3_0 (x0 : Ext) (x1 : Ext) (Y1 : Nat → Ext) (mm nn y2 y3 y4 y5 y6 y7 y8 : Int) (Bx Cx Dx Fx Gx Z5 Z6 : Nat → Int) (hB : eBase x0 x1 Y1 mm nn Bx Cx Dx Fx Gx) (hJ : eJ1 mm nn y2 y3 y4 y5 y6 y7 y8 Bx Cx Dx Fx Gx Z5 Z6) (hH : Hyp.ok eH1_w3_0 (eV x0 x1 Y1 mm nn y2 y3 y4 y5 y6 y7 y8 Bx Cx Dx Fx Gx Z5 Z6))  :
    eW1 x0 x1 Y1 (eV x0 x1 Y1 mm nn y2 y3 y4 y5 y6 y7 y8 Bx Cx Dx Fx Gx Z5 Z6) (.ite e261 (.ret (.s (.bool (.blit false))) []) (.jump 1 eT1 ⟨[(4, (.v 4)), (8, (.v 8)), (7, (.v 7)), (6, (.v 6)), (5, e231)], [], [(5, (.av 5)), (6, (.av 6))]⟩)) := by
  simp only [eW1, LT.holds, retTrue]
  have hB3 := hB
  have hJ3 := hJ
  simp only [eBase] at hB3
  obtain ⟨b0, b1, c0, c1, c2, c3, c4, en0, en1, ea0, ea1, ea2, ea3, ea4, hs, hx0, _⟩ := hB3
  simp only [eJ1] at hJ3
  obtain ⟨l2, l3, l4, l5, l6, l7, l8, m5, m6, i1, i2, i3, i4, i5, hq, _⟩ := hJ3
  have u1 : (y4 + -1).toNat = y8.toNat := by omega
  have u2 : (y4 + -2).toNat = (y8 + -1).toNat := by omega
  have u3 := hq (y8 + -1).toNat
  have u4 : 1 ≤ y8 → (y8 + -1).toNat + 1 = y8.toNat := by omega
  have u5 : (y8 + 1).toNat = y8.toNat + 1 := by omega
  have u6 : y4.toNat = y8.toNat + 1 := by omega
  have u7 := m5 y8.toNat
  have u8 := m5 (y8 + -1).toNat
  have u9 : 1 ≤ y8 → Z5 ((y8 + -1).toNat + 1) = Z5 y8.toNat := fun h => by rw [u4 h]
  have fe : ∀ p ∈ eE1_w3_0, inR p.2 (p.1.i (eV x0 x1 Y1 mm nn y2 y3 y4 y5 y6 y7 y8 Bx Cx Dx Fx Gx Z5 Z6)) := fun p hp => hH.e p (List.mem_append_left _ hp)
  have fb : ∀ p ∈ eQ1_w3_0, p.1.b (eV x0 x1 Y1 mm nn y2 y3 y4 y5 y6 y7 y8 Bx Cx Dx Fx Gx Z5 Z6) = p.2 := fun p hp => hH.b p (List.mem_append_left _ hp)
  simp only [eE1_w3_0, eQ1_w3_0, List.forall_mem_cons, inR] at fe fb
  have ff := And.intro fe fb
  clear fe fb
  simp only [nd, sm, sn, eV, u1, u2, u6] at ff
  refine ⟨fun hc0 => ?_, fun hc0 => ?_⟩
  ·
    exfalso
    simp only [nd, sm, sn, eV, u1, u2, u6] at hc0
    omega
  ·
    refine ⟨ehT1, ⟨mm, nn, y2, y3, y4, (_root_.Go.Sx.E.i (eV x0 x1 Y1 mm nn y2 y3 y4 y5 y6 y7 y8 Bx Cx Dx Fx Gx Z5 Z6) e231), y6, y7, y8, Bx, Cx, Dx, Fx, Gx, Z5, Z6, (by kernel_rfl), hB, ?_⟩, ?_⟩
    ·
      simp only [eJ1]
      refine ⟨l2, l3, l4, ?_, l6, l7, l8, m5, m6, ?_, ?_, ?_, ?_, ?_, ?_, trivial⟩
      all_goals (try simp only [nd, sm, sn, eV, u1, u2, u6, if_true, if_false])
      all_goals first
        | omega
        | exact hq
    simp only [emu, Env.app, setAll, List.map_cons, List.map_nil, List.set, nd, sm, sn, eV]
    omega
def eE1_w3_1 : List (E × Rng) := [((.v 0), (21, 1048575)), ((.v 6), (0, 1048554)), (e321, (20, 1048574)), (e322, (19, 1048573)), (e323, (18, 1048572)), (e289, (17, 1048571)), (e287, (16, 1048570)), (e262, (15, 1048569)), (e233, (14, 1048568)), (e232, (13, 1048567)), (e0, (8, 1048562)), (e324, (7, 1048561)), (e325, (6, 1048560)), (e326, (5, 1048559)), (e290, (4, 1048558)), (e288, (3, 1048557)), (e263, (2, 1048556)), (e234, (1, 1048555)), (e327, (21, 1048575)), (e328, (8, 1048562)), (e210, (8, 16777216)), (e211, (8, 1048562)), (e209, (0, 1048562)), ((.v 7), (0, 1048562)), (e212, (3, 3))]
def eQ1_w3_1 : List (E × Bool) := [(e329, true), (e330, true), (e331, true), (e332, true), (e291, true), (e292, true), (e264, true), (e235, true), (e333, true), (e334, true), (e335, true), (e336, true), (e293, true), (e294, true), (e265, true), (e236, true), (e337, true), (e338, true), (e339, true), (e340, true), (e215, true), (e216, true), (e217, true), (e218, true)]
noncomputable def eH1_w3_1 : Hyp := { eh1.H with e := eE1_w3_1 ++ eh1.H.e, b := eQ1_w3_1 ++ eh1.H.b }
set_option maxHeartbeats 40000000 in
theorem esg1_w3_1 : (segL Try.prog G Gh eD ehs [] 3000 0 5 { eh1 with H := eH1_w3_1 }).map LT.bare = some (.ite e353 (.ret (.s (.bool (.blit false))) []) (.jump 1 eT1 ⟨[(4, (.v 4)), (8, (.v 8)), (7, (.v 7)), (6, e328), (5, e231)], [], [(5, (.av 5)), (6, (.av 6))]⟩)) := by kernel_rfl
theorem evc1_w3_1 (x0 : Ext) (x1 : Ext) (Y1 : Nat → Ext) (mm nn y2 y3 y4 y5 y6 y7 y8 : Int) (Bx Cx Dx Fx Gx Z5 Z6 : Nat → Int) (hB : eBase x0 x1 Y1 mm nn Bx Cx Dx Fx Gx) (hJ : eJ1 mm nn y2 y3 y4 y5 y6 y7 y8 Bx Cx Dx Fx Gx Z5 Z6) (hH : Hyp.ok eH1_w3_1 (eV x0 x1 Y1 mm nn y2 y3 y4 y5 y6 y7 y8 Bx Cx Dx Fx Gx Z5 Z6))  :
    eW1 x0 x1 Y1 (eV x0 x1 Y1 mm nn y2 y3 y4 y5 y6 y7 y8 Bx Cx Dx Fx Gx Z5 Z6) (.ite e353 (.ret (.s (.bool (.blit false))) []) (.jump 1 eT1 ⟨[(4, (.v 4)), (8, (.v 8)), (7, (.v 7)), (6, e328), (5, e231)], [], [(5, (.av 5)), (6, (.av 6))]⟩)) := by
  simp only [eW1, LT.holds, retTrue]
  have hB3 := hB
  have hJ3 := hJ
  simp only [eBase] at hB3
  obtain ⟨b0, b1, c0, c1, c2, c3, c4, en0, en1, ea0, ea1, ea2, ea3, ea4, hs, hx0, _⟩ := hB3
  simp only [eJ1] at hJ3
  obtain ⟨l2, l3, l4, l5, l6, l7, l8, m5, m6, i1, i2, i3, i4, i5, hq, _⟩ := hJ3
  have u1 : (y4 + -1).toNat = y8.toNat := by omega
  have u2 : (y4 + -2).toNat = (y8 + -1).toNat := by omega
  have u3 := hq (y8 + -1).toNat
  have u4 : 1 ≤ y8 → (y8 + -1).toNat + 1 = y8.toNat := by omega
  have u5 : (y8 + 1).toNat = y8.toNat + 1 := by omega
  have u6 : y4.toNat = y8.toNat + 1 := by omega
  have u7 := m5 y8.toNat
  have u8 := m5 (y8 + -1).toNat
  have u9 : 1 ≤ y8 → Z5 ((y8 + -1).toNat + 1) = Z5 y8.toNat := fun h => by rw [u4 h]
  have fe : ∀ p ∈ eE1_w3_1, inR p.2 (p.1.i (eV x0 x1 Y1 mm nn y2 y3 y4 y5 y6 y7 y8 Bx Cx Dx Fx Gx Z5 Z6)) := fun p hp => hH.e p (List.mem_append_left _ hp)
  have fb : ∀ p ∈ eQ1_w3_1, p.1.b (eV x0 x1 Y1 mm nn y2 y3 y4 y5 y6 y7 y8 Bx Cx Dx Fx Gx Z5 Z6) = p.2 := fun p hp => hH.b p (List.mem_append_left _ hp)
  simp only [eE1_w3_1, eQ1_w3_1, List.forall_mem_cons, inR] at fe fb
  have ff := And.intro fe fb
  clear fe fb
  simp only [nd, sm, sn, eV, u1, u2, u6] at ff
  refine ⟨fun hc0 => ?_, fun hc0 => ?_⟩
  ·
    exfalso
    simp only [nd, sm, sn, eV, u1, u2, u6] at hc0
    omega
  ·
    refine ⟨ehT1, ⟨mm, nn, y2, y3, y4, (_root_.Go.Sx.E.i (eV x0 x1 Y1 mm nn y2 y3 y4 y5 y6 y7 y8 Bx Cx Dx Fx Gx Z5 Z6) e231), (_root_.Go.Sx.E.i (eV x0 x1 Y1 mm nn y2 y3 y4 y5 y6 y7 y8 Bx Cx Dx Fx Gx Z5 Z6) e328), y7, y8, Bx, Cx, Dx, Fx, Gx, Z5, Z6, (by kernel_rfl), hB, ?_⟩, ?_⟩
    ·
      simp only [eJ1]
      refine ⟨l2, l3, l4, ?_, ?_, l7, l8, m5, m6, ?_, ?_, ?_, ?_, ?_, ?_, trivial⟩
      all_goals (try simp only [nd, sm, sn, eV, u1, u2, u6, if_true, if_false])
      all_goals first
        | omega
        | exact hq
    simp only [emu, Env.app, setAll, List.map_cons, List.map_nil, List.set, nd, sm, sn, eV]
    omega
def eE1_w4_0 : List (E × Rng) := [(e210, ((-1048562), 0)), (e211, ((-1048562), 0)), (e209, (0, 1048562)), ((.v 7), (0, 1048562)), ((.v 6), (0, 1048562)), ((.v 0), (14, 1048575)), (e0, (1, 1048562)), (e212, (4, 4))]
def eQ1_w4_0 : List (E × Bool) := [(e213, true), (e214, true), (e215, true), (e216, true), (e217, true), (e218, true)]
noncomputable def eH1_w4_0 : Hyp := { eh1.H with e := eE1_w4_0 ++ eh1.H.e, b := eQ1_w4_0 ++ eh1.H.b }
set_option maxHeartbeats 40000000 in
theorem esg1_w4_0 : (segL Try.prog G Gh eD ehs [] 3000 0 5 { eh1 with H := eH1_w4_0 }).map LT.bare = some (.ite e229 (.ret (.s (.bool (.blit false))) []) (.jump 1 eT1 ⟨[(4, (.v 4)), (8, (.v 8)), (7, (.v 7)), (6, (.v 6)), (5, e231)], [], [(5, (.av 5)), (6, (.av 6))]⟩)) := by kernel_rfl
theorem evc1_w4_0 (x0 : Ext) (x1 : Ext) (Y1 : Nat → Ext) (mm nn y2 y3 y4 y5 y6 y7 y8 : Int) (Bx Cx Dx Fx Gx Z5 Z6 : Nat → Int) (hB : eBase x0 x1 Y1 mm nn Bx Cx Dx Fx Gx) (hJ : eJ1 mm nn y2 y3 y4 y5 y6 y7 y8 Bx Cx Dx Fx Gx Z5 Z6) (hH : Hyp.ok eH1_w4_0 (eV x0 x1 Y1 mm nn y2 y3 y4 y5 y6 y7 y8 Bx Cx Dx Fx Gx Z5 Z6))  :
    eW1 x0 x1 Y1 (eV x0 x1 Y1 mm nn y2 y3 y4 y5 y6 y7 y8 Bx Cx Dx Fx Gx Z5 Z6) (.ite e229 (.ret (.s (.bool (.blit false))) []) (.jump 1 eT1 ⟨[(4, (.v 4)), (8, (.v 8)), (7, (.v 7)), (6, (.v 6)), (5, e231)], [], [(5, (.av 5)), (6, (.av 6))]⟩)) := by
  simp only [eW1, LT.holds, retTrue]
  have hB3 := hB
  have hJ3 := hJ
  simp only [eBase] at hB3
  obtain ⟨b0, b1, c0, c1, c2, c3, c4, en0, en1, ea0, ea1, ea2, ea3, ea4, hs, hx0, _⟩ := hB3
  simp only [eJ1] at hJ3
  obtain ⟨l2, l3, l4, l5, l6, l7, l8, m5, m6, i1, i2, i3, i4, i5, hq, _⟩ := hJ3
  have u1 : (y4 + -1).toNat = y8.toNat := by omega
  have u2 : (y4 + -2).toNat = (y8 + -1).toNat := by omega
  have u3 := hq (y8 + -1).toNat
  have u4 : 1 ≤ y8 → (y8 + -1).toNat + 1 = y8.toNat := by omega
  have u5 : (y8 + 1).toNat = y8.toNat + 1 := by omega
  have u6 : y4.toNat = y8.toNat + 1 := by omega
  have u7 := m5 y8.toNat
  have u8 := m5 (y8 + -1).toNat
  have u9 : 1 ≤ y8 → Z5 ((y8 + -1).toNat + 1) = Z5 y8.toNat := fun h => by rw [u4 h]
  have d13 := c0 (y6 + 13).toNat
  have d14 := c0 (y6 + 14).toNat
  have d15 := c0 (y6 + 15).toNat
  have d16 := c0 (y6 + 16).toNat
  have d17 := c0 (y6 + 17).toNat
  have dw := c1 y5.toNat
  have fe : ∀ p ∈ eE1_w4_0, inR p.2 (p.1.i (eV x0 x1 Y1 mm nn y2 y3 y4 y5 y6 y7 y8 Bx Cx Dx Fx Gx Z5 Z6)) := fun p hp => hH.e p (List.mem_append_left _ hp)
  have fb : ∀ p ∈ eQ1_w4_0, p.1.b (eV x0 x1 Y1 mm nn y2 y3 y4 y5 y6 y7 y8 Bx Cx Dx Fx Gx Z5 Z6) = p.2 := fun p hp => hH.b p (List.mem_append_left _ hp)
  simp only [eE1_w4_0, eQ1_w4_0, List.forall_mem_cons, inR] at fe fb
  have ff := And.intro fe fb
  clear fe fb
  simp only [nd, sm, sn, eV, u1, u2, u6] at ff
  refine ⟨fun hc0 => ?_, fun hc0 => ?_⟩
  ·
    exfalso
    simp only [nd, sm, sn, eV, u1, u2, u6] at hc0
    omega
  ·
    refine ⟨ehT1, ⟨mm, nn, y2, y3, y4, (_root_.Go.Sx.E.i (eV x0 x1 Y1 mm nn y2 y3 y4 y5 y6 y7 y8 Bx Cx Dx Fx Gx Z5 Z6) e231), y6, y7, y8, Bx, Cx, Dx, Fx, Gx, Z5, Z6, (by kernel_rfl), hB, ?_⟩, ?_⟩
    ·
      simp only [eJ1]
      refine ⟨l2, l3, l4, ?_, l6, l7, l8, m5, m6, ?_, ?_, ?_, ?_, ?_, ?_, trivial⟩
      all_goals (try simp only [nd, sm, sn, eV, u1, u2, u6, if_true, if_false])
      all_goals first
        | omega
        | exact hq
    simp only [emu, Env.app, setAll, List.map_cons, List.map_nil, List.set, nd, sm, sn, eV]
    omega
def eE1_w4_1 : List (E × Rng) := [(e254, (2, 255)), ((.v 0), (14, 1048575)), ((.v 6), (0, 1048561)), (e232, (13, 1048574)), (e0, (1, 1048562)), (e233, (14, 1048575)), (e234, (1, 1048562)), (e210, (1, 16777216)), (e211, (1, 1048562)), (e209, (0, 1048562)), ((.v 7), (0, 1048562)), (e212, (4, 4))]
def eQ1_w4_1 : List (E × Bool) := [(e355, true), (e235, true), (e236, true), (e237, true), (e238, true), (e239, true), (e240, true), (e215, true), (e216, true), (e217, true), (e218, true)]
noncomputable def eH1_w4_1 : Hyp := { eh1.H with e := eE1_w4_1 ++ eh1.H.e, b := eQ1_w4_1 ++ eh1.H.b }
set_option maxHeartbeats 40000000 in
theorem esg1_w4_1 : (segL Try.prog G Gh eD ehs [] 3000 0 5 { eh1 with H := eH1_w4_1 }).map LT.bare = some (.ite e359 (.ret (.s (.bool (.blit false))) []) (.jump 1 eT1 ⟨[(4, (.v 4)), (8, (.v 8)), (7, (.v 7)), (6, (.v 6)), (5, e231)], [], [(5, (.av 5)), (6, (.av 6))]⟩)) := by kernel_rfl
theorem evc1_w4_1 (x0 : Ext) (x1 : Ext) (Y1 : Nat → Ext) (mm nn y2 y3 y4 y5 y6 y7 y8 : Int) (Bx Cx Dx Fx Gx Z5 Z6 : Nat → Int) (hB : eBase x0 x1 Y1 mm nn Bx Cx Dx Fx Gx) (hJ : eJ1 mm nn y2 y3 y4 y5 y6 y7 y8 Bx Cx Dx Fx Gx Z5 Z6) (hH : Hyp.ok eH1_w4_1 (eV x0 x1 Y1 mm nn y2 y3 y4 y5 y6 y7 y8 Bx Cx Dx Fx Gx Z5 Z6))  :
    eW1 x0 x1 Y1 (eV x0 x1 Y1 mm nn y2 y3 y4 y5 y6 y7 y8 Bx Cx Dx Fx Gx Z5 Z6) (.ite e359 (.ret (.s (.bool (.blit false))) []) (.jump 1 eT1 ⟨[(4, (.v 4)), (8, (.v 8)), (7, (.v 7)), (6, (.v 6)), (5, e231)], [], [(5, (.av 5)), (6, (.av 6))]⟩)) := by
  simp only [eW1, LT.holds, retTrue]
  have hB3 := hB
  have hJ3 := hJ
  simp only [eBase] at hB3
  obtain ⟨b0, b1, c0, c1, c2, c3, c4, en0, en1, ea0, ea1, ea2, ea3, ea4, hs, hx0, _⟩ := hB3
  simp only [eJ1] at hJ3
  obtain ⟨l2, l3, l4, l5, l6, l7, l8, m5, m6, i1, i2, i3, i4, i5, hq, _⟩ := hJ3
  have u1 : (y4 + -1).toNat = y8.toNat := by omega
  have u2 : (y4 + -2).toNat = (y8 + -1).toNat := by omega
  have u3 := hq (y8 + -1).toNat
  have u4 : 1 ≤ y8 → (y8 + -1).toNat + 1 = y8.toNat := by omega
  have u5 : (y8 + 1).toNat = y8.toNat + 1 := by omega
  have u6 : y4.toNat = y8.toNat + 1 := by omega
  have u7 := m5 y8.toNat
  have u8 := m5 (y8 + -1).toNat
  have u9 : 1 ≤ y8 → Z5 ((y8 + -1).toNat + 1) = Z5 y8.toNat := fun h => by rw [u4 h]
  have d13 := c0 (y6 + 13).toNat
  have d14 := c0 (y6 + 14).toNat
  have d15 := c0 (y6 + 15).toNat
  have d16 := c0 (y6 + 16).toNat
  have d17 := c0 (y6 + 17).toNat
  have dw := c1 y5.toNat
  have fe : ∀ p ∈ eE1_w4_1, inR p.2 (p.1.i (eV x0 x1 Y1 mm nn y2 y3 y4 y5 y6 y7 y8 Bx Cx Dx Fx Gx Z5 Z6)) := fun p hp => hH.e p (List.mem_append_left _ hp)
  have fb : ∀ p ∈ eQ1_w4_1, p.1.b (eV x0 x1 Y1 mm nn y2 y3 y4 y5 y6 y7 y8 Bx Cx Dx Fx Gx Z5 Z6) = p.2 := fun p hp => hH.b p (List.mem_append_left _ hp)
  simp only [eE1_w4_1, eQ1_w4_1, List.forall_mem_cons, inR] at fe fb
  have ff := And.intro fe fb
  clear fe fb
  simp only [nd, sm, sn, eV, u1, u2, u6] at ff
  refine ⟨fun hc0 => ?_, fun hc0 => ?_⟩
  ·
    exfalso
    simp only [nd, sm, sn, eV, u1, u2, u6] at hc0
    omega
  ·
    refine ⟨ehT1, ⟨mm, nn, y2, y3, y4, (_root_.Go.Sx.E.i (eV x0 x1 Y1 mm nn y2 y3 y4 y5 y6 y7 y8 Bx Cx Dx Fx Gx Z5 Z6) e231), y6, y7, y8, Bx, Cx, Dx, Fx, Gx, Z5, Z6, (by kernel_rfl), hB, ?_⟩, ?_⟩
    ·
      simp only [eJ1]
      refine ⟨l2, l3, l4, ?_, l6, l7, l8, m5, m6, ?_, ?_, ?_, ?_, ?_, ?_, trivial⟩
      all_goals (try simp only [nd, sm, sn, eV, u1, u2, u6, if_true, if_false])
      all_goals first
        | omega
        | exact hq
    simp only [emu, Env.app, setAll, List.map_cons, List.map_nil, List.set, nd, sm, sn, eV]
    omega
def eE1_w4_2 : List (E × Rng) := [(e254, (0, 1)), ((.v 0), (14, 1048575)), ((.v 6), (0, 1048561)), (e232, (13, 1048574)), (e0, (1, 1048562)), (e233, (14, 1048575)), (e234, (1, 1048562)), (e210, (1, 16777216)), (e211, (1, 1048562)), (e209, (0, 1048562)), ((.v 7), (0, 1048562)), (e212, (4, 4))]
def eQ1_w4_2 : List (E × Bool) := [(e360, true), (e235, true), (e236, true), (e237, true), (e238, true), (e239, true), (e240, true), (e215, true), (e216, true), (e217, true), (e218, true)]
noncomputable def eH1_w4_2 : Hyp := { eh1.H with e := eE1_w4_2 ++ eh1.H.e, b := eQ1_w4_2 ++ eh1.H.b }
set_option maxHeartbeats 40000000 in
theorem esg1_w4_2 : (segL Try.prog G Gh eD ehs [] 3000 0 5 { eh1 with H := eH1_w4_2 }).map LT.bare = some (.ite e365 (.ret (.s (.bool (.blit false))) []) (.jump 1 eT1 ⟨[(4, (.v 4)), (8, (.v 8)), (7, (.v 7)), (6, e234), (5, e231)], [], [(5, (.av 5)), (6, (.av 6))]⟩)) := by kernel_rfl
theorem evc1_w4_2 (x0 : Ext) (x1 : Ext) (Y1 : Nat → Ext) (mm nn y2 y3 y4 y5 y6 y7 y8 : Int) (Bx Cx Dx Fx Gx Z5 Z6 : Nat → Int) (hB : eBase x0 x1 Y1 mm nn Bx Cx Dx Fx Gx) (hJ : eJ1 mm nn y2 y3 y4 y5 y6 y7 y8 Bx Cx Dx Fx Gx Z5 Z6) (hH : Hyp.ok eH1_w4_2 (eV x0 x1 Y1 mm nn y2 y3 y4 y5 y6 y7 y8 Bx Cx Dx Fx Gx Z5 Z6))  :
    eW1 x0 x1 Y1 (eV x0 x1 Y1 mm nn y2 y3 y4 y5 y6 y7 y8 Bx Cx Dx Fx Gx Z5 Z6) (.ite e365 (.ret (.s (.bool (.blit false))) []) (.jump 1 eT1 ⟨[(4, (.v 4)), (8, (.v 8)), (7, (.v 7)), (6, e234), (5, e231)], [], [(5, (.av 5)), (6, (.av 6))]⟩)) := by
  simp only [eW1, LT.holds, retTrue]
  have hB3 := hB
  have hJ3 := hJ
  simp only [eBase] at hB3
  obtain ⟨b0, b1, c0, c1, c2, c3, c4, en0, en1, ea0, ea1, ea2, ea3, ea4, hs, hx0, _⟩ := hB3
  simp only [eJ1] at hJ3
  obtain ⟨l2, l3, l4, l5, l6, l7, l8, m5, m6, i1, i2, i3, i4, i5, hq, _⟩ := hJ3
  have u1 : (y4 + -1).toNat = y8.toNat := by omega
  have u2 : (y4 + -2).toNat = (y8 + -1).toNat := by omega
  have u3 := hq (y8 + -1).toNat
  have u4 : 1 ≤ y8 → (y8 + -1).toNat + 1 = y8.toNat := by omega
  have u5 : (y8 + 1).toNat = y8.toNat + 1 := by omega
  have u6 : y4.toNat = y8.toNat + 1 := by omega
  have u7 := m5 y8.toNat
  have u8 := m5 (y8 + -1).toNat
  have u9 : 1 ≤ y8 → Z5 ((y8 + -1).toNat + 1) = Z5 y8.toNat := fun h => by rw [u4 h]
  have d13 := c0 (y6 + 13).toNat
  have d14 := c0 (y6 + 14).toNat
  have d15 := c0 (y6 + 15).toNat
  have d16 := c0 (y6 + 16).toNat
  have d17 := c0 (y6 + 17).toNat
  have dw := c1 y5.toNat
  have fe : ∀ p ∈ eE1_w4_2, inR p.2 (p.1.i (eV x0 x1 Y1 mm nn y2 y3 y4 y5 y6 y7 y8 Bx Cx Dx Fx Gx Z5 Z6)) := fun p hp => hH.e p (List.mem_append_left _ hp)
  have fb : ∀ p ∈ eQ1_w4_2, p.1.b (eV x0 x1 Y1 mm nn y2 y3 y4 y5 y6 y7 y8 Bx Cx Dx Fx Gx Z5 Z6) = p.2 := fun p hp => hH.b p (List.mem_append_left _ hp)
  simp only [eE1_w4_2, eQ1_w4_2, List.forall_mem_cons, inR] at fe fb
  have ff := And.intro fe fb
  clear fe fb
  simp only [nd, sm, sn, eV, u1, u2, u6] at ff
  refine ⟨fun hc0 => ?_, fun hc0 => ?_⟩
  ·
    exfalso
    simp only [nd, sm, sn, eV, u1, u2, u6] at hc0
    omega
  ·
    refine ⟨ehT1, ⟨mm, nn, y2, y3, y4, (_root_.Go.Sx.E.i (eV x0 x1 Y1 mm nn y2 y3 y4 y5 y6 y7 y8 Bx Cx Dx Fx Gx Z5 Z6) e231), (_root_.Go.Sx.E.i (eV x0 x1 Y1 mm nn y2 y3 y4 y5 y6 y7 y8 Bx Cx Dx Fx Gx Z5 Z6) e234), y7, y8, Bx, Cx, Dx, Fx, Gx, Z5, Z6, (by kernel_rfl), hB, ?_⟩, ?_⟩
    ·
      simp only [eJ1]
      refine ⟨l2, l3, l4, ?_, ?_, l7, l8, m5, m6, ?_, ?_, ?_, ?_, ?_, ?_, trivial⟩
      all_goals (try simp only [nd, sm, sn, eV, u1, u2, u6, if_true, if_false])
      all_goals first
        | omega
        | exact hq
    simp only [emu, Env.app, setAll, List.map_cons, List.map_nil, List.set, nd, sm, sn, eV]
    omega
def eE1_w5_0 : List (E × Rng) := [(e210, ((-1048562), 3)), (e211, ((-1048562), 3)), (e209, (0, 1048562)), ((.v 7), (0, 1048562)), ((.v 6), (0, 1048562)), ((.v 0), (14, 1048575)), (e0, (1, 1048562)), (e212, (5, 5))]
def eQ1_w5_0 : List (E × Bool) := [(e285, true), (e286, true), (e215, true), (e216, true), (e217, true), (e218, true)]
noncomputable def eH1_w5_0 : Hyp := { eh1.H with e := eE1_w5_0 ++ eh1.H.e, b := eQ1_w5_0 ++ eh1.H.b }
set_option maxHeartbeats 40000000 in
theorem esg1_w5_0 : (segL Try.prog G Gh eD ehs [] 3000 0 5 { eh1 with H := eH1_w5_0 }).map LT.bare = some (.ite e261 (.ret (.s (.bool (.blit false))) []) (.jump 1 eT1 ⟨[(4, (.v 4)), (8, (.v 8)), (7, (.v 7)), (6, (.v 6)), (5, e231)], [], [(5, (.av 5)), (6, (.av 6))]⟩)) := by kernel_rfl
theorem evc1_w5_0 (x0 : Ext) (x1 : Ext) (Y1 : Nat → Ext) (mm nn y2 y3 y4 y5 y6 y7 y8 : Int) (Bx Cx Dx Fx Gx Z5 Z6 : Nat → Int) (hB : eBase x0 x1 Y1 mm nn Bx Cx Dx Fx Gx) (hJ : eJ1 mm nn y2 y3 y4 y5 y6 y7 y8 Bx Cx Dx Fx Gx Z5 Z6) (hH : Hyp.ok eH1_w5_0 (eV x0 x1 Y1 mm nn y2 y3 y4 y5 y6 y7 y8 Bx Cx Dx Fx Gx Z5 Z6))  :
    eW1 x0 x1 Y1 (eV x0 x1 Y1 mm nn y2 y3 y4 y5 y6 y7 y8 Bx Cx Dx Fx Gx Z5 Z6) (.ite e261 (.ret (.s (.bool (.blit false))) []) (.jump 1 eT1 ⟨[(4, (.v 4)), (8, (.v 8)), (7, (.v 7)), (6, (.v 6)), (5, e231)], [], [(5, (.av 5)), (6, (.av 6))]⟩)) := by
  simp only [eW1, LT.holds, retTrue]
  have hB3 := hB
  have hJ3 := hJ
  simp only [eBase] at hB3
  obtain ⟨b0, b1, c0, c1, c2, c3, c4, en0, en1, ea0, ea1, ea2, ea3, ea4, hs, hx0, _⟩ := hB3
  simp only [eJ1] at hJ3
  obtain ⟨l2, l3, l4, l5, l6, l7, l8, m5, m6, i1, i2, i3, i4, i5, hq, _⟩ := hJ3
  have u1 : (y4 + -1).toNat = y8.toNat := by omega
  have u2 : (y4 + -2).toNat = (y8 + -1).toNat := by omega
  have u3 := hq (y8 + -1).toNat
  have u4 : 1 ≤ y8 → (y8 + -1).toNat + 1 = y8.toNat := by omega
  have u5 : (y8 + 1).toNat = y8.toNat + 1 := by omega
  have u6 : y4.toNat = y8.toNat + 1 := by omega
  have u7 := m5 y8.toNat
  have u8 := m5 (y8 + -1).toNat
  have u9 : 1 ≤ y8 → Z5 ((y8 + -1).toNat + 1) = Z5 y8.toNat := fun h => by rw [u4 h]
  have d13 := c0 (y6 + 13).toNat
  have d14 := c0 (y6 + 14).toNat
  have d15 := c0 (y6 + 15).toNat
  have d16 := c0 (y6 + 16).toNat
  have d17 := c0 (y6 + 17).toNat
  have dw := c1 y5.toNat
  have fe : ∀ p ∈ eE1_w5_0, inR p.2 (p.1.i (eV x0 x1 Y1 mm nn y2 y3 y4 y5 y6 y7 y8 Bx Cx Dx Fx Gx Z5 Z6)) := fun p hp => hH.e p (List.mem_append_left _ hp)
  have fb : ∀ p ∈ eQ1_w5_0, p.1.b (eV x0 x1 Y1 mm nn y2 y3 y4 y5 y6 y7 y8 Bx Cx Dx Fx Gx Z5 Z6) = p.2 := fun p hp => hH.b p (List.mem_append_left _ hp)
  simp only [eE1_w5_0, eQ1_w5_0, List.forall_mem_cons, inR] at fe fb
  have ff := And.intro fe fb
  clear fe fb
  simp only [nd, sm, sn, eV, u1, u2, u6] at ff
  refine ⟨fun hc0 => ?_, fun hc0 => ?_⟩
  ·
    exfalso
    simp only [nd, sm, sn, eV, u1, u2, u6] at hc0
    omega
  ·
    refine ⟨ehT1, ⟨mm, nn, y2, y3, y4, (_root_.Go.Sx.E.i (eV x0 x1 Y1 mm nn y2 y3 y4 y5 y6 y7 y8 Bx Cx Dx Fx Gx Z5 Z6) e231), y6, y7, y8, Bx, Cx, Dx, Fx, Gx, Z5, Z6, (by kernel_rfl), hB, ?_⟩, ?_⟩
    ·
      simp only [eJ1]
      refine ⟨l2, l3, l4, ?_, l6, l7, l8, m5, m6, ?_, ?_, ?_, ?_, ?_, ?_, trivial⟩
      all_goals (try simp only [nd, sm, sn, eV, u1, u2, u6, if_true, if_false])
      all_goals first
        | omega
        | exact hq
    simp only [emu, Env.app, setAll, List.map_cons, List.map_nil, List.set, nd, sm, sn, eV]
    omega
def eE1_w5_1 : List (E × Rng) := [(e318, (0, 4294967295)), (e230, ((-9223372036854775808), 4294967294)), ((.v 0), (17, 1048575)), ((.v 6), (0, 1048558)), (e287, (16, 1048574)), (e262, (15, 1048573)), (e233, (14, 1048572)), (e232, (13, 1048571)), (e0, (4, 1048562)), (e288, (3, 1048561)), (e263, (2, 1048560)), (e234, (1, 1048559)), (e289, (17, 1048575)), (e290, (4, 1048562)), (e210, (4, 16777216)), (e211, (4, 1048562)), (e209, (0, 1048562)), ((.v 7), (0, 1048562)), (e212, (5, 5))]
def eQ1_w5_1 : List (E × Bool) := [(e366, true), (e291, true), (e292, true), (e264, true), (e235, true), (e293, true), (e294, true), (e265, true), (e236, true), (e295, true), (e296, true), (e297, true), (e298, true), (e215, true), (e216, true), (e217, true), (e218, true)]
noncomputable def eH1_w5_1 : Hyp := { eh1.H with e := eE1_w5_1 ++ eh1.H.e, b := eQ1_w5_1 ++ eh1.H.b }
set_option maxHeartbeats 40000000 in
theorem esg1_w5_1 : (segL Try.prog G Gh eD ehs [] 3000 0 5 { eh1 with H := eH1_w5_1 }).map LT.bare = some (.ite e359 (.ret (.s (.bool (.blit false))) []) (.jump 1 eT1 ⟨[(4, (.v 4)), (8, (.v 8)), (7, (.v 7)), (6, (.v 6)), (5, e231)], [], [(5, (.av 5)), (6, (.av 6))]⟩)) := by kernel_rfl
theorem evc1_w5_1 (x0 : Ext) (x1 : Ext) (Y1 : Nat → Ext) (mm nn y2 y3 y4 y5 y6 y7 y8 : Int) (Bx Cx Dx Fx Gx Z5 Z6 : Nat → Int) (hB : eBase x0 x1 Y1 mm nn Bx Cx Dx Fx Gx) (hJ : eJ1 mm nn y2 y3 y4 y5 y6 y7 y8 Bx Cx Dx Fx Gx Z5 Z6) (hH : Hyp.ok eH1_w5_1 (eV x0 x1 Y1 mm nn y2 y3 y4 y5 y6 y7 y8 Bx Cx Dx Fx Gx Z5 Z6))  :
    eW1 x0 x1 Y1 (eV x0 x1 Y1 mm nn y2 y3 y4 y5 y6 y7 y8 Bx Cx Dx Fx Gx Z5 Z6) (.ite e359 (.ret (.s (.bool (.blit false))) []) (.jump 1 eT1 ⟨[(4, (.v 4)), (8, (.v 8)), (7, (.v 7)), (6, (.v 6)), (5, e231)], [], [(5, (.av 5)), (6, (.av 6))]⟩)) := by
  simp only [eW1, LT.holds, retTrue]
  have hB3 := hB
  have hJ3 := hJ
  simp only [eBase] at hB3
  obtain ⟨b0, b1, c0, c1, c2, c3, c4, en0, en1, ea0, ea1, ea2, ea3, ea4, hs, hx0, _⟩ := hB3
  simp only [eJ1] at hJ3
  obtain ⟨l2, l3, l4, l5, l6, l7, l8, m5, m6, i1, i2, i3, i4, i5, hq, _⟩ := hJ3
  have u1 : (y4 + -1).toNat = y8.toNat := by omega
  have u2 : (y4 + -2).toNat = (y8 + -1).toNat := by omega
  have u3 := hq (y8 + -1).toNat
  have u4 : 1 ≤ y8 → (y8 + -1).toNat + 1 = y8.toNat := by omega
  have u5 : (y8 + 1).toNat = y8.toNat + 1 := by omega
  have u6 : y4.toNat = y8.toNat + 1 := by omega
  have u7 := m5 y8.toNat
  have u8 := m5 (y8 + -1).toNat
  have u9 : 1 ≤ y8 → Z5 ((y8 + -1).toNat + 1) = Z5 y8.toNat := fun h => by rw [u4 h]
  have d13 := c0 (y6 + 13).toNat
  have d14 := c0 (y6 + 14).toNat
  have d15 := c0 (y6 + 15).toNat
  have d16 := c0 (y6 + 16).toNat
  have d17 := c0 (y6 + 17).toNat
  have dw := c1 y5.toNat
  have fe : ∀ p ∈ eE1_w5_1, inR p.2 (p.1.i (eV x0 x1 Y1 mm nn y2 y3 y4 y5 y6 y7 y8 Bx Cx Dx Fx Gx Z5 Z6)) := fun p hp => hH.e p (List.mem_append_left _ hp)
  have fb : ∀ p ∈ eQ1_w5_1, p.1.b (eV x0 x1 Y1 mm nn y2 y3 y4 y5 y6 y7 y8 Bx Cx Dx Fx Gx Z5 Z6) = p.2 := fun p hp => hH.b p (List.mem_append_left _ hp)
  simp only [eE1_w5_1, eQ1_w5_1, List.forall_mem_cons, inR] at fe fb
  have ff := And.intro fe fb
  clear fe fb
  simp only [nd, sm, sn, eV, u1, u2, u6] at ff
  refine ⟨fun hc0 => ?_, fun hc0 => ?_⟩
  ·
    exfalso
    simp only [nd, sm, sn, eV, u1, u2, u6] at hc0
    omega
  ·
    refine ⟨ehT1, ⟨mm, nn, y2, y3, y4, (_root_.Go.Sx.E.i (eV x0 x1 Y1 mm nn y2 y3 y4 y5 y6 y7 y8 Bx Cx Dx Fx Gx Z5 Z6) e231), y6, y7, y8, Bx, Cx, Dx, Fx, Gx, Z5, Z6, (by kernel_rfl), hB, ?_⟩, ?_⟩
    ·
      simp only [eJ1]
      refine ⟨l2, l3, l4, ?_, l6, l7, l8, m5, m6, ?_, ?_, ?_, ?_, ?_, ?_, trivial⟩
      all_goals (try simp only [nd, sm, sn, eV, u1, u2, u6, if_true, if_false])
      all_goals first
        | omega
        | exact hq
    simp only [emu, Env.app, setAll, List.map_cons, List.map_nil, List.set, nd, sm, sn, eV]
    omega
def eE1_w5_2 : List (E × Rng) := [(e318, (1, 4294967295)), (e210, (4, 16777216)), (e367, (0, 16777212)), (e299, ((-1048562), 1048558)), (e230, (0, 9223372036854775807)), ((.v 0), (17, 1048575)), ((.v 6), (0, 1048558)), (e287, (16, 1048574)), (e262, (15, 1048573)), (e233, (14, 1048572)), (e232, (13, 1048571)), (e0, (4, 1048562)), (e288, (3, 1048561)), (e263, (2, 1048560)), (e234, (1, 1048559)), (e289, (17, 1048575)), (e290, (4, 1048562)), (e211, (4, 1048562)), (e209, (0, 1048562)), ((.v 7), (0, 1048562)), (e212, (5, 5))]
def eQ1_w5_2 : List (E × Bool) := [(e368, true), (e369, true), (e370, true), (e291, true), (e292, true), (e264, true), (e235, true), (e293, true), (e294, true), (e265, true), (e236, true), (e295, true), (e296, true), (e297, true), (e298, true), (e215, true), (e216, true), (e217, true), (e218, true)]
noncomputable def eH1_w5_2 : Hyp := { eh1.H with e := eE1_w5_2 ++ eh1.H.e, b := eQ1_w5_2 ++ eh1.H.b }
set_option maxHeartbeats 40000000 in
theorem esg1_w5_2 : (segL Try.prog G Gh eD ehs [] 3000 0 5 { eh1 with H := eH1_w5_2 }).map LT.bare = some (.ite e359 (.ret (.s (.bool (.blit false))) []) (.jump 1 eT1 ⟨[(4, (.v 4)), (8, (.v 8)), (7, (.v 7)), (6, (.v 6)), (5, e231)], [], [(5, (.av 5)), (6, (.av 6))]⟩)) := by kernel_rfl
theorem evc1_w5_2 (x0 : Ext) (x1 : Ext) (Y1 : Nat → Ext) (mm nn y2 y3 y4 y5 y6 y7 y8 : Int) (Bx Cx Dx Fx Gx Z5 Z6 : Nat → Int) (hB : eBase x0 x1 Y1 mm nn Bx Cx Dx Fx Gx) (hJ : eJ1 mm nn y2 y3 y4 y5 y6 y7 y8 Bx Cx Dx Fx Gx Z5 Z6) (hH : Hyp.ok eH1_w5_2 (eV x0 x1 Y1 mm nn y2 y3 y4 y5 y6 y7 y8 Bx Cx Dx Fx Gx Z5 Z6))  :
    eW1 x0 x1 Y1 (eV x0 x1 Y1 mm nn y2 y3 y4 y5 y6 y7 y8 Bx Cx Dx Fx Gx Z5 Z6) (.ite e359 (.ret (.s (.bool (.blit false))) []) (.jump 1 eT1 ⟨[(4, (.v 4)), (8, (.v 8)), (7, (.v 7)), (6, (.v 6)), (5, e231)], [], [(5, (.av 5)), (6, (.av 6))]⟩)) := by
  simp only [eW1, LT.holds, retTrue]
  have hB3 := hB
  have hJ3 := hJ
  simp only [eBase] at hB3
  obtain ⟨b0, b1, c0, c1, c2, c3, c4, en0, en1, ea0, ea1, ea2, ea3, ea4, hs, hx0, _⟩ := hB3
  simp only [eJ1] at hJ3
  obtain ⟨l2, l3, l4, l5, l6, l7, l8, m5, m6, i1, i2, i3, i4, i5, hq, _⟩ := hJ3
  have u1 : (y4 + -1).toNat = y8.toNat := by omega
  have u2 : (y4 + -2).toNat = (y8 + -1).toNat := by omega
  have u3 := hq (y8 + -1).toNat
  have u4 : 1 ≤ y8 → (y8 + -1).toNat + 1 = y8.toNat := by omega
  have u5 : (y8 + 1).toNat = y8.toNat + 1 := by omega
  have u6 : y4.toNat = y8.toNat + 1 := by omega
  have u7 := m5 y8.toNat
  have u8 := m5 (y8 + -1).toNat
  have u9 : 1 ≤ y8 → Z5 ((y8 + -1).toNat + 1) = Z5 y8.toNat := fun h => by rw [u4 h]
  have d13 := c0 (y6 + 13).toNat
  have d14 := c0 (y6 + 14).toNat
  have d15 := c0 (y6 + 15).toNat
  have d16 := c0 (y6 + 16).toNat
  have d17 := c0 (y6 + 17).toNat
  have dw := c1 y5.toNat
  have fe : ∀ p ∈ eE1_w5_2, inR p.2 (p.1.i (eV x0 x1 Y1 mm nn y2 y3 y4 y5 y6 y7 y8 Bx Cx Dx Fx Gx Z5 Z6)) := fun p hp => hH.e p (List.mem_append_left _ hp)
  have fb : ∀ p ∈ eQ1_w5_2, p.1.b (eV x0 x1 Y1 mm nn y2 y3 y4 y5 y6 y7 y8 Bx Cx Dx Fx Gx Z5 Z6) = p.2 := fun p hp => hH.b p (List.mem_append_left _ hp)
  simp only [eE1_w5_2, eQ1_w5_2, List.forall_mem_cons, inR] at fe fb
  have ff := And.intro fe fb
  clear fe fb
  simp only [nd, sm, sn, eV, u1, u2, u6] at ff
  refine ⟨fun hc0 => ?_, fun hc0 => ?_⟩
  ·
    exfalso
    simp only [nd, sm, sn, eV, u1, u2, u6] at hc0
    omega
  ·
    refine ⟨ehT1, ⟨mm, nn, y2, y3, y4, (_root_.Go.Sx.E.i (eV x0 x1 Y1 mm nn y2 y3 y4 y5 y6 y7 y8 Bx Cx Dx Fx Gx Z5 Z6) e231), y6, y7, y8, Bx, Cx, Dx, Fx, Gx, Z5, Z6, (by kernel_rfl), hB, ?_⟩, ?_⟩
    ·
      simp only [eJ1]
      refine ⟨l2, l3, l4, ?_, l6, l7, l8, m5, m6, ?_, ?_, ?_, ?_, ?_, ?_, trivial⟩
      all_goals (try simp only [nd, sm, sn, eV, u1, u2, u6, if_true, if_false])
      all_goals first
        | omega
        | exact hq
    simp only [emu, Env.app, setAll, List.map_cons, List.map_nil, List.set, nd, sm, sn, eV]
    omega
def eE1_w5_3 : List (E × Rng) := [((.v 0), (18, 1048575)), ((.v 6), (0, 1048557)), (e289, (17, 1048574)), (e374, (0, 1048558)), (e375, (17, 1048575)), (e376, (4, 1048562)), (e290, (4, 1048562)), (e0, (4, 1048562)), (e210, (4, 16777216)), (e367, (0, 16777212)), (e318, (0, 1048558)), (e299, (0, 1048558)), (e230, (0, 9223372036854775807)), (e287, (16, 1048574)), (e262, (15, 1048573)), (e233, (14, 1048572)), (e232, (13, 1048571)), (e288, (3, 1048561)), (e263, (2, 1048560)), (e234, (1, 1048559)), (e211, (4, 1048562)), (e209, (0, 1048562)), ((.v 7), (0, 1048562)), (e212, (5, 5))]
def eQ1_w5_3 : List (E × Bool) := [(e332, true), (e377, true), (e378, true), (e379, true), (e380, true), (e381, true), (e370, true), (e291, true), (e292, true), (e264, true), (e235, true), (e293, true), (e294, true), (e265, true), (e236, true), (e295, true), (e296, true), (e297, true), (e298, true), (e215, true), (e216, true), (e217, true), (e218, true)]
noncomputable def eH1_w5_3 : Hyp := { eh1.H with e := eE1_w5_3 ++ eh1.H.e, b := eQ1_w5_3 ++ eh1.H.b }
set_option maxHeartbeats 40000000 in
theorem esg1_w5_3 : (segL Try.prog G Gh eD ehs [] 3000 0 5 { eh1 with H := eH1_w5_3 }).map LT.bare = some (.ite e399 (.ret (.s (.bool (.blit false))) []) (.ite e400 (.jump 1 eT1 ⟨[(4, (.v 4)), (8, (.v 8)), (7, (.v 7)), (6, e376), (5, e231)], [], [(5, (.av 5)), (6, (.av 6))]⟩) (.jump 1 eT1 ⟨[(4, (.v 4)), (8, (.v 8)), (7, (.v 7)), (6, e376), (5, e231)], [], [(5, (.av 5)), (6, (.av 6))]⟩))) := by kernel_rfl
theorem evc1_w5_3 (x0 : Ext) (x1 : Ext) (Y1 : Nat → Ext) (mm nn y2 y3 y4 y5 y6 y7 y8 : Int) (Bx Cx Dx Fx Gx Z5 Z6 : Nat → Int) (hB : eBase x0 x1 Y1 mm nn Bx Cx Dx Fx Gx) (hJ : eJ1 mm nn y2 y3 y4 y5 y6 y7 y8 Bx Cx Dx Fx Gx Z5 Z6) (hH : Hyp.ok eH1_w5_3 (eV x0 x1 Y1 mm nn y2 y3 y4 y5 y6 y7 y8 Bx Cx Dx Fx Gx Z5 Z6))  :
    eW1 x0 x1 Y1 (eV x0 x1 Y1 mm nn y2 y3 y4 y5 y6 y7 y8 Bx Cx Dx Fx Gx Z5 Z6) (.ite e399 (.ret (.s (.bool (.blit false))) []) (.ite e400 (.jump 1 eT1 ⟨[(4, (.v 4)), (8, (.v 8)), (7, (.v 7)), (6, e376), (5, e231)], [], [(5, (.av 5)), (6, (.av 6))]⟩) (.jump 1 eT1 ⟨[(4, (.v 4)), (8, (.v 8)), (7, (.v 7)), (6, e376), (5, e231)], [], [(5, (.av 5)), (6, (.av 6))]⟩))) := by
  simp only [eW1, LT.holds, retTrue]
  have hB3 := hB
  have hJ3 := hJ
  simp only [eBase] at hB3
  obtain ⟨b0, b1, c0, c1, c2, c3, c4, en0, en1, ea0, ea1, ea2, ea3, ea4, hs, hx0, _⟩ := hB3
  simp only [eJ1] at hJ3
  obtain ⟨l2, l3, l4, l5, l6, l7, l8, m5, m6, i1, i2, i3, i4, i5, hq, _⟩ := hJ3
  have u1 : (y4 + -1).toNat = y8.toNat := by omega
  have u2 : (y4 + -2).toNat = (y8 + -1).toNat := by omega
  have u3 := hq (y8 + -1).toNat
  have u4 : 1 ≤ y8 → (y8 + -1).toNat + 1 = y8.toNat := by omega
  have u5 : (y8 + 1).toNat = y8.toNat + 1 := by omega
  have u6 : y4.toNat = y8.toNat + 1 := by omega
  have u7 := m5 y8.toNat
  have u8 := m5 (y8 + -1).toNat
  have u9 : 1 ≤ y8 → Z5 ((y8 + -1).toNat + 1) = Z5 y8.toNat := fun h => by rw [u4 h]
  have d13 := c0 (y6 + 13).toNat
  have d14 := c0 (y6 + 14).toNat
  have d15 := c0 (y6 + 15).toNat
  have d16 := c0 (y6 + 16).toNat
  have d17 := c0 (y6 + 17).toNat
  have dw := c1 y5.toNat
  have fe : ∀ p ∈ eE1_w5_3, inR p.2 (p.1.i (eV x0 x1 Y1 mm nn y2 y3 y4 y5 y6 y7 y8 Bx Cx Dx Fx Gx Z5 Z6)) := fun p hp => hH.e p (List.mem_append_left _ hp)
  have fb : ∀ p ∈ eQ1_w5_3, p.1.b (eV x0 x1 Y1 mm nn y2 y3 y4 y5 y6 y7 y8 Bx Cx Dx Fx Gx Z5 Z6) = p.2 := fun p hp => hH.b p (List.mem_append_left _ hp)
  simp only [eE1_w5_3, eQ1_w5_3, List.forall_mem_cons, inR] at fe fb
  have ff := And.intro fe fb
  clear fe fb
  simp only [nd, sm, sn, eV, u1, u2, u6] at ff
  have hz : E.b (eV x0 x1 Y1 mm nn y2 y3 y4 y5 y6 y7 y8 Bx Cx Dx Fx Gx Z5 Z6) e397 = true := aeq_shift (by simp only [nd, sm, sn, eV]; omega) (by simp only [nd, sm, sn, eV]; omega) (by simp only [nd, sm, sn, eV]; omega)
  refine ⟨fun hc0 => ?_, fun hc0 => ?_⟩
  ·
    exfalso
    simp only [nd, sm, hz, Bool.not_true, sn, Bool.true_eq_false, Bool.false_eq_true, or_false] at hc0
    simp only [nd, sm, sn, eV, u1, u2, u6] at hc0
    omega
  ·
    refine ⟨fun hc2 => ?_, fun hc2 => ?_⟩
    ·
      refine ⟨ehT1, ⟨mm, nn, y2, y3, y4, (_root_.Go.Sx.E.i (eV x0 x1 Y1 mm nn y2 y3 y4 y5 y6 y7 y8 Bx Cx Dx Fx Gx Z5 Z6) e231), (_root_.Go.Sx.E.i (eV x0 x1 Y1 mm nn y2 y3 y4 y5 y6 y7 y8 Bx Cx Dx Fx Gx Z5 Z6) e376), y7, y8, Bx, Cx, Dx, Fx, Gx, Z5, Z6, (by kernel_rfl), hB, ?_⟩, ?_⟩
      ·
        simp only [eJ1]
        refine ⟨l2, l3, l4, ?_, ?_, l7, l8, m5, m6, ?_, ?_, ?_, ?_, ?_, ?_, trivial⟩
        all_goals (try simp only [nd, sm, sn, eV, u1, u2, u6, if_true, if_false])
        all_goals first
          | omega
          | exact hq
      simp only [emu, Env.app, setAll, List.map_cons, List.map_nil, List.set, nd, sm, sn, eV]
      omega
    ·
      refine ⟨ehT1, ⟨mm, nn, y2, y3, y4, (_root_.Go.Sx.E.i (eV x0 x1 Y1 mm nn y2 y3 y4 y5 y6 y7 y8 Bx Cx Dx Fx Gx Z5 Z6) e231), (_root_.Go.Sx.E.i (eV x0 x1 Y1 mm nn y2 y3 y4 y5 y6 y7 y8 Bx Cx Dx Fx Gx Z5 Z6) e376), y7, y8, Bx, Cx, Dx, Fx, Gx, Z5, Z6, (by kernel_rfl), hB, ?_⟩, ?_⟩
      ·
        simp only [eJ1]
        refine ⟨l2, l3, l4, ?_, ?_, l7, l8, m5, m6, ?_, ?_, ?_, ?_, ?_, ?_, trivial⟩
        all_goals (try simp only [nd, sm, sn, eV, u1, u2, u6, if_true, if_false])
        all_goals first
          | omega
          | exact hq
      simp only [emu, Env.app, setAll, List.map_cons, List.map_nil, List.set, nd, sm, sn, eV]
      omega
def eE1_w5_5 : List (E × Rng) := [((.v 6), (0, 1048558)), (e290, (4, 1048562)), (e374, (0, 1048558)), (e376, (4, 1048562)), (e318, (0, 0)), ((.v 0), (17, 1048575)), (e289, (17, 1048575)), (e375, (17, 1048575)), (e0, (4, 1048562)), (e210, (4, 16777216)), (e367, (0, 16777212)), (e299, (0, 1048558)), (e230, (0, 9223372036854775807)), (e287, (16, 1048574)), (e262, (15, 1048573)), (e233, (14, 1048572)), (e232, (13, 1048571)), (e288, (3, 1048561)), (e263, (2, 1048560)), (e234, (1, 1048559)), (e211, (4, 1048562)), (e209, (0, 1048562)), ((.v 7), (0, 1048562)), (e212, (5, 5))]
def eQ1_w5_5 : List (E × Bool) := [(e401, true), (e402, true), (e403, true), (e377, true), (e378, true), (e379, true), (e380, true), (e381, true), (e370, true), (e291, true), (e292, true), (e264, true), (e235, true), (e293, true), (e294, true), (e265, true), (e236, true), (e295, true), (e296, true), (e297, true), (e298, true), (e215, true), (e216, true), (e217, true), (e218, true)]
noncomputable def eH1_w5_5 : Hyp := { eh1.H with e := eE1_w5_5 ++ eh1.H.e, b := eQ1_w5_5 ++ eh1.H.b }
set_option maxHeartbeats 40000000 in
theorem esg1_w5_5 : (segL Try.prog G Gh eD ehs [] 3000 0 5 { eh1 with H := eH1_w5_5 }).map LT.bare = some (.ite e394 (.ret (.s (.bool (.blit false))) []) (.jump 1 eT1 ⟨[(4, (.v 4)), (8, (.v 8)), (7, (.v 7)), (6, e376), (5, e231)], [], [(5, (.av 5)), (6, (.av 6))]⟩)) := by kernel_rfl
theorem evc1_w5_5 (x0 : Ext) (x1 : Ext) (Y1 : Nat → Ext) (mm nn y2 y3 y4 y5 y6 y7 y8 : Int) (Bx Cx Dx Fx Gx Z5 Z6 : Nat → Int) (hB : eBase x0 x1 Y1 mm nn Bx Cx Dx Fx Gx) (hJ : eJ1 mm nn y2 y3 y4 y5 y6 y7 y8 Bx Cx Dx Fx Gx Z5 Z6) (hH : Hyp.ok eH1_w5_5 (eV x0 x1 Y1 mm nn y2 y3 y4 y5 y6 y7 y8 Bx Cx Dx Fx Gx Z5 Z6))  :
    eW1 x0 x1 Y1 (eV x0 x1 Y1 mm nn y2 y3 y4 y5 y6 y7 y8 Bx Cx Dx Fx Gx Z5 Z6) (.ite e394 (.ret (.s (.bool (.blit false))) []) (.jump 1 eT1 ⟨[(4, (.v 4)), (8, (.v 8)), (7, (.v 7)), (6, e376), (5, e231)], [], [(5, (.av 5)), (6, (.av 6))]⟩)) := by
  simp only [eW1, LT.holds, retTrue]
  have hB3 := hB
  have hJ3 := hJ
  simp only [eBase] at hB3
  obtain ⟨b0, b1, c0, c1, c2, c3, c4, en0, en1, ea0, ea1, ea2, ea3, ea4, hs, hx0, _⟩ := hB3
  simp only [eJ1] at hJ3
  obtain ⟨l2, l3, l4, l5, l6, l7, l8, m5, m6, i1, i2, i3, i4, i5, hq, _⟩ := hJ3
  have u1 : (y4 + -1).toNat = y8.toNat := by omega
  have u2 : (y4 + -2).toNat = (y8 + -1).toNat := by omega
  have u3 := hq (y8 + -1).toNat
  have u4 : 1 ≤ y8 → (y8 + -1).toNat + 1 = y8.toNat := by omega
  have u5 : (y8 + 1).toNat = y8.toNat + 1 := by omega
  have u6 : y4.toNat = y8.toNat + 1 := by omega
  have u7 := m5 y8.toNat
  have u8 := m5 (y8 + -1).toNat
  have u9 : 1 ≤ y8 → Z5 ((y8 + -1).toNat + 1) = Z5 y8.toNat := fun h => by rw [u4 h]
  have d13 := c0 (y6 + 13).toNat
  have d14 := c0 (y6 + 14).toNat
  have d15 := c0 (y6 + 15).toNat
  have d16 := c0 (y6 + 16).toNat
  have d17 := c0 (y6 + 17).toNat
  have dw := c1 y5.toNat
  have fe : ∀ p ∈ eE1_w5_5, inR p.2 (p.1.i (eV x0 x1 Y1 mm nn y2 y3 y4 y5 y6 y7 y8 Bx Cx Dx Fx Gx Z5 Z6)) := fun p hp => hH.e p (List.mem_append_left _ hp)
  have fb : ∀ p ∈ eQ1_w5_5, p.1.b (eV x0 x1 Y1 mm nn y2 y3 y4 y5 y6 y7 y8 Bx Cx Dx Fx Gx Z5 Z6) = p.2 := fun p hp => hH.b p (List.mem_append_left _ hp)
  simp only [eE1_w5_5, eQ1_w5_5, List.forall_mem_cons, inR] at fe fb
  have ff := And.intro fe fb
  clear fe fb
  simp only [nd, sm, sn, eV, u1, u2, u6] at ff
  refine ⟨fun hc0 => ?_, fun hc0 => ?_⟩
  ·
    exfalso
    simp only [nd, sm, sn, eV, u1, u2, u6] at hc0
    omega
  ·
    refine ⟨ehT1, ⟨mm, nn, y2, y3, y4, (_root_.Go.Sx.E.i (eV x0 x1 Y1 mm nn y2 y3 y4 y5 y6 y7 y8 Bx Cx Dx Fx Gx Z5 Z6) e231), (_root_.Go.Sx.E.i (eV x0 x1 Y1 mm nn y2 y3 y4 y5 y6 y7 y8 Bx Cx Dx Fx Gx Z5 Z6) e376), y7, y8, Bx, Cx, Dx, Fx, Gx, Z5, Z6, (by kernel_rfl), hB, ?_⟩, ?_⟩
    ·
      simp only [eJ1]
      refine ⟨l2, l3, l4, ?_, ?_, l7, l8, m5, m6, ?_, ?_, ?_, ?_, ?_, ?_, trivial⟩
      all_goals (try simp only [nd, sm, sn, eV, u1, u2, u6, if_true, if_false])
      all_goals first
        | omega
        | exact hq
    simp only [emu, Env.app, setAll, List.map_cons, List.map_nil, List.set, nd, sm, sn, eV]
    omega
end Go.Proofs.Ytflamojcdfmimaa.SaveReads
