/- A part of the law SaveReads, which returns true for every input. A reader of whatever bytes answers, call by call in every order, what the document says, and stands where it says. Where what comes in is of bulk at most 1048576. No condition. -/
import Derived.Test.YtflamojcdfmimaaSaveReadsB
namespace Go.Proofs.Ytflamojcdfmimaa.SaveReads
open Go.Sx Go.ChangeShapes Go.WideShapes Go.ChangeAt Go.RowKit
set_option linter.unusedVariables false
set_option linter.unusedSimpArgs false
set_option maxRecDepth 100000
def eE1_w6_4 : List (E × Rng) := [(e209, (0, 1048562)), ((.v 7), (0, 1048562)), ((.v 6), (0, 1048562)), ((.v 0), (14, 1048575)), (e0, (1, 1048562)), (e212, (6, 6)), ((.v 8), (16, 16)), ((.v 4), (17, 17))]
def eQ1_w6_4 : List (E × Bool) := [(e215, true), (e216, true), (e217, true), (e218, true)]
noncomputable def eH1_w6_4 : Hyp := { eh1.H with e := eE1_w6_4 ++ eh1.H.e, b := eQ1_w6_4 ++ eh1.H.b }
set_option maxHeartbeats 40000000 in
theorem esg1_w6_4 : (segL Try.prog G Gh eD ehs [] 3000 0 5 { eh1 with H := eH1_w6_4 }).map LT.bare = some (.ite e220 (.ret (.s (.bool (.blit false))) []) (.jump 1 eT1 ⟨[(4, (.v 4)), (8, (.v 8)), (7, (.v 7)), (6, (.v 6)), (5, e231)], [], [(5, (.av 5)), (6, (.av 6))]⟩)) := by kernel_rfl
theorem evc1_w6_4 (x0 : Ext) (x1 : Ext) (Y1 : Nat → Ext) (mm nn y2 y3 y4 y5 y6 y7 y8 : Int) (Bx Cx Dx Fx Gx Z5 Z6 : Nat → Int) (hB : eBase x0 x1 Y1 mm nn Bx Cx Dx Fx Gx) (hJ : eJ1 mm nn y2 y3 y4 y5 y6 y7 y8 Bx Cx Dx Fx Gx Z5 Z6) (hH : Hyp.ok eH1_w6_4 (eV x0 x1 Y1 mm nn y2 y3 y4 y5 y6 y7 y8 Bx Cx Dx Fx Gx Z5 Z6))  :
    eW1 x0 x1 Y1 (eV x0 x1 Y1 mm nn y2 y3 y4 y5 y6 y7 y8 Bx Cx Dx Fx Gx Z5 Z6) (.ite e220 (.ret (.s (.bool (.blit false))) []) (.jump 1 eT1 ⟨[(4, (.v 4)), (8, (.v 8)), (7, (.v 7)), (6, (.v 6)), (5, e231)], [], [(5, (.av 5)), (6, (.av 6))]⟩)) := by
  simp only [eW1, LT.holds, retTrue]
  have hB3 := hB
  have hJ3 := hJ
  simp only [eBase] at hB3
  obtain ⟨b0, b1, c0, c1, c2, c3, c4, en0, en1, ea0, ea1, ea2, ea3, ea4, hs, hx0, _⟩ := hB3
  simp only [eJ1] at hJ3
  obtain ⟨l2, l3, l4, l5, l6, l7, l8, m5, m6, i1, i2, i3, i4, i5, hq, _⟩ := hJ3
  have u1 : (y4 + -1).toNat = y8.toNat := by omega
  have u2 : (y4 + -2).toNat = (y8 + -1).toNat := by omega
  have u3 := hq (y8 + -1).toNat
  have u4 : 1 ≤ y8 → (y8 + -1).toNat + 1 = y8.toNat := by omega
  have u5 : (y8 + 1).toNat = y8.toNat + 1 := by omega
  have u6 : y4.toNat = y8.toNat + 1 := by omega
  have u7 := m5 y8.toNat
  have u8 := m5 (y8 + -1).toNat
  have u9 : 1 ≤ y8 → Z5 ((y8 + -1).toNat + 1) = Z5 y8.toNat := fun h => by rw [u4 h]
  have d13 := c0 (y6 + 13).toNat
  have d14 := c0 (y6 + 14).toNat
  have d15 := c0 (y6 + 15).toNat
  have d16 := c0 (y6 + 16).toNat
  have d17 := c0 (y6 + 17).toNat
  have dw := c1 y5.toNat
  have fe : ∀ p ∈ eE1_w6_4, inR p.2 (p.1.i (eV x0 x1 Y1 mm nn y2 y3 y4 y5 y6 y7 y8 Bx Cx Dx Fx Gx Z5 Z6)) := fun p hp => hH.e p (List.mem_append_left _ hp)
  have fb : ∀ p ∈ eQ1_w6_4, p.1.b (eV x0 x1 Y1 mm nn y2 y3 y4 y5 y6 y7 y8 Bx Cx Dx Fx Gx Z5 Z6) = p.2 := fun p hp => hH.b p (List.mem_append_left _ hp)
  simp only [eE1_w6_4, eQ1_w6_4, List.forall_mem_cons, inR] at fe fb
  have ff := And.intro fe fb
  clear fe fb
  simp only [nd, sm, sn, eV, u1, u2, u6] at ff
  refine ⟨fun hc0 => ?_, fun hc0 => ?_⟩
  ·
    exfalso
    simp only [nd, sm, sn, eV, u1, u2, u6] at hc0
    omega
  ·
    refine ⟨ehT1, ⟨mm, nn, y2, y3, y4, (_root_.Go.Sx.E.i (eV x0 x1 Y1 mm nn y2 y3 y4 y5 y6 y7 y8 Bx Cx Dx Fx Gx Z5 Z6) e231), y6, y7, y8, Bx, Cx, Dx, Fx, Gx, Z5, Z6, (by kernel_rfl), hB, ?_⟩, ?_⟩
    ·
      simp only [eJ1]
      refine ⟨l2, l3, l4, ?_, l6, l7, l8, m5, m6, ?_, ?_, ?_, ?_, ?_, ?_, trivial⟩
      all_goals (try simp only [nd, sm, sn, eV, u1, u2, u6, if_true, if_false])
      all_goals first
        | omega
        | exact hq
    simp only [emu, Env.app, setAll, List.map_cons, List.map_nil, List.set, nd, sm, sn, eV]
    omega
def eE1_w6_0 : List (E × Rng) := [(e210, ((-1048562), 4)), (e211, ((-1048562), 4)), (e209, (0, 1048562)), ((.v 7), (0, 1048562)), ((.v 6), (0, 1048562)), ((.v 0), (14, 1048575)), (e0, (1, 1048562)), (e212, (6, 6)), ((.v 8), (0, 15)), ((.v 4), (1, 16))]
def eQ1_w6_0 : List (E × Bool) := [(e404, true), (e405, true), (e215, true), (e216, true), (e217, true), (e218, true)]
noncomputable def eH1_w6_0 : Hyp := { eh1.H with e := eE1_w6_0 ++ eh1.H.e, b := eQ1_w6_0 ++ eh1.H.b }
set_option maxHeartbeats 40000000 in
theorem esg1_w6_0 : (segL Try.prog G Gh eD ehs [] 3000 0 5 { eh1 with H := eH1_w6_0 }).map LT.bare = some (.ite e261 (.ret (.s (.bool (.blit false))) []) (.jump 1 eT1 ⟨[(4, (.v 4)), (8, (.v 8)), (7, (.v 7)), (6, (.v 6)), (5, e231)], [], [(5, (.av 5)), (6, (.av 6))]⟩)) := by kernel_rfl
theorem evc1_w6_0 (x0 : Ext) (x1 : Ext) (Y1 : Nat → Ext) (mm nn y2 y3 y4 y5 y6 y7 y8 : Int) (Bx Cx Dx Fx Gx Z5 Z6 : Nat → Int) (hB : eBase x0 x1 Y1 mm nn Bx Cx Dx Fx Gx) (hJ : eJ1 mm nn y2 y3 y4 y5 y6 y7 y8 Bx Cx Dx Fx Gx Z5 Z6) (hH : Hyp.ok eH1_w6_0 (eV x0 x1 Y1 mm nn y2 y3 y4 y5 y6 y7 y8 Bx Cx Dx Fx Gx Z5 Z6))  :
    eW1 x0 x1 Y1 (eV x0 x1 Y1 mm nn y2 y3 y4 y5 y6 y7 y8 Bx Cx Dx Fx Gx Z5 Z6) (.ite e261 (.ret (.s (.bool (.blit false))) []) (.jump 1 eT1 ⟨[(4, (.v 4)), (8, (.v 8)), (7, (.v 7)), (6, (.v 6)), (5, e231)], [], [(5, (.av 5)), (6, (.av 6))]⟩)) := by
  simp only [eW1, LT.holds, retTrue]
  have hB3 := hB
  have hJ3 := hJ
  simp only [eBase] at hB3
  obtain ⟨b0, b1, c0, c1, c2, c3, c4, en0, en1, ea0, ea1, ea2, ea3, ea4, hs, hx0, _⟩ := hB3
  simp only [eJ1] at hJ3
  obtain ⟨l2, l3, l4, l5, l6, l7, l8, m5, m6, i1, i2, i3, i4, i5, hq, _⟩ := hJ3
  have u1 : (y4 + -1).toNat = y8.toNat := by omega
  have u2 : (y4 + -2).toNat = (y8 + -1).toNat := by omega
  have u3 := hq (y8 + -1).toNat
  have u4 : 1 ≤ y8 → (y8 + -1).toNat + 1 = y8.toNat := by omega
  have u5 : (y8 + 1).toNat = y8.toNat + 1 := by omega
  have u6 : y4.toNat = y8.toNat + 1 := by omega
  have u7 := m5 y8.toNat
  have u8 := m5 (y8 + -1).toNat
  have u9 : 1 ≤ y8 → Z5 ((y8 + -1).toNat + 1) = Z5 y8.toNat := fun h => by rw [u4 h]
  have d13 := c0 (y6 + 13).toNat
  have d14 := c0 (y6 + 14).toNat
  have d15 := c0 (y6 + 15).toNat
  have d16 := c0 (y6 + 16).toNat
  have d17 := c0 (y6 + 17).toNat
  have dw := c1 y5.toNat
  have fe : ∀ p ∈ eE1_w6_0, inR p.2 (p.1.i (eV x0 x1 Y1 mm nn y2 y3 y4 y5 y6 y7 y8 Bx Cx Dx Fx Gx Z5 Z6)) := fun p hp => hH.e p (List.mem_append_left _ hp)
  have fb : ∀ p ∈ eQ1_w6_0, p.1.b (eV x0 x1 Y1 mm nn y2 y3 y4 y5 y6 y7 y8 Bx Cx Dx Fx Gx Z5 Z6) = p.2 := fun p hp => hH.b p (List.mem_append_left _ hp)
  simp only [eE1_w6_0, eQ1_w6_0, List.forall_mem_cons, inR] at fe fb
  have ff := And.intro fe fb
  clear fe fb
  simp only [nd, sm, sn, eV, u1, u2, u6] at ff
  refine ⟨fun hc0 => ?_, fun hc0 => ?_⟩
  ·
    exfalso
    simp only [nd, sm, sn, eV, u1, u2, u6] at hc0
    omega
  ·
    refine ⟨ehT1, ⟨mm, nn, y2, y3, y4, (_root_.Go.Sx.E.i (eV x0 x1 Y1 mm nn y2 y3 y4 y5 y6 y7 y8 Bx Cx Dx Fx Gx Z5 Z6) e231), y6, y7, y8, Bx, Cx, Dx, Fx, Gx, Z5, Z6, (by kernel_rfl), hB, ?_⟩, ?_⟩
    ·
      simp only [eJ1]
      refine ⟨l2, l3, l4, ?_, l6, l7, l8, m5, m6, ?_, ?_, ?_, ?_, ?_, ?_, trivial⟩
      all_goals (try simp only [nd, sm, sn, eV, u1, u2, u6, if_true, if_false])
      all_goals first
        | omega
        | exact hq
    simp only [emu, Env.app, setAll, List.map_cons, List.map_nil, List.set, nd, sm, sn, eV]
    omega
def eE1_w6_1 : List (E × Rng) := [((.v 0), (18, 1048575)), ((.v 6), (0, 1048557)), (e289, (17, 1048574)), (e287, (16, 1048573)), (e262, (15, 1048572)), (e233, (14, 1048571)), (e232, (13, 1048570)), (e0, (5, 1048562)), (e290, (4, 1048561)), (e288, (3, 1048560)), (e263, (2, 1048559)), (e234, (1, 1048558)), (e323, (18, 1048575)), (e326, (5, 1048562)), (e210, (5, 16777216)), (e211, (5, 1048562)), (e209, (0, 1048562)), ((.v 7), (0, 1048562)), (e212, (6, 6)), ((.v 8), (0, 15)), ((.v 4), (1, 16))]
def eQ1_w6_1 : List (E × Bool) := [(e407, false), (e408, true), (e332, true), (e291, true), (e292, true), (e264, true), (e235, true), (e336, true), (e293, true), (e294, true), (e265, true), (e236, true), (e409, true), (e410, true), (e411, true), (e412, true), (e215, true), (e216, true), (e217, true), (e218, true)]
noncomputable def eH1_w6_1 : Hyp := { eh1.H with e := eE1_w6_1 ++ eh1.H.e, b := eQ1_w6_1 ++ eh1.H.b }
set_option maxHeartbeats 40000000 in
theorem esg1_w6_1 : (segL Try.prog G Gh eD ehs [] 3000 0 5 { eh1 with H := eH1_w6_1 }).map LT.bare = some (.ite e359 (.ret (.s (.bool (.blit false))) []) (.jump 1 eT1 ⟨[(4, (.v 4)), (8, (.v 8)), (7, (.v 7)), (6, (.v 6)), (5, e231)], [], [(5, (.av 5)), (6, (.av 6))]⟩)) := by kernel_rfl
theorem evc1_w6_1 (x0 : Ext) (x1 : Ext) (Y1 : Nat → Ext) (mm nn y2 y3 y4 y5 y6 y7 y8 : Int) (Bx Cx Dx Fx Gx Z5 Z6 : Nat → Int) (hB : eBase x0 x1 Y1 mm nn Bx Cx Dx Fx Gx) (hJ : eJ1 mm nn y2 y3 y4 y5 y6 y7 y8 Bx Cx Dx Fx Gx Z5 Z6) (hH : Hyp.ok eH1_w6_1 (eV x0 x1 Y1 mm nn y2 y3 y4 y5 y6 y7 y8 Bx Cx Dx Fx Gx Z5 Z6))  :
    eW1 x0 x1 Y1 (eV x0 x1 Y1 mm nn y2 y3 y4 y5 y6 y7 y8 Bx Cx Dx Fx Gx Z5 Z6) (.ite e359 (.ret (.s (.bool (.blit false))) []) (.jump 1 eT1 ⟨[(4, (.v 4)), (8, (.v 8)), (7, (.v 7)), (6, (.v 6)), (5, e231)], [], [(5, (.av 5)), (6, (.av 6))]⟩)) := by
  simp only [eW1, LT.holds, retTrue]
  have hB3 := hB
  have hJ3 := hJ
  simp only [eBase] at hB3
  obtain ⟨b0, b1, c0, c1, c2, c3, c4, en0, en1, ea0, ea1, ea2, ea3, ea4, hs, hx0, _⟩ := hB3
  simp only [eJ1] at hJ3
  obtain ⟨l2, l3, l4, l5, l6, l7, l8, m5, m6, i1, i2, i3, i4, i5, hq, _⟩ := hJ3
  have u1 : (y4 + -1).toNat = y8.toNat := by omega
  have u2 : (y4 + -2).toNat = (y8 + -1).toNat := by omega
  have u3 := hq (y8 + -1).toNat
  have u4 : 1 ≤ y8 → (y8 + -1).toNat + 1 = y8.toNat := by omega
  have u5 : (y8 + 1).toNat = y8.toNat + 1 := by omega
  have u6 : y4.toNat = y8.toNat + 1 := by omega
  have u7 := m5 y8.toNat
  have u8 := m5 (y8 + -1).toNat
  have u9 : 1 ≤ y8 → Z5 ((y8 + -1).toNat + 1) = Z5 y8.toNat := fun h => by rw [u4 h]
  have d13 := c0 (y6 + 13).toNat
  have d14 := c0 (y6 + 14).toNat
  have d15 := c0 (y6 + 15).toNat
  have d16 := c0 (y6 + 16).toNat
  have d17 := c0 (y6 + 17).toNat
  have dw := c1 y5.toNat
  have fe : ∀ p ∈ eE1_w6_1, inR p.2 (p.1.i (eV x0 x1 Y1 mm nn y2 y3 y4 y5 y6 y7 y8 Bx Cx Dx Fx Gx Z5 Z6)) := fun p hp => hH.e p (List.mem_append_left _ hp)
  have fb : ∀ p ∈ eQ1_w6_1, p.1.b (eV x0 x1 Y1 mm nn y2 y3 y4 y5 y6 y7 y8 Bx Cx Dx Fx Gx Z5 Z6) = p.2 := fun p hp => hH.b p (List.mem_append_left _ hp)
  simp only [eE1_w6_1, eQ1_w6_1, List.forall_mem_cons, inR] at fe fb
  have ff := And.intro fe fb
  clear fe fb
  simp only [nd, sm, sn, eV, u1, u2, u6] at ff
  refine ⟨fun hc0 => ?_, fun hc0 => ?_⟩
  ·
    exfalso
    simp only [nd, sm, sn, eV, u1, u2, u6] at hc0
    omega
  ·
    refine ⟨ehT1, ⟨mm, nn, y2, y3, y4, (_root_.Go.Sx.E.i (eV x0 x1 Y1 mm nn y2 y3 y4 y5 y6 y7 y8 Bx Cx Dx Fx Gx Z5 Z6) e231), y6, y7, y8, Bx, Cx, Dx, Fx, Gx, Z5, Z6, (by kernel_rfl), hB, ?_⟩, ?_⟩
    ·
      simp only [eJ1]
      refine ⟨l2, l3, l4, ?_, l6, l7, l8, m5, m6, ?_, ?_, ?_, ?_, ?_, ?_, trivial⟩
      all_goals (try simp only [nd, sm, sn, eV, u1, u2, u6, if_true, if_false])
      all_goals first
        | omega
        | exact hq
    simp only [emu, Env.app, setAll, List.map_cons, List.map_nil, List.set, nd, sm, sn, eV]
    omega
def eE1_w6_2 : List (E × Rng) := [(e418, (1, 4294967295)), (e210, (5, 16777216)), (e419, (0, 16777211)), (e420, ((-1048562), 1048557)), (e406, (0, 255)), (e254, (0, 255)), ((.v 0), (18, 1048575)), ((.v 6), (0, 1048557)), (e289, (17, 1048574)), (e287, (16, 1048573)), (e262, (15, 1048572)), (e233, (14, 1048571)), (e232, (13, 1048570)), (e0, (5, 1048562)), (e290, (4, 1048561)), (e288, (3, 1048560)), (e263, (2, 1048559)), (e234, (1, 1048558)), (e323, (18, 1048575)), (e326, (5, 1048562)), (e211, (5, 1048562)), (e209, (0, 1048562)), ((.v 7), (0, 1048562)), (e212, (6, 6)), ((.v 8), (0, 15)), ((.v 4), (1, 16))]
def eQ1_w6_2 : List (E × Bool) := [(e421, true), (e422, true), (e407, true), (e332, true), (e291, true), (e292, true), (e264, true), (e235, true), (e336, true), (e293, true), (e294, true), (e265, true), (e236, true), (e409, true), (e410, true), (e411, true), (e412, true), (e215, true), (e216, true), (e217, true), (e218, true)]
noncomputable def eH1_w6_2 : Hyp := { eh1.H with e := eE1_w6_2 ++ eh1.H.e, b := eQ1_w6_2 ++ eh1.H.b }
set_option maxHeartbeats 40000000 in
theorem esg1_w6_2 : (segL Try.prog G Gh eD ehs [] 3000 0 5 { eh1 with H := eH1_w6_2 }).map LT.bare = some (.ite e359 (.ret (.s (.bool (.blit false))) []) (.jump 1 eT1 ⟨[(4, (.v 4)), (8, (.v 8)), (7, (.v 7)), (6, (.v 6)), (5, e231)], [], [(5, (.av 5)), (6, (.av 6))]⟩)) := by kernel_rfl
theorem evc1_w6_2 (x0 : Ext) (x1 : Ext) (Y1 : Nat → Ext) (mm nn y2 y3 y4 y5 y6 y7 y8 : Int) (Bx Cx Dx Fx Gx Z5 Z6 : Nat → Int) (hB : eBase x0 x1 Y1 mm nn Bx Cx Dx Fx Gx) (hJ : eJ1 mm nn y2 y3 y4 y5 y6 y7 y8 Bx Cx Dx Fx Gx Z5 Z6) (hH : Hyp.ok eH1_w6_2 (eV x0 x1 Y1 mm nn y2 y3 y4 y5 y6 y7 y8 Bx Cx Dx Fx Gx Z5 Z6))  :
    eW1 x0 x1 Y1 (eV x0 x1 Y1 mm nn y2 y3 y4 y5 y6 y7 y8 Bx Cx Dx Fx Gx Z5 Z6) (.ite e359 (.ret (.s (.bool (.blit false))) []) (.jump 1 eT1 ⟨[(4, (.v 4)), (8, (.v 8)), (7, (.v 7)), (6, (.v 6)), (5, e231)], [], [(5, (.av 5)), (6, (.av 6))]⟩)) := by
  simp only [eW1, LT.holds, retTrue]
  have hB3 := hB
  have hJ3 := hJ
  simp only [eBase] at hB3
  obtain ⟨b0, b1, c0, c1, c2, c3, c4, en0, en1, ea0, ea1, ea2, ea3, ea4, hs, hx0, _⟩ := hB3
  simp only [eJ1] at hJ3
  obtain ⟨l2, l3, l4, l5, l6, l7, l8, m5, m6, i1, i2, i3, i4, i5, hq, _⟩ := hJ3
  have u1 : (y4 + -1).toNat = y8.toNat := by omega
  have u2 : (y4 + -2).toNat = (y8 + -1).toNat := by omega
  have u3 := hq (y8 + -1).toNat
  have u4 : 1 ≤ y8 → (y8 + -1).toNat + 1 = y8.toNat := by omega
  have u5 : (y8 + 1).toNat = y8.toNat + 1 := by omega
  have u6 : y4.toNat = y8.toNat + 1 := by omega
  have u7 := m5 y8.toNat
  have u8 := m5 (y8 + -1).toNat
  have u9 : 1 ≤ y8 → Z5 ((y8 + -1).toNat + 1) = Z5 y8.toNat := fun h => by rw [u4 h]
  have d13 := c0 (y6 + 13).toNat
  have d14 := c0 (y6 + 14).toNat
  have d15 := c0 (y6 + 15).toNat
  have d16 := c0 (y6 + 16).toNat
  have d17 := c0 (y6 + 17).toNat
  have dw := c1 y5.toNat
  have fe : ∀ p ∈ eE1_w6_2, inR p.2 (p.1.i (eV x0 x1 Y1 mm nn y2 y3 y4 y5 y6 y7 y8 Bx Cx Dx Fx Gx Z5 Z6)) := fun p hp => hH.e p (List.mem_append_left _ hp)
  have fb : ∀ p ∈ eQ1_w6_2, p.1.b (eV x0 x1 Y1 mm nn y2 y3 y4 y5 y6 y7 y8 Bx Cx Dx Fx Gx Z5 Z6) = p.2 := fun p hp => hH.b p (List.mem_append_left _ hp)
  simp only [eE1_w6_2, eQ1_w6_2, List.forall_mem_cons, inR] at fe fb
  have ff := And.intro fe fb
  clear fe fb
  simp only [nd, sm, sn, eV, u1, u2, u6] at ff
  refine ⟨fun hc0 => ?_, fun hc0 => ?_⟩
  ·
    exfalso
    simp only [nd, sm, sn, eV, u1, u2, u6] at hc0
    omega
  ·
    refine ⟨ehT1, ⟨mm, nn, y2, y3, y4, (_root_.Go.Sx.E.i (eV x0 x1 Y1 mm nn y2 y3 y4 y5 y6 y7 y8 Bx Cx Dx Fx Gx Z5 Z6) e231), y6, y7, y8, Bx, Cx, Dx, Fx, Gx, Z5, Z6, (by kernel_rfl), hB, ?_⟩, ?_⟩
    ·
      simp only [eJ1]
      refine ⟨l2, l3, l4, ?_, l6, l7, l8, m5, m6, ?_, ?_, ?_, ?_, ?_, ?_, trivial⟩
      all_goals (try simp only [nd, sm, sn, eV, u1, u2, u6, if_true, if_false])
      all_goals first
        | omega
        | exact hq
    simp only [emu, Env.app, setAll, List.map_cons, List.map_nil, List.set, nd, sm, sn, eV]
    omega
def eE1_w6_3 : List (E × Rng) := [((.v 0), (18, 1048575)), (e0, (5, 1048562)), (e426, (0, 1048557)), (e427, (5, 1048562)), (e210, (5, 16777216)), (e419, (0, 16777211)), (e418, (0, 1048557)), (e420, (0, 1048557)), (e406, (0, 255)), (e254, (0, 255)), ((.v 6), (0, 1048557)), (e289, (17, 1048574)), (e287, (16, 1048573)), (e262, (15, 1048572)), (e233, (14, 1048571)), (e232, (13, 1048570)), (e290, (4, 1048561)), (e288, (3, 1048560)), (e263, (2, 1048559)), (e234, (1, 1048558)), (e323, (18, 1048575)), (e326, (5, 1048562)), (e211, (5, 1048562)), (e209, (0, 1048562)), ((.v 7), (0, 1048562)), (e212, (6, 6)), ((.v 8), (0, 15)), ((.v 4), (1, 16))]
def eQ1_w6_3 : List (E × Bool) := [(e428, true), (e429, true), (e430, true), (e407, true), (e332, true), (e291, true), (e292, true), (e264, true), (e235, true), (e336, true), (e293, true), (e294, true), (e265, true), (e236, true), (e409, true), (e410, true), (e411, true), (e412, true), (e215, true), (e216, true), (e217, true), (e218, true)]
noncomputable def eH1_w6_3 : Hyp := { eh1.H with e := eE1_w6_3 ++ eh1.H.e, b := eQ1_w6_3 ++ eh1.H.b }
set_option maxHeartbeats 40000000 in
theorem esg1_w6_3 : (segL Try.prog G Gh eD ehs [] 3000 0 5 { eh1 with H := eH1_w6_3 }).map LT.bare = some (.jump 1 eT1 ⟨[(4, e431), (8, e432), (7, e427), (6, e326), (5, e231)], [], [(5, e433), (6, e434)]⟩) := by kernel_rfl
theorem evc1_w6_3 (x0 : Ext) (x1 : Ext) (Y1 : Nat → Ext) (mm nn y2 y3 y4 y5 y6 y7 y8 : Int) (Bx Cx Dx Fx Gx Z5 Z6 : Nat → Int) (hB : eBase x0 x1 Y1 mm nn Bx Cx Dx Fx Gx) (hJ : eJ1 mm nn y2 y3 y4 y5 y6 y7 y8 Bx Cx Dx Fx Gx Z5 Z6) (hH : Hyp.ok eH1_w6_3 (eV x0 x1 Y1 mm nn y2 y3 y4 y5 y6 y7 y8 Bx Cx Dx Fx Gx Z5 Z6))  :
    eW1 x0 x1 Y1 (eV x0 x1 Y1 mm nn y2 y3 y4 y5 y6 y7 y8 Bx Cx Dx Fx Gx Z5 Z6) (.jump 1 eT1 ⟨[(4, e431), (8, e432), (7, e427), (6, e326), (5, e231)], [], [(5, e433), (6, e434)]⟩) := by
  simp only [eW1, LT.holds, retTrue]
  have hB3 := hB
  have hJ3 := hJ
  simp only [eBase] at hB3
  obtain ⟨b0, b1, c0, c1, c2, c3, c4, en0, en1, ea0, ea1, ea2, ea3, ea4, hs, hx0, _⟩ := hB3
  simp only [eJ1] at hJ3
  obtain ⟨l2, l3, l4, l5, l6, l7, l8, m5, m6, i1, i2, i3, i4, i5, hq, _⟩ := hJ3
  have u1 : (y4 + -1).toNat = y8.toNat := by omega
  have u2 : (y4 + -2).toNat = (y8 + -1).toNat := by omega
  have u3 := hq (y8 + -1).toNat
  have u4 : 1 ≤ y8 → (y8 + -1).toNat + 1 = y8.toNat := by omega
  have u5 : (y8 + 1).toNat = y8.toNat + 1 := by omega
  have u6 : y4.toNat = y8.toNat + 1 := by omega
  have u7 := m5 y8.toNat
  have u8 := m5 (y8 + -1).toNat
  have u9 : 1 ≤ y8 → Z5 ((y8 + -1).toNat + 1) = Z5 y8.toNat := fun h => by rw [u4 h]
  have d13 := c0 (y6 + 13).toNat
  have d14 := c0 (y6 + 14).toNat
  have d15 := c0 (y6 + 15).toNat
  have d16 := c0 (y6 + 16).toNat
  have d17 := c0 (y6 + 17).toNat
  have dw := c1 y5.toNat
  have fe : ∀ p ∈ eE1_w6_3, inR p.2 (p.1.i (eV x0 x1 Y1 mm nn y2 y3 y4 y5 y6 y7 y8 Bx Cx Dx Fx Gx Z5 Z6)) := fun p hp => hH.e p (List.mem_append_left _ hp)
  have fb : ∀ p ∈ eQ1_w6_3, p.1.b (eV x0 x1 Y1 mm nn y2 y3 y4 y5 y6 y7 y8 Bx Cx Dx Fx Gx Z5 Z6) = p.2 := fun p hp => hH.b p (List.mem_append_left _ hp)
  simp only [eE1_w6_3, eQ1_w6_3, List.forall_mem_cons, inR] at fe fb
  have ff := And.intro fe fb
  clear fe fb
  simp only [nd, sm, sn, eV, u1, u2, u6] at ff
  refine ⟨ehT1, ⟨mm, nn, y2, y3, (_root_.Go.Sx.E.i (eV x0 x1 Y1 mm nn y2 y3 y4 y5 y6 y7 y8 Bx Cx Dx Fx Gx Z5 Z6) e431), (_root_.Go.Sx.E.i (eV x0 x1 Y1 mm nn y2 y3 y4 y5 y6 y7 y8 Bx Cx Dx Fx Gx Z5 Z6) e231), (_root_.Go.Sx.E.i (eV x0 x1 Y1 mm nn y2 y3 y4 y5 y6 y7 y8 Bx Cx Dx Fx Gx Z5 Z6) e326), (_root_.Go.Sx.E.i (eV x0 x1 Y1 mm nn y2 y3 y4 y5 y6 y7 y8 Bx Cx Dx Fx Gx Z5 Z6) e427), (_root_.Go.Sx.E.i (eV x0 x1 Y1 mm nn y2 y3 y4 y5 y6 y7 y8 Bx Cx Dx Fx Gx Z5 Z6) e432), Bx, Cx, Dx, Fx, Gx, (_root_.Go.Sx.E.a (eV x0 x1 Y1 mm nn y2 y3 y4 y5 y6 y7 y8 Bx Cx Dx Fx Gx Z5 Z6) e433), (_root_.Go.Sx.E.a (eV x0 x1 Y1 mm nn y2 y3 y4 y5 y6 y7 y8 Bx Cx Dx Fx Gx Z5 Z6) e434), (by kernel_rfl), hB, ?_⟩, ?_⟩
  ·
    simp only [eJ1]
    refine ⟨l2, l3, ?_, ?_, ?_, ?_, ?_, (arr_at hH (by kernel_rfl)), (arr_at hH (by kernel_rfl)), ?_, ?_, ?_, ?_, ?_, ?_, trivial⟩
    all_goals (try simp only [nd, sm, sn, eV, u1, u2, u6, if_true, if_false])
    all_goals first
      | omega
      | exact hq
      | (intro j hj; have q := hq j; rcases (show j < y8.toNat ∨ j = y8.toNat by omega) with h | h <;> first | omega | (subst h; omega))
  simp only [emu, Env.app, setAll, List.map_cons, List.map_nil, List.set, nd, sm, sn, eV]
  omega
def eE1_w7_0 : List (E × Rng) := [(e209, (0, 1048562)), ((.v 7), (0, 1048562)), ((.v 6), (0, 1048562)), ((.v 0), (14, 1048575)), (e0, (1, 1048562)), (e212, (7, 9223372036854775807)), ((.v 8), (0, 0)), ((.v 4), (1, 1))]
def eQ1_w7_0 : List (E × Bool) := [(e215, true), (e216, true), (e217, true), (e218, true)]
noncomputable def eH1_w7_0 : Hyp := { eh1.H with e := eE1_w7_0 ++ eh1.H.e, b := eQ1_w7_0 ++ eh1.H.b }
set_option maxHeartbeats 40000000 in
theorem esg1_w7_0 : (segL Try.prog G Gh eD ehs [] 3000 0 5 { eh1 with H := eH1_w7_0 }).map LT.bare = some (.ite e437 (.ret (.s (.bool (.blit false))) []) (.jump 1 eT1 ⟨[(4, (.v 4)), (8, (.v 8)), (7, (.v 7)), (6, (.v 6)), (5, e231)], [], [(5, (.av 5)), (6, (.av 6))]⟩)) := by kernel_rfl
theorem evc1_w7_0 (x0 : Ext) (x1 : Ext) (Y1 : Nat → Ext) (mm nn y2 y3 y4 y5 y6 y7 y8 : Int) (Bx Cx Dx Fx Gx Z5 Z6 : Nat → Int) (hB : eBase x0 x1 Y1 mm nn Bx Cx Dx Fx Gx) (hJ : eJ1 mm nn y2 y3 y4 y5 y6 y7 y8 Bx Cx Dx Fx Gx Z5 Z6) (hH : Hyp.ok eH1_w7_0 (eV x0 x1 Y1 mm nn y2 y3 y4 y5 y6 y7 y8 Bx Cx Dx Fx Gx Z5 Z6))  :
    eW1 x0 x1 Y1 (eV x0 x1 Y1 mm nn y2 y3 y4 y5 y6 y7 y8 Bx Cx Dx Fx Gx Z5 Z6) (.ite e437 (.ret (.s (.bool (.blit false))) []) (.jump 1 eT1 ⟨[(4, (.v 4)), (8, (.v 8)), (7, (.v 7)), (6, (.v 6)), (5, e231)], [], [(5, (.av 5)), (6, (.av 6))]⟩)) := by
  simp only [eW1, LT.holds, retTrue]
  have hB3 := hB
  have hJ3 := hJ
  simp only [eBase] at hB3
  obtain ⟨b0, b1, c0, c1, c2, c3, c4, en0, en1, ea0, ea1, ea2, ea3, ea4, hs, hx0, _⟩ := hB3
  simp only [eJ1] at hJ3
  obtain ⟨l2, l3, l4, l5, l6, l7, l8, m5, m6, i1, i2, i3, i4, i5, hq, _⟩ := hJ3
  have u1 : (y4 + -1).toNat = y8.toNat := by omega
  have u2 : (y4 + -2).toNat = (y8 + -1).toNat := by omega
  have u3 := hq (y8 + -1).toNat
  have u4 : 1 ≤ y8 → (y8 + -1).toNat + 1 = y8.toNat := by omega
  have u5 : (y8 + 1).toNat = y8.toNat + 1 := by omega
  have u6 : y4.toNat = y8.toNat + 1 := by omega
  have u7 := m5 y8.toNat
  have u8 := m5 (y8 + -1).toNat
  have u9 : 1 ≤ y8 → Z5 ((y8 + -1).toNat + 1) = Z5 y8.toNat := fun h => by rw [u4 h]
  have fe : ∀ p ∈ eE1_w7_0, inR p.2 (p.1.i (eV x0 x1 Y1 mm nn y2 y3 y4 y5 y6 y7 y8 Bx Cx Dx Fx Gx Z5 Z6)) := fun p hp => hH.e p (List.mem_append_left _ hp)
  have fb : ∀ p ∈ eQ1_w7_0, p.1.b (eV x0 x1 Y1 mm nn y2 y3 y4 y5 y6 y7 y8 Bx Cx Dx Fx Gx Z5 Z6) = p.2 := fun p hp => hH.b p (List.mem_append_left _ hp)
  simp only [eE1_w7_0, eQ1_w7_0, List.forall_mem_cons, inR] at fe fb
  have ff := And.intro fe fb
  clear fe fb
  simp only [nd, sm, sn, eV, u1, u2, u6] at ff
  refine ⟨fun hc0 => ?_, fun hc0 => ?_⟩
  ·
    exfalso
    simp only [nd, sm, sn, eV, u1, u2, u6] at hc0
    omega
  ·
    refine ⟨ehT1, ⟨mm, nn, y2, y3, y4, (_root_.Go.Sx.E.i (eV x0 x1 Y1 mm nn y2 y3 y4 y5 y6 y7 y8 Bx Cx Dx Fx Gx Z5 Z6) e231), y6, y7, y8, Bx, Cx, Dx, Fx, Gx, Z5, Z6, (by kernel_rfl), hB, ?_⟩, ?_⟩
    ·
      simp only [eJ1]
      refine ⟨l2, l3, l4, ?_, l6, l7, l8, m5, m6, ?_, ?_, ?_, ?_, ?_, ?_, trivial⟩
      all_goals (try simp only [nd, sm, sn, eV, u1, u2, u6, if_true, if_false])
      all_goals first
        | omega
        | exact hq
        | (intro j hj; exact hq j (by omega))
    simp only [emu, Env.app, setAll, List.map_cons, List.map_nil, List.set, nd, sm, sn, eV]
    omega
def eE1_w7_1 : List (E × Rng) := [(e210, (1, 16777216)), (e209, (1, 1048562)), ((.v 6), (0, 1048561)), ((.v 7), (1, 1048562)), ((.v 0), (14, 1048575)), (e0, (1, 1048562)), (e212, (7, 9223372036854775807)), ((.v 8), (1, 16)), ((.v 4), (2, 17))]
def eQ1_w7_1 : List (E × Bool) := [(e239, true), (e438, true), (e222, true), (e215, true), (e216, true), (e217, true), (e218, true)]
noncomputable def eH1_w7_1 : Hyp := { eh1.H with e := eE1_w7_1 ++ eh1.H.e, b := eQ1_w7_1 ++ eh1.H.b }
set_option maxHeartbeats 40000000 in
theorem esg1_w7_1 : (segL Try.prog G Gh eD ehs [] 3000 0 5 { eh1 with H := eH1_w7_1 }).map LT.bare = some (.ite e220 (.ret (.s (.bool (.blit false))) []) (.jump 1 eT1 ⟨[(4, (.v 4)), (8, (.v 8)), (7, (.v 7)), (6, (.v 6)), (5, e231)], [], [(5, (.av 5)), (6, (.av 6))]⟩)) := by kernel_rfl
theorem evc1_w7_1 (x0 : Ext) (x1 : Ext) (Y1 : Nat → Ext) (mm nn y2 y3 y4 y5 y6 y7 y8 : Int) (Bx Cx Dx Fx Gx Z5 Z6 : Nat → Int) (hB : eBase x0 x1 Y1 mm nn Bx Cx Dx Fx Gx) (hJ : eJ1 mm nn y2 y3 y4 y5 y6 y7 y8 Bx Cx Dx Fx Gx Z5 Z6) (hH : Hyp.ok eH1_w7_1 (eV x0 x1 Y1 mm nn y2 y3 y4 y5 y6 y7 y8 Bx Cx Dx Fx Gx Z5 Z6))  :
    eW1 x0 x1 Y1 (eV x0 x1 Y1 mm nn y2 y3 y4 y5 y6 y7 y8 Bx Cx Dx Fx Gx Z5 Z6) (.ite e220 (.ret (.s (.bool (.blit false))) []) (.jump 1 eT1 ⟨[(4, (.v 4)), (8, (.v 8)), (7, (.v 7)), (6, (.v 6)), (5, e231)], [], [(5, (.av 5)), (6, (.av 6))]⟩)) := by
  simp only [eW1, LT.holds, retTrue]
  have hB3 := hB
  have hJ3 := hJ
  simp only [eBase] at hB3
  obtain ⟨b0, b1, c0, c1, c2, c3, c4, en0, en1, ea0, ea1, ea2, ea3, ea4, hs, hx0, _⟩ := hB3
  simp only [eJ1] at hJ3
  obtain ⟨l2, l3, l4, l5, l6, l7, l8, m5, m6, i1, i2, i3, i4, i5, hq, _⟩ := hJ3
  have u1 : (y4 + -1).toNat = y8.toNat := by omega
  have u2 : (y4 + -2).toNat = (y8 + -1).toNat := by omega
  have u3 := hq (y8 + -1).toNat
  have u4 : 1 ≤ y8 → (y8 + -1).toNat + 1 = y8.toNat := by omega
  have u5 : (y8 + 1).toNat = y8.toNat + 1 := by omega
  have u6 : y4.toNat = y8.toNat + 1 := by omega
  have u7 := m5 y8.toNat
  have u8 := m5 (y8 + -1).toNat
  have u9 : 1 ≤ y8 → Z5 ((y8 + -1).toNat + 1) = Z5 y8.toNat := fun h => by rw [u4 h]
  have fe : ∀ p ∈ eE1_w7_1, inR p.2 (p.1.i (eV x0 x1 Y1 mm nn y2 y3 y4 y5 y6 y7 y8 Bx Cx Dx Fx Gx Z5 Z6)) := fun p hp => hH.e p (List.mem_append_left _ hp)
  have fb : ∀ p ∈ eQ1_w7_1, p.1.b (eV x0 x1 Y1 mm nn y2 y3 y4 y5 y6 y7 y8 Bx Cx Dx Fx Gx Z5 Z6) = p.2 := fun p hp => hH.b p (List.mem_append_left _ hp)
  simp only [eE1_w7_1, eQ1_w7_1, List.forall_mem_cons, inR] at fe fb
  have ff := And.intro fe fb
  clear fe fb
  simp only [nd, sm, sn, eV, u1, u2, u6] at ff
  refine ⟨fun hc0 => ?_, fun hc0 => ?_⟩
  ·
    exfalso
    simp only [nd, sm, sn, eV, u1, u2, u6] at hc0
    omega
  ·
    refine ⟨ehT1, ⟨mm, nn, y2, y3, y4, (_root_.Go.Sx.E.i (eV x0 x1 Y1 mm nn y2 y3 y4 y5 y6 y7 y8 Bx Cx Dx Fx Gx Z5 Z6) e231), y6, y7, y8, Bx, Cx, Dx, Fx, Gx, Z5, Z6, (by kernel_rfl), hB, ?_⟩, ?_⟩
    ·
      simp only [eJ1]
      refine ⟨l2, l3, l4, ?_, l6, l7, l8, m5, m6, ?_, ?_, ?_, ?_, ?_, ?_, trivial⟩
      all_goals (try simp only [nd, sm, sn, eV, u1, u2, u6, if_true, if_false])
      all_goals first
        | omega
        | exact hq
        | (intro j hj; exact hq j (by omega))
    simp only [emu, Env.app, setAll, List.map_cons, List.map_nil, List.set, nd, sm, sn, eV]
    omega
def eE1_w7_2 : List (E × Rng) := [(e210, ((-1048562), 0)), ((.v 6), (0, 1048562)), (e209, (0, 1048562)), ((.v 7), (0, 1048562)), ((.v 0), (14, 1048575)), (e0, (1, 1048562)), (e212, (7, 9223372036854775807)), ((.v 8), (1, 16)), ((.v 4), (2, 17))]
def eQ1_w7_2 : List (E × Bool) := [(e213, true), (e439, true), (e440, true), (e215, true), (e216, true), (e217, true), (e218, true)]
noncomputable def eH1_w7_2 : Hyp := { eh1.H with e := eE1_w7_2 ++ eh1.H.e, b := eQ1_w7_2 ++ eh1.H.b }
set_option maxHeartbeats 40000000 in
theorem esg1_w7_2 : (segL Try.prog G Gh eD ehs [] 3000 0 5 { eh1 with H := eH1_w7_2 }).map LT.bare = some (.ite e459 (.ret (.s (.bool (.blit false))) []) (.jump 1 eT1 ⟨[(4, e208), (8, e441), (7, e442), (6, (.v 6)), (5, e231)], [], [(5, (.av 5)), (6, (.av 6))]⟩)) := by kernel_rfl
theorem evc1_w7_2 (x0 : Ext) (x1 : Ext) (Y1 : Nat → Ext) (mm nn y2 y3 y4 y5 y6 y7 y8 : Int) (Bx Cx Dx Fx Gx Z5 Z6 : Nat → Int) (hB : eBase x0 x1 Y1 mm nn Bx Cx Dx Fx Gx) (hJ : eJ1 mm nn y2 y3 y4 y5 y6 y7 y8 Bx Cx Dx Fx Gx Z5 Z6) (hH : Hyp.ok eH1_w7_2 (eV x0 x1 Y1 mm nn y2 y3 y4 y5 y6 y7 y8 Bx Cx Dx Fx Gx Z5 Z6))  :
    eW1 x0 x1 Y1 (eV x0 x1 Y1 mm nn y2 y3 y4 y5 y6 y7 y8 Bx Cx Dx Fx Gx Z5 Z6) (.ite e459 (.ret (.s (.bool (.blit false))) []) (.jump 1 eT1 ⟨[(4, e208), (8, e441), (7, e442), (6, (.v 6)), (5, e231)], [], [(5, (.av 5)), (6, (.av 6))]⟩)) := by
  simp only [eW1, LT.holds, retTrue]
  have hB3 := hB
  have hJ3 := hJ
  simp only [eBase] at hB3
  obtain ⟨b0, b1, c0, c1, c2, c3, c4, en0, en1, ea0, ea1, ea2, ea3, ea4, hs, hx0, _⟩ := hB3
  simp only [eJ1] at hJ3
  obtain ⟨l2, l3, l4, l5, l6, l7, l8, m5, m6, i1, i2, i3, i4, i5, hq, _⟩ := hJ3
  have u1 : (y4 + -1).toNat = y8.toNat := by omega
  have u2 : (y4 + -2).toNat = (y8 + -1).toNat := by omega
  have u3 := hq (y8 + -1).toNat
  have u4 : 1 ≤ y8 → (y8 + -1).toNat + 1 = y8.toNat := by omega
  have u5 : (y8 + 1).toNat = y8.toNat + 1 := by omega
  have u6 : y4.toNat = y8.toNat + 1 := by omega
  have u7 := m5 y8.toNat
  have u8 := m5 (y8 + -1).toNat
  have u9 : 1 ≤ y8 → Z5 ((y8 + -1).toNat + 1) = Z5 y8.toNat := fun h => by rw [u4 h]
  have fe : ∀ p ∈ eE1_w7_2, inR p.2 (p.1.i (eV x0 x1 Y1 mm nn y2 y3 y4 y5 y6 y7 y8 Bx Cx Dx Fx Gx Z5 Z6)) := fun p hp => hH.e p (List.mem_append_left _ hp)
  have fb : ∀ p ∈ eQ1_w7_2, p.1.b (eV x0 x1 Y1 mm nn y2 y3 y4 y5 y6 y7 y8 Bx Cx Dx Fx Gx Z5 Z6) = p.2 := fun p hp => hH.b p (List.mem_append_left _ hp)
  simp only [eE1_w7_2, eQ1_w7_2, List.forall_mem_cons, inR] at fe fb
  have ff := And.intro fe fb
  clear fe fb
  simp only [nd, sm, sn, eV, u1, u2, u6] at ff
  refine ⟨fun hc0 => ?_, fun hc0 => ?_⟩
  ·
    exfalso
    simp only [nd, sm, sn, eV, u1, u2, u6] at hc0
    omega
  ·
    refine ⟨ehT1, ⟨mm, nn, y2, y3, (_root_.Go.Sx.E.i (eV x0 x1 Y1 mm nn y2 y3 y4 y5 y6 y7 y8 Bx Cx Dx Fx Gx Z5 Z6) e208), (_root_.Go.Sx.E.i (eV x0 x1 Y1 mm nn y2 y3 y4 y5 y6 y7 y8 Bx Cx Dx Fx Gx Z5 Z6) e231), y6, (_root_.Go.Sx.E.i (eV x0 x1 Y1 mm nn y2 y3 y4 y5 y6 y7 y8 Bx Cx Dx Fx Gx Z5 Z6) e442), (_root_.Go.Sx.E.i (eV x0 x1 Y1 mm nn y2 y3 y4 y5 y6 y7 y8 Bx Cx Dx Fx Gx Z5 Z6) e441), Bx, Cx, Dx, Fx, Gx, Z5, Z6, (by kernel_rfl), hB, ?_⟩, ?_⟩
    ·
      simp only [eJ1]
      refine ⟨l2, l3, ?_, ?_, l6, ?_, ?_, m5, m6, ?_, ?_, ?_, ?_, ?_, ?_, trivial⟩
      all_goals (try simp only [nd, sm, sn, eV, u1, u2, u6, if_true, if_false])
      all_goals first
        | omega
        | exact hq
        | (intro j hj; exact hq j (by omega))
    simp only [emu, Env.app, setAll, List.map_cons, List.map_nil, List.set, nd, sm, sn, eV]
    omega
def eE1_wm_0 : List (E × Rng) := [(e209, (0, 1048562)), ((.v 7), (0, 1048562)), ((.v 6), (0, 1048562)), ((.v 0), (14, 1048575)), (e0, (1, 1048562)), (e212, ((-9223372036854775808), (-1))), ((.v 8), (0, 0)), ((.v 4), (1, 1))]
def eQ1_wm_0 : List (E × Bool) := [(e215, true), (e216, true), (e217, true), (e218, true)]
noncomputable def eH1_wm_0 : Hyp := { eh1.H with e := eE1_wm_0 ++ eh1.H.e, b := eQ1_wm_0 ++ eh1.H.b }
set_option maxHeartbeats 40000000 in
theorem esg1_wm_0 : (segL Try.prog G Gh eD ehs [] 3000 0 5 { eh1 with H := eH1_wm_0 }).map LT.bare = some (.ite e437 (.ret (.s (.bool (.blit false))) []) (.jump 1 eT1 ⟨[(4, (.v 4)), (8, (.v 8)), (7, (.v 7)), (6, (.v 6)), (5, e231)], [], [(5, (.av 5)), (6, (.av 6))]⟩)) := by kernel_rfl
theorem evc1_wm_0 (x0 : Ext) (x1 : Ext) (Y1 : Nat → Ext) (mm nn y2 y3 y4 y5 y6 y7 y8 : Int) (Bx Cx Dx Fx Gx Z5 Z6 : Nat → Int) (hB : eBase x0 x1 Y1 mm nn Bx Cx Dx Fx Gx) (hJ : eJ1 mm nn y2 y3 y4 y5 y6 y7 y8 Bx Cx Dx Fx Gx Z5 Z6) (hH : Hyp.ok eH1_wm_0 (eV x0 x1 Y1 mm nn y2 y3 y4 y5 y6 y7 y8 Bx Cx Dx Fx Gx Z5 Z6))  :
    eW1 x0 x1 Y1 (eV x0 x1 Y1 mm nn y2 y3 y4 y5 y6 y7 y8 Bx Cx Dx Fx Gx Z5 Z6) (.ite e437 (.ret (.s (.bool (.blit false))) []) (.jump 1 eT1 ⟨[(4, (.v 4)), (8, (.v 8)), (7, (.v 7)), (6, (.v 6)), (5, e231)], [], [(5, (.av 5)), (6, (.av 6))]⟩)) := by
  simp only [eW1, LT.holds, retTrue]
  have hB3 := hB
  have hJ3 := hJ
  simp only [eBase] at hB3
  obtain ⟨b0, b1, c0, c1, c2, c3, c4, en0, en1, ea0, ea1, ea2, ea3, ea4, hs, hx0, _⟩ := hB3
  simp only [eJ1] at hJ3
  obtain ⟨l2, l3, l4, l5, l6, l7, l8, m5, m6, i1, i2, i3, i4, i5, hq, _⟩ := hJ3
  have u1 : (y4 + -1).toNat = y8.toNat := by omega
  have u2 : (y4 + -2).toNat = (y8 + -1).toNat := by omega
  have u3 := hq (y8 + -1).toNat
  have u4 : 1 ≤ y8 → (y8 + -1).toNat + 1 = y8.toNat := by omega
  have u5 : (y8 + 1).toNat = y8.toNat + 1 := by omega
  have u6 : y4.toNat = y8.toNat + 1 := by omega
  have u7 := m5 y8.toNat
  have u8 := m5 (y8 + -1).toNat
  have u9 : 1 ≤ y8 → Z5 ((y8 + -1).toNat + 1) = Z5 y8.toNat := fun h => by rw [u4 h]
  have fe : ∀ p ∈ eE1_wm_0, inR p.2 (p.1.i (eV x0 x1 Y1 mm nn y2 y3 y4 y5 y6 y7 y8 Bx Cx Dx Fx Gx Z5 Z6)) := fun p hp => hH.e p (List.mem_append_left _ hp)
  have fb : ∀ p ∈ eQ1_wm_0, p.1.b (eV x0 x1 Y1 mm nn y2 y3 y4 y5 y6 y7 y8 Bx Cx Dx Fx Gx Z5 Z6) = p.2 := fun p hp => hH.b p (List.mem_append_left _ hp)
  simp only [eE1_wm_0, eQ1_wm_0, List.forall_mem_cons, inR] at fe fb
  have ff := And.intro fe fb
  clear fe fb
  simp only [nd, sm, sn, eV, u1, u2, u6] at ff
  refine ⟨fun hc0 => ?_, fun hc0 => ?_⟩
  ·
    exfalso
    simp only [nd, sm, sn, eV, u1, u2, u6] at hc0
    omega
  ·
    refine ⟨ehT1, ⟨mm, nn, y2, y3, y4, (_root_.Go.Sx.E.i (eV x0 x1 Y1 mm nn y2 y3 y4 y5 y6 y7 y8 Bx Cx Dx Fx Gx Z5 Z6) e231), y6, y7, y8, Bx, Cx, Dx, Fx, Gx, Z5, Z6, (by kernel_rfl), hB, ?_⟩, ?_⟩
    ·
      simp only [eJ1]
      refine ⟨l2, l3, l4, ?_, l6, l7, l8, m5, m6, ?_, ?_, ?_, ?_, ?_, ?_, trivial⟩
      all_goals (try simp only [nd, sm, sn, eV, u1, u2, u6, if_true, if_false])
      all_goals first
        | omega
        | exact hq
        | (intro j hj; exact hq j (by omega))
    simp only [emu, Env.app, setAll, List.map_cons, List.map_nil, List.set, nd, sm, sn, eV]
    omega
def eE1_wm_1 : List (E × Rng) := [(e210, (1, 16777216)), (e209, (1, 1048562)), ((.v 6), (0, 1048561)), ((.v 7), (1, 1048562)), ((.v 0), (14, 1048575)), (e0, (1, 1048562)), (e212, ((-9223372036854775808), (-1))), ((.v 8), (1, 16)), ((.v 4), (2, 17))]
def eQ1_wm_1 : List (E × Bool) := [(e239, true), (e438, true), (e222, true), (e215, true), (e216, true), (e217, true), (e218, true)]
noncomputable def eH1_wm_1 : Hyp := { eh1.H with e := eE1_wm_1 ++ eh1.H.e, b := eQ1_wm_1 ++ eh1.H.b }
set_option maxHeartbeats 40000000 in
theorem esg1_wm_1 : (segL Try.prog G Gh eD ehs [] 3000 0 5 { eh1 with H := eH1_wm_1 }).map LT.bare = some (.ite e220 (.ret (.s (.bool (.blit false))) []) (.jump 1 eT1 ⟨[(4, (.v 4)), (8, (.v 8)), (7, (.v 7)), (6, (.v 6)), (5, e231)], [], [(5, (.av 5)), (6, (.av 6))]⟩)) := by kernel_rfl
theorem evc1_wm_1 (x0 : Ext) (x1 : Ext) (Y1 : Nat → Ext) (mm nn y2 y3 y4 y5 y6 y7 y8 : Int) (Bx Cx Dx Fx Gx Z5 Z6 : Nat → Int) (hB : eBase x0 x1 Y1 mm nn Bx Cx Dx Fx Gx) (hJ : eJ1 mm nn y2 y3 y4 y5 y6 y7 y8 Bx Cx Dx Fx Gx Z5 Z6) (hH : Hyp.ok eH1_wm_1 (eV x0 x1 Y1 mm nn y2 y3 y4 y5 y6 y7 y8 Bx Cx Dx Fx Gx Z5 Z6))  :
    eW1 x0 x1 Y1 (eV x0 x1 Y1 mm nn y2 y3 y4 y5 y6 y7 y8 Bx Cx Dx Fx Gx Z5 Z6) (.ite e220 (.ret (.s (.bool (.blit false))) []) (.jump 1 eT1 ⟨[(4, (.v 4)), (8, (.v 8)), (7, (.v 7)), (6, (.v 6)), (5, e231)], [], [(5, (.av 5)), (6, (.av 6))]⟩)) := by
  simp only [eW1, LT.holds, retTrue]
  have hB3 := hB
  have hJ3 := hJ
  simp only [eBase] at hB3
  obtain ⟨b0, b1, c0, c1, c2, c3, c4, en0, en1, ea0, ea1, ea2, ea3, ea4, hs, hx0, _⟩ := hB3
  simp only [eJ1] at hJ3
  obtain ⟨l2, l3, l4, l5, l6, l7, l8, m5, m6, i1, i2, i3, i4, i5, hq, _⟩ := hJ3
  have u1 : (y4 + -1).toNat = y8.toNat := by omega
  have u2 : (y4 + -2).toNat = (y8 + -1).toNat := by omega
  have u3 := hq (y8 + -1).toNat
  have u4 : 1 ≤ y8 → (y8 + -1).toNat + 1 = y8.toNat := by omega
  have u5 : (y8 + 1).toNat = y8.toNat + 1 := by omega
  have u6 : y4.toNat = y8.toNat + 1 := by omega
  have u7 := m5 y8.toNat
  have u8 := m5 (y8 + -1).toNat
  have u9 : 1 ≤ y8 → Z5 ((y8 + -1).toNat + 1) = Z5 y8.toNat := fun h => by rw [u4 h]
  have fe : ∀ p ∈ eE1_wm_1, inR p.2 (p.1.i (eV x0 x1 Y1 mm nn y2 y3 y4 y5 y6 y7 y8 Bx Cx Dx Fx Gx Z5 Z6)) := fun p hp => hH.e p (List.mem_append_left _ hp)
  have fb : ∀ p ∈ eQ1_wm_1, p.1.b (eV x0 x1 Y1 mm nn y2 y3 y4 y5 y6 y7 y8 Bx Cx Dx Fx Gx Z5 Z6) = p.2 := fun p hp => hH.b p (List.mem_append_left _ hp)
  simp only [eE1_wm_1, eQ1_wm_1, List.forall_mem_cons, inR] at fe fb
  have ff := And.intro fe fb
  clear fe fb
  simp only [nd, sm, sn, eV, u1, u2, u6] at ff
  refine ⟨fun hc0 => ?_, fun hc0 => ?_⟩
  ·
    exfalso
    simp only [nd, sm, sn, eV, u1, u2, u6] at hc0
    omega
  ·
    refine ⟨ehT1, ⟨mm, nn, y2, y3, y4, (_root_.Go.Sx.E.i (eV x0 x1 Y1 mm nn y2 y3 y4 y5 y6 y7 y8 Bx Cx Dx Fx Gx Z5 Z6) e231), y6, y7, y8, Bx, Cx, Dx, Fx, Gx, Z5, Z6, (by kernel_rfl), hB, ?_⟩, ?_⟩
    ·
      simp only [eJ1]
      refine ⟨l2, l3, l4, ?_, l6, l7, l8, m5, m6, ?_, ?_, ?_, ?_, ?_, ?_, trivial⟩
      all_goals (try simp only [nd, sm, sn, eV, u1, u2, u6, if_true, if_false])
      all_goals first
        | omega
        | exact hq
        | (intro j hj; exact hq j (by omega))
    simp only [emu, Env.app, setAll, List.map_cons, List.map_nil, List.set, nd, sm, sn, eV]
    omega
def eE1_wm_2 : List (E × Rng) := [(e210, ((-1048562), 0)), ((.v 6), (0, 1048562)), (e209, (0, 1048562)), ((.v 7), (0, 1048562)), ((.v 0), (14, 1048575)), (e0, (1, 1048562)), (e212, ((-9223372036854775808), (-1))), ((.v 8), (1, 16)), ((.v 4), (2, 17))]
def eQ1_wm_2 : List (E × Bool) := [(e213, true), (e439, true), (e440, true), (e215, true), (e216, true), (e217, true), (e218, true)]
noncomputable def eH1_wm_2 : Hyp := { eh1.H with e := eE1_wm_2 ++ eh1.H.e, b := eQ1_wm_2 ++ eh1.H.b }
set_option maxHeartbeats 40000000 in
theorem esg1_wm_2 : (segL Try.prog G Gh eD ehs [] 3000 0 5 { eh1 with H := eH1_wm_2 }).map LT.bare = some (.ite e459 (.ret (.s (.bool (.blit false))) []) (.jump 1 eT1 ⟨[(4, e208), (8, e441), (7, e442), (6, (.v 6)), (5, e231)], [], [(5, (.av 5)), (6, (.av 6))]⟩)) := by kernel_rfl
theorem evc1_wm_2 (x0 : Ext) (x1 : Ext) (Y1 : Nat → Ext) (mm nn y2 y3 y4 y5 y6 y7 y8 : Int) (Bx Cx Dx Fx Gx Z5 Z6 : Nat → Int) (hB : eBase x0 x1 Y1 mm nn Bx Cx Dx Fx Gx) (hJ : eJ1 mm nn y2 y3 y4 y5 y6 y7 y8 Bx Cx Dx Fx Gx Z5 Z6) (hH : Hyp.ok eH1_wm_2 (eV x0 x1 Y1 mm nn y2 y3 y4 y5 y6 y7 y8 Bx Cx Dx Fx Gx Z5 Z6))  :
    eW1 x0 x1 Y1 (eV x0 x1 Y1 mm nn y2 y3 y4 y5 y6 y7 y8 Bx Cx Dx Fx Gx Z5 Z6) (.ite e459 (.ret (.s (.bool (.blit false))) []) (.jump 1 eT1 ⟨[(4, e208), (8, e441), (7, e442), (6, (.v 6)), (5, e231)], [], [(5, (.av 5)), (6, (.av 6))]⟩)) := by
  simp only [eW1, LT.holds, retTrue]
  have hB3 := hB
  have hJ3 := hJ
  simp only [eBase] at hB3
  obtain ⟨b0, b1, c0, c1, c2, c3, c4, en0, en1, ea0, ea1, ea2, ea3, ea4, hs, hx0, _⟩ := hB3
  simp only [eJ1] at hJ3
  obtain ⟨l2, l3, l4, l5, l6, l7, l8, m5, m6, i1, i2, i3, i4, i5, hq, _⟩ := hJ3
  have u1 : (y4 + -1).toNat = y8.toNat := by omega
  have u2 : (y4 + -2).toNat = (y8 + -1).toNat := by omega
  have u3 := hq (y8 + -1).toNat
  have u4 : 1 ≤ y8 → (y8 + -1).toNat + 1 = y8.toNat := by omega
  have u5 : (y8 + 1).toNat = y8.toNat + 1 := by omega
  have u6 : y4.toNat = y8.toNat + 1 := by omega
  have u7 := m5 y8.toNat
  have u8 := m5 (y8 + -1).toNat
  have u9 : 1 ≤ y8 → Z5 ((y8 + -1).toNat + 1) = Z5 y8.toNat := fun h => by rw [u4 h]
  have fe : ∀ p ∈ eE1_wm_2, inR p.2 (p.1.i (eV x0 x1 Y1 mm nn y2 y3 y4 y5 y6 y7 y8 Bx Cx Dx Fx Gx Z5 Z6)) := fun p hp => hH.e p (List.mem_append_left _ hp)
  have fb : ∀ p ∈ eQ1_wm_2, p.1.b (eV x0 x1 Y1 mm nn y2 y3 y4 y5 y6 y7 y8 Bx Cx Dx Fx Gx Z5 Z6) = p.2 := fun p hp => hH.b p (List.mem_append_left _ hp)
  simp only [eE1_wm_2, eQ1_wm_2, List.forall_mem_cons, inR] at fe fb
  have ff := And.intro fe fb
  clear fe fb
  simp only [nd, sm, sn, eV, u1, u2, u6] at ff
  refine ⟨fun hc0 => ?_, fun hc0 => ?_⟩
  ·
    exfalso
    simp only [nd, sm, sn, eV, u1, u2, u6] at hc0
    omega
  ·
    refine ⟨ehT1, ⟨mm, nn, y2, y3, (_root_.Go.Sx.E.i (eV x0 x1 Y1 mm nn y2 y3 y4 y5 y6 y7 y8 Bx Cx Dx Fx Gx Z5 Z6) e208), (_root_.Go.Sx.E.i (eV x0 x1 Y1 mm nn y2 y3 y4 y5 y6 y7 y8 Bx Cx Dx Fx Gx Z5 Z6) e231), y6, (_root_.Go.Sx.E.i (eV x0 x1 Y1 mm nn y2 y3 y4 y5 y6 y7 y8 Bx Cx Dx Fx Gx Z5 Z6) e442), (_root_.Go.Sx.E.i (eV x0 x1 Y1 mm nn y2 y3 y4 y5 y6 y7 y8 Bx Cx Dx Fx Gx Z5 Z6) e441), Bx, Cx, Dx, Fx, Gx, Z5, Z6, (by kernel_rfl), hB, ?_⟩, ?_⟩
    ·
      simp only [eJ1]
      refine ⟨l2, l3, ?_, ?_, l6, ?_, ?_, m5, m6, ?_, ?_, ?_, ?_, ?_, ?_, trivial⟩
      all_goals (try simp only [nd, sm, sn, eV, u1, u2, u6, if_true, if_false])
      all_goals first
        | omega
        | exact hq
        | (intro j hj; exact hq j (by omega))
    simp only [emu, Env.app, setAll, List.map_cons, List.map_nil, List.set, nd, sm, sn, eV]
    omega
def eE1_x : List (E × Rng) := []
def eQ1_x : List (E × Bool) := [(e218, false)]
noncomputable def eH1_x : Hyp := { eh1.H with e := eE1_x ++ eh1.H.e, b := eQ1_x ++ eh1.H.b }
set_option maxHeartbeats 40000000 in
theorem esg1_x : (segL Try.prog G Gh eD ehs [] 3000 0 5 { eh1 with H := eH1_x }).map LT.bare = some (.ret (.s (.bool e460)) []) := by kernel_rfl
theorem evc1_x (x0 : Ext) (x1 : Ext) (Y1 : Nat → Ext) (mm nn y2 y3 y4 y5 y6 y7 y8 : Int) (Bx Cx Dx Fx Gx Z5 Z6 : Nat → Int) (hB : eBase x0 x1 Y1 mm nn Bx Cx Dx Fx Gx) (hJ : eJ1 mm nn y2 y3 y4 y5 y6 y7 y8 Bx Cx Dx Fx Gx Z5 Z6) (hH : Hyp.ok eH1_x (eV x0 x1 Y1 mm nn y2 y3 y4 y5 y6 y7 y8 Bx Cx Dx Fx Gx Z5 Z6))  :
    eW1 x0 x1 Y1 (eV x0 x1 Y1 mm nn y2 y3 y4 y5 y6 y7 y8 Bx Cx Dx Fx Gx Z5 Z6) (.ret (.s (.bool e460)) []) := by
  simp only [eW1, LT.holds, retTrue]
  have hB3 := hB
  have hJ3 := hJ
  simp only [eBase] at hB3
  obtain ⟨b0, b1, c0, c1, c2, c3, c4, en0, en1, ea0, ea1, ea2, ea3, ea4, hs, hx0, _⟩ := hB3
  simp only [eJ1] at hJ3
  obtain ⟨l2, l3, l4, l5, l6, l7, l8, m5, m6, i1, i2, i3, i4, i5, hq, _⟩ := hJ3
  have u1 : (y4 + -1).toNat = y8.toNat := by omega
  have u2 : (y4 + -2).toNat = (y8 + -1).toNat := by omega
  have u3 := hq (y8 + -1).toNat
  have u4 : 1 ≤ y8 → (y8 + -1).toNat + 1 = y8.toNat := by omega
  have u5 : (y8 + 1).toNat = y8.toNat + 1 := by omega
  have u6 : y4.toNat = y8.toNat + 1 := by omega
  have u7 := m5 y8.toNat
  have u8 := m5 (y8 + -1).toNat
  have u9 : 1 ≤ y8 → Z5 ((y8 + -1).toNat + 1) = Z5 y8.toNat := fun h => by rw [u4 h]
  have fe : ∀ p ∈ eE1_x, inR p.2 (p.1.i (eV x0 x1 Y1 mm nn y2 y3 y4 y5 y6 y7 y8 Bx Cx Dx Fx Gx Z5 Z6)) := fun p hp => hH.e p (List.mem_append_left _ hp)
  have fb : ∀ p ∈ eQ1_x, p.1.b (eV x0 x1 Y1 mm nn y2 y3 y4 y5 y6 y7 y8 Bx Cx Dx Fx Gx Z5 Z6) = p.2 := fun p hp => hH.b p (List.mem_append_left _ hp)
  simp only [eE1_x, eQ1_x, List.forall_mem_cons, inR] at fe fb
  have ff := And.intro fe fb
  clear fe fb
  simp only [nd, sm, sn, eV, u1, u2, u6] at ff
  simp only [nd, sm, sn, eV, u1, u2, u6]
  omega
end Go.Proofs.Ytflamojcdfmimaa.SaveReads
