/- A part of the law SaveReads, which returns true for every input. A reader of whatever bytes answers, call by call in every order, what the document says, and stands where it says. Where what comes in is of bulk at most 1048576. No condition. -/
import Derived.Test.YtflamojcdfmimaaSaveReadsB
namespace Go.Proofs.Ytflamojcdfmimaa.SaveReads
open Go.Sx Go.ChangeShapes Go.WideShapes Go.ChangeAt Go.RowKit
set_option linter.unusedVariables false
set_option linter.unusedSimpArgs false
set_option maxRecDepth 100000
def eE0_w5_2 : List (E × Rng) := [(e114, (1, 4294967295)), (e45, (4, 1048562)), (e150, (0, 1048558)), (e103, ((-1048558), 1048558)), (e54, (0, 9223372036854775807)), ((.v 0), (17, 1048575)), ((.v 3), (0, 1048558)), (e91, (16, 1048574)), (e75, (15, 1048573)), (e57, (14, 1048572)), (e56, (13, 1048571)), (e0, (4, 1048562)), (e92, (3, 1048561)), (e76, (2, 1048560)), (e58, (1, 1048559)), (e93, (17, 1048575)), (e94, (4, 1048562)), (e46, (5, 5))]
def eQ0_w5_2 : List (E × Bool) := [(e151, true), (e152, true), (e153, true), (e95, true), (e96, true), (e77, true), (e59, true), (e97, true), (e81, true), (e63, true), (e50, true), (e98, true), (e99, true), (e100, true), (e48, true), (e49, true)]
noncomputable def eH0_w5_2 : Hyp := { eh0.H with e := eE0_w5_2 ++ eh0.H.e, b := eQ0_w5_2 ++ eh0.H.b }
set_option maxHeartbeats 40000000 in
theorem esg0_w5_2 : (segL Try.prog G Gh eD ehs [] 3000 0 5 { eh0 with H := eH0_w5_2 }).map LT.bare = some (.jump 0 eT0 ⟨[(3, (.v 3)), (2, e55)], [], []⟩) := by kernel_rfl
theorem evc0_w5_2 (x0 : Ext) (x1 : Ext) (Y1 : Nat → Ext) (mm nn y2 y3 y4 y5 y6 y7 y8 : Int) (Bx Cx Dx Fx Gx Z5 Z6 : Nat → Int) (hB : eBase x0 x1 Y1 mm nn Bx Cx Dx Fx Gx) (hJ : eJ0 mm nn y2 y3 y4 y5 y6 y7 y8 Bx Cx Dx Fx Gx Z5 Z6) (hH : Hyp.ok eH0_w5_2 (eV x0 x1 Y1 mm nn y2 y3 y4 y5 y6 y7 y8 Bx Cx Dx Fx Gx Z5 Z6))  :
    eW0 x0 x1 Y1 (eV x0 x1 Y1 mm nn y2 y3 y4 y5 y6 y7 y8 Bx Cx Dx Fx Gx Z5 Z6) (.jump 0 eT0 ⟨[(3, (.v 3)), (2, e55)], [], []⟩) := by
  simp only [eW0, LT.holds, retTrue]
  have hB3 := hB
  have hJ3 := hJ
  simp only [eBase] at hB3
  obtain ⟨b0, b1, c0, c1, c2, c3, c4, en0, en1, ea0, ea1, ea2, ea3, ea4, hs, hx0, _⟩ := hB3
  simp only [eJ0] at hJ3
  obtain ⟨l2, l3, l4, l5, l6, l7, l8, m5, m6, i1, i2, _⟩ := hJ3
  have d13 := c0 (y3 + 13).toNat
  have d14 := c0 (y3 + 14).toNat
  have d15 := c0 (y3 + 15).toNat
  have d16 := c0 (y3 + 16).toNat
  have d17 := c0 (y3 + 17).toNat
  have dw := c1 y2.toNat
  have fe : ∀ p ∈ eE0_w5_2, inR p.2 (p.1.i (eV x0 x1 Y1 mm nn y2 y3 y4 y5 y6 y7 y8 Bx Cx Dx Fx Gx Z5 Z6)) := fun p hp => hH.e p (List.mem_append_left _ hp)
  have fb : ∀ p ∈ eQ0_w5_2, p.1.b (eV x0 x1 Y1 mm nn y2 y3 y4 y5 y6 y7 y8 Bx Cx Dx Fx Gx Z5 Z6) = p.2 := fun p hp => hH.b p (List.mem_append_left _ hp)
  simp only [eE0_w5_2, eQ0_w5_2, List.forall_mem_cons, inR] at fe fb
  have ff := And.intro fe fb
  clear fe fb
  simp only [nd, sm, sn, eV] at ff
  refine ⟨ehT0, ⟨mm, nn, (_root_.Go.Sx.E.i (eV x0 x1 Y1 mm nn y2 y3 y4 y5 y6 y7 y8 Bx Cx Dx Fx Gx Z5 Z6) e55), y3, y4, y5, y6, y7, y8, Bx, Cx, Dx, Fx, Gx, Z5, Z6, (by kernel_rfl), hB, ?_⟩, ?_⟩
  ·
    simp only [eJ0]
    refine ⟨?_, l3, l4, l5, l6, l7, l8, m5, m6, ?_, ?_, trivial⟩
    all_goals (try simp only [nd, sm, sn, eV, if_true, if_false])
    all_goals first
      | omega
      | exact hq
  simp only [emu, Env.app, setAll, List.map_cons, List.map_nil, List.set, nd, sm, sn, eV]
  omega
def eE0_w5_3 : List (E × Rng) := [((.v 0), (18, 1048575)), ((.v 3), (0, 1048557)), (e93, (17, 1048574)), (e157, (0, 1048558)), (e158, (17, 1048575)), (e159, (4, 1048562)), (e94, (4, 1048562)), (e0, (4, 1048562)), (e45, (4, 1048562)), (e150, (0, 1048558)), (e114, (0, 1048558)), (e103, (0, 1048558)), (e54, (0, 9223372036854775807)), (e91, (16, 1048574)), (e75, (15, 1048573)), (e57, (14, 1048572)), (e56, (13, 1048571)), (e92, (3, 1048561)), (e76, (2, 1048560)), (e58, (1, 1048559)), (e46, (5, 5))]
def eQ0_w5_3 : List (E × Bool) := [(e127, true), (e160, true), (e161, true), (e162, true), (e163, true), (e164, true), (e153, true), (e95, true), (e96, true), (e77, true), (e59, true), (e97, true), (e81, true), (e63, true), (e50, true), (e98, true), (e99, true), (e100, true), (e48, true), (e49, true)]
noncomputable def eH0_w5_3 : Hyp := { eh0.H with e := eE0_w5_3 ++ eh0.H.e, b := eQ0_w5_3 ++ eh0.H.b }
set_option maxHeartbeats 40000000 in
theorem esg0_w5_3 : (segL Try.prog G Gh eD ehs [] 3000 0 5 { eh0 with H := eH0_w5_3 }).map LT.bare = some (.ite e176 (.ret (.s (.bool (.blit false))) []) (.ite e177 (.jump 0 eT0 ⟨[(3, e159), (2, e55)], [], []⟩) (.jump 0 eT0 ⟨[(3, e159), (2, e55)], [], []⟩))) := by kernel_rfl
theorem evc0_w5_3 (x0 : Ext) (x1 : Ext) (Y1 : Nat → Ext) (mm nn y2 y3 y4 y5 y6 y7 y8 : Int) (Bx Cx Dx Fx Gx Z5 Z6 : Nat → Int) (hB : eBase x0 x1 Y1 mm nn Bx Cx Dx Fx Gx) (hJ : eJ0 mm nn y2 y3 y4 y5 y6 y7 y8 Bx Cx Dx Fx Gx Z5 Z6) (hH : Hyp.ok eH0_w5_3 (eV x0 x1 Y1 mm nn y2 y3 y4 y5 y6 y7 y8 Bx Cx Dx Fx Gx Z5 Z6))  :
    eW0 x0 x1 Y1 (eV x0 x1 Y1 mm nn y2 y3 y4 y5 y6 y7 y8 Bx Cx Dx Fx Gx Z5 Z6) (.ite e176 (.ret (.s (.bool (.blit false))) []) (.ite e177 (.jump 0 eT0 ⟨[(3, e159), (2, e55)], [], []⟩) (.jump 0 eT0 ⟨[(3, e159), (2, e55)], [], []⟩))) := by
  simp only [eW0, LT.holds, retTrue]
  have hB3 := hB
  have hJ3 := hJ
  simp only [eBase] at hB3
  obtain ⟨b0, b1, c0, c1, c2, c3, c4, en0, en1, ea0, ea1, ea2, ea3, ea4, hs, hx0, _⟩ := hB3
  simp only [eJ0] at hJ3
  obtain ⟨l2, l3, l4, l5, l6, l7, l8, m5, m6, i1, i2, _⟩ := hJ3
  have d13 := c0 (y3 + 13).toNat
  have d14 := c0 (y3 + 14).toNat
  have d15 := c0 (y3 + 15).toNat
  have d16 := c0 (y3 + 16).toNat
  have d17 := c0 (y3 + 17).toNat
  have dw := c1 y2.toNat
  have fe : ∀ p ∈ eE0_w5_3, inR p.2 (p.1.i (eV x0 x1 Y1 mm nn y2 y3 y4 y5 y6 y7 y8 Bx Cx Dx Fx Gx Z5 Z6)) := fun p hp => hH.e p (List.mem_append_left _ hp)
  have fb : ∀ p ∈ eQ0_w5_3, p.1.b (eV x0 x1 Y1 mm nn y2 y3 y4 y5 y6 y7 y8 Bx Cx Dx Fx Gx Z5 Z6) = p.2 := fun p hp => hH.b p (List.mem_append_left _ hp)
  simp only [eE0_w5_3, eQ0_w5_3, List.forall_mem_cons, inR] at fe fb
  have ff := And.intro fe fb
  clear fe fb
  simp only [nd, sm, sn, eV] at ff
  have hz : E.b (eV x0 x1 Y1 mm nn y2 y3 y4 y5 y6 y7 y8 Bx Cx Dx Fx Gx Z5 Z6) e174 = true := aeq_shift (by simp only [nd, sm, sn, eV]; omega) (by simp only [nd, sm, sn, eV]; omega) (by simp only [nd, sm, sn, eV]; omega)
  refine ⟨fun hc0 => ?_, fun hc0 => ?_⟩
  ·
    exfalso
    simp only [nd, sm, hz, Bool.not_true, sn, Bool.true_eq_false, Bool.false_eq_true, or_false] at hc0
    simp only [nd, sm, sn, eV] at hc0
    omega
  ·
    refine ⟨fun hc2 => ?_, fun hc2 => ?_⟩
    ·
      refine ⟨ehT0, ⟨mm, nn, (_root_.Go.Sx.E.i (eV x0 x1 Y1 mm nn y2 y3 y4 y5 y6 y7 y8 Bx Cx Dx Fx Gx Z5 Z6) e55), (_root_.Go.Sx.E.i (eV x0 x1 Y1 mm nn y2 y3 y4 y5 y6 y7 y8 Bx Cx Dx Fx Gx Z5 Z6) e159), y4, y5, y6, y7, y8, Bx, Cx, Dx, Fx, Gx, Z5, Z6, (by kernel_rfl), hB, ?_⟩, ?_⟩
      ·
        simp only [eJ0]
        refine ⟨?_, ?_, l4, l5, l6, l7, l8, m5, m6, ?_, ?_, trivial⟩
        all_goals (try simp only [nd, sm, sn, eV, if_true, if_false])
        all_goals first
          | omega
          | exact hq
      simp only [emu, Env.app, setAll, List.map_cons, List.map_nil, List.set, nd, sm, sn, eV]
      omega
    ·
      refine ⟨ehT0, ⟨mm, nn, (_root_.Go.Sx.E.i (eV x0 x1 Y1 mm nn y2 y3 y4 y5 y6 y7 y8 Bx Cx Dx Fx Gx Z5 Z6) e55), (_root_.Go.Sx.E.i (eV x0 x1 Y1 mm nn y2 y3 y4 y5 y6 y7 y8 Bx Cx Dx Fx Gx Z5 Z6) e159), y4, y5, y6, y7, y8, Bx, Cx, Dx, Fx, Gx, Z5, Z6, (by kernel_rfl), hB, ?_⟩, ?_⟩
      ·
        simp only [eJ0]
        refine ⟨?_, ?_, l4, l5, l6, l7, l8, m5, m6, ?_, ?_, trivial⟩
        all_goals (try simp only [nd, sm, sn, eV, if_true, if_false])
        all_goals first
          | omega
          | exact hq
      simp only [emu, Env.app, setAll, List.map_cons, List.map_nil, List.set, nd, sm, sn, eV]
      omega
def eE0_w5_5 : List (E × Rng) := [((.v 3), (0, 1048558)), (e94, (4, 1048562)), (e157, (0, 1048558)), (e159, (4, 1048562)), (e114, (0, 0)), ((.v 0), (17, 1048575)), (e93, (17, 1048575)), (e158, (17, 1048575)), (e0, (4, 1048562)), (e45, (4, 1048562)), (e150, (0, 1048558)), (e103, (0, 1048558)), (e54, (0, 9223372036854775807)), (e91, (16, 1048574)), (e75, (15, 1048573)), (e57, (14, 1048572)), (e56, (13, 1048571)), (e92, (3, 1048561)), (e76, (2, 1048560)), (e58, (1, 1048559)), (e46, (5, 5))]
def eQ0_w5_5 : List (E × Bool) := [(e178, true), (e179, true), (e180, true), (e160, true), (e161, true), (e162, true), (e163, true), (e164, true), (e153, true), (e95, true), (e96, true), (e77, true), (e59, true), (e97, true), (e81, true), (e63, true), (e50, true), (e98, true), (e99, true), (e100, true), (e48, true), (e49, true)]
noncomputable def eH0_w5_5 : Hyp := { eh0.H with e := eE0_w5_5 ++ eh0.H.e, b := eQ0_w5_5 ++ eh0.H.b }
set_option maxHeartbeats 40000000 in
theorem esg0_w5_5 : (segL Try.prog G Gh eD ehs [] 3000 0 5 { eh0 with H := eH0_w5_5 }).map LT.bare = some (.ite e171 (.ret (.s (.bool (.blit false))) []) (.jump 0 eT0 ⟨[(3, e159), (2, e55)], [], []⟩)) := by kernel_rfl
theorem evc0_w5_5 (x0 : Ext) (x1 : Ext) (Y1 : Nat → Ext) (mm nn y2 y3 y4 y5 y6 y7 y8 : Int) (Bx Cx Dx Fx Gx Z5 Z6 : Nat → Int) (hB : eBase x0 x1 Y1 mm nn Bx Cx Dx Fx Gx) (hJ : eJ0 mm nn y2 y3 y4 y5 y6 y7 y8 Bx Cx Dx Fx Gx Z5 Z6) (hH : Hyp.ok eH0_w5_5 (eV x0 x1 Y1 mm nn y2 y3 y4 y5 y6 y7 y8 Bx Cx Dx Fx Gx Z5 Z6))  :
    eW0 x0 x1 Y1 (eV x0 x1 Y1 mm nn y2 y3 y4 y5 y6 y7 y8 Bx Cx Dx Fx Gx Z5 Z6) (.ite e171 (.ret (.s (.bool (.blit false))) []) (.jump 0 eT0 ⟨[(3, e159), (2, e55)], [], []⟩)) := by
  simp only [eW0, LT.holds, retTrue]
  have hB3 := hB
  have hJ3 := hJ
  simp only [eBase] at hB3
  obtain ⟨b0, b1, c0, c1, c2, c3, c4, en0, en1, ea0, ea1, ea2, ea3, ea4, hs, hx0, _⟩ := hB3
  simp only [eJ0] at hJ3
  obtain ⟨l2, l3, l4, l5, l6, l7, l8, m5, m6, i1, i2, _⟩ := hJ3
  have d13 := c0 (y3 + 13).toNat
  have d14 := c0 (y3 + 14).toNat
  have d15 := c0 (y3 + 15).toNat
  have d16 := c0 (y3 + 16).toNat
  have d17 := c0 (y3 + 17).toNat
  have dw := c1 y2.toNat
  have fe : ∀ p ∈ eE0_w5_5, inR p.2 (p.1.i (eV x0 x1 Y1 mm nn y2 y3 y4 y5 y6 y7 y8 Bx Cx Dx Fx Gx Z5 Z6)) := fun p hp => hH.e p (List.mem_append_left _ hp)
  have fb : ∀ p ∈ eQ0_w5_5, p.1.b (eV x0 x1 Y1 mm nn y2 y3 y4 y5 y6 y7 y8 Bx Cx Dx Fx Gx Z5 Z6) = p.2 := fun p hp => hH.b p (List.mem_append_left _ hp)
  simp only [eE0_w5_5, eQ0_w5_5, List.forall_mem_cons, inR] at fe fb
  have ff := And.intro fe fb
  clear fe fb
  simp only [nd, sm, sn, eV] at ff
  refine ⟨fun hc0 => ?_, fun hc0 => ?_⟩
  ·
    exfalso
    simp only [nd, sm, sn, eV] at hc0
    omega
  ·
    refine ⟨ehT0, ⟨mm, nn, (_root_.Go.Sx.E.i (eV x0 x1 Y1 mm nn y2 y3 y4 y5 y6 y7 y8 Bx Cx Dx Fx Gx Z5 Z6) e55), (_root_.Go.Sx.E.i (eV x0 x1 Y1 mm nn y2 y3 y4 y5 y6 y7 y8 Bx Cx Dx Fx Gx Z5 Z6) e159), y4, y5, y6, y7, y8, Bx, Cx, Dx, Fx, Gx, Z5, Z6, (by kernel_rfl), hB, ?_⟩, ?_⟩
    ·
      simp only [eJ0]
      refine ⟨?_, ?_, l4, l5, l6, l7, l8, m5, m6, ?_, ?_, trivial⟩
      all_goals (try simp only [nd, sm, sn, eV, if_true, if_false])
      all_goals first
        | omega
        | exact hq
    simp only [emu, Env.app, setAll, List.map_cons, List.map_nil, List.set, nd, sm, sn, eV]
    omega
def eE0_w6_0 : List (E × Rng) := [(e45, ((-1048561), 4)), ((.v 0), (14, 1048575)), (e0, (1, 1048562)), ((.v 3), (0, 1048562)), (e46, (6, 6))]
def eQ0_w6_0 : List (E × Bool) := [(e181, true), (e48, true), (e49, true)]
noncomputable def eH0_w6_0 : Hyp := { eh0.H with e := eE0_w6_0 ++ eh0.H.e, b := eQ0_w6_0 ++ eh0.H.b }
set_option maxHeartbeats 40000000 in
theorem esg0_w6_0 : (segL Try.prog G Gh eD ehs [] 3000 0 5 { eh0 with H := eH0_w6_0 }).map LT.bare = some (.ite e74 (.ret (.s (.bool (.blit false))) []) (.jump 0 eT0 ⟨[(3, (.v 3)), (2, e55)], [], []⟩)) := by kernel_rfl
theorem evc0_w6_0 (x0 : Ext) (x1 : Ext) (Y1 : Nat → Ext) (mm nn y2 y3 y4 y5 y6 y7 y8 : Int) (Bx Cx Dx Fx Gx Z5 Z6 : Nat → Int) (hB : eBase x0 x1 Y1 mm nn Bx Cx Dx Fx Gx) (hJ : eJ0 mm nn y2 y3 y4 y5 y6 y7 y8 Bx Cx Dx Fx Gx Z5 Z6) (hH : Hyp.ok eH0_w6_0 (eV x0 x1 Y1 mm nn y2 y3 y4 y5 y6 y7 y8 Bx Cx Dx Fx Gx Z5 Z6))  :
    eW0 x0 x1 Y1 (eV x0 x1 Y1 mm nn y2 y3 y4 y5 y6 y7 y8 Bx Cx Dx Fx Gx Z5 Z6) (.ite e74 (.ret (.s (.bool (.blit false))) []) (.jump 0 eT0 ⟨[(3, (.v 3)), (2, e55)], [], []⟩)) := by
  simp only [eW0, LT.holds, retTrue]
  have hB3 := hB
  have hJ3 := hJ
  simp only [eBase] at hB3
  obtain ⟨b0, b1, c0, c1, c2, c3, c4, en0, en1, ea0, ea1, ea2, ea3, ea4, hs, hx0, _⟩ := hB3
  simp only [eJ0] at hJ3
  obtain ⟨l2, l3, l4, l5, l6, l7, l8, m5, m6, i1, i2, _⟩ := hJ3
  have d13 := c0 (y3 + 13).toNat
  have d14 := c0 (y3 + 14).toNat
  have d15 := c0 (y3 + 15).toNat
  have d16 := c0 (y3 + 16).toNat
  have d17 := c0 (y3 + 17).toNat
  have dw := c1 y2.toNat
  have fe : ∀ p ∈ eE0_w6_0, inR p.2 (p.1.i (eV x0 x1 Y1 mm nn y2 y3 y4 y5 y6 y7 y8 Bx Cx Dx Fx Gx Z5 Z6)) := fun p hp => hH.e p (List.mem_append_left _ hp)
  have fb : ∀ p ∈ eQ0_w6_0, p.1.b (eV x0 x1 Y1 mm nn y2 y3 y4 y5 y6 y7 y8 Bx Cx Dx Fx Gx Z5 Z6) = p.2 := fun p hp => hH.b p (List.mem_append_left _ hp)
  simp only [eE0_w6_0, eQ0_w6_0, List.forall_mem_cons, inR] at fe fb
  have ff := And.intro fe fb
  clear fe fb
  simp only [nd, sm, sn, eV] at ff
  refine ⟨fun hc0 => ?_, fun hc0 => ?_⟩
  ·
    exfalso
    simp only [nd, sm, sn, eV] at hc0
    omega
  ·
    refine ⟨ehT0, ⟨mm, nn, (_root_.Go.Sx.E.i (eV x0 x1 Y1 mm nn y2 y3 y4 y5 y6 y7 y8 Bx Cx Dx Fx Gx Z5 Z6) e55), y3, y4, y5, y6, y7, y8, Bx, Cx, Dx, Fx, Gx, Z5, Z6, (by kernel_rfl), hB, ?_⟩, ?_⟩
    ·
      simp only [eJ0]
      refine ⟨?_, l3, l4, l5, l6, l7, l8, m5, m6, ?_, ?_, trivial⟩
      all_goals (try simp only [nd, sm, sn, eV, if_true, if_false])
      all_goals first
        | omega
        | exact hq
    simp only [emu, Env.app, setAll, List.map_cons, List.map_nil, List.set, nd, sm, sn, eV]
    omega
def eE0_w6_1 : List (E × Rng) := [((.v 0), (18, 1048575)), ((.v 3), (0, 1048557)), (e93, (17, 1048574)), (e91, (16, 1048573)), (e75, (15, 1048572)), (e57, (14, 1048571)), (e56, (13, 1048570)), (e0, (5, 1048562)), (e94, (4, 1048561)), (e92, (3, 1048560)), (e76, (2, 1048559)), (e58, (1, 1048558)), (e118, (18, 1048575)), (e121, (5, 1048562)), (e45, (5, 1048562)), (e46, (6, 6))]
def eQ0_w6_1 : List (E × Bool) := [(e183, false), (e184, true), (e127, true), (e95, true), (e96, true), (e77, true), (e59, true), (e101, true), (e97, true), (e81, true), (e63, true), (e50, true), (e185, true), (e186, true), (e187, true), (e48, true), (e49, true)]
noncomputable def eH0_w6_1 : Hyp := { eh0.H with e := eE0_w6_1 ++ eh0.H.e, b := eQ0_w6_1 ++ eh0.H.b }
set_option maxHeartbeats 40000000 in
theorem esg0_w6_1 : (segL Try.prog G Gh eD ehs [] 3000 0 5 { eh0 with H := eH0_w6_1 }).map LT.bare = some (.jump 0 eT0 ⟨[(3, (.v 3)), (2, e55)], [], []⟩) := by kernel_rfl
theorem evc0_w6_1 (x0 : Ext) (x1 : Ext) (Y1 : Nat → Ext) (mm nn y2 y3 y4 y5 y6 y7 y8 : Int) (Bx Cx Dx Fx Gx Z5 Z6 : Nat → Int) (hB : eBase x0 x1 Y1 mm nn Bx Cx Dx Fx Gx) (hJ : eJ0 mm nn y2 y3 y4 y5 y6 y7 y8 Bx Cx Dx Fx Gx Z5 Z6) (hH : Hyp.ok eH0_w6_1 (eV x0 x1 Y1 mm nn y2 y3 y4 y5 y6 y7 y8 Bx Cx Dx Fx Gx Z5 Z6))  :
    eW0 x0 x1 Y1 (eV x0 x1 Y1 mm nn y2 y3 y4 y5 y6 y7 y8 Bx Cx Dx Fx Gx Z5 Z6) (.jump 0 eT0 ⟨[(3, (.v 3)), (2, e55)], [], []⟩) := by
  simp only [eW0, LT.holds, retTrue]
  have hB3 := hB
  have hJ3 := hJ
  simp only [eBase] at hB3
  obtain ⟨b0, b1, c0, c1, c2, c3, c4, en0, en1, ea0, ea1, ea2, ea3, ea4, hs, hx0, _⟩ := hB3
  simp only [eJ0] at hJ3
  obtain ⟨l2, l3, l4, l5, l6, l7, l8, m5, m6, i1, i2, _⟩ := hJ3
  have d13 := c0 (y3 + 13).toNat
  have d14 := c0 (y3 + 14).toNat
  have d15 := c0 (y3 + 15).toNat
  have d16 := c0 (y3 + 16).toNat
  have d17 := c0 (y3 + 17).toNat
  have dw := c1 y2.toNat
  have fe : ∀ p ∈ eE0_w6_1, inR p.2 (p.1.i (eV x0 x1 Y1 mm nn y2 y3 y4 y5 y6 y7 y8 Bx Cx Dx Fx Gx Z5 Z6)) := fun p hp => hH.e p (List.mem_append_left _ hp)
  have fb : ∀ p ∈ eQ0_w6_1, p.1.b (eV x0 x1 Y1 mm nn y2 y3 y4 y5 y6 y7 y8 Bx Cx Dx Fx Gx Z5 Z6) = p.2 := fun p hp => hH.b p (List.mem_append_left _ hp)
  simp only [eE0_w6_1, eQ0_w6_1, List.forall_mem_cons, inR] at fe fb
  have ff := And.intro fe fb
  clear fe fb
  simp only [nd, sm, sn, eV] at ff
  refine ⟨ehT0, ⟨mm, nn, (_root_.Go.Sx.E.i (eV x0 x1 Y1 mm nn y2 y3 y4 y5 y6 y7 y8 Bx Cx Dx Fx Gx Z5 Z6) e55), y3, y4, y5, y6, y7, y8, Bx, Cx, Dx, Fx, Gx, Z5, Z6, (by kernel_rfl), hB, ?_⟩, ?_⟩
  ·
    simp only [eJ0]
    refine ⟨?_, l3, l4, l5, l6, l7, l8, m5, m6, ?_, ?_, trivial⟩
    all_goals (try simp only [nd, sm, sn, eV, if_true, if_false])
    all_goals first
      | omega
      | exact hq
  simp only [emu, Env.app, setAll, List.map_cons, List.map_nil, List.set, nd, sm, sn, eV]
  omega
def eE0_w6_2 : List (E × Rng) := [(e193, (1, 4294967295)), (e45, (5, 1048562)), (e194, (0, 1048557)), (e195, ((-1048557), 1048557)), (e182, (0, 255)), (e70, (0, 255)), ((.v 0), (18, 1048575)), ((.v 3), (0, 1048557)), (e93, (17, 1048574)), (e91, (16, 1048573)), (e75, (15, 1048572)), (e57, (14, 1048571)), (e56, (13, 1048570)), (e0, (5, 1048562)), (e94, (4, 1048561)), (e92, (3, 1048560)), (e76, (2, 1048559)), (e58, (1, 1048558)), (e118, (18, 1048575)), (e121, (5, 1048562)), (e46, (6, 6))]
def eQ0_w6_2 : List (E × Bool) := [(e196, true), (e197, true), (e183, true), (e127, true), (e95, true), (e96, true), (e77, true), (e59, true), (e101, true), (e97, true), (e81, true), (e63, true), (e50, true), (e185, true), (e186, true), (e187, true), (e48, true), (e49, true)]
noncomputable def eH0_w6_2 : Hyp := { eh0.H with e := eE0_w6_2 ++ eh0.H.e, b := eQ0_w6_2 ++ eh0.H.b }
set_option maxHeartbeats 40000000 in
theorem esg0_w6_2 : (segL Try.prog G Gh eD ehs [] 3000 0 5 { eh0 with H := eH0_w6_2 }).map LT.bare = some (.jump 0 eT0 ⟨[(3, (.v 3)), (2, e55)], [], []⟩) := by kernel_rfl
theorem evc0_w6_2 (x0 : Ext) (x1 : Ext) (Y1 : Nat → Ext) (mm nn y2 y3 y4 y5 y6 y7 y8 : Int) (Bx Cx Dx Fx Gx Z5 Z6 : Nat → Int) (hB : eBase x0 x1 Y1 mm nn Bx Cx Dx Fx Gx) (hJ : eJ0 mm nn y2 y3 y4 y5 y6 y7 y8 Bx Cx Dx Fx Gx Z5 Z6) (hH : Hyp.ok eH0_w6_2 (eV x0 x1 Y1 mm nn y2 y3 y4 y5 y6 y7 y8 Bx Cx Dx Fx Gx Z5 Z6))  :
    eW0 x0 x1 Y1 (eV x0 x1 Y1 mm nn y2 y3 y4 y5 y6 y7 y8 Bx Cx Dx Fx Gx Z5 Z6) (.jump 0 eT0 ⟨[(3, (.v 3)), (2, e55)], [], []⟩) := by
  simp only [eW0, LT.holds, retTrue]
  have hB3 := hB
  have hJ3 := hJ
  simp only [eBase] at hB3
  obtain ⟨b0, b1, c0, c1, c2, c3, c4, en0, en1, ea0, ea1, ea2, ea3, ea4, hs, hx0, _⟩ := hB3
  simp only [eJ0] at hJ3
  obtain ⟨l2, l3, l4, l5, l6, l7, l8, m5, m6, i1, i2, _⟩ := hJ3
  have d13 := c0 (y3 + 13).toNat
  have d14 := c0 (y3 + 14).toNat
  have d15 := c0 (y3 + 15).toNat
  have d16 := c0 (y3 + 16).toNat
  have d17 := c0 (y3 + 17).toNat
  have dw := c1 y2.toNat
  have fe : ∀ p ∈ eE0_w6_2, inR p.2 (p.1.i (eV x0 x1 Y1 mm nn y2 y3 y4 y5 y6 y7 y8 Bx Cx Dx Fx Gx Z5 Z6)) := fun p hp => hH.e p (List.mem_append_left _ hp)
  have fb : ∀ p ∈ eQ0_w6_2, p.1.b (eV x0 x1 Y1 mm nn y2 y3 y4 y5 y6 y7 y8 Bx Cx Dx Fx Gx Z5 Z6) = p.2 := fun p hp => hH.b p (List.mem_append_left _ hp)
  simp only [eE0_w6_2, eQ0_w6_2, List.forall_mem_cons, inR] at fe fb
  have ff := And.intro fe fb
  clear fe fb
  simp only [nd, sm, sn, eV] at ff
  refine ⟨ehT0, ⟨mm, nn, (_root_.Go.Sx.E.i (eV x0 x1 Y1 mm nn y2 y3 y4 y5 y6 y7 y8 Bx Cx Dx Fx Gx Z5 Z6) e55), y3, y4, y5, y6, y7, y8, Bx, Cx, Dx, Fx, Gx, Z5, Z6, (by kernel_rfl), hB, ?_⟩, ?_⟩
  ·
    simp only [eJ0]
    refine ⟨?_, l3, l4, l5, l6, l7, l8, m5, m6, ?_, ?_, trivial⟩
    all_goals (try simp only [nd, sm, sn, eV, if_true, if_false])
    all_goals first
      | omega
      | exact hq
  simp only [emu, Env.app, setAll, List.map_cons, List.map_nil, List.set, nd, sm, sn, eV]
  omega
def eE0_w6_3 : List (E × Rng) := [((.v 0), (18, 1048575)), (e0, (5, 1048562)), (e201, (0, 1048557)), (e202, (5, 1048562)), (e45, (5, 1048562)), (e194, (0, 1048557)), (e193, (0, 1048557)), (e195, (0, 1048557)), (e182, (0, 255)), (e70, (0, 255)), ((.v 3), (0, 1048557)), (e93, (17, 1048574)), (e91, (16, 1048573)), (e75, (15, 1048572)), (e57, (14, 1048571)), (e56, (13, 1048570)), (e94, (4, 1048561)), (e92, (3, 1048560)), (e76, (2, 1048559)), (e58, (1, 1048558)), (e118, (18, 1048575)), (e121, (5, 1048562)), (e46, (6, 6))]
def eQ0_w6_3 : List (E × Bool) := [(e203, true), (e204, true), (e205, true), (e183, true), (e127, true), (e95, true), (e96, true), (e77, true), (e59, true), (e101, true), (e97, true), (e81, true), (e63, true), (e50, true), (e185, true), (e186, true), (e187, true), (e48, true), (e49, true)]
noncomputable def eH0_w6_3 : Hyp := { eh0.H with e := eE0_w6_3 ++ eh0.H.e, b := eQ0_w6_3 ++ eh0.H.b }
set_option maxHeartbeats 40000000 in
theorem esg0_w6_3 : (segL Try.prog G Gh eD ehs [] 3000 0 5 { eh0 with H := eH0_w6_3 }).map LT.bare = some (.jump 1 eT1 ⟨[(4, (.lit 2)), (8, (.lit 1)), (7, e202), (6, e121), (5, e55)], [], [(5, e207), (6, e206)]⟩) := by kernel_rfl
theorem evc0_w6_3 (x0 : Ext) (x1 : Ext) (Y1 : Nat → Ext) (mm nn y2 y3 y4 y5 y6 y7 y8 : Int) (Bx Cx Dx Fx Gx Z5 Z6 : Nat → Int) (hB : eBase x0 x1 Y1 mm nn Bx Cx Dx Fx Gx) (hJ : eJ0 mm nn y2 y3 y4 y5 y6 y7 y8 Bx Cx Dx Fx Gx Z5 Z6) (hH : Hyp.ok eH0_w6_3 (eV x0 x1 Y1 mm nn y2 y3 y4 y5 y6 y7 y8 Bx Cx Dx Fx Gx Z5 Z6))  :
    eW0 x0 x1 Y1 (eV x0 x1 Y1 mm nn y2 y3 y4 y5 y6 y7 y8 Bx Cx Dx Fx Gx Z5 Z6) (.jump 1 eT1 ⟨[(4, (.lit 2)), (8, (.lit 1)), (7, e202), (6, e121), (5, e55)], [], [(5, e207), (6, e206)]⟩) := by
  simp only [eW0, LT.holds, retTrue]
  have hB3 := hB
  have hJ3 := hJ
  simp only [eBase] at hB3
  obtain ⟨b0, b1, c0, c1, c2, c3, c4, en0, en1, ea0, ea1, ea2, ea3, ea4, hs, hx0, _⟩ := hB3
  simp only [eJ0] at hJ3
  obtain ⟨l2, l3, l4, l5, l6, l7, l8, m5, m6, i1, i2, _⟩ := hJ3
  have d13 := c0 (y3 + 13).toNat
  have d14 := c0 (y3 + 14).toNat
  have d15 := c0 (y3 + 15).toNat
  have d16 := c0 (y3 + 16).toNat
  have d17 := c0 (y3 + 17).toNat
  have dw := c1 y2.toNat
  have fe : ∀ p ∈ eE0_w6_3, inR p.2 (p.1.i (eV x0 x1 Y1 mm nn y2 y3 y4 y5 y6 y7 y8 Bx Cx Dx Fx Gx Z5 Z6)) := fun p hp => hH.e p (List.mem_append_left _ hp)
  have fb : ∀ p ∈ eQ0_w6_3, p.1.b (eV x0 x1 Y1 mm nn y2 y3 y4 y5 y6 y7 y8 Bx Cx Dx Fx Gx Z5 Z6) = p.2 := fun p hp => hH.b p (List.mem_append_left _ hp)
  simp only [eE0_w6_3, eQ0_w6_3, List.forall_mem_cons, inR] at fe fb
  have ff := And.intro fe fb
  clear fe fb
  simp only [nd, sm, sn, eV] at ff
  refine ⟨ehT1, ⟨mm, nn, y2, y3, (_root_.Go.Sx.E.i (eV x0 x1 Y1 mm nn y2 y3 y4 y5 y6 y7 y8 Bx Cx Dx Fx Gx Z5 Z6) (.lit 2)), (_root_.Go.Sx.E.i (eV x0 x1 Y1 mm nn y2 y3 y4 y5 y6 y7 y8 Bx Cx Dx Fx Gx Z5 Z6) e55), (_root_.Go.Sx.E.i (eV x0 x1 Y1 mm nn y2 y3 y4 y5 y6 y7 y8 Bx Cx Dx Fx Gx Z5 Z6) e121), (_root_.Go.Sx.E.i (eV x0 x1 Y1 mm nn y2 y3 y4 y5 y6 y7 y8 Bx Cx Dx Fx Gx Z5 Z6) e202), (_root_.Go.Sx.E.i (eV x0 x1 Y1 mm nn y2 y3 y4 y5 y6 y7 y8 Bx Cx Dx Fx Gx Z5 Z6) (.lit 1)), Bx, Cx, Dx, Fx, Gx, (_root_.Go.Sx.E.a (eV x0 x1 Y1 mm nn y2 y3 y4 y5 y6 y7 y8 Bx Cx Dx Fx Gx Z5 Z6) e207), (_root_.Go.Sx.E.a (eV x0 x1 Y1 mm nn y2 y3 y4 y5 y6 y7 y8 Bx Cx Dx Fx Gx Z5 Z6) e206), (by kernel_rfl), hB, ?_⟩, ?_⟩
  ·
    simp only [eJ1]
    refine ⟨l2, l3, ?_, ?_, ?_, ?_, ?_, (arr_at hH (by kernel_rfl)), (arr_at hH (by kernel_rfl)), ?_, ?_, ?_, ?_, ?_, ?_, trivial⟩
    all_goals (try simp only [nd, sm, sn, eV, if_true, if_false])
    all_goals first
      | omega
      | exact hq
      | (intro j hj; have q := hj; rcases (show j < 0 ∨ j = 0 by omega) with h | h <;> first | omega | (subst h; omega))
  simp only [emu, Env.app, setAll, List.map_cons, List.map_nil, List.set, nd, sm, sn, eV]
  omega
def eE0_w7_0 : List (E × Rng) := [((.v 0), (14, 1048575)), (e0, (1, 1048562)), ((.v 3), (0, 1048562)), (e46, (7, 9223372036854775807))]
def eQ0_w7_0 : List (E × Bool) := [(e48, true), (e49, true)]
noncomputable def eH0_w7_0 : Hyp := { eh0.H with e := eE0_w7_0 ++ eh0.H.e, b := eQ0_w7_0 ++ eh0.H.b }
set_option maxHeartbeats 40000000 in
theorem esg0_w7_0 : (segL Try.prog G Gh eD ehs [] 3000 0 5 { eh0 with H := eH0_w7_0 }).map LT.bare = some (.ite e74 (.ret (.s (.bool (.blit false))) []) (.jump 0 eT0 ⟨[(3, (.v 3)), (2, e55)], [], []⟩)) := by kernel_rfl
theorem evc0_w7_0 (x0 : Ext) (x1 : Ext) (Y1 : Nat → Ext) (mm nn y2 y3 y4 y5 y6 y7 y8 : Int) (Bx Cx Dx Fx Gx Z5 Z6 : Nat → Int) (hB : eBase x0 x1 Y1 mm nn Bx Cx Dx Fx Gx) (hJ : eJ0 mm nn y2 y3 y4 y5 y6 y7 y8 Bx Cx Dx Fx Gx Z5 Z6) (hH : Hyp.ok eH0_w7_0 (eV x0 x1 Y1 mm nn y2 y3 y4 y5 y6 y7 y8 Bx Cx Dx Fx Gx Z5 Z6))  :
    eW0 x0 x1 Y1 (eV x0 x1 Y1 mm nn y2 y3 y4 y5 y6 y7 y8 Bx Cx Dx Fx Gx Z5 Z6) (.ite e74 (.ret (.s (.bool (.blit false))) []) (.jump 0 eT0 ⟨[(3, (.v 3)), (2, e55)], [], []⟩)) := by
  simp only [eW0, LT.holds, retTrue]
  have hB3 := hB
  have hJ3 := hJ
  simp only [eBase] at hB3
  obtain ⟨b0, b1, c0, c1, c2, c3, c4, en0, en1, ea0, ea1, ea2, ea3, ea4, hs, hx0, _⟩ := hB3
  simp only [eJ0] at hJ3
  obtain ⟨l2, l3, l4, l5, l6, l7, l8, m5, m6, i1, i2, _⟩ := hJ3
  have fe : ∀ p ∈ eE0_w7_0, inR p.2 (p.1.i (eV x0 x1 Y1 mm nn y2 y3 y4 y5 y6 y7 y8 Bx Cx Dx Fx Gx Z5 Z6)) := fun p hp => hH.e p (List.mem_append_left _ hp)
  have fb : ∀ p ∈ eQ0_w7_0, p.1.b (eV x0 x1 Y1 mm nn y2 y3 y4 y5 y6 y7 y8 Bx Cx Dx Fx Gx Z5 Z6) = p.2 := fun p hp => hH.b p (List.mem_append_left _ hp)
  simp only [eE0_w7_0, eQ0_w7_0, List.forall_mem_cons, inR] at fe fb
  have ff := And.intro fe fb
  clear fe fb
  simp only [nd, sm, sn, eV] at ff
  refine ⟨fun hc0 => ?_, fun hc0 => ?_⟩
  ·
    exfalso
    simp only [nd, sm, sn, eV] at hc0
    omega
  ·
    refine ⟨ehT0, ⟨mm, nn, (_root_.Go.Sx.E.i (eV x0 x1 Y1 mm nn y2 y3 y4 y5 y6 y7 y8 Bx Cx Dx Fx Gx Z5 Z6) e55), y3, y4, y5, y6, y7, y8, Bx, Cx, Dx, Fx, Gx, Z5, Z6, (by kernel_rfl), hB, ?_⟩, ?_⟩
    ·
      simp only [eJ0]
      refine ⟨?_, l3, l4, l5, l6, l7, l8, m5, m6, ?_, ?_, trivial⟩
      all_goals (try simp only [nd, sm, sn, eV, if_true, if_false])
      all_goals first
        | omega
        | exact hq
        | (intro j hj; exact hq j (by omega))
    simp only [emu, Env.app, setAll, List.map_cons, List.map_nil, List.set, nd, sm, sn, eV]
    omega
def eE0_wm_0 : List (E × Rng) := [((.v 0), (14, 1048575)), (e0, (1, 1048562)), ((.v 3), (0, 1048562)), (e46, ((-9223372036854775808), (-1)))]
def eQ0_wm_0 : List (E × Bool) := [(e48, true), (e49, true)]
noncomputable def eH0_wm_0 : Hyp := { eh0.H with e := eE0_wm_0 ++ eh0.H.e, b := eQ0_wm_0 ++ eh0.H.b }
set_option maxHeartbeats 40000000 in
theorem esg0_wm_0 : (segL Try.prog G Gh eD ehs [] 3000 0 5 { eh0 with H := eH0_wm_0 }).map LT.bare = some (.ite e74 (.ret (.s (.bool (.blit false))) []) (.jump 0 eT0 ⟨[(3, (.v 3)), (2, e55)], [], []⟩)) := by kernel_rfl
theorem evc0_wm_0 (x0 : Ext) (x1 : Ext) (Y1 : Nat → Ext) (mm nn y2 y3 y4 y5 y6 y7 y8 : Int) (Bx Cx Dx Fx Gx Z5 Z6 : Nat → Int) (hB : eBase x0 x1 Y1 mm nn Bx Cx Dx Fx Gx) (hJ : eJ0 mm nn y2 y3 y4 y5 y6 y7 y8 Bx Cx Dx Fx Gx Z5 Z6) (hH : Hyp.ok eH0_wm_0 (eV x0 x1 Y1 mm nn y2 y3 y4 y5 y6 y7 y8 Bx Cx Dx Fx Gx Z5 Z6))  :
    eW0 x0 x1 Y1 (eV x0 x1 Y1 mm nn y2 y3 y4 y5 y6 y7 y8 Bx Cx Dx Fx Gx Z5 Z6) (.ite e74 (.ret (.s (.bool (.blit false))) []) (.jump 0 eT0 ⟨[(3, (.v 3)), (2, e55)], [], []⟩)) := by
  simp only [eW0, LT.holds, retTrue]
  have hB3 := hB
  have hJ3 := hJ
  simp only [eBase] at hB3
  obtain ⟨b0, b1, c0, c1, c2, c3, c4, en0, en1, ea0, ea1, ea2, ea3, ea4, hs, hx0, _⟩ := hB3
  simp only [eJ0] at hJ3
  obtain ⟨l2, l3, l4, l5, l6, l7, l8, m5, m6, i1, i2, _⟩ := hJ3
  have fe : ∀ p ∈ eE0_wm_0, inR p.2 (p.1.i (eV x0 x1 Y1 mm nn y2 y3 y4 y5 y6 y7 y8 Bx Cx Dx Fx Gx Z5 Z6)) := fun p hp => hH.e p (List.mem_append_left _ hp)
  have fb : ∀ p ∈ eQ0_wm_0, p.1.b (eV x0 x1 Y1 mm nn y2 y3 y4 y5 y6 y7 y8 Bx Cx Dx Fx Gx Z5 Z6) = p.2 := fun p hp => hH.b p (List.mem_append_left _ hp)
  simp only [eE0_wm_0, eQ0_wm_0, List.forall_mem_cons, inR] at fe fb
  have ff := And.intro fe fb
  clear fe fb
  simp only [nd, sm, sn, eV] at ff
  refine ⟨fun hc0 => ?_, fun hc0 => ?_⟩
  ·
    exfalso
    simp only [nd, sm, sn, eV] at hc0
    omega
  ·
    refine ⟨ehT0, ⟨mm, nn, (_root_.Go.Sx.E.i (eV x0 x1 Y1 mm nn y2 y3 y4 y5 y6 y7 y8 Bx Cx Dx Fx Gx Z5 Z6) e55), y3, y4, y5, y6, y7, y8, Bx, Cx, Dx, Fx, Gx, Z5, Z6, (by kernel_rfl), hB, ?_⟩, ?_⟩
    ·
      simp only [eJ0]
      refine ⟨?_, l3, l4, l5, l6, l7, l8, m5, m6, ?_, ?_, trivial⟩
      all_goals (try simp only [nd, sm, sn, eV, if_true, if_false])
      all_goals first
        | omega
        | exact hq
        | (intro j hj; exact hq j (by omega))
    simp only [emu, Env.app, setAll, List.map_cons, List.map_nil, List.set, nd, sm, sn, eV]
    omega
def eE0_x : List (E × Rng) := []
def eQ0_x : List (E × Bool) := [(e49, false)]
noncomputable def eH0_x : Hyp := { eh0.H with e := eE0_x ++ eh0.H.e, b := eQ0_x ++ eh0.H.b }
set_option maxHeartbeats 40000000 in
theorem esg0_x : (segL Try.prog G Gh eD ehs [] 3000 0 5 { eh0 with H := eH0_x }).map LT.bare = some (.ret (.s (.bool e73)) []) := by kernel_rfl
theorem evc0_x (x0 : Ext) (x1 : Ext) (Y1 : Nat → Ext) (mm nn y2 y3 y4 y5 y6 y7 y8 : Int) (Bx Cx Dx Fx Gx Z5 Z6 : Nat → Int) (hB : eBase x0 x1 Y1 mm nn Bx Cx Dx Fx Gx) (hJ : eJ0 mm nn y2 y3 y4 y5 y6 y7 y8 Bx Cx Dx Fx Gx Z5 Z6) (hH : Hyp.ok eH0_x (eV x0 x1 Y1 mm nn y2 y3 y4 y5 y6 y7 y8 Bx Cx Dx Fx Gx Z5 Z6))  :
    eW0 x0 x1 Y1 (eV x0 x1 Y1 mm nn y2 y3 y4 y5 y6 y7 y8 Bx Cx Dx Fx Gx Z5 Z6) (.ret (.s (.bool e73)) []) := by
  simp only [eW0, LT.holds, retTrue]
  have hB3 := hB
  have hJ3 := hJ
  simp only [eBase] at hB3
  obtain ⟨b0, b1, c0, c1, c2, c3, c4, en0, en1, ea0, ea1, ea2, ea3, ea4, hs, hx0, _⟩ := hB3
  simp only [eJ0] at hJ3
  obtain ⟨l2, l3, l4, l5, l6, l7, l8, m5, m6, i1, i2, _⟩ := hJ3
  have fe : ∀ p ∈ eE0_x, inR p.2 (p.1.i (eV x0 x1 Y1 mm nn y2 y3 y4 y5 y6 y7 y8 Bx Cx Dx Fx Gx Z5 Z6)) := fun p hp => hH.e p (List.mem_append_left _ hp)
  have fb : ∀ p ∈ eQ0_x, p.1.b (eV x0 x1 Y1 mm nn y2 y3 y4 y5 y6 y7 y8 Bx Cx Dx Fx Gx Z5 Z6) = p.2 := fun p hp => hH.b p (List.mem_append_left _ hp)
  simp only [eE0_x, eQ0_x, List.forall_mem_cons, inR] at fe fb
  have ff := And.intro fe fb
  clear fe fb
  simp only [nd, sm, sn, eV] at ff
  simp only [nd, sm, sn, eV]
  omega
def eE1_w0_0 : List (E × Rng) := [(e210, ((-1048562), 0)), (e211, ((-1048562), 0)), (e209, (0, 1048562)), ((.v 7), (0, 1048562)), ((.v 6), (0, 1048562)), ((.v 0), (14, 1048575)), (e0, (1, 1048562)), (e212, (0, 0))]
def eQ1_w0_0 : List (E × Bool) := [(e213, true), (e214, true), (e215, true), (e216, true), (e217, true), (e218, true)]
noncomputable def eH1_w0_0 : Hyp := { eh1.H with e := eE1_w0_0 ++ eh1.H.e, b := eQ1_w0_0 ++ eh1.H.b }
set_option maxHeartbeats 40000000 in
theorem esg1_w0_0 : (segL Try.prog G Gh eD ehs [] 3000 0 5 { eh1 with H := eH1_w0_0 }).map LT.bare = some (.ite e229 (.ret (.s (.bool (.blit false))) []) (.jump 1 eT1 ⟨[(4, (.v 4)), (8, (.v 8)), (7, (.v 7)), (6, (.v 6)), (5, e231)], [], [(5, (.av 5)), (6, (.av 6))]⟩)) := by kernel_rfl
theorem evc1_w0_0 (x0 : Ext) (x1 : Ext) (Y1 : Nat → Ext) (mm nn y2 y3 y4 y5 y6 y7 y8 : Int) (Bx Cx Dx Fx Gx Z5 Z6 : Nat → Int) (hB : eBase x0 x1 Y1 mm nn Bx Cx Dx Fx Gx) (hJ : eJ1 mm nn y2 y3 y4 y5 y6 y7 y8 Bx Cx Dx Fx Gx Z5 Z6) (hH : Hyp.ok eH1_w0_0 (eV x0 x1 Y1 mm nn y2 y3 y4 y5 y6 y7 y8 Bx Cx Dx Fx Gx Z5 Z6))  :
    eW1 x0 x1 Y1 (eV x0 x1 Y1 mm nn y2 y3 y4 y5 y6 y7 y8 Bx Cx Dx Fx Gx Z5 Z6) (.ite e229 (.ret (.s (.bool (.blit false))) []) (.jump 1 eT1 ⟨[(4, (.v 4)), (8, (.v 8)), (7, (.v 7)), (6, (.v 6)), (5, e231)], [], [(5, (.av 5)), (6, (.av 6))]⟩)) := by
  simp only [eW1, LT.holds, retTrue]
  have hB3 := hB
  have hJ3 := hJ
  simp only [eBase] at hB3
  obtain ⟨b0, b1, c0, c1, c2, c3, c4, en0, en1, ea0, ea1, ea2, ea3, ea4, hs, hx0, _⟩ := hB3
  simp only [eJ1] at hJ3
  obtain ⟨l2, l3, l4, l5, l6, l7, l8, m5, m6, i1, i2, i3, i4, i5, hq, _⟩ := hJ3
  have u1 : (y4 + -1).toNat = y8.toNat := by omega
  have u2 : (y4 + -2).toNat = (y8 + -1).toNat := by omega
  have u3 := hq (y8 + -1).toNat
  have u4 : 1 ≤ y8 → (y8 + -1).toNat + 1 = y8.toNat := by omega
  have u5 : (y8 + 1).toNat = y8.toNat + 1 := by omega
  have u6 : y4.toNat = y8.toNat + 1 := by omega
  have u7 := m5 y8.toNat
  have u8 := m5 (y8 + -1).toNat
  have u9 : 1 ≤ y8 → Z5 ((y8 + -1).toNat + 1) = Z5 y8.toNat := fun h => by rw [u4 h]
  have fe : ∀ p ∈ eE1_w0_0, inR p.2 (p.1.i (eV x0 x1 Y1 mm nn y2 y3 y4 y5 y6 y7 y8 Bx Cx Dx Fx Gx Z5 Z6)) := fun p hp => hH.e p (List.mem_append_left _ hp)
  have fb : ∀ p ∈ eQ1_w0_0, p.1.b (eV x0 x1 Y1 mm nn y2 y3 y4 y5 y6 y7 y8 Bx Cx Dx Fx Gx Z5 Z6) = p.2 := fun p hp => hH.b p (List.mem_append_left _ hp)
  simp only [eE1_w0_0, eQ1_w0_0, List.forall_mem_cons, inR] at fe fb
  have ff := And.intro fe fb
  clear fe fb
  simp only [nd, sm, sn, eV, u1, u2, u6] at ff
  refine ⟨fun hc0 => ?_, fun hc0 => ?_⟩
  ·
    exfalso
    simp only [nd, sm, sn, eV, u1, u2, u6] at hc0
    omega
  ·
    refine ⟨ehT1, ⟨mm, nn, y2, y3, y4, (_root_.Go.Sx.E.i (eV x0 x1 Y1 mm nn y2 y3 y4 y5 y6 y7 y8 Bx Cx Dx Fx Gx Z5 Z6) e231), y6, y7, y8, Bx, Cx, Dx, Fx, Gx, Z5, Z6, (by kernel_rfl), hB, ?_⟩, ?_⟩
    ·
      simp only [eJ1]
      refine ⟨l2, l3, l4, ?_, l6, l7, l8, m5, m6, ?_, ?_, ?_, ?_, ?_, ?_, trivial⟩
      all_goals (try simp only [nd, sm, sn, eV, u1, u2, u6, if_true, if_false])
      all_goals first
        | omega
        | exact hq
    simp only [emu, Env.app, setAll, List.map_cons, List.map_nil, List.set, nd, sm, sn, eV]
    omega
def eE1_w0_1 : List (E × Rng) := [((.v 0), (14, 1048575)), ((.v 6), (0, 1048561)), (e232, (13, 1048574)), (e0, (1, 1048562)), (e233, (14, 1048575)), (e234, (1, 1048562)), (e210, (1, 16777216)), (e211, (1, 1048562)), (e209, (0, 1048562)), ((.v 7), (0, 1048562)), (e212, (0, 0))]
def eQ1_w0_1 : List (E × Bool) := [(e235, true), (e236, true), (e237, true), (e238, true), (e239, true), (e240, true), (e215, true), (e216, true), (e217, true), (e218, true)]
noncomputable def eH1_w0_1 : Hyp := { eh1.H with e := eE1_w0_1 ++ eh1.H.e, b := eQ1_w0_1 ++ eh1.H.b }
set_option maxHeartbeats 40000000 in
theorem esg1_w0_1 : (segL Try.prog G Gh eD ehs [] 3000 0 5 { eh1 with H := eH1_w0_1 }).map LT.bare = some (.ite e253 (.ret (.s (.bool (.blit false))) []) (.jump 1 eT1 ⟨[(4, (.v 4)), (8, (.v 8)), (7, (.v 7)), (6, e234), (5, e231)], [], [(5, (.av 5)), (6, (.av 6))]⟩)) := by kernel_rfl
theorem evc1_w0_1 (x0 : Ext) (x1 : Ext) (Y1 : Nat → Ext) (mm nn y2 y3 y4 y5 y6 y7 y8 : Int) (Bx Cx Dx Fx Gx Z5 Z6 : Nat → Int) (hB : eBase x0 x1 Y1 mm nn Bx Cx Dx Fx Gx) (hJ : eJ1 mm nn y2 y3 y4 y5 y6 y7 y8 Bx Cx Dx Fx Gx Z5 Z6) (hH : Hyp.ok eH1_w0_1 (eV x0 x1 Y1 mm nn y2 y3 y4 y5 y6 y7 y8 Bx Cx Dx Fx Gx Z5 Z6))  :
    eW1 x0 x1 Y1 (eV x0 x1 Y1 mm nn y2 y3 y4 y5 y6 y7 y8 Bx Cx Dx Fx Gx Z5 Z6) (.ite e253 (.ret (.s (.bool (.blit false))) []) (.jump 1 eT1 ⟨[(4, (.v 4)), (8, (.v 8)), (7, (.v 7)), (6, e234), (5, e231)], [], [(5, (.av 5)), (6, (.av 6))]⟩)) := by
  simp only [eW1, LT.holds, retTrue]
  have hB3 := hB
  have hJ3 := hJ
  simp only [eBase] at hB3
  obtain ⟨b0, b1, c0, c1, c2, c3, c4, en0, en1, ea0, ea1, ea2, ea3, ea4, hs, hx0, _⟩ := hB3
  simp only [eJ1] at hJ3
  obtain ⟨l2, l3, l4, l5, l6, l7, l8, m5, m6, i1, i2, i3, i4, i5, hq, _⟩ := hJ3
  have u1 : (y4 + -1).toNat = y8.toNat := by omega
  have u2 : (y4 + -2).toNat = (y8 + -1).toNat := by omega
  have u3 := hq (y8 + -1).toNat
  have u4 : 1 ≤ y8 → (y8 + -1).toNat + 1 = y8.toNat := by omega
  have u5 : (y8 + 1).toNat = y8.toNat + 1 := by omega
  have u6 : y4.toNat = y8.toNat + 1 := by omega
  have u7 := m5 y8.toNat
  have u8 := m5 (y8 + -1).toNat
  have u9 : 1 ≤ y8 → Z5 ((y8 + -1).toNat + 1) = Z5 y8.toNat := fun h => by rw [u4 h]
  have fe : ∀ p ∈ eE1_w0_1, inR p.2 (p.1.i (eV x0 x1 Y1 mm nn y2 y3 y4 y5 y6 y7 y8 Bx Cx Dx Fx Gx Z5 Z6)) := fun p hp => hH.e p (List.mem_append_left _ hp)
  have fb : ∀ p ∈ eQ1_w0_1, p.1.b (eV x0 x1 Y1 mm nn y2 y3 y4 y5 y6 y7 y8 Bx Cx Dx Fx Gx Z5 Z6) = p.2 := fun p hp => hH.b p (List.mem_append_left _ hp)
  simp only [eE1_w0_1, eQ1_w0_1, List.forall_mem_cons, inR] at fe fb
  have ff := And.intro fe fb
  clear fe fb
  simp only [nd, sm, sn, eV, u1, u2, u6] at ff
  refine ⟨fun hc0 => ?_, fun hc0 => ?_⟩
  ·
    exfalso
    simp only [nd, sm, sn, eV, u1, u2, u6] at hc0
    omega
  ·
    refine ⟨ehT1, ⟨mm, nn, y2, y3, y4, (_root_.Go.Sx.E.i (eV x0 x1 Y1 mm nn y2 y3 y4 y5 y6 y7 y8 Bx Cx Dx Fx Gx Z5 Z6) e231), (_root_.Go.Sx.E.i (eV x0 x1 Y1 mm nn y2 y3 y4 y5 y6 y7 y8 Bx Cx Dx Fx Gx Z5 Z6) e234), y7, y8, Bx, Cx, Dx, Fx, Gx, Z5, Z6, (by kernel_rfl), hB, ?_⟩, ?_⟩
    ·
      simp only [eJ1]
      refine ⟨l2, l3, l4, ?_, ?_, l7, l8, m5, m6, ?_, ?_, ?_, ?_, ?_, ?_, trivial⟩
      all_goals (try simp only [nd, sm, sn, eV, u1, u2, u6, if_true, if_false])
      all_goals first
        | omega
        | exact hq
    simp only [emu, Env.app, setAll, List.map_cons, List.map_nil, List.set, nd, sm, sn, eV]
    omega
def eE1_w1_0 : List (E × Rng) := [(e210, ((-1048562), 1)), (e211, ((-1048562), 1)), (e209, (0, 1048562)), ((.v 7), (0, 1048562)), ((.v 6), (0, 1048562)), ((.v 0), (14, 1048575)), (e0, (1, 1048562)), (e212, (1, 1))]
def eQ1_w1_0 : List (E × Bool) := [(e255, true), (e256, true), (e215, true), (e216, true), (e217, true), (e218, true)]
noncomputable def eH1_w1_0 : Hyp := { eh1.H with e := eE1_w1_0 ++ eh1.H.e, b := eQ1_w1_0 ++ eh1.H.b }
set_option maxHeartbeats 40000000 in
theorem esg1_w1_0 : (segL Try.prog G Gh eD ehs [] 3000 0 5 { eh1 with H := eH1_w1_0 }).map LT.bare = some (.ite e261 (.ret (.s (.bool (.blit false))) []) (.jump 1 eT1 ⟨[(4, (.v 4)), (8, (.v 8)), (7, (.v 7)), (6, (.v 6)), (5, e231)], [], [(5, (.av 5)), (6, (.av 6))]⟩)) := by kernel_rfl
theorem evc1_w1_0 (x0 : Ext) (x1 : Ext) (Y1 : Nat → Ext) (mm nn y2 y3 y4 y5 y6 y7 y8 : Int) (Bx Cx Dx Fx Gx Z5 Z6 : Nat → Int) (hB : eBase x0 x1 Y1 mm nn Bx Cx Dx Fx Gx) (hJ : eJ1 mm nn y2 y3 y4 y5 y6 y7 y8 Bx Cx Dx Fx Gx Z5 Z6) (hH : Hyp.ok eH1_w1_0 (eV x0 x1 Y1 mm nn y2 y3 y4 y5 y6 y7 y8 Bx Cx Dx Fx Gx Z5 Z6))  :
    eW1 x0 x1 Y1 (eV x0 x1 Y1 mm nn y2 y3 y4 y5 y6 y7 y8 Bx Cx Dx Fx Gx Z5 Z6) (.ite e261 (.ret (.s (.bool (.blit false))) []) (.jump 1 eT1 ⟨[(4, (.v 4)), (8, (.v 8)), (7, (.v 7)), (6, (.v 6)), (5, e231)], [], [(5, (.av 5)), (6, (.av 6))]⟩)) := by
  simp only [eW1, LT.holds, retTrue]
  have hB3 := hB
  have hJ3 := hJ
  simp only [eBase] at hB3
  obtain ⟨b0, b1, c0, c1, c2, c3, c4, en0, en1, ea0, ea1, ea2, ea3, ea4, hs, hx0, _⟩ := hB3
  simp only [eJ1] at hJ3
  obtain ⟨l2, l3, l4, l5, l6, l7, l8, m5, m6, i1, i2, i3, i4, i5, hq, _⟩ := hJ3
  have u1 : (y4 + -1).toNat = y8.toNat := by omega
  have u2 : (y4 + -2).toNat = (y8 + -1).toNat := by omega
  have u3 := hq (y8 + -1).toNat
  have u4 : 1 ≤ y8 → (y8 + -1).toNat + 1 = y8.toNat := by omega
  have u5 : (y8 + 1).toNat = y8.toNat + 1 := by omega
  have u6 : y4.toNat = y8.toNat + 1 := by omega
  have u7 := m5 y8.toNat
  have u8 := m5 (y8 + -1).toNat
  have u9 : 1 ≤ y8 → Z5 ((y8 + -1).toNat + 1) = Z5 y8.toNat := fun h => by rw [u4 h]
  have fe : ∀ p ∈ eE1_w1_0, inR p.2 (p.1.i (eV x0 x1 Y1 mm nn y2 y3 y4 y5 y6 y7 y8 Bx Cx Dx Fx Gx Z5 Z6)) := fun p hp => hH.e p (List.mem_append_left _ hp)
  have fb : ∀ p ∈ eQ1_w1_0, p.1.b (eV x0 x1 Y1 mm nn y2 y3 y4 y5 y6 y7 y8 Bx Cx Dx Fx Gx Z5 Z6) = p.2 := fun p hp => hH.b p (List.mem_append_left _ hp)
  simp only [eE1_w1_0, eQ1_w1_0, List.forall_mem_cons, inR] at fe fb
  have ff := And.intro fe fb
  clear fe fb
  simp only [nd, sm, sn, eV, u1, u2, u6] at ff
  refine ⟨fun hc0 => ?_, fun hc0 => ?_⟩
  ·
    exfalso
    simp only [nd, sm, sn, eV, u1, u2, u6] at hc0
    omega
  ·
    refine ⟨ehT1, ⟨mm, nn, y2, y3, y4, (_root_.Go.Sx.E.i (eV x0 x1 Y1 mm nn y2 y3 y4 y5 y6 y7 y8 Bx Cx Dx Fx Gx Z5 Z6) e231), y6, y7, y8, Bx, Cx, Dx, Fx, Gx, Z5, Z6, (by kernel_rfl), hB, ?_⟩, ?_⟩
    ·
      simp only [eJ1]
      refine ⟨l2, l3, l4, ?_, l6, l7, l8, m5, m6, ?_, ?_, ?_, ?_, ?_, ?_, trivial⟩
      all_goals (try simp only [nd, sm, sn, eV, u1, u2, u6, if_true, if_false])
      all_goals first
        | omega
        | exact hq
    simp only [emu, Env.app, setAll, List.map_cons, List.map_nil, List.set, nd, sm, sn, eV]
    omega
end Go.Proofs.Ytflamojcdfmimaa.SaveReads
