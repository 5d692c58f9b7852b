/- A part of the law SaveReads, which returns true for every input. A reader of whatever bytes answers, call by call in every order, what the document says, and stands where it says. Where what comes in is of bulk at most 1048576. No condition. -/
import Derived.Test.YtflamojcdfmimaaSaveReadsB
namespace Go.Proofs.Ytflamojcdfmimaa.SaveReads
open Go.Sx Go.ChangeShapes Go.WideShapes Go.ChangeAt Go.RowKit
set_option linter.unusedVariables false
set_option linter.unusedSimpArgs false
set_option maxRecDepth 100000
def eE0_w0_0 : List (E × Rng) := [(e45, ((-1048561), 0)), ((.v 0), (14, 1048575)), (e0, (1, 1048562)), ((.v 3), (0, 1048562)), (e46, (0, 0))]
def eQ0_w0_0 : List (E × Bool) := [(e47, true), (e48, true), (e49, true)]
noncomputable def eH0_w0_0 : Hyp := { eh0.H with e := eE0_w0_0 ++ eh0.H.e, b := eQ0_w0_0 ++ eh0.H.b }
set_option maxHeartbeats 40000000 in
theorem esg0_w0_0 : (segL Try.prog G Gh eD ehs [] 3000 0 5 { eh0 with H := eH0_w0_0 }).map LT.bare = some (.ite e53 (.ret (.s (.bool (.blit false))) []) (.jump 0 eT0 ⟨[(3, (.v 3)), (2, e55)], [], []⟩)) := by kernel_rfl
theorem evc0_w0_0 (x0 : Ext) (x1 : Ext) (Y1 : Nat → Ext) (mm nn y2 y3 y4 y5 y6 y7 y8 : Int) (Bx Cx Dx Fx Gx Z5 Z6 : Nat → Int) (hB : eBase x0 x1 Y1 mm nn Bx Cx Dx Fx Gx) (hJ : eJ0 mm nn y2 y3 y4 y5 y6 y7 y8 Bx Cx Dx Fx Gx Z5 Z6) (hH : Hyp.ok eH0_w0_0 (eV x0 x1 Y1 mm nn y2 y3 y4 y5 y6 y7 y8 Bx Cx Dx Fx Gx Z5 Z6))  :
    eW0 x0 x1 Y1 (eV x0 x1 Y1 mm nn y2 y3 y4 y5 y6 y7 y8 Bx Cx Dx Fx Gx Z5 Z6) (.ite e53 (.ret (.s (.bool (.blit false))) []) (.jump 0 eT0 ⟨[(3, (.v 3)), (2, e55)], [], []⟩)) := by
  simp only [eW0, LT.holds, retTrue]
  have hB3 := hB
  have hJ3 := hJ
  simp only [eBase] at hB3
  obtain ⟨b0, b1, c0, c1, c2, c3, c4, en0, en1, ea0, ea1, ea2, ea3, ea4, hs, hx0, _⟩ := hB3
  simp only [eJ0] at hJ3
  obtain ⟨l2, l3, l4, l5, l6, l7, l8, m5, m6, i1, i2, _⟩ := hJ3
  have fe : ∀ p ∈ eE0_w0_0, inR p.2 (p.1.i (eV x0 x1 Y1 mm nn y2 y3 y4 y5 y6 y7 y8 Bx Cx Dx Fx Gx Z5 Z6)) := fun p hp => hH.e p (List.mem_append_left _ hp)
  have fb : ∀ p ∈ eQ0_w0_0, p.1.b (eV x0 x1 Y1 mm nn y2 y3 y4 y5 y6 y7 y8 Bx Cx Dx Fx Gx Z5 Z6) = p.2 := fun p hp => hH.b p (List.mem_append_left _ hp)
  simp only [eE0_w0_0, eQ0_w0_0, List.forall_mem_cons, inR] at fe fb
  have ff := And.intro fe fb
  clear fe fb
  simp only [nd, sm, sn, eV] at ff
  refine ⟨fun hc0 => ?_, fun hc0 => ?_⟩
  ·
    exfalso
    simp only [nd, sm, sn, eV] at hc0
    omega
  ·
    refine ⟨ehT0, ⟨mm, nn, (_root_.Go.Sx.E.i (eV x0 x1 Y1 mm nn y2 y3 y4 y5 y6 y7 y8 Bx Cx Dx Fx Gx Z5 Z6) e55), y3, y4, y5, y6, y7, y8, Bx, Cx, Dx, Fx, Gx, Z5, Z6, (by kernel_rfl), hB, ?_⟩, ?_⟩
    ·
      simp only [eJ0]
      refine ⟨?_, l3, l4, l5, l6, l7, l8, m5, m6, ?_, ?_, trivial⟩
      all_goals (try simp only [nd, sm, sn, eV, if_true, if_false])
      all_goals first
        | omega
        | exact hq
    simp only [emu, Env.app, setAll, List.map_cons, List.map_nil, List.set, nd, sm, sn, eV]
    omega
def eE0_w0_1 : List (E × Rng) := [((.v 0), (14, 1048575)), ((.v 3), (0, 1048561)), (e56, (13, 1048574)), (e0, (1, 1048562)), (e57, (14, 1048575)), (e58, (1, 1048562)), (e45, (1, 1048562)), (e46, (0, 0))]
def eQ0_w0_1 : List (E × Bool) := [(e59, true), (e50, true), (e60, true), (e61, true), (e62, true), (e48, true), (e49, true)]
noncomputable def eH0_w0_1 : Hyp := { eh0.H with e := eE0_w0_1 ++ eh0.H.e, b := eQ0_w0_1 ++ eh0.H.b }
set_option maxHeartbeats 40000000 in
theorem esg0_w0_1 : (segL Try.prog G Gh eD ehs [] 3000 0 5 { eh0 with H := eH0_w0_1 }).map LT.bare = some (.ite e69 (.ret (.s (.bool (.blit false))) []) (.jump 0 eT0 ⟨[(3, e58), (2, e55)], [], []⟩)) := by kernel_rfl
theorem evc0_w0_1 (x0 : Ext) (x1 : Ext) (Y1 : Nat → Ext) (mm nn y2 y3 y4 y5 y6 y7 y8 : Int) (Bx Cx Dx Fx Gx Z5 Z6 : Nat → Int) (hB : eBase x0 x1 Y1 mm nn Bx Cx Dx Fx Gx) (hJ : eJ0 mm nn y2 y3 y4 y5 y6 y7 y8 Bx Cx Dx Fx Gx Z5 Z6) (hH : Hyp.ok eH0_w0_1 (eV x0 x1 Y1 mm nn y2 y3 y4 y5 y6 y7 y8 Bx Cx Dx Fx Gx Z5 Z6))  :
    eW0 x0 x1 Y1 (eV x0 x1 Y1 mm nn y2 y3 y4 y5 y6 y7 y8 Bx Cx Dx Fx Gx Z5 Z6) (.ite e69 (.ret (.s (.bool (.blit false))) []) (.jump 0 eT0 ⟨[(3, e58), (2, e55)], [], []⟩)) := by
  simp only [eW0, LT.holds, retTrue]
  have hB3 := hB
  have hJ3 := hJ
  simp only [eBase] at hB3
  obtain ⟨b0, b1, c0, c1, c2, c3, c4, en0, en1, ea0, ea1, ea2, ea3, ea4, hs, hx0, _⟩ := hB3
  simp only [eJ0] at hJ3
  obtain ⟨l2, l3, l4, l5, l6, l7, l8, m5, m6, i1, i2, _⟩ := hJ3
  have fe : ∀ p ∈ eE0_w0_1, inR p.2 (p.1.i (eV x0 x1 Y1 mm nn y2 y3 y4 y5 y6 y7 y8 Bx Cx Dx Fx Gx Z5 Z6)) := fun p hp => hH.e p (List.mem_append_left _ hp)
  have fb : ∀ p ∈ eQ0_w0_1, p.1.b (eV x0 x1 Y1 mm nn y2 y3 y4 y5 y6 y7 y8 Bx Cx Dx Fx Gx Z5 Z6) = p.2 := fun p hp => hH.b p (List.mem_append_left _ hp)
  simp only [eE0_w0_1, eQ0_w0_1, List.forall_mem_cons, inR] at fe fb
  have ff := And.intro fe fb
  clear fe fb
  simp only [nd, sm, sn, eV] at ff
  refine ⟨fun hc0 => ?_, fun hc0 => ?_⟩
  ·
    exfalso
    simp only [nd, sm, sn, eV] at hc0
    omega
  ·
    refine ⟨ehT0, ⟨mm, nn, (_root_.Go.Sx.E.i (eV x0 x1 Y1 mm nn y2 y3 y4 y5 y6 y7 y8 Bx Cx Dx Fx Gx Z5 Z6) e55), (_root_.Go.Sx.E.i (eV x0 x1 Y1 mm nn y2 y3 y4 y5 y6 y7 y8 Bx Cx Dx Fx Gx Z5 Z6) e58), y4, y5, y6, y7, y8, Bx, Cx, Dx, Fx, Gx, Z5, Z6, (by kernel_rfl), hB, ?_⟩, ?_⟩
    ·
      simp only [eJ0]
      refine ⟨?_, ?_, l4, l5, l6, l7, l8, m5, m6, ?_, ?_, trivial⟩
      all_goals (try simp only [nd, sm, sn, eV, if_true, if_false])
      all_goals first
        | omega
        | exact hq
    simp only [emu, Env.app, setAll, List.map_cons, List.map_nil, List.set, nd, sm, sn, eV]
    omega
def eE0_w1_0 : List (E × Rng) := [(e45, ((-1048561), 1)), ((.v 0), (14, 1048575)), (e0, (1, 1048562)), ((.v 3), (0, 1048562)), (e46, (1, 1))]
def eQ0_w1_0 : List (E × Bool) := [(e71, true), (e48, true), (e49, true)]
noncomputable def eH0_w1_0 : Hyp := { eh0.H with e := eE0_w1_0 ++ eh0.H.e, b := eQ0_w1_0 ++ eh0.H.b }
set_option maxHeartbeats 40000000 in
theorem esg0_w1_0 : (segL Try.prog G Gh eD ehs [] 3000 0 5 { eh0 with H := eH0_w1_0 }).map LT.bare = some (.ite e74 (.ret (.s (.bool (.blit false))) []) (.jump 0 eT0 ⟨[(3, (.v 3)), (2, e55)], [], []⟩)) := by kernel_rfl
theorem evc0_w1_0 (x0 : Ext) (x1 : Ext) (Y1 : Nat → Ext) (mm nn y2 y3 y4 y5 y6 y7 y8 : Int) (Bx Cx Dx Fx Gx Z5 Z6 : Nat → Int) (hB : eBase x0 x1 Y1 mm nn Bx Cx Dx Fx Gx) (hJ : eJ0 mm nn y2 y3 y4 y5 y6 y7 y8 Bx Cx Dx Fx Gx Z5 Z6) (hH : Hyp.ok eH0_w1_0 (eV x0 x1 Y1 mm nn y2 y3 y4 y5 y6 y7 y8 Bx Cx Dx Fx Gx Z5 Z6))  :
    eW0 x0 x1 Y1 (eV x0 x1 Y1 mm nn y2 y3 y4 y5 y6 y7 y8 Bx Cx Dx Fx Gx Z5 Z6) (.ite e74 (.ret (.s (.bool (.blit false))) []) (.jump 0 eT0 ⟨[(3, (.v 3)), (2, e55)], [], []⟩)) := by
  simp only [eW0, LT.holds, retTrue]
  have hB3 := hB
  have hJ3 := hJ
  simp only [eBase] at hB3
  obtain ⟨b0, b1, c0, c1, c2, c3, c4, en0, en1, ea0, ea1, ea2, ea3, ea4, hs, hx0, _⟩ := hB3
  simp only [eJ0] at hJ3
  obtain ⟨l2, l3, l4, l5, l6, l7, l8, m5, m6, i1, i2, _⟩ := hJ3
  have fe : ∀ p ∈ eE0_w1_0, inR p.2 (p.1.i (eV x0 x1 Y1 mm nn y2 y3 y4 y5 y6 y7 y8 Bx Cx Dx Fx Gx Z5 Z6)) := fun p hp => hH.e p (List.mem_append_left _ hp)
  have fb : ∀ p ∈ eQ0_w1_0, p.1.b (eV x0 x1 Y1 mm nn y2 y3 y4 y5 y6 y7 y8 Bx Cx Dx Fx Gx Z5 Z6) = p.2 := fun p hp => hH.b p (List.mem_append_left _ hp)
  simp only [eE0_w1_0, eQ0_w1_0, List.forall_mem_cons, inR] at fe fb
  have ff := And.intro fe fb
  clear fe fb
  simp only [nd, sm, sn, eV] at ff
  refine ⟨fun hc0 => ?_, fun hc0 => ?_⟩
  ·
    exfalso
    simp only [nd, sm, sn, eV] at hc0
    omega
  ·
    refine ⟨ehT0, ⟨mm, nn, (_root_.Go.Sx.E.i (eV x0 x1 Y1 mm nn y2 y3 y4 y5 y6 y7 y8 Bx Cx Dx Fx Gx Z5 Z6) e55), y3, y4, y5, y6, y7, y8, Bx, Cx, Dx, Fx, Gx, Z5, Z6, (by kernel_rfl), hB, ?_⟩, ?_⟩
    ·
      simp only [eJ0]
      refine ⟨?_, l3, l4, l5, l6, l7, l8, m5, m6, ?_, ?_, trivial⟩
      all_goals (try simp only [nd, sm, sn, eV, if_true, if_false])
      all_goals first
        | omega
        | exact hq
    simp only [emu, Env.app, setAll, List.map_cons, List.map_nil, List.set, nd, sm, sn, eV]
    omega
def eE0_w1_1 : List (E × Rng) := [((.v 0), (15, 1048575)), ((.v 3), (0, 1048560)), (e57, (14, 1048574)), (e56, (13, 1048573)), (e0, (2, 1048562)), (e58, (1, 1048561)), (e75, (15, 1048575)), (e76, (2, 1048562)), (e45, (2, 1048562)), (e46, (1, 1))]
def eQ0_w1_1 : List (E × Bool) := [(e77, true), (e59, true), (e63, true), (e50, true), (e78, true), (e79, true), (e80, true), (e48, true), (e49, true)]
noncomputable def eH0_w1_1 : Hyp := { eh0.H with e := eE0_w1_1 ++ eh0.H.e, b := eQ0_w1_1 ++ eh0.H.b }
set_option maxHeartbeats 40000000 in
theorem esg0_w1_1 : (segL Try.prog G Gh eD ehs [] 3000 0 5 { eh0 with H := eH0_w1_1 }).map LT.bare = some (.ite e87 (.ret (.s (.bool (.blit false))) []) (.jump 0 eT0 ⟨[(3, e76), (2, e55)], [], []⟩)) := by kernel_rfl
theorem evc0_w1_1 (x0 : Ext) (x1 : Ext) (Y1 : Nat → Ext) (mm nn y2 y3 y4 y5 y6 y7 y8 : Int) (Bx Cx Dx Fx Gx Z5 Z6 : Nat → Int) (hB : eBase x0 x1 Y1 mm nn Bx Cx Dx Fx Gx) (hJ : eJ0 mm nn y2 y3 y4 y5 y6 y7 y8 Bx Cx Dx Fx Gx Z5 Z6) (hH : Hyp.ok eH0_w1_1 (eV x0 x1 Y1 mm nn y2 y3 y4 y5 y6 y7 y8 Bx Cx Dx Fx Gx Z5 Z6))  :
    eW0 x0 x1 Y1 (eV x0 x1 Y1 mm nn y2 y3 y4 y5 y6 y7 y8 Bx Cx Dx Fx Gx Z5 Z6) (.ite e87 (.ret (.s (.bool (.blit false))) []) (.jump 0 eT0 ⟨[(3, e76), (2, e55)], [], []⟩)) := by
  simp only [eW0, LT.holds, retTrue]
  have hB3 := hB
  have hJ3 := hJ
  simp only [eBase] at hB3
  obtain ⟨b0, b1, c0, c1, c2, c3, c4, en0, en1, ea0, ea1, ea2, ea3, ea4, hs, hx0, _⟩ := hB3
  simp only [eJ0] at hJ3
  obtain ⟨l2, l3, l4, l5, l6, l7, l8, m5, m6, i1, i2, _⟩ := hJ3
  have fe : ∀ p ∈ eE0_w1_1, inR p.2 (p.1.i (eV x0 x1 Y1 mm nn y2 y3 y4 y5 y6 y7 y8 Bx Cx Dx Fx Gx Z5 Z6)) := fun p hp => hH.e p (List.mem_append_left _ hp)
  have fb : ∀ p ∈ eQ0_w1_1, p.1.b (eV x0 x1 Y1 mm nn y2 y3 y4 y5 y6 y7 y8 Bx Cx Dx Fx Gx Z5 Z6) = p.2 := fun p hp => hH.b p (List.mem_append_left _ hp)
  simp only [eE0_w1_1, eQ0_w1_1, List.forall_mem_cons, inR] at fe fb
  have ff := And.intro fe fb
  clear fe fb
  simp only [nd, sm, sn, eV] at ff
  refine ⟨fun hc0 => ?_, fun hc0 => ?_⟩
  ·
    exfalso
    simp only [nd, sm, sn, eV] at hc0
    omega
  ·
    refine ⟨ehT0, ⟨mm, nn, (_root_.Go.Sx.E.i (eV x0 x1 Y1 mm nn y2 y3 y4 y5 y6 y7 y8 Bx Cx Dx Fx Gx Z5 Z6) e55), (_root_.Go.Sx.E.i (eV x0 x1 Y1 mm nn y2 y3 y4 y5 y6 y7 y8 Bx Cx Dx Fx Gx Z5 Z6) e76), y4, y5, y6, y7, y8, Bx, Cx, Dx, Fx, Gx, Z5, Z6, (by kernel_rfl), hB, ?_⟩, ?_⟩
    ·
      simp only [eJ0]
      refine ⟨?_, ?_, l4, l5, l6, l7, l8, m5, m6, ?_, ?_, trivial⟩
      all_goals (try simp only [nd, sm, sn, eV, if_true, if_false])
      all_goals first
        | omega
        | exact hq
    simp only [emu, Env.app, setAll, List.map_cons, List.map_nil, List.set, nd, sm, sn, eV]
    omega
def eE0_w2_0 : List (E × Rng) := [(e45, ((-1048561), 3)), ((.v 0), (14, 1048575)), (e0, (1, 1048562)), ((.v 3), (0, 1048562)), (e46, (2, 2))]
def eQ0_w2_0 : List (E × Bool) := [(e90, true), (e48, true), (e49, true)]
noncomputable def eH0_w2_0 : Hyp := { eh0.H with e := eE0_w2_0 ++ eh0.H.e, b := eQ0_w2_0 ++ eh0.H.b }
set_option maxHeartbeats 40000000 in
theorem esg0_w2_0 : (segL Try.prog G Gh eD ehs [] 3000 0 5 { eh0 with H := eH0_w2_0 }).map LT.bare = some (.ite e74 (.ret (.s (.bool (.blit false))) []) (.jump 0 eT0 ⟨[(3, (.v 3)), (2, e55)], [], []⟩)) := by kernel_rfl
theorem evc0_w2_0 (x0 : Ext) (x1 : Ext) (Y1 : Nat → Ext) (mm nn y2 y3 y4 y5 y6 y7 y8 : Int) (Bx Cx Dx Fx Gx Z5 Z6 : Nat → Int) (hB : eBase x0 x1 Y1 mm nn Bx Cx Dx Fx Gx) (hJ : eJ0 mm nn y2 y3 y4 y5 y6 y7 y8 Bx Cx Dx Fx Gx Z5 Z6) (hH : Hyp.ok eH0_w2_0 (eV x0 x1 Y1 mm nn y2 y3 y4 y5 y6 y7 y8 Bx Cx Dx Fx Gx Z5 Z6))  :
    eW0 x0 x1 Y1 (eV x0 x1 Y1 mm nn y2 y3 y4 y5 y6 y7 y8 Bx Cx Dx Fx Gx Z5 Z6) (.ite e74 (.ret (.s (.bool (.blit false))) []) (.jump 0 eT0 ⟨[(3, (.v 3)), (2, e55)], [], []⟩)) := by
  simp only [eW0, LT.holds, retTrue]
  have hB3 := hB
  have hJ3 := hJ
  simp only [eBase] at hB3
  obtain ⟨b0, b1, c0, c1, c2, c3, c4, en0, en1, ea0, ea1, ea2, ea3, ea4, hs, hx0, _⟩ := hB3
  simp only [eJ0] at hJ3
  obtain ⟨l2, l3, l4, l5, l6, l7, l8, m5, m6, i1, i2, _⟩ := hJ3
  have fe : ∀ p ∈ eE0_w2_0, inR p.2 (p.1.i (eV x0 x1 Y1 mm nn y2 y3 y4 y5 y6 y7 y8 Bx Cx Dx Fx Gx Z5 Z6)) := fun p hp => hH.e p (List.mem_append_left _ hp)
  have fb : ∀ p ∈ eQ0_w2_0, p.1.b (eV x0 x1 Y1 mm nn y2 y3 y4 y5 y6 y7 y8 Bx Cx Dx Fx Gx Z5 Z6) = p.2 := fun p hp => hH.b p (List.mem_append_left _ hp)
  simp only [eE0_w2_0, eQ0_w2_0, List.forall_mem_cons, inR] at fe fb
  have ff := And.intro fe fb
  clear fe fb
  simp only [nd, sm, sn, eV] at ff
  refine ⟨fun hc0 => ?_, fun hc0 => ?_⟩
  ·
    exfalso
    simp only [nd, sm, sn, eV] at hc0
    omega
  ·
    refine ⟨ehT0, ⟨mm, nn, (_root_.Go.Sx.E.i (eV x0 x1 Y1 mm nn y2 y3 y4 y5 y6 y7 y8 Bx Cx Dx Fx Gx Z5 Z6) e55), y3, y4, y5, y6, y7, y8, Bx, Cx, Dx, Fx, Gx, Z5, Z6, (by kernel_rfl), hB, ?_⟩, ?_⟩
    ·
      simp only [eJ0]
      refine ⟨?_, l3, l4, l5, l6, l7, l8, m5, m6, ?_, ?_, trivial⟩
      all_goals (try simp only [nd, sm, sn, eV, if_true, if_false])
      all_goals first
        | omega
        | exact hq
    simp only [emu, Env.app, setAll, List.map_cons, List.map_nil, List.set, nd, sm, sn, eV]
    omega
def eE0_w2_1 : List (E × Rng) := [((.v 0), (17, 1048575)), ((.v 3), (0, 1048558)), (e91, (16, 1048574)), (e75, (15, 1048573)), (e57, (14, 1048572)), (e56, (13, 1048571)), (e0, (4, 1048562)), (e92, (3, 1048561)), (e76, (2, 1048560)), (e58, (1, 1048559)), (e93, (17, 1048575)), (e94, (4, 1048562)), (e45, (4, 1048562)), (e46, (2, 2))]
def eQ0_w2_1 : List (E × Bool) := [(e95, true), (e96, true), (e77, true), (e59, true), (e97, true), (e81, true), (e63, true), (e50, true), (e98, true), (e99, true), (e100, true), (e48, true), (e49, true)]
noncomputable def eH0_w2_1 : Hyp := { eh0.H with e := eE0_w2_1 ++ eh0.H.e, b := eQ0_w2_1 ++ eh0.H.b }
set_option maxHeartbeats 40000000 in
theorem esg0_w2_1 : (segL Try.prog G Gh eD ehs [] 3000 0 5 { eh0 with H := eH0_w2_1 }).map LT.bare = some (.ite e107 (.ret (.s (.bool (.blit false))) []) (.jump 0 eT0 ⟨[(3, e94), (2, e55)], [], []⟩)) := by kernel_rfl
theorem evc0_w2_1 (x0 : Ext) (x1 : Ext) (Y1 : Nat → Ext) (mm nn y2 y3 y4 y5 y6 y7 y8 : Int) (Bx Cx Dx Fx Gx Z5 Z6 : Nat → Int) (hB : eBase x0 x1 Y1 mm nn Bx Cx Dx Fx Gx) (hJ : eJ0 mm nn y2 y3 y4 y5 y6 y7 y8 Bx Cx Dx Fx Gx Z5 Z6) (hH : Hyp.ok eH0_w2_1 (eV x0 x1 Y1 mm nn y2 y3 y4 y5 y6 y7 y8 Bx Cx Dx Fx Gx Z5 Z6))  :
    eW0 x0 x1 Y1 (eV x0 x1 Y1 mm nn y2 y3 y4 y5 y6 y7 y8 Bx Cx Dx Fx Gx Z5 Z6) (.ite e107 (.ret (.s (.bool (.blit false))) []) (.jump 0 eT0 ⟨[(3, e94), (2, e55)], [], []⟩)) := by
  simp only [eW0, LT.holds, retTrue]
  have hB3 := hB
  have hJ3 := hJ
  simp only [eBase] at hB3
  obtain ⟨b0, b1, c0, c1, c2, c3, c4, en0, en1, ea0, ea1, ea2, ea3, ea4, hs, hx0, _⟩ := hB3
  simp only [eJ0] at hJ3
  obtain ⟨l2, l3, l4, l5, l6, l7, l8, m5, m6, i1, i2, _⟩ := hJ3
  have fe : ∀ p ∈ eE0_w2_1, inR p.2 (p.1.i (eV x0 x1 Y1 mm nn y2 y3 y4 y5 y6 y7 y8 Bx Cx Dx Fx Gx Z5 Z6)) := fun p hp => hH.e p (List.mem_append_left _ hp)
  have fb : ∀ p ∈ eQ0_w2_1, p.1.b (eV x0 x1 Y1 mm nn y2 y3 y4 y5 y6 y7 y8 Bx Cx Dx Fx Gx Z5 Z6) = p.2 := fun p hp => hH.b p (List.mem_append_left _ hp)
  simp only [eE0_w2_1, eQ0_w2_1, List.forall_mem_cons, inR] at fe fb
  have ff := And.intro fe fb
  clear fe fb
  simp only [nd, sm, sn, eV] at ff
  refine ⟨fun hc0 => ?_, fun hc0 => ?_⟩
  ·
    exfalso
    simp only [nd, sm, sn, eV] at hc0
    omega
  ·
    refine ⟨ehT0, ⟨mm, nn, (_root_.Go.Sx.E.i (eV x0 x1 Y1 mm nn y2 y3 y4 y5 y6 y7 y8 Bx Cx Dx Fx Gx Z5 Z6) e55), (_root_.Go.Sx.E.i (eV x0 x1 Y1 mm nn y2 y3 y4 y5 y6 y7 y8 Bx Cx Dx Fx Gx Z5 Z6) e94), y4, y5, y6, y7, y8, Bx, Cx, Dx, Fx, Gx, Z5, Z6, (by kernel_rfl), hB, ?_⟩, ?_⟩
    ·
      simp only [eJ0]
      refine ⟨?_, ?_, l4, l5, l6, l7, l8, m5, m6, ?_, ?_, trivial⟩
      all_goals (try simp only [nd, sm, sn, eV, if_true, if_false])
      all_goals first
        | omega
        | exact hq
    simp only [emu, Env.app, setAll, List.map_cons, List.map_nil, List.set, nd, sm, sn, eV]
    omega
def eE0_w3_0 : List (E × Rng) := [(e45, ((-1048561), 7)), ((.v 0), (14, 1048575)), (e0, (1, 1048562)), ((.v 3), (0, 1048562)), (e46, (3, 3))]
def eQ0_w3_0 : List (E × Bool) := [(e115, true), (e48, true), (e49, true)]
noncomputable def eH0_w3_0 : Hyp := { eh0.H with e := eE0_w3_0 ++ eh0.H.e, b := eQ0_w3_0 ++ eh0.H.b }
set_option maxHeartbeats 40000000 in
theorem esg0_w3_0 : (segL Try.prog G Gh eD ehs [] 3000 0 5 { eh0 with H := eH0_w3_0 }).map LT.bare = some (.ite e74 (.ret (.s (.bool (.blit false))) []) (.jump 0 eT0 ⟨[(3, (.v 3)), (2, e55)], [], []⟩)) := by kernel_rfl
theorem evc0_w3_0 (x0 : Ext) (x1 : Ext) (Y1 : Nat → Ext) (mm nn y2 y3 y4 y5 y6 y7 y8 : Int) (Bx Cx Dx Fx Gx Z5 Z6 : Nat → Int) (hB : eBase x0 x1 Y1 mm nn Bx Cx Dx Fx Gx) (hJ : eJ0 mm nn y2 y3 y4 y5 y6 y7 y8 Bx Cx Dx Fx Gx Z5 Z6) (hH : Hyp.ok eH0_w3_0 (eV x0 x1 Y1 mm nn y2 y3 y4 y5 y6 y7 y8 Bx Cx Dx Fx Gx Z5 Z6))  :
    eW0 x0 x1 Y1 (eV x0 x1 Y1 mm nn y2 y3 y4 y5 y6 y7 y8 Bx Cx Dx Fx Gx Z5 Z6) (.ite e74 (.ret (.s (.bool (.blit false))) []) (.jump 0 eT0 ⟨[(3, (.v 3)), (2, e55)], [], []⟩)) := by
  simp only [eW0, LT.holds, retTrue]
  have hB3 := hB
  have hJ3 := hJ
  simp only [eBase] at hB3
  obtain ⟨b0, b1, c0, c1, c2, c3, c4, en0, en1, ea0, ea1, ea2, ea3, ea4, hs, hx0, _⟩ := hB3
  simp only [eJ0] at hJ3
  obtain ⟨l2, l3, l4, l5, l6, l7, l8, m5, m6, i1, i2, _⟩ := hJ3
  have fe : ∀ p ∈ eE0_w3_0, inR p.2 (p.1.i (eV x0 x1 Y1 mm nn y2 y3 y4 y5 y6 y7 y8 Bx Cx Dx Fx Gx Z5 Z6)) := fun p hp => hH.e p (List.mem_append_left _ hp)
  have fb : ∀ p ∈ eQ0_w3_0, p.1.b (eV x0 x1 Y1 mm nn y2 y3 y4 y5 y6 y7 y8 Bx Cx Dx Fx Gx Z5 Z6) = p.2 := fun p hp => hH.b p (List.mem_append_left _ hp)
  simp only [eE0_w3_0, eQ0_w3_0, List.forall_mem_cons, inR] at fe fb
  have ff := And.intro fe fb
  clear fe fb
  simp only [nd, sm, sn, eV] at ff
  refine ⟨fun hc0 => ?_, fun hc0 => ?_⟩
  ·
    exfalso
    simp only [nd, sm, sn, eV] at hc0
    omega
  ·
    refine ⟨ehT0, ⟨mm, nn, (_root_.Go.Sx.E.i (eV x0 x1 Y1 mm nn y2 y3 y4 y5 y6 y7 y8 Bx Cx Dx Fx Gx Z5 Z6) e55), y3, y4, y5, y6, y7, y8, Bx, Cx, Dx, Fx, Gx, Z5, Z6, (by kernel_rfl), hB, ?_⟩, ?_⟩
    ·
      simp only [eJ0]
      refine ⟨?_, l3, l4, l5, l6, l7, l8, m5, m6, ?_, ?_, trivial⟩
      all_goals (try simp only [nd, sm, sn, eV, if_true, if_false])
      all_goals first
        | omega
        | exact hq
    simp only [emu, Env.app, setAll, List.map_cons, List.map_nil, List.set, nd, sm, sn, eV]
    omega
def eE0_w3_1 : List (E × Rng) := [((.v 0), (21, 1048575)), ((.v 3), (0, 1048554)), (e116, (20, 1048574)), (e117, (19, 1048573)), (e118, (18, 1048572)), (e93, (17, 1048571)), (e91, (16, 1048570)), (e75, (15, 1048569)), (e57, (14, 1048568)), (e56, (13, 1048567)), (e0, (8, 1048562)), (e119, (7, 1048561)), (e120, (6, 1048560)), (e121, (5, 1048559)), (e94, (4, 1048558)), (e92, (3, 1048557)), (e76, (2, 1048556)), (e58, (1, 1048555)), (e122, (21, 1048575)), (e123, (8, 1048562)), (e45, (8, 1048562)), (e46, (3, 3))]
def eQ0_w3_1 : List (E × Bool) := [(e124, true), (e125, true), (e126, true), (e127, true), (e95, true), (e96, true), (e77, true), (e59, true), (e128, true), (e129, true), (e130, true), (e101, true), (e97, true), (e81, true), (e63, true), (e50, true), (e131, true), (e132, true), (e133, true), (e48, true), (e49, true)]
noncomputable def eH0_w3_1 : Hyp := { eh0.H with e := eE0_w3_1 ++ eh0.H.e, b := eQ0_w3_1 ++ eh0.H.b }
set_option maxHeartbeats 40000000 in
theorem esg0_w3_1 : (segL Try.prog G Gh eD ehs [] 3000 0 5 { eh0 with H := eH0_w3_1 }).map LT.bare = some (.ite e140 (.ret (.s (.bool (.blit false))) []) (.jump 0 eT0 ⟨[(3, e123), (2, e55)], [], []⟩)) := by kernel_rfl
theorem evc0_w3_1 (x0 : Ext) (x1 : Ext) (Y1 : Nat → Ext) (mm nn y2 y3 y4 y5 y6 y7 y8 : Int) (Bx Cx Dx Fx Gx Z5 Z6 : Nat → Int) (hB : eBase x0 x1 Y1 mm nn Bx Cx Dx Fx Gx) (hJ : eJ0 mm nn y2 y3 y4 y5 y6 y7 y8 Bx Cx Dx Fx Gx Z5 Z6) (hH : Hyp.ok eH0_w3_1 (eV x0 x1 Y1 mm nn y2 y3 y4 y5 y6 y7 y8 Bx Cx Dx Fx Gx Z5 Z6))  :
    eW0 x0 x1 Y1 (eV x0 x1 Y1 mm nn y2 y3 y4 y5 y6 y7 y8 Bx Cx Dx Fx Gx Z5 Z6) (.ite e140 (.ret (.s (.bool (.blit false))) []) (.jump 0 eT0 ⟨[(3, e123), (2, e55)], [], []⟩)) := by
  simp only [eW0, LT.holds, retTrue]
  have hB3 := hB
  have hJ3 := hJ
  simp only [eBase] at hB3
  obtain ⟨b0, b1, c0, c1, c2, c3, c4, en0, en1, ea0, ea1, ea2, ea3, ea4, hs, hx0, _⟩ := hB3
  simp only [eJ0] at hJ3
  obtain ⟨l2, l3, l4, l5, l6, l7, l8, m5, m6, i1, i2, _⟩ := hJ3
  have fe : ∀ p ∈ eE0_w3_1, inR p.2 (p.1.i (eV x0 x1 Y1 mm nn y2 y3 y4 y5 y6 y7 y8 Bx Cx Dx Fx Gx Z5 Z6)) := fun p hp => hH.e p (List.mem_append_left _ hp)
  have fb : ∀ p ∈ eQ0_w3_1, p.1.b (eV x0 x1 Y1 mm nn y2 y3 y4 y5 y6 y7 y8 Bx Cx Dx Fx Gx Z5 Z6) = p.2 := fun p hp => hH.b p (List.mem_append_left _ hp)
  simp only [eE0_w3_1, eQ0_w3_1, List.forall_mem_cons, inR] at fe fb
  have ff := And.intro fe fb
  clear fe fb
  simp only [nd, sm, sn, eV] at ff
  refine ⟨fun hc0 => ?_, fun hc0 => ?_⟩
  ·
    exfalso
    simp only [nd, sm, sn, eV] at hc0
    omega
  ·
    refine ⟨ehT0, ⟨mm, nn, (_root_.Go.Sx.E.i (eV x0 x1 Y1 mm nn y2 y3 y4 y5 y6 y7 y8 Bx Cx Dx Fx Gx Z5 Z6) e55), (_root_.Go.Sx.E.i (eV x0 x1 Y1 mm nn y2 y3 y4 y5 y6 y7 y8 Bx Cx Dx Fx Gx Z5 Z6) e123), y4, y5, y6, y7, y8, Bx, Cx, Dx, Fx, Gx, Z5, Z6, (by kernel_rfl), hB, ?_⟩, ?_⟩
    ·
      simp only [eJ0]
      refine ⟨?_, ?_, l4, l5, l6, l7, l8, m5, m6, ?_, ?_, trivial⟩
      all_goals (try simp only [nd, sm, sn, eV, if_true, if_false])
      all_goals first
        | omega
        | exact hq
    simp only [emu, Env.app, setAll, List.map_cons, List.map_nil, List.set, nd, sm, sn, eV]
    omega
def eE0_w4_0 : List (E × Rng) := [(e45, ((-1048561), 0)), ((.v 0), (14, 1048575)), (e0, (1, 1048562)), ((.v 3), (0, 1048562)), (e46, (4, 4))]
def eQ0_w4_0 : List (E × Bool) := [(e47, true), (e48, true), (e49, true)]
noncomputable def eH0_w4_0 : Hyp := { eh0.H with e := eE0_w4_0 ++ eh0.H.e, b := eQ0_w4_0 ++ eh0.H.b }
set_option maxHeartbeats 40000000 in
theorem esg0_w4_0 : (segL Try.prog G Gh eD ehs [] 3000 0 5 { eh0 with H := eH0_w4_0 }).map LT.bare = some (.ite e53 (.ret (.s (.bool (.blit false))) []) (.jump 0 eT0 ⟨[(3, (.v 3)), (2, e55)], [], []⟩)) := by kernel_rfl
theorem evc0_w4_0 (x0 : Ext) (x1 : Ext) (Y1 : Nat → Ext) (mm nn y2 y3 y4 y5 y6 y7 y8 : Int) (Bx Cx Dx Fx Gx Z5 Z6 : Nat → Int) (hB : eBase x0 x1 Y1 mm nn Bx Cx Dx Fx Gx) (hJ : eJ0 mm nn y2 y3 y4 y5 y6 y7 y8 Bx Cx Dx Fx Gx Z5 Z6) (hH : Hyp.ok eH0_w4_0 (eV x0 x1 Y1 mm nn y2 y3 y4 y5 y6 y7 y8 Bx Cx Dx Fx Gx Z5 Z6))  :
    eW0 x0 x1 Y1 (eV x0 x1 Y1 mm nn y2 y3 y4 y5 y6 y7 y8 Bx Cx Dx Fx Gx Z5 Z6) (.ite e53 (.ret (.s (.bool (.blit false))) []) (.jump 0 eT0 ⟨[(3, (.v 3)), (2, e55)], [], []⟩)) := by
  simp only [eW0, LT.holds, retTrue]
  have hB3 := hB
  have hJ3 := hJ
  simp only [eBase] at hB3
  obtain ⟨b0, b1, c0, c1, c2, c3, c4, en0, en1, ea0, ea1, ea2, ea3, ea4, hs, hx0, _⟩ := hB3
  simp only [eJ0] at hJ3
  obtain ⟨l2, l3, l4, l5, l6, l7, l8, m5, m6, i1, i2, _⟩ := hJ3
  have d13 := c0 (y3 + 13).toNat
  have d14 := c0 (y3 + 14).toNat
  have d15 := c0 (y3 + 15).toNat
  have d16 := c0 (y3 + 16).toNat
  have d17 := c0 (y3 + 17).toNat
  have dw := c1 y2.toNat
  have fe : ∀ p ∈ eE0_w4_0, inR p.2 (p.1.i (eV x0 x1 Y1 mm nn y2 y3 y4 y5 y6 y7 y8 Bx Cx Dx Fx Gx Z5 Z6)) := fun p hp => hH.e p (List.mem_append_left _ hp)
  have fb : ∀ p ∈ eQ0_w4_0, p.1.b (eV x0 x1 Y1 mm nn y2 y3 y4 y5 y6 y7 y8 Bx Cx Dx Fx Gx Z5 Z6) = p.2 := fun p hp => hH.b p (List.mem_append_left _ hp)
  simp only [eE0_w4_0, eQ0_w4_0, List.forall_mem_cons, inR] at fe fb
  have ff := And.intro fe fb
  clear fe fb
  simp only [nd, sm, sn, eV] at ff
  refine ⟨fun hc0 => ?_, fun hc0 => ?_⟩
  ·
    exfalso
    simp only [nd, sm, sn, eV] at hc0
    omega
  ·
    refine ⟨ehT0, ⟨mm, nn, (_root_.Go.Sx.E.i (eV x0 x1 Y1 mm nn y2 y3 y4 y5 y6 y7 y8 Bx Cx Dx Fx Gx Z5 Z6) e55), y3, y4, y5, y6, y7, y8, Bx, Cx, Dx, Fx, Gx, Z5, Z6, (by kernel_rfl), hB, ?_⟩, ?_⟩
    ·
      simp only [eJ0]
      refine ⟨?_, l3, l4, l5, l6, l7, l8, m5, m6, ?_, ?_, trivial⟩
      all_goals (try simp only [nd, sm, sn, eV, if_true, if_false])
      all_goals first
        | omega
        | exact hq
    simp only [emu, Env.app, setAll, List.map_cons, List.map_nil, List.set, nd, sm, sn, eV]
    omega
def eE0_w4_1 : List (E × Rng) := [(e70, (2, 255)), ((.v 0), (14, 1048575)), ((.v 3), (0, 1048561)), (e56, (13, 1048574)), (e0, (1, 1048562)), (e57, (14, 1048575)), (e58, (1, 1048562)), (e45, (1, 1048562)), (e46, (4, 4))]
def eQ0_w4_1 : List (E × Bool) := [(e142, true), (e59, true), (e50, true), (e60, true), (e61, true), (e62, true), (e48, true), (e49, true)]
noncomputable def eH0_w4_1 : Hyp := { eh0.H with e := eE0_w4_1 ++ eh0.H.e, b := eQ0_w4_1 ++ eh0.H.b }
set_option maxHeartbeats 40000000 in
theorem esg0_w4_1 : (segL Try.prog G Gh eD ehs [] 3000 0 5 { eh0 with H := eH0_w4_1 }).map LT.bare = some (.jump 0 eT0 ⟨[(3, (.v 3)), (2, e55)], [], []⟩) := by kernel_rfl
theorem evc0_w4_1 (x0 : Ext) (x1 : Ext) (Y1 : Nat → Ext) (mm nn y2 y3 y4 y5 y6 y7 y8 : Int) (Bx Cx Dx Fx Gx Z5 Z6 : Nat → Int) (hB : eBase x0 x1 Y1 mm nn Bx Cx Dx Fx Gx) (hJ : eJ0 mm nn y2 y3 y4 y5 y6 y7 y8 Bx Cx Dx Fx Gx Z5 Z6) (hH : Hyp.ok eH0_w4_1 (eV x0 x1 Y1 mm nn y2 y3 y4 y5 y6 y7 y8 Bx Cx Dx Fx Gx Z5 Z6))  :
    eW0 x0 x1 Y1 (eV x0 x1 Y1 mm nn y2 y3 y4 y5 y6 y7 y8 Bx Cx Dx Fx Gx Z5 Z6) (.jump 0 eT0 ⟨[(3, (.v 3)), (2, e55)], [], []⟩) := by
  simp only [eW0, LT.holds, retTrue]
  have hB3 := hB
  have hJ3 := hJ
  simp only [eBase] at hB3
  obtain ⟨b0, b1, c0, c1, c2, c3, c4, en0, en1, ea0, ea1, ea2, ea3, ea4, hs, hx0, _⟩ := hB3
  simp only [eJ0] at hJ3
  obtain ⟨l2, l3, l4, l5, l6, l7, l8, m5, m6, i1, i2, _⟩ := hJ3
  have d13 := c0 (y3 + 13).toNat
  have d14 := c0 (y3 + 14).toNat
  have d15 := c0 (y3 + 15).toNat
  have d16 := c0 (y3 + 16).toNat
  have d17 := c0 (y3 + 17).toNat
  have dw := c1 y2.toNat
  have fe : ∀ p ∈ eE0_w4_1, inR p.2 (p.1.i (eV x0 x1 Y1 mm nn y2 y3 y4 y5 y6 y7 y8 Bx Cx Dx Fx Gx Z5 Z6)) := fun p hp => hH.e p (List.mem_append_left _ hp)
  have fb : ∀ p ∈ eQ0_w4_1, p.1.b (eV x0 x1 Y1 mm nn y2 y3 y4 y5 y6 y7 y8 Bx Cx Dx Fx Gx Z5 Z6) = p.2 := fun p hp => hH.b p (List.mem_append_left _ hp)
  simp only [eE0_w4_1, eQ0_w4_1, List.forall_mem_cons, inR] at fe fb
  have ff := And.intro fe fb
  clear fe fb
  simp only [nd, sm, sn, eV] at ff
  refine ⟨ehT0, ⟨mm, nn, (_root_.Go.Sx.E.i (eV x0 x1 Y1 mm nn y2 y3 y4 y5 y6 y7 y8 Bx Cx Dx Fx Gx Z5 Z6) e55), y3, y4, y5, y6, y7, y8, Bx, Cx, Dx, Fx, Gx, Z5, Z6, (by kernel_rfl), hB, ?_⟩, ?_⟩
  ·
    simp only [eJ0]
    refine ⟨?_, l3, l4, l5, l6, l7, l8, m5, m6, ?_, ?_, trivial⟩
    all_goals (try simp only [nd, sm, sn, eV, if_true, if_false])
    all_goals first
      | omega
      | exact hq
  simp only [emu, Env.app, setAll, List.map_cons, List.map_nil, List.set, nd, sm, sn, eV]
  omega
def eE0_w4_2 : List (E × Rng) := [(e70, (0, 1)), ((.v 0), (14, 1048575)), ((.v 3), (0, 1048561)), (e56, (13, 1048574)), (e0, (1, 1048562)), (e57, (14, 1048575)), (e58, (1, 1048562)), (e45, (1, 1048562)), (e46, (4, 4))]
def eQ0_w4_2 : List (E × Bool) := [(e143, true), (e59, true), (e50, true), (e60, true), (e61, true), (e62, true), (e48, true), (e49, true)]
noncomputable def eH0_w4_2 : Hyp := { eh0.H with e := eE0_w4_2 ++ eh0.H.e, b := eQ0_w4_2 ++ eh0.H.b }
set_option maxHeartbeats 40000000 in
theorem esg0_w4_2 : (segL Try.prog G Gh eD ehs [] 3000 0 5 { eh0 with H := eH0_w4_2 }).map LT.bare = some (.ite e148 (.ret (.s (.bool (.blit false))) []) (.jump 0 eT0 ⟨[(3, e58), (2, e55)], [], []⟩)) := by kernel_rfl
theorem evc0_w4_2 (x0 : Ext) (x1 : Ext) (Y1 : Nat → Ext) (mm nn y2 y3 y4 y5 y6 y7 y8 : Int) (Bx Cx Dx Fx Gx Z5 Z6 : Nat → Int) (hB : eBase x0 x1 Y1 mm nn Bx Cx Dx Fx Gx) (hJ : eJ0 mm nn y2 y3 y4 y5 y6 y7 y8 Bx Cx Dx Fx Gx Z5 Z6) (hH : Hyp.ok eH0_w4_2 (eV x0 x1 Y1 mm nn y2 y3 y4 y5 y6 y7 y8 Bx Cx Dx Fx Gx Z5 Z6))  :
    eW0 x0 x1 Y1 (eV x0 x1 Y1 mm nn y2 y3 y4 y5 y6 y7 y8 Bx Cx Dx Fx Gx Z5 Z6) (.ite e148 (.ret (.s (.bool (.blit false))) []) (.jump 0 eT0 ⟨[(3, e58), (2, e55)], [], []⟩)) := by
  simp only [eW0, LT.holds, retTrue]
  have hB3 := hB
  have hJ3 := hJ
  simp only [eBase] at hB3
  obtain ⟨b0, b1, c0, c1, c2, c3, c4, en0, en1, ea0, ea1, ea2, ea3, ea4, hs, hx0, _⟩ := hB3
  simp only [eJ0] at hJ3
  obtain ⟨l2, l3, l4, l5, l6, l7, l8, m5, m6, i1, i2, _⟩ := hJ3
  have d13 := c0 (y3 + 13).toNat
  have d14 := c0 (y3 + 14).toNat
  have d15 := c0 (y3 + 15).toNat
  have d16 := c0 (y3 + 16).toNat
  have d17 := c0 (y3 + 17).toNat
  have dw := c1 y2.toNat
  have fe : ∀ p ∈ eE0_w4_2, inR p.2 (p.1.i (eV x0 x1 Y1 mm nn y2 y3 y4 y5 y6 y7 y8 Bx Cx Dx Fx Gx Z5 Z6)) := fun p hp => hH.e p (List.mem_append_left _ hp)
  have fb : ∀ p ∈ eQ0_w4_2, p.1.b (eV x0 x1 Y1 mm nn y2 y3 y4 y5 y6 y7 y8 Bx Cx Dx Fx Gx Z5 Z6) = p.2 := fun p hp => hH.b p (List.mem_append_left _ hp)
  simp only [eE0_w4_2, eQ0_w4_2, List.forall_mem_cons, inR] at fe fb
  have ff := And.intro fe fb
  clear fe fb
  simp only [nd, sm, sn, eV] at ff
  refine ⟨fun hc0 => ?_, fun hc0 => ?_⟩
  ·
    exfalso
    simp only [nd, sm, sn, eV] at hc0
    omega
  ·
    refine ⟨ehT0, ⟨mm, nn, (_root_.Go.Sx.E.i (eV x0 x1 Y1 mm nn y2 y3 y4 y5 y6 y7 y8 Bx Cx Dx Fx Gx Z5 Z6) e55), (_root_.Go.Sx.E.i (eV x0 x1 Y1 mm nn y2 y3 y4 y5 y6 y7 y8 Bx Cx Dx Fx Gx Z5 Z6) e58), y4, y5, y6, y7, y8, Bx, Cx, Dx, Fx, Gx, Z5, Z6, (by kernel_rfl), hB, ?_⟩, ?_⟩
    ·
      simp only [eJ0]
      refine ⟨?_, ?_, l4, l5, l6, l7, l8, m5, m6, ?_, ?_, trivial⟩
      all_goals (try simp only [nd, sm, sn, eV, if_true, if_false])
      all_goals first
        | omega
        | exact hq
    simp only [emu, Env.app, setAll, List.map_cons, List.map_nil, List.set, nd, sm, sn, eV]
    omega
def eE0_w5_0 : List (E × Rng) := [(e45, ((-1048561), 3)), ((.v 0), (14, 1048575)), (e0, (1, 1048562)), ((.v 3), (0, 1048562)), (e46, (5, 5))]
def eQ0_w5_0 : List (E × Bool) := [(e90, true), (e48, true), (e49, true)]
noncomputable def eH0_w5_0 : Hyp := { eh0.H with e := eE0_w5_0 ++ eh0.H.e, b := eQ0_w5_0 ++ eh0.H.b }
set_option maxHeartbeats 40000000 in
theorem esg0_w5_0 : (segL Try.prog G Gh eD ehs [] 3000 0 5 { eh0 with H := eH0_w5_0 }).map LT.bare = some (.ite e74 (.ret (.s (.bool (.blit false))) []) (.jump 0 eT0 ⟨[(3, (.v 3)), (2, e55)], [], []⟩)) := by kernel_rfl
theorem evc0_w5_0 (x0 : Ext) (x1 : Ext) (Y1 : Nat → Ext) (mm nn y2 y3 y4 y5 y6 y7 y8 : Int) (Bx Cx Dx Fx Gx Z5 Z6 : Nat → Int) (hB : eBase x0 x1 Y1 mm nn Bx Cx Dx Fx Gx) (hJ : eJ0 mm nn y2 y3 y4 y5 y6 y7 y8 Bx Cx Dx Fx Gx Z5 Z6) (hH : Hyp.ok eH0_w5_0 (eV x0 x1 Y1 mm nn y2 y3 y4 y5 y6 y7 y8 Bx Cx Dx Fx Gx Z5 Z6))  :
    eW0 x0 x1 Y1 (eV x0 x1 Y1 mm nn y2 y3 y4 y5 y6 y7 y8 Bx Cx Dx Fx Gx Z5 Z6) (.ite e74 (.ret (.s (.bool (.blit false))) []) (.jump 0 eT0 ⟨[(3, (.v 3)), (2, e55)], [], []⟩)) := by
  simp only [eW0, LT.holds, retTrue]
  have hB3 := hB
  have hJ3 := hJ
  simp only [eBase] at hB3
  obtain ⟨b0, b1, c0, c1, c2, c3, c4, en0, en1, ea0, ea1, ea2, ea3, ea4, hs, hx0, _⟩ := hB3
  simp only [eJ0] at hJ3
  obtain ⟨l2, l3, l4, l5, l6, l7, l8, m5, m6, i1, i2, _⟩ := hJ3
  have d13 := c0 (y3 + 13).toNat
  have d14 := c0 (y3 + 14).toNat
  have d15 := c0 (y3 + 15).toNat
  have d16 := c0 (y3 + 16).toNat
  have d17 := c0 (y3 + 17).toNat
  have dw := c1 y2.toNat
  have fe : ∀ p ∈ eE0_w5_0, inR p.2 (p.1.i (eV x0 x1 Y1 mm nn y2 y3 y4 y5 y6 y7 y8 Bx Cx Dx Fx Gx Z5 Z6)) := fun p hp => hH.e p (List.mem_append_left _ hp)
  have fb : ∀ p ∈ eQ0_w5_0, p.1.b (eV x0 x1 Y1 mm nn y2 y3 y4 y5 y6 y7 y8 Bx Cx Dx Fx Gx Z5 Z6) = p.2 := fun p hp => hH.b p (List.mem_append_left _ hp)
  simp only [eE0_w5_0, eQ0_w5_0, List.forall_mem_cons, inR] at fe fb
  have ff := And.intro fe fb
  clear fe fb
  simp only [nd, sm, sn, eV] at ff
  refine ⟨fun hc0 => ?_, fun hc0 => ?_⟩
  ·
    exfalso
    simp only [nd, sm, sn, eV] at hc0
    omega
  ·
    refine ⟨ehT0, ⟨mm, nn, (_root_.Go.Sx.E.i (eV x0 x1 Y1 mm nn y2 y3 y4 y5 y6 y7 y8 Bx Cx Dx Fx Gx Z5 Z6) e55), y3, y4, y5, y6, y7, y8, Bx, Cx, Dx, Fx, Gx, Z5, Z6, (by kernel_rfl), hB, ?_⟩, ?_⟩
    ·
      simp only [eJ0]
      refine ⟨?_, l3, l4, l5, l6, l7, l8, m5, m6, ?_, ?_, trivial⟩
      all_goals (try simp only [nd, sm, sn, eV, if_true, if_false])
      all_goals first
        | omega
        | exact hq
    simp only [emu, Env.app, setAll, List.map_cons, List.map_nil, List.set, nd, sm, sn, eV]
    omega
def eE0_w5_1 : List (E × Rng) := [(e114, (0, 4294967295)), (e54, ((-9223372036854775808), 4294967294)), ((.v 0), (17, 1048575)), ((.v 3), (0, 1048558)), (e91, (16, 1048574)), (e75, (15, 1048573)), (e57, (14, 1048572)), (e56, (13, 1048571)), (e0, (4, 1048562)), (e92, (3, 1048561)), (e76, (2, 1048560)), (e58, (1, 1048559)), (e93, (17, 1048575)), (e94, (4, 1048562)), (e45, (4, 1048562)), (e46, (5, 5))]
def eQ0_w5_1 : List (E × Bool) := [(e149, true), (e95, true), (e96, true), (e77, true), (e59, true), (e97, true), (e81, true), (e63, true), (e50, true), (e98, true), (e99, true), (e100, true), (e48, true), (e49, true)]
noncomputable def eH0_w5_1 : Hyp := { eh0.H with e := eE0_w5_1 ++ eh0.H.e, b := eQ0_w5_1 ++ eh0.H.b }
set_option maxHeartbeats 40000000 in
theorem esg0_w5_1 : (segL Try.prog G Gh eD ehs [] 3000 0 5 { eh0 with H := eH0_w5_1 }).map LT.bare = some (.jump 0 eT0 ⟨[(3, (.v 3)), (2, e55)], [], []⟩) := by kernel_rfl
theorem evc0_w5_1 (x0 : Ext) (x1 : Ext) (Y1 : Nat → Ext) (mm nn y2 y3 y4 y5 y6 y7 y8 : Int) (Bx Cx Dx Fx Gx Z5 Z6 : Nat → Int) (hB : eBase x0 x1 Y1 mm nn Bx Cx Dx Fx Gx) (hJ : eJ0 mm nn y2 y3 y4 y5 y6 y7 y8 Bx Cx Dx Fx Gx Z5 Z6) (hH : Hyp.ok eH0_w5_1 (eV x0 x1 Y1 mm nn y2 y3 y4 y5 y6 y7 y8 Bx Cx Dx Fx Gx Z5 Z6))  :
    eW0 x0 x1 Y1 (eV x0 x1 Y1 mm nn y2 y3 y4 y5 y6 y7 y8 Bx Cx Dx Fx Gx Z5 Z6) (.jump 0 eT0 ⟨[(3, (.v 3)), (2, e55)], [], []⟩) := by
  simp only [eW0, LT.holds, retTrue]
  have hB3 := hB
  have hJ3 := hJ
  simp only [eBase] at hB3
  obtain ⟨b0, b1, c0, c1, c2, c3, c4, en0, en1, ea0, ea1, ea2, ea3, ea4, hs, hx0, _⟩ := hB3
  simp only [eJ0] at hJ3
  obtain ⟨l2, l3, l4, l5, l6, l7, l8, m5, m6, i1, i2, _⟩ := hJ3
  have d13 := c0 (y3 + 13).toNat
  have d14 := c0 (y3 + 14).toNat
  have d15 := c0 (y3 + 15).toNat
  have d16 := c0 (y3 + 16).toNat
  have d17 := c0 (y3 + 17).toNat
  have dw := c1 y2.toNat
  have fe : ∀ p ∈ eE0_w5_1, inR p.2 (p.1.i (eV x0 x1 Y1 mm nn y2 y3 y4 y5 y6 y7 y8 Bx Cx Dx Fx Gx Z5 Z6)) := fun p hp => hH.e p (List.mem_append_left _ hp)
  have fb : ∀ p ∈ eQ0_w5_1, p.1.b (eV x0 x1 Y1 mm nn y2 y3 y4 y5 y6 y7 y8 Bx Cx Dx Fx Gx Z5 Z6) = p.2 := fun p hp => hH.b p (List.mem_append_left _ hp)
  simp only [eE0_w5_1, eQ0_w5_1, List.forall_mem_cons, inR] at fe fb
  have ff := And.intro fe fb
  clear fe fb
  simp only [nd, sm, sn, eV] at ff
  refine ⟨ehT0, ⟨mm, nn, (_root_.Go.Sx.E.i (eV x0 x1 Y1 mm nn y2 y3 y4 y5 y6 y7 y8 Bx Cx Dx Fx Gx Z5 Z6) e55), y3, y4, y5, y6, y7, y8, Bx, Cx, Dx, Fx, Gx, Z5, Z6, (by kernel_rfl), hB, ?_⟩, ?_⟩
  ·
    simp only [eJ0]
    refine ⟨?_, l3, l4, l5, l6, l7, l8, m5, m6, ?_, ?_, trivial⟩
    all_goals (try simp only [nd, sm, sn, eV, if_true, if_false])
    all_goals first
      | omega
      | exact hq
  simp only [emu, Env.app, setAll, List.map_cons, List.map_nil, List.set, nd, sm, sn, eV]
  omega
end Go.Proofs.Ytflamojcdfmimaa.SaveReads
