/- A part of the law BlendWindows, which returns true for every input. What lies within each layer's window, and where it is shown, is what the document says. No condition. -/
import Derived.Test.YtgbncbclhdnbmaaBlendWindows0
namespace Go.Proofs.Ytgbncbclhdnbmaa.BlendWindows
open Go.Sx Go.ChangeShapes Go.WideShapes Go.ChangeAt Go.RowKit
set_option linter.unusedVariables false
set_option linter.unusedSimpArgs false
set_option maxRecDepth 100000
def egHy : Hyp := ⟨[(.v 0, (-32768, 32767)), (.v 1, (-32768, 32767)), (.v 2, (0, 65535)), (.v 3, (6, 9223372036854775807))], [(0, (0, 255)), (1, (0, 65535)), (2, (0, 65535)), (3, (-32768, 32767))], [], [], [], []⟩
def egLs : List SV := [.agg (pcSegs 0 0 0 Pc0), .s (.int .i64 (.v 3)), .s (.bool (.bv 0))]
def eg0 : E := .le (.v 4) (.lit 256)
def eg1 : E := .add (.v 4) (.lit 1)
noncomputable def egT0 : List Item := todoS Try.prog G Gh [] 3000 0 7 egHy egLs [] 3
noncomputable def egh0 : Head := ⟨3, egT0, ⟨[((.v 0), ((-32768), 32767)), ((.v 1), ((-32768), 32767)), ((.v 2), (0, 65535)), ((.v 3), (6, 9223372036854775807)), ((.v 4), ((-1), 257))], [(0, (0, 255)), (1, (0, 65535)), (2, (0, 65535)), (3, ((-32768), 32767))], [], [], [], []⟩, [⟨7, [], .s (.int .i64 (.v 4))⟩, ⟨3, [], .s (.ptr 0 (.lit 0))⟩, ⟨1, [], .s (.int .i64 (.v 3))⟩, ⟨2, [], .s (.bool (.bv 0))⟩], [⟨33, [.run .u8 (.lit 64) (.av 0) 0, .run .u16 (.lit 4) (.av 1) 0, .run .u16 (.lit 4) (.av 2) 0, .run .i16 (.lit 6) (.av 3) 0, .one (.int .i16 (.v 0)), .one (.int .i16 (.v 1)), .one (.int .u16 (.v 2))], true, none, false⟩]⟩
noncomputable def eghs : List Head := [egh0]
def egD : Dim := ⟨5, 1, 4, 4, 1, 4, 0⟩
theorem egst : startL Try.prog G Gh egD eghs [] 3000 0 7 egHy egLs [] = some (.jump 0 egT0 ⟨[(4, (.lit (-1)))], [], []⟩) := by kernel_rfl
theorem egsg0 : segL Try.prog G Gh egD eghs [] 3000 0 7 egh0 = some (.ite eg0 (.jump 0 egT0 ⟨[(4, eg1)], [], []⟩) (.ret (.s (.bool (.blit true))) [⟨33, [.run .u8 (.lit 64) (.av 0) 0, .run .u16 (.lit 4) (.av 1) 0, .run .u16 (.lit 4) (.av 2) 0, .run .i16 (.lit 6) (.av 3) 0, .one (.int .i16 (.v 0)), .one (.int .i16 (.v 1)), .one (.int .u16 (.v 2))], true, none, false⟩])) := by kernel_rfl
def egBase (n0_4 n0_5 n0_6 a1 : Int) (p0 : Bool) (A0 A1 A2 A3 : Nat → Int) : Prop := (-32768 ≤ n0_4 ∧ n0_4 ≤ 32767) ∧ (-32768 ≤ n0_5 ∧ n0_5 ≤ 32767) ∧ (0 ≤ n0_6 ∧ n0_6 ≤ 65535) ∧ (6 ≤ a1 ∧ a1 ≤ 9223372036854775807) ∧ (∀ j, 0 ≤ A0 j ∧ A0 j ≤ 255) ∧ (∀ j, 0 ≤ A1 j ∧ A1 j ≤ 65535) ∧ (∀ j, 0 ≤ A2 j ∧ A2 j ≤ 65535) ∧ (∀ j, -32768 ≤ A3 j ∧ A3 j ≤ 32767) ∧ True
def egJ0 (n0_4 n0_5 n0_6 a1 x4 : Int) (p0 : Bool) (A0 A1 A2 A3 : Nat → Int) : Prop := (-1 ≤ x4 ∧ x4 ≤ 257) ∧ True
def egInv : Nat → Env → Prop
  | 0, ρ => ∃ (n0_4 n0_5 n0_6 a1 x4 : Int) (p0 : Bool) (A0 A1 A2 A3 : Nat → Int), ρ = (⟨[n0_4, n0_5, n0_6, a1, x4], [p0], [A0, A1, A2, A3], [], Iv (fun _ _ => Ext.none)⟩ : Env) ∧ egBase n0_4 n0_5 n0_6 a1 p0 A0 A1 A2 A3 ∧ egJ0 n0_4 n0_5 n0_6 a1 x4 p0 A0 A1 A2 A3
  | _, _ => False
def egmu : Nat → Env → Nat := fun _ ρ => (257 - ρ.i.getD 4 0).toNat
theorem egvc0 (n0_4 n0_5 n0_6 a1 x4 : Int) (p0 : Bool) (A0 A1 A2 A3 : Nat → Int) (hB : egBase n0_4 n0_5 n0_6 a1 p0 A0 A1 A2 A3) (hJ : egJ0 n0_4 n0_5 n0_6 a1 x4 p0 A0 A1 A2 A3) :
    LT.holds (⟨[n0_4, n0_5, n0_6, a1, x4], [p0], [A0, A1, A2, A3], [], Iv (fun _ _ => Ext.none)⟩ : Env) (fun v _ => retTrue (⟨[n0_4, n0_5, n0_6, a1, x4], [p0], [A0, A1, A2, A3], [], Iv (fun _ _ => Ext.none)⟩ : Env) v) (fun j' todo ρ' => (eghs[j']?.map (·.todo)) = some todo ∧ egInv j' ρ' ∧ egmu j' ρ' < egmu 0 (⟨[n0_4, n0_5, n0_6, a1, x4], [p0], [A0, A1, A2, A3], [], Iv (fun _ _ => Ext.none)⟩ : Env)) (.ite eg0 (.jump 0 egT0 ⟨[(4, eg1)], [], []⟩) (.ret (.s (.bool (.blit true))) [⟨33, [.run .u8 (.lit 64) (.av 0) 0, .run .u16 (.lit 4) (.av 1) 0, .run .u16 (.lit 4) (.av 2) 0, .run .i16 (.lit 6) (.av 3) 0, .one (.int .i16 (.v 0)), .one (.int .i16 (.v 1)), .one (.int .u16 (.v 2))], true, none, false⟩])) := by
  simp only [LT.holds, retTrue]
  refine ⟨fun hc0 => ?_, fun hc0 => ?_⟩
  ·
    refine ⟨rfl, ⟨_, _, _, _, _, _, _, _, _, _, rfl, hB, ?_⟩, ?_⟩
    simp only [egJ0, and_true] at *
    first | omega | (simp only [eg0, eg1, i_v, b_bv, i_lit, b_blit, i_add, i_sub, i_mul, i_div, i_mod, i_tdiv, i_tmod, i_ite, b_ite, b_lt, b_le, b_eq, b_not, b_and, b_or, b_iff, i_sel, a_tab, i_pow2, List.getD_cons_zero, List.getD_cons_succ, decide_eq_true_eq, decide_eq_false_iff_not, Bool.and_eq_true, Bool.or_eq_true, Bool.not_eq_true', Bool.not_eq_false', Bool.and_eq_false_iff, Bool.or_eq_false_iff, Bool.not_not, ite_tt, ite_ff, iff_tt, iff_ff, a_av, a_ite, a_upd] at *; omega)
    simp only [egmu, egJ0, Env.app, setAll, List.map_cons, List.map_nil, List.set, List.getD_cons_zero, List.getD_cons_succ, eg0, eg1, i_v, b_bv, i_lit, b_blit, i_add, i_sub, i_mul, i_div, i_mod, i_tdiv, i_tmod, i_ite, b_ite, b_lt, b_le, b_eq, b_not, b_and, b_or, b_iff, i_sel, a_tab, i_pow2, List.getD_cons_zero, List.getD_cons_succ, decide_eq_true_eq, decide_eq_false_iff_not, Bool.and_eq_true, Bool.or_eq_true, Bool.not_eq_true', Bool.not_eq_false', Bool.and_eq_false_iff, Bool.or_eq_false_iff, Bool.not_not, ite_tt, ite_ff, iff_tt, iff_ff, a_av, a_ite, a_upd] at *
    omega
  ·
    rfl
theorem egvcS (n0_4 n0_5 n0_6 a1 : Int) (p0 : Bool) (A0 A1 A2 A3 : Nat → Int) (hB : egBase n0_4 n0_5 n0_6 a1 p0 A0 A1 A2 A3) :
    LT.holds (⟨[n0_4, n0_5, n0_6, a1, 0], [p0], [A0, A1, A2, A3], [], Iv (fun _ _ => Ext.none)⟩ : Env) (fun v _ => retTrue (⟨[n0_4, n0_5, n0_6, a1, 0], [p0], [A0, A1, A2, A3], [], Iv (fun _ _ => Ext.none)⟩ : Env) v) (fun j' todo ρ' => (eghs[j']?.map (·.todo)) = some todo ∧ egInv j' ρ') (.jump 0 egT0 ⟨[(4, (.lit (-1)))], [], []⟩) := by
  simp only [LT.holds, retTrue]
  refine ⟨rfl, _, _, _, _, _, _, _, _, _, _, rfl, hB, ?_⟩
  simp only [egJ0, and_true] at *
  first | omega | (simp only [eg0, eg1, i_v, b_bv, i_lit, b_blit, i_add, i_sub, i_mul, i_div, i_mod, i_tdiv, i_tmod, i_ite, b_ite, b_lt, b_le, b_eq, b_not, b_and, b_or, b_iff, i_sel, a_tab, i_pow2, List.getD_cons_zero, List.getD_cons_succ, decide_eq_true_eq, decide_eq_false_iff_not, Bool.and_eq_true, Bool.or_eq_true, Bool.not_eq_true', Bool.not_eq_false', Bool.and_eq_false_iff, Bool.or_eq_false_iff, Bool.not_not, ite_tt, ite_ff, iff_tt, iff_ff, a_av, a_ite, a_upd] at *; omega)
theorem egcalls (c0 : List Value) (l0 : c0.length = pcTotal Pc0) (f0 : PcFit c0 0 Pc0) (a1 : Int) (w1 : 6 ≤ a1 ∧ a1 ≤ 9223372036854775807) (a2 : Bool) (w : World) :
    Calls Try.prog 7 #[.agg c0.toArray, .int .i64 a1, .bool a2] w fun r w' => r = .returned (.bool true) ∧ Below w.heap.size w w' := by
  have hc0 : cellsOf (⟨[intV (c0.getD 78 Go.undef), intV (c0.getD 79 Go.undef), intV (c0.getD 80 Go.undef), a1, 0], [a2], [arrOf c0 0 64, arrOf c0 64 4, arrOf c0 68 4, arrOf c0 72 6], [], Iv (fun _ _ => Ext.none)⟩ : Env) Loc.id (pcSegs 0 0 0 Pc0) = c0 := by
    rw [pc_cells Pc0 0 0 0 0 f0 (by intro j hj; rcases j with _ | _ | _ | _ | j <;> first | rfl | (simp [Pc0, pcA, pcB, pcI] at hj; omega)) (by intro j hj; simp [Pc0, pcA, pcB, pcI] at hj) (by intro j hj; rcases j with _ | _ | _ | j <;> first | rfl | (simp [Pc0, pcA, pcB, pcI] at hj; omega)), List.drop_zero, ← l0, List.take_length]
  have hargs : (egLs.map (SV.conc (⟨[intV (c0.getD 78 Go.undef), intV (c0.getD 79 Go.undef), intV (c0.getD 80 Go.undef), a1, 0], [a2], [arrOf c0 0 64, arrOf c0 64 4, arrOf c0 68 4, arrOf c0 72 6], [], Iv (fun _ _ => Ext.none)⟩ : Env) Loc.id)).toArray = #[.agg c0.toArray, .int .i64 a1, .bool a2] := by
    refine congrArg List.toArray ?_
    exact (cons_eq (congrArg (fun l => Value.agg (List.toArray l)) hc0) (cons_eq rfl (cons_eq rfl rfl)))
  rw [← hargs]
  have hok : Hyp.ok egHy (⟨[intV (c0.getD 78 Go.undef), intV (c0.getD 79 Go.undef), intV (c0.getD 80 Go.undef), a1, 0], [a2], [arrOf c0 0 64, arrOf c0 64 4, arrOf c0 68 4, arrOf c0 72 6], [], Iv (fun _ _ => Ext.none)⟩ : Env) := by
    refine ⟨?_, ?_, ?_, by simp [egHy], ?_, by simp [egHy]⟩
    · simp [egHy]
    · intro p hp
      simp only [egHy, List.mem_cons, List.not_mem_nil, or_false] at hp
      rcases hp with rfl | rfl | rfl | rfl
      · exact num_rng (f0.tail.tail.tail.tail)
      · exact num_rng (f0.tail.tail.tail.tail.tail)
      · exact num_rng (f0.tail.tail.tail.tail.tail.tail)
      · exact w1
    · intro p hp
      simp only [egHy, List.mem_cons, List.not_mem_nil, or_false] at hp
      rcases hp with rfl | rfl | rfl | rfl
      · exact arrOf_rng (f0)
      · exact arrOf_rng (f0.tail)
      · exact arrOf_rng (f0.tail.tail)
      · exact arrOf_rng (f0.tail.tail.tail)
    · simp [egHy]
  refine law_loops (D := egD) (hs := eghs) (ρ := (⟨[intV (c0.getD 78 Go.undef), intV (c0.getD 79 Go.undef), intV (c0.getD 80 Go.undef), a1, 0], [a2], [arrOf c0 0 64, arrOf c0 64 4, arrOf c0 68 4, arrOf c0 72 6], [], Iv (fun _ _ => Ext.none)⟩ : Env)) (G_ok _) (by kernel_rfl) rfl (egInv ) egmu egst rfl ⟨rfl, rfl, rfl⟩ hok (egvcS (intV (c0.getD 78 Go.undef)) (intV (c0.getD 79 Go.undef)) (intV (c0.getD 80 Go.undef)) (a1) (a2) (arrOf c0 0 64) (arrOf c0 64 4) (arrOf c0 68 4) (arrOf c0 72 6) ⟨num_rng (f0.tail.tail.tail.tail), num_rng (f0.tail.tail.tail.tail.tail), num_rng (f0.tail.tail.tail.tail.tail.tail), w1, arrOf_rng (f0), arrOf_rng (f0.tail), arrOf_rng (f0.tail.tail), arrOf_rng (f0.tail.tail.tail), trivial⟩) ?_ w (fun i j => Ext.none_ok _)
  intro j h ρ hj hI hz hInv
  rcases j with _ | j
  · simp only [eghs, List.getElem?_cons_zero, List.getElem?_cons_succ, Option.some.injEq] at hj; subst hj
    obtain ⟨n0_4, n0_5, n0_6, a1, x4, p0, A0, A1, A2, A3, rfl, hB, hJ⟩ := hInv
    refine ⟨?_, _, egsg0, egvc0 n0_4 n0_5 n0_6 a1 x4 p0 A0 A1 A2 A3 hB hJ⟩
    have hB2 := hB; have hJ2 := hJ
    simp only [egBase] at hB2; simp only [egJ0] at hJ2
    obtain ⟨hb0, hb1, hb2, hb3, hb4, hb5, hb6, hb7, _⟩ := hB2
    obtain ⟨hl0, _⟩ := hJ2
    refine ⟨?_, ?_, ?_, by simp [egh0], ?_, by simp [egh0]⟩
    · simp [egh0]
    · intro p hp
      simp only [egh0, List.mem_cons, List.not_mem_nil, or_false] at hp
      rcases hp with rfl | rfl | rfl | rfl | rfl
      · exact hb0
      · exact hb1
      · exact hb2
      · exact hb3
      · exact hl0
    · intro p hp
      simp only [egh0, List.mem_cons, List.not_mem_nil, or_false] at hp
      rcases hp with rfl | rfl | rfl | rfl
      · exact hb4
      · exact hb5
      · exact hb6
      · exact hb7
    · simp [egh0]
  · simp [eghs] at hj
end Go.Proofs.Ytgbncbclhdnbmaa.BlendWindows
