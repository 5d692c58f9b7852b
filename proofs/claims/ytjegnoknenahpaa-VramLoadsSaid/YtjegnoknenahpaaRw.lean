/- Contracts of functions on rows of bytes that laws of this seat call. They are run by symbols (SxA, SxB, SxG, SxC). No condition. -/
import Derived.Test.YtjegnoknenahpaaProg
import Derived.Test.YtjegnoknenahpaaSxC
namespace Go.Proofs.Ytjegnoknenahpaa
open Go.Sx Go.RowKit
set_option linter.unusedVariables false
set_option linter.unusedSimpArgs false
set_option maxRecDepth 100000
noncomputable def S0 : Ctx := inl Try.prog (ctx []) 3000 6 6
noncomputable def S0h : HintCtx := inlH Try.prog (ctx []) 3000 6 6
theorem S0_ok (I : Interp) : CtxOK Try.prog I S0 := inl_ok (ctx_ok (fun p hp => by cases hp)) (by kernel_rfl) 3000 6 6
def cbHy : Hyp := ⟨[(.v 0, (0, 9223372036854775807)), (.v 1, (0, 9223372036854775807))], [(0, (0, 255)), (1, (0, 255))], [], [], [], [(0, ⟨.v 0, [(some .u8, .av 0)], []⟩), (1, ⟨.v 1, [(some .u8, .av 1)], []⟩)]⟩
def cbLs : List SV := [.s (.xslc 0 (.lit 0) (.lit 0) (.v 0)), .s (.xslc 1 (.lit 0) (.lit 0) (.v 1))]

--SKEND
def cb0 : E := .eq (.v 0) (.v 1)
def cb1 : E := .not cb0
def cb2 : E := .lt (.v 2) (.v 0)
def cb3 : E := .lt (.v 2) (.v 1)
def cb4 : E := .sel (.av 0) (.v 2)
def cb5 : E := .sel (.av 1) (.v 2)
def cb6 : E := .eq cb4 cb5
def cb7 : E := .not cb6
def cb8 : E := .add (.v 2) (.lit 1)
noncomputable def cbT0 : List Item := seekS Try.prog 24 5
noncomputable def cbh0 : Head := ⟨5, cbT0, ⟨[((.v 0), (0, 9223372036854775807)), ((.v 1), (0, 9223372036854775807)), ((.v 2), (0, 9223372036854775807))], [(0, (0, 255)), (1, (0, 255))], [], [], [], [(0, ⟨(.v 0), [(some .u8, (.av 0))], []⟩), (1, ⟨(.v 1), [(some .u8, (.av 1))], []⟩)]⟩, [⟨5, [], .s (.int .i64 (.v 2))⟩, ⟨0, [], .s (.xslc 0 (.lit 0) (.lit 0) (.v 0))⟩, ⟨1, [], .s (.xslc 1 (.lit 0) (.lit 0) (.v 1))⟩], []⟩
noncomputable def cbhs : List Head := [cbh0]
def cbD : Dim := ⟨3, 0, 2, 2, 0, 2, 0⟩
theorem cbst : startL Try.prog S0 S0h cbD cbhs [] 3000 0 24 cbHy cbLs [] = some (.ite cb1 (.ret (.s (.bool (.blit false))) []) (.jump 0 cbT0 ⟨[(2, (.lit 0))], [], []⟩)) := by kernel_rfl
theorem cbsg0 : segL Try.prog S0 S0h cbD cbhs [] 3000 0 24 cbh0 = some (.ite cb2 (.need cb3 (.need cb3 (.ite cb7 (.ret (.s (.bool (.blit false))) []) (.jump 0 cbT0 ⟨[(2, cb8)], [], []⟩)))) (.ret (.s (.bool (.blit true))) [])) := by kernel_rfl
theorem cbok : BytesOK Try.prog 24 := by
  intro x0 x1 w g0 g1
  let I : Interp := Iv (fun i j => match i, j with | 0, 0 => x0 | 1, 0 => x1 | _, _ => Ext.none)
  have hxs : ∀ i j, (I.xs i j).ok w := fun i j => by rcases i with _ | _ | i <;> rcases j with _ | j <;> first | exact Ext.none_ok _ | exact g0.ok | exact g1.ok
  let E (i : Int)  : Env := ⟨[(x0.n : Int), (x1.n : Int), i], [], [xArr x0 1 0, xArr x1 1 0], [], I⟩
  have L0 := xlen_rng g0
  have R0 : ∀ j, inR (krng .u8) (xArr x0 1 0 j) := xArr_rng g0
  simp only [inR, krng, kmin, kmax] at L0 R0
  have L1 := xlen_rng g1
  have R1 : ∀ j, inR (krng .u8) (xArr x1 1 0 j) := xArr_rng g1
  simp only [inR, krng, kmin, kmax] at L1 R1
  have hargs : (cbLs.map (SV.conc (E 0) Loc.id)).toArray = #[x0.v, x1.v] := congrArg List.toArray (cons_eq (conc_ext g0 rfl rfl) (cons_eq (conc_ext g1 rfl rfl) (rfl)))
  rw [← hargs]
  have hX : ∀ (p : Nat × XI), p ∈ [(0, ⟨.v 0, [(some .u8, .av 0)], []⟩), (1, ⟨.v 1, [(some .u8, .av 1)], []⟩)] → ∀ (i : Int) , XI.ok (E i ) p.1 p.2 := by
    intro p hp i 
    simp only [List.mem_cons, List.not_mem_nil, or_false] at hp
    rcases hp with rfl | rfl
    · exact xi_ok g0 rfl rfl rfl
    · exact xi_ok g1 rfl rfl rfl
  have hok : ∀ (H : Hyp) (i : Int), 0 ≤ i ∧ i ≤ 9223372036854775807 → H.e = [(.v 0, (0, 9223372036854775807)), (.v 1, (0, 9223372036854775807)), (.v 2, (0, 9223372036854775807))] → H.a = [(0, (0, 255)), (1, (0, 255))] → H.fi = [] → H.fa = [] → H.b = [] → H.x = cbHy.x → H.ok (E i) := by
    intro H i hi e1 e2 e3 e4 e5 e6
    refine ⟨?_, ?_, ?_, by simp [e3], by simp [e4], by simp [e5]⟩
    · rw [e6]; exact fun p hp => hX p hp i
    · rw [e1]; intro p hp
      simp only [List.mem_cons, List.not_mem_nil, or_false] at hp
      rcases hp with rfl | rfl | rfl
      · exact L0
      · exact L1
      · exact hi
    · rw [e2]; intro p hp
      simp only [List.mem_cons, List.not_mem_nil, or_false] at hp
      rcases hp with rfl | rfl
      · exact R0
      · exact R1
  have hok0 : cbHy.ok (E 0) := by
    refine ⟨?_, ?_, ?_, by simp [cbHy], by simp [cbHy], by simp [cbHy]⟩
    · exact fun p hp => hX p hp 0
    · intro p hp
      simp only [cbHy, List.mem_cons, List.not_mem_nil, or_false] at hp
      rcases hp with rfl | rfl
      · exact L0
      · exact L1
    · intro p hp
      simp only [cbHy, List.mem_cons, List.not_mem_nil, or_false] at hp
      rcases hp with rfl | rfl
      · exact R0
      · exact R1
  let T : Prop := x0.n = x1.n ∧ ∀ j, j < x0.n → xArr x0 1 0 j = xArr x1 1 0 j
  refine calls_loops (β := ⟨w, 0, Loc.id⟩) (S0_ok I) (by kernel_rfl) (Nat.zero_le _) (fun k ρ => k = 0 ∧ ∃ i : Int, ρ = E i ∧ x0.n = x1.n ∧ 0 ≤ i ∧ i ≤ x0.n ∧ ∀ j : Nat, (j : Int) < i → xArr x0 1 0 j = xArr x1 1 0 j)
    (fun _ ρ => ((x0.n : Int) + 1 - ρ.i.getD 2 0).toNat) (fun ρ v _ => ∃ b : Bool, v = .s (.bool (.blit b)) ∧ (b = true ↔ T)) ?_ cbst (MRep.empty hxs Loc.id) rfl ⟨rfl, rfl, rfl⟩ hok0 ?_ ?_
  · rintro ρ v m hI ⟨b, rfl, hb⟩ ι w' hm
    rw [endV_of rfl]
    refine ⟨?_, hm.below0⟩
    simp only [SV.conc, S.conc, b_blit]
    congr 2
    cases b
    · symm; rw [decide_eq_false_iff_not]; exact fun h => by have := hb.2 h; cases this
    · symm; rw [decide_eq_true_eq]; exact hb.1 rfl
  · simp only [LT.holds]
    refine ⟨fun hc0 => ?_, fun hc0 => ?_⟩
    ·
      refine ⟨false, rfl, ?_⟩
      simp only [E, cb0, cb1, cb2, cb3, cb4, cb5, cb6, cb7, cb8, i_v, b_bv, i_lit, b_blit, i_add, i_sub, i_mul, i_div, i_mod, i_tdiv, i_tmod, i_ite, b_ite, b_lt, b_le, b_eq, b_not, b_and, b_or, b_iff, i_sel, a_tab, i_pow2, List.getD_cons_zero, List.getD_cons_succ, decide_eq_true_eq, decide_eq_false_iff_not, Bool.and_eq_true, Bool.or_eq_true, Bool.not_eq_true', Bool.not_eq_false', Bool.and_eq_false_iff, Bool.or_eq_false_iff, Bool.not_not, ite_tt, ite_ff, iff_tt, iff_ff, a_av, a_ite, a_upd] at hc0
      exact ⟨(fun h => by cases h), fun h => absurd h.1 (by omega)⟩
    ·
      simp only [E, cb0, cb1, cb2, cb3, cb4, cb5, cb6, cb7, cb8, i_v, b_bv, i_lit, b_blit, i_add, i_sub, i_mul, i_div, i_mod, i_tdiv, i_tmod, i_ite, b_ite, b_lt, b_le, b_eq, b_not, b_and, b_or, b_iff, i_sel, a_tab, i_pow2, List.getD_cons_zero, List.getD_cons_succ, decide_eq_true_eq, decide_eq_false_iff_not, Bool.and_eq_true, Bool.or_eq_true, Bool.not_eq_true', Bool.not_eq_false', Bool.and_eq_false_iff, Bool.or_eq_false_iff, Bool.not_not, ite_tt, ite_ff, iff_tt, iff_ff, a_av, a_ite, a_upd] at hc0
      exact ⟨rfl, trivial, 0, rfl, by omega, by omega, by omega, fun j hj => by omega⟩
  · rintro j h ρ hj hI hz ⟨rfl, i, rfl, hn, hi0, hi1, hq⟩
    simp only [cbhs, List.getElem?_cons_zero, Option.some.injEq] at hj; subst hj
    refine ⟨hok cbh0.H i (by omega) rfl rfl rfl rfl rfl rfl, _, cbsg0, ?_⟩
    simp only [LT.holds]
    refine ⟨fun hc0 => ?_, fun hc0 => ?_⟩
    ·
      refine ⟨?_, fun hc1 => ?_⟩
      ·
        simp only [E, cb0, cb1, cb2, cb3, cb4, cb5, cb6, cb7, cb8, i_v, b_bv, i_lit, b_blit, i_add, i_sub, i_mul, i_div, i_mod, i_tdiv, i_tmod, i_ite, b_ite, b_lt, b_le, b_eq, b_not, b_and, b_or, b_iff, i_sel, a_tab, i_pow2, List.getD_cons_zero, List.getD_cons_succ, decide_eq_true_eq, decide_eq_false_iff_not, Bool.and_eq_true, Bool.or_eq_true, Bool.not_eq_true', Bool.not_eq_false', Bool.and_eq_false_iff, Bool.or_eq_false_iff, Bool.not_not, ite_tt, ite_ff, iff_tt, iff_ff, a_av, a_ite, a_upd] at hc0 ⊢
        omega
      refine ⟨?_, fun hc2 => ?_⟩
      ·
        simp only [E, cb0, cb1, cb2, cb3, cb4, cb5, cb6, cb7, cb8, i_v, b_bv, i_lit, b_blit, i_add, i_sub, i_mul, i_div, i_mod, i_tdiv, i_tmod, i_ite, b_ite, b_lt, b_le, b_eq, b_not, b_and, b_or, b_iff, i_sel, a_tab, i_pow2, List.getD_cons_zero, List.getD_cons_succ, decide_eq_true_eq, decide_eq_false_iff_not, Bool.and_eq_true, Bool.or_eq_true, Bool.not_eq_true', Bool.not_eq_false', Bool.and_eq_false_iff, Bool.or_eq_false_iff, Bool.not_not, ite_tt, ite_ff, iff_tt, iff_ff, a_av, a_ite, a_upd] at hc0 hc1 ⊢
        omega
      refine ⟨fun hc3 => ?_, fun hc3 => ?_⟩
      ·
        simp only [E, cb0, cb1, cb2, cb3, cb4, cb5, cb6, cb7, cb8, i_v, b_bv, i_lit, b_blit, i_add, i_sub, i_mul, i_div, i_mod, i_tdiv, i_tmod, i_ite, b_ite, b_lt, b_le, b_eq, b_not, b_and, b_or, b_iff, i_sel, a_tab, i_pow2, List.getD_cons_zero, List.getD_cons_succ, decide_eq_true_eq, decide_eq_false_iff_not, Bool.and_eq_true, Bool.or_eq_true, Bool.not_eq_true', Bool.not_eq_false', Bool.and_eq_false_iff, Bool.or_eq_false_iff, Bool.not_not, ite_tt, ite_ff, iff_tt, iff_ff, a_av, a_ite, a_upd] at hc0 hc1 hc2 hc3
        refine ⟨false, rfl, (fun h => by cases h), fun h => ?_⟩
        have := h.2 i.toNat (by omega)
        exact absurd this (by omega)
      ·
        simp only [E, cb0, cb1, cb2, cb3, cb4, cb5, cb6, cb7, cb8, i_v, b_bv, i_lit, b_blit, i_add, i_sub, i_mul, i_div, i_mod, i_tdiv, i_tmod, i_ite, b_ite, b_lt, b_le, b_eq, b_not, b_and, b_or, b_iff, i_sel, a_tab, i_pow2, List.getD_cons_zero, List.getD_cons_succ, decide_eq_true_eq, decide_eq_false_iff_not, Bool.and_eq_true, Bool.or_eq_true, Bool.not_eq_true', Bool.not_eq_false', Bool.and_eq_false_iff, Bool.or_eq_false_iff, Bool.not_not, ite_tt, ite_ff, iff_tt, iff_ff, a_av, a_ite, a_upd] at hc0 hc1 hc2 hc3
        refine ⟨rfl, ⟨trivial, i + 1, rfl, hn, by omega, by omega, fun j hj => ?_⟩, ?_⟩
        · by_cases e : (j : Int) = i
          · have : i.toNat = j := by omega
            rw [this] at hc3; omega
          · exact hq j (by omega)
        · show ((x0.n : Int) + 1 - (i + 1)).toNat < ((x0.n : Int) + 1 - i).toNat
          omega
    ·
      simp only [E, cb0, cb1, cb2, cb3, cb4, cb5, cb6, cb7, cb8, i_v, b_bv, i_lit, b_blit, i_add, i_sub, i_mul, i_div, i_mod, i_tdiv, i_tmod, i_ite, b_ite, b_lt, b_le, b_eq, b_not, b_and, b_or, b_iff, i_sel, a_tab, i_pow2, List.getD_cons_zero, List.getD_cons_succ, decide_eq_true_eq, decide_eq_false_iff_not, Bool.and_eq_true, Bool.or_eq_true, Bool.not_eq_true', Bool.not_eq_false', Bool.and_eq_false_iff, Bool.or_eq_false_iff, Bool.not_not, ite_tt, ite_ff, iff_tt, iff_ff, a_av, a_ite, a_upd] at hc0
      exact ⟨true, rfl, fun _ => ⟨hn, fun j hj => hq j (by omega)⟩, fun _ => rfl⟩
def csHy : Hyp := ⟨[(.v 0, (0, 9223372036854775807))], [(0, (0, 255))], [], [], [], [(0, ⟨.v 0, [(some .u8, .av 0)], []⟩)]⟩
def csLs : List SV := [.s (.xslc 0 (.lit 0) (.lit 0) (.v 0))]

--SKEND
def cs0 : E := .lt (.v 1) (.v 0)
def cs1 : E := .mul (.v 2) (.lit 31)
def cs2 : E := .sel (.av 0) (.v 1)
def cs3 : E := .add cs1 cs2
def cs4 : E := .add cs3 (.lit 7)
def cs5 : E := .mod cs4 (.lit 4294967296)
def cs6 : E := .add (.v 1) (.lit 1)
noncomputable def csT0 : List Item := seekS Try.prog 50 4
noncomputable def csh0 : Head := ⟨4, csT0, ⟨[((.v 0), (0, 9223372036854775807)), ((.v 1), (0, 9223372036854775807)), ((.v 2), (0, 4294967295))], [(0, (0, 255))], [], [], [], [(0, ⟨(.v 0), [(some .u8, (.av 0))], []⟩)]⟩, [⟨8, [], .s (.int .i64 (.v 1))⟩, ⟨7, [], .s (.int .i64 (.v 0))⟩, ⟨6, [], .s (.xslc 0 (.lit 0) (.lit 0) (.v 0))⟩, ⟨3, [], .s (.int .u32 (.v 2))⟩], []⟩
noncomputable def cshs : List Head := [csh0]
def csD : Dim := ⟨3, 0, 1, 1, 0, 1, 0⟩
theorem csst : startL Try.prog S0 S0h csD cshs [] 3000 0 50 csHy csLs [] = some (.jump 0 csT0 ⟨[(2, (.lit 1)), (1, (.lit 0))], [], []⟩) := by kernel_rfl
theorem cssg0 : segL Try.prog S0 S0h csD cshs [] 3000 0 50 csh0 = some (.ite cs0 (.jump 0 csT0 ⟨[(2, cs5), (1, cs6)], [], []⟩) (.ret (.s (.int .u32 (.v 2))) [])) := by kernel_rfl
theorem csok : SumOK Try.prog 50 := by
  intro x0 w g0
  let I : Interp := Iv (fun i j => match i, j with | 0, 0 => x0 | _, _ => Ext.none)
  have hxs : ∀ i j, (I.xs i j).ok w := fun i j => by rcases i with _ | i <;> rcases j with _ | j <;> first | exact Ext.none_ok _ | exact g0.ok
  let E (i z : Int)  : Env := ⟨[(x0.n : Int), i, z], [], [xArr x0 1 0], [], I⟩
  have L0 := xlen_rng g0
  have R0 : ∀ j, inR (krng .u8) (xArr x0 1 0 j) := xArr_rng g0
  simp only [inR, krng, kmin, kmax] at L0 R0
  have hargs : (csLs.map (SV.conc (E 0 0) Loc.id)).toArray = #[x0.v] := congrArg List.toArray (cons_eq (conc_ext g0 rfl rfl) (rfl))
  rw [← hargs]
  have hX : ∀ (p : Nat × XI), p ∈ [(0, ⟨.v 0, [(some .u8, .av 0)], []⟩)] → ∀ (i z : Int) , XI.ok (E i z ) p.1 p.2 := by
    intro p hp i z 
    simp only [List.mem_cons, List.not_mem_nil, or_false] at hp
    rcases hp with rfl
    · exact xi_ok g0 rfl rfl rfl
  have hok : ∀ (H : Hyp) (i z : Int), 0 ≤ i ∧ i ≤ 9223372036854775807 → 0 ≤ z ∧ z ≤ 4294967295 → H.e = [(.v 0, (0, 9223372036854775807)), (.v 1, (0, 9223372036854775807)), (.v 2, (0, 4294967295))] → H.a = [(0, (0, 255))] → H.fi = [] → H.fa = [] → H.b = [] → H.x = csHy.x → H.ok (E i z) := by
    intro H i z hi hz e1 e2 e3 e4 e5 e6
    refine ⟨?_, ?_, ?_, by simp [e3], by simp [e4], by simp [e5]⟩
    · rw [e6]; exact fun p hp => hX p hp i z
    · rw [e1]; intro p hp
      simp only [List.mem_cons, List.not_mem_nil, or_false] at hp
      rcases hp with rfl | rfl | rfl
      · exact L0
      · exact hi
      · exact hz
    · rw [e2]; intro p hp
      simp only [List.mem_cons, List.not_mem_nil, or_false] at hp
      rcases hp with rfl
      · exact R0
  have hok0 : csHy.ok (E 0 0) := by
    refine ⟨?_, ?_, ?_, by simp [csHy], by simp [csHy], by simp [csHy]⟩
    · exact fun p hp => hX p hp 0 0
    · intro p hp
      simp only [csHy, List.mem_cons, List.not_mem_nil, or_false] at hp
      rcases hp with rfl
      · exact L0
    · intro p hp
      simp only [csHy, List.mem_cons, List.not_mem_nil, or_false] at hp
      rcases hp with rfl
      · exact R0
  refine calls_loops (β := ⟨w, 0, Loc.id⟩) (S0_ok I) (by kernel_rfl) (Nat.zero_le _) (fun k ρ => k = 0 ∧ ∃ i z : Int, ρ = E i z ∧ 0 ≤ i ∧ i ≤ x0.n ∧ z = sumF i.toNat (xArr x0 1 0))
    (fun _ ρ => ((x0.n : Int) + 1 - ρ.i.getD 1 0).toNat) (fun ρ v _ => ∃ e : _root_.Go.Sx.E, v = .s (.int .u32 e) ∧ e.i ρ = sumF x0.n (xArr x0 1 0)) ?_ csst (MRep.empty hxs Loc.id) rfl ⟨rfl, rfl, rfl⟩ hok0 ?_ ?_
  · rintro ρ v m hI ⟨e, rfl, he⟩ ι w' hm
    rw [endV_of rfl]
    exact ⟨by simp only [SV.conc, S.conc, he], hm.below0⟩
  · simp only [LT.holds]
    exact ⟨rfl, trivial, 0, 1, rfl, by omega, by omega, rfl⟩
  · rintro j h ρ hj hI hz ⟨rfl, i, z, rfl, hi0, hi1, hq⟩
    have hzr := sumF_rng i.toNat (xArr x0 1 0)
    rw [← hq] at hzr
    simp only [cshs, List.getElem?_cons_zero, Option.some.injEq] at hj; subst hj
    refine ⟨hok csh0.H i z (by omega) hzr rfl rfl rfl rfl rfl rfl, _, cssg0, ?_⟩
    simp only [LT.holds]
    refine ⟨fun hc0 => ?_, fun hc0 => ?_⟩
    ·
      simp only [E, cs0, cs1, cs2, cs3, cs4, cs5, cs6, i_v, b_bv, i_lit, b_blit, i_add, i_sub, i_mul, i_div, i_mod, i_tdiv, i_tmod, i_ite, b_ite, b_lt, b_le, b_eq, b_not, b_and, b_or, b_iff, i_sel, a_tab, i_pow2, List.getD_cons_zero, List.getD_cons_succ, decide_eq_true_eq, decide_eq_false_iff_not, Bool.and_eq_true, Bool.or_eq_true, Bool.not_eq_true', Bool.not_eq_false', Bool.and_eq_false_iff, Bool.or_eq_false_iff, Bool.not_not, ite_tt, ite_ff, iff_tt, iff_ff, a_av, a_ite, a_upd] at hc0
      have e2 : (i + 1).toNat = i.toNat + 1 := by omega
      refine ⟨rfl, ⟨trivial, i + 1, (z * 31 + xArr x0 1 0 i.toNat + 7) % 4294967296, rfl, by omega, by omega, ?_⟩, ?_⟩
      · rw [e2, sumF_succ, ← hq]
      · show ((x0.n : Int) + 1 - (i + 1)).toNat < ((x0.n : Int) + 1 - i).toNat
        omega
    ·
      simp only [E, cs0, cs1, cs2, cs3, cs4, cs5, cs6, i_v, b_bv, i_lit, b_blit, i_add, i_sub, i_mul, i_div, i_mod, i_tdiv, i_tmod, i_ite, b_ite, b_lt, b_le, b_eq, b_not, b_and, b_or, b_iff, i_sel, a_tab, i_pow2, List.getD_cons_zero, List.getD_cons_succ, decide_eq_true_eq, decide_eq_false_iff_not, Bool.and_eq_true, Bool.or_eq_true, Bool.not_eq_true', Bool.not_eq_false', Bool.and_eq_false_iff, Bool.or_eq_false_iff, Bool.not_not, ite_tt, ite_ff, iff_tt, iff_ff, a_av, a_ite, a_upd] at hc0
      refine ⟨_, rfl, ?_⟩
      have e1 : i.toNat = x0.n := by omega
      rw [e1] at hq
      simp only [E, cs0, cs1, cs2, cs3, cs4, cs5, cs6, i_v, b_bv, i_lit, b_blit, i_add, i_sub, i_mul, i_div, i_mod, i_tdiv, i_tmod, i_ite, b_ite, b_lt, b_le, b_eq, b_not, b_and, b_or, b_iff, i_sel, a_tab, i_pow2, List.getD_cons_zero, List.getD_cons_succ, decide_eq_true_eq, decide_eq_false_iff_not, Bool.and_eq_true, Bool.or_eq_true, Bool.not_eq_true', Bool.not_eq_false', Bool.and_eq_false_iff, Bool.or_eq_false_iff, Bool.not_not, ite_tt, ite_ff, iff_tt, iff_ff, a_av, a_ite, a_upd]
      rw [← hq]; try omega
def ccHy : Hyp := ⟨[(.v 0, (0, 67108864))], [(0, (0, 255))], [], [], [], [(0, ⟨.v 0, [(some .u8, .av 0)], []⟩)]⟩
def ccLs : List SV := [.s (.xslc 0 (.lit 0) (.lit 0) (.v 0))]

--SKEND
def cc0 : E := .lt (.v 1) (.v 0)
def cc1 : E := .add (.v 1) (.lit 1)
def cc2 : E := .sel (.av 0) (.v 1)
def cc3 : E := .upd (.av 1) (.v 1) cc2
noncomputable def ccT0 : List Item := seekS Try.prog 19 4
noncomputable def cch0 : Head := ⟨4, ccT0, ⟨[((.v 0), (0, 67108864)), ((.v 1), (0, 67108864))], [(0, (0, 255)), (1, (0, 255))], [], [], [], [(0, ⟨(.v 0), [(some .u8, (.av 0))], []⟩)]⟩, [⟨4, [], .s (.int .i64 (.v 1))⟩, ⟨3, [], .s (.slc 0 (.lit 0) (.v 0) (.kn (.v 0)))⟩, ⟨0, [], .s (.xslc 0 (.lit 0) (.lit 0) (.v 0))⟩], [⟨5, [.run .u8 (.v 0) (.av 1) 0], true, none, false⟩]⟩
noncomputable def cchs : List Head := [cch0]
def ccD : Dim := ⟨2, 0, 2, 1, 0, 1, 0⟩
theorem ccst : startL Try.prog S0 S0h ccD cchs [] 3000 0 19 ccHy ccLs [] = some (.jump 0 ccT0 ⟨[(1, (.lit 0))], [], [(1, (.tab []))]⟩) := by kernel_rfl
theorem ccsg0 : segL Try.prog S0 S0h ccD cchs [] 3000 0 19 cch0 = some (.ite cc0 (.jump 0 ccT0 ⟨[(1, cc1)], [], [(1, cc3)]⟩) (.ret (.s (.slc 0 (.lit 0) (.v 0) (.kn (.v 0)))) [⟨5, [.run .u8 (.v 0) (.av 1) 0], true, none, false⟩])) := by kernel_rfl
theorem ccok : CopyOK Try.prog 19 5 := by
  intro x0 w g0 hlen
  let I : Interp := Iv (fun i j => match i, j with | 0, 0 => x0 | _, _ => Ext.none)
  have hxs : ∀ i j, (I.xs i j).ok w := fun i j => by rcases i with _ | i <;> rcases j with _ | j <;> first | exact Ext.none_ok _ | exact g0.ok
  let E (i : Int) (B : Nat → Int) : Env := ⟨[(x0.n : Int), i], [], [xArr x0 1 0, B], [], I⟩
  have L0 := xlen_rng g0
  have R0 : ∀ j, inR (krng .u8) (xArr x0 1 0 j) := xArr_rng g0
  simp only [inR, krng, kmin, kmax] at L0 R0
  have hargs : (ccLs.map (SV.conc (E 0 (fun _ => 0)) Loc.id)).toArray = #[x0.v] := congrArg List.toArray (cons_eq (conc_ext g0 rfl rfl) (rfl))
  rw [← hargs]
  have hX : ∀ (p : Nat × XI), p ∈ [(0, ⟨.v 0, [(some .u8, .av 0)], []⟩)] → ∀ (i : Int) (B : Nat → Int), XI.ok (E i B) p.1 p.2 := by
    intro p hp i B
    simp only [List.mem_cons, List.not_mem_nil, or_false] at hp
    rcases hp with rfl
    · exact xi_ok g0 rfl rfl rfl
  have hok : ∀ (H : Hyp) (i : Int) (B : Nat → Int), 0 ≤ i ∧ i ≤ 67108864 → (∀ j, 0 ≤ B j ∧ B j ≤ 255) → H.e = [(.v 0, (0, 67108864)), (.v 1, (0, 67108864))] → H.a = [(0, (0, 255)), (1, (0, 255))] → H.fi = [] → H.fa = [] → H.b = [] → H.x = ccHy.x → H.ok (E i B) := by
    intro H i B hi hB e1 e2 e3 e4 e5 e6
    refine ⟨?_, ?_, ?_, by simp [e3], by simp [e4], by simp [e5]⟩
    · rw [e6]; exact fun p hp => hX p hp i B
    · rw [e1]; intro p hp
      simp only [List.mem_cons, List.not_mem_nil, or_false] at hp
      rcases hp with rfl | rfl
      · simp only [inR]; exact ⟨L0.1, by show (x0.n : Int) ≤ _; omega⟩
      · exact hi
    · rw [e2]; intro p hp
      simp only [List.mem_cons, List.not_mem_nil, or_false] at hp
      rcases hp with rfl | rfl
      · exact R0
      · exact hB
  have hok0 : ccHy.ok (E 0 fun _ => 0) := by
    refine ⟨?_, ?_, ?_, by simp [ccHy], by simp [ccHy], by simp [ccHy]⟩
    · exact fun p hp => hX p hp 0 fun _ => 0
    · intro p hp
      simp only [ccHy, List.mem_cons, List.not_mem_nil, or_false] at hp
      rcases hp with rfl
      · simp only [inR]; exact ⟨L0.1, by show (x0.n : Int) ≤ _; omega⟩
    · intro p hp
      simp only [ccHy, List.mem_cons, List.not_mem_nil, or_false] at hp
      rcases hp with rfl
      · exact R0
  refine calls_loops (β := ⟨w, 0, Loc.id⟩) (S0_ok I) (by kernel_rfl) (Nat.zero_le _) (fun k ρ => k = 0 ∧ ∃ (i : Int) (B : Nat → Int), ρ = E i B ∧ 0 ≤ i ∧ i ≤ x0.n ∧ (∀ j, 0 ≤ B j ∧ B j ≤ 255) ∧ ∀ j : Nat, (j : Int) < i → B j = xArr x0 1 0 j)
    (fun _ ρ => ((x0.n : Int) + 1 - ρ.i.getD 1 0).toNat) (fun ρ v m => v = .s (.slc 0 (.lit 0) (.v 0) (.kn (.v 0))) ∧ ρ.i.getD 0 0 = x0.n ∧ ∃ A : _root_.Go.Sx.E, m = [⟨5, [.run .u8 (.v 0) A 0], true, none, false⟩] ∧ ∀ j : Nat, j < x0.n → A.a ρ j = xArr x0 1 0 j) ?_ ccst (MRep.empty hxs Loc.id) rfl ⟨rfl, rfl, rfl⟩ hok0 ?_ ?_
  · rintro ρ v m hI ⟨rfl, hn, A, rfl, hA⟩ ι w' hm
    refine ⟨ρ, ι, _, ?_, hm, rfl, rfl, rfl, rfl, ?_⟩
    · rw [endV_of rfl]
      simp only [SV.conc, S.conc, addr, i_lit, i_v, hn]
      rfl
    · simp only [cellsOf, List.flatMap_cons, List.flatMap_nil, List.append_nil, Seg.cells, i_v, hn, Int.toNat_natCast]
      exact List.map_congr_left fun j hj => by rw [Nat.zero_add, hA j (List.mem_range.1 hj)]
  · simp only [LT.holds]
    exact ⟨rfl, trivial, 0, fun j => ([] : List Int).getD j 0, rfl, by omega, by omega, fun j => by simp, fun j hj => by omega⟩
  · rintro j h ρ hj hI hz ⟨rfl, i, B, rfl, hi0, hi1, hB, hq⟩
    simp only [cchs, List.getElem?_cons_zero, Option.some.injEq] at hj; subst hj
    refine ⟨hok cch0.H i B (by omega) hB rfl rfl rfl rfl rfl rfl, _, ccsg0, ?_⟩
    simp only [LT.holds]
    refine ⟨fun hc0 => ?_, fun hc0 => ?_⟩
    ·
      simp only [E, cc0, cc1, cc2, cc3, i_v, b_bv, i_lit, b_blit, i_add, i_sub, i_mul, i_div, i_mod, i_tdiv, i_tmod, i_ite, b_ite, b_lt, b_le, b_eq, b_not, b_and, b_or, b_iff, i_sel, a_tab, i_pow2, List.getD_cons_zero, List.getD_cons_succ, decide_eq_true_eq, decide_eq_false_iff_not, Bool.and_eq_true, Bool.or_eq_true, Bool.not_eq_true', Bool.not_eq_false', Bool.and_eq_false_iff, Bool.or_eq_false_iff, Bool.not_not, ite_tt, ite_ff, iff_tt, iff_ff, a_av, a_ite, a_upd] at hc0
      refine ⟨rfl, ⟨trivial, i + 1, fun k => if k = i.toNat then xArr x0 1 0 i.toNat else B k, rfl, by omega, by omega, fun j => ?_, fun j hj => ?_⟩, ?_⟩
      · have := R0 i.toNat; have := hB j
        simp only; split <;> omega
      · simp only
        split
        · rename_i e; rw [e]
        · exact hq j (by omega)
      · show ((x0.n : Int) + 1 - (i + 1)).toNat < ((x0.n : Int) + 1 - i).toNat
        omega
    ·
      simp only [E, cc0, cc1, cc2, cc3, i_v, b_bv, i_lit, b_blit, i_add, i_sub, i_mul, i_div, i_mod, i_tdiv, i_tmod, i_ite, b_ite, b_lt, b_le, b_eq, b_not, b_and, b_or, b_iff, i_sel, a_tab, i_pow2, List.getD_cons_zero, List.getD_cons_succ, decide_eq_true_eq, decide_eq_false_iff_not, Bool.and_eq_true, Bool.or_eq_true, Bool.not_eq_true', Bool.not_eq_false', Bool.and_eq_false_iff, Bool.or_eq_false_iff, Bool.not_not, ite_tt, ite_ff, iff_tt, iff_ff, a_av, a_ite, a_upd] at hc0
      refine ⟨?_, ?_, .av 1, ?_, fun j hj => ?_⟩
      · trivial
      · first | rfl | trivial
      · first | rfl | trivial
      · exact hq j (by omega)
end Go.Proofs.Ytjegnoknenahpaa
