/- Contracts of functions on rows of bytes that laws of this seat call. They are run by symbols (SxA, SxB, SxG, SxC). No condition. -/
import Derived.Test.YtflamojcdfmimaaProg
import Derived.Test.YtflamojcdfmimaaSxC
namespace Go.Proofs.Ytflamojcdfmimaa
open Go.Sx Go.RowKit
set_option linter.unusedVariables false
set_option linter.unusedSimpArgs false
set_option maxRecDepth 100000
noncomputable def S0 : Ctx := inl Try.prog (ctx []) 3000 6 6
noncomputable def S0h : HintCtx := inlH Try.prog (ctx []) 3000 6 6
theorem S0_ok (I : Interp) : CtxOK Try.prog I S0 := inl_ok (ctx_ok (fun p hp => by cases hp)) (by kernel_rfl) 3000 6 6
def csHy : Hyp := ⟨[(.v 0, (0, 9223372036854775807))], [(0, (0, 255))], [], [], [], [(0, ⟨.v 0, [(some .u8, .av 0)], []⟩)]⟩
def csLs : List SV := [.s (.xslc 0 (.lit 0) (.lit 0) (.v 0))]

--SKEND
def cs0 : E := .lt (.v 1) (.v 0)
def cs1 : E := .mul (.v 2) (.lit 31)
def cs2 : E := .sel (.av 0) (.v 1)
def cs3 : E := .add cs1 cs2
def cs4 : E := .add cs3 (.lit 7)
def cs5 : E := .mod cs4 (.lit 4294967296)
def cs6 : E := .add (.v 1) (.lit 1)
noncomputable def csT0 : List Item := seekS Try.prog 15 4
noncomputable def csh0 : Head := ⟨4, csT0, ⟨[((.v 0), (0, 9223372036854775807)), ((.v 1), (0, 9223372036854775807)), ((.v 2), (0, 4294967295))], [(0, (0, 255))], [], [], [], [(0, ⟨(.v 0), [(some .u8, (.av 0))], []⟩)]⟩, [⟨8, [], .s (.int .i64 (.v 1))⟩, ⟨7, [], .s (.int .i64 (.v 0))⟩, ⟨6, [], .s (.xslc 0 (.lit 0) (.lit 0) (.v 0))⟩, ⟨3, [], .s (.int .u32 (.v 2))⟩], []⟩
noncomputable def cshs : List Head := [csh0]
def csD : Dim := ⟨3, 0, 1, 1, 0, 1, 0⟩
theorem csst : startL Try.prog S0 S0h csD cshs [] 3000 0 15 csHy csLs [] = some (.jump 0 csT0 ⟨[(2, (.lit 1)), (1, (.lit 0))], [], []⟩) := by kernel_rfl
theorem cssg0 : segL Try.prog S0 S0h csD cshs [] 3000 0 15 csh0 = some (.ite cs0 (.jump 0 csT0 ⟨[(2, cs5), (1, cs6)], [], []⟩) (.ret (.s (.int .u32 (.v 2))) [])) := by kernel_rfl
theorem csok : SumOK Try.prog 15 := by
  intro x0 w g0
  let I : Interp := Iv (fun i j => match i, j with | 0, 0 => x0 | _, _ => Ext.none)
  have hxs : ∀ i j, (I.xs i j).ok w := fun i j => by rcases i with _ | i <;> rcases j with _ | j <;> first | exact Ext.none_ok _ | exact g0.ok
  let E (i z : Int)  : Env := ⟨[(x0.n : Int), i, z], [], [xArr x0 1 0], [], I⟩
  have L0 := xlen_rng g0
  have R0 : ∀ j, inR (krng .u8) (xArr x0 1 0 j) := xArr_rng g0
  simp only [inR, krng, kmin, kmax] at L0 R0
  have hargs : (csLs.map (SV.conc (E 0 0) Loc.id)).toArray = #[x0.v] := congrArg List.toArray (cons_eq (conc_ext g0 rfl rfl) (rfl))
  rw [← hargs]
  have hX : ∀ (p : Nat × XI), p ∈ [(0, ⟨.v 0, [(some .u8, .av 0)], []⟩)] → ∀ (i z : Int) , XI.ok (E i z ) p.1 p.2 := by
    intro p hp i z 
    simp only [List.mem_cons, List.not_mem_nil, or_false] at hp
    rcases hp with rfl
    · exact xi_ok g0 rfl rfl rfl
  have hok : ∀ (H : Hyp) (i z : Int), 0 ≤ i ∧ i ≤ 9223372036854775807 → 0 ≤ z ∧ z ≤ 4294967295 → H.e = [(.v 0, (0, 9223372036854775807)), (.v 1, (0, 9223372036854775807)), (.v 2, (0, 4294967295))] → H.a = [(0, (0, 255))] → H.fi = [] → H.fa = [] → H.b = [] → H.x = csHy.x → H.ok (E i z) := by
    intro H i z hi hz e1 e2 e3 e4 e5 e6
    refine ⟨?_, ?_, ?_, by simp [e3], by simp [e4], by simp [e5]⟩
    · rw [e6]; exact fun p hp => hX p hp i z
    · rw [e1]; intro p hp
      simp only [List.mem_cons, List.not_mem_nil, or_false] at hp
      rcases hp with rfl | rfl | rfl
      · exact L0
      · exact hi
      · exact hz
    · rw [e2]; intro p hp
      simp only [List.mem_cons, List.not_mem_nil, or_false] at hp
      rcases hp with rfl
      · exact R0
  have hok0 : csHy.ok (E 0 0) := by
    refine ⟨?_, ?_, ?_, by simp [csHy], by simp [csHy], by simp [csHy]⟩
    · exact fun p hp => hX p hp 0 0
    · intro p hp
      simp only [csHy, List.mem_cons, List.not_mem_nil, or_false] at hp
      rcases hp with rfl
      · exact L0
    · intro p hp
      simp only [csHy, List.mem_cons, List.not_mem_nil, or_false] at hp
      rcases hp with rfl
      · exact R0
  refine calls_loops (β := ⟨w, 0, Loc.id⟩) (S0_ok I) (by kernel_rfl) (Nat.zero_le _) (fun k ρ => k = 0 ∧ ∃ i z : Int, ρ = E i z ∧ 0 ≤ i ∧ i ≤ x0.n ∧ z = sumF i.toNat (xArr x0 1 0))
    (fun _ ρ => ((x0.n : Int) + 1 - ρ.i.getD 1 0).toNat) (fun ρ v _ => ∃ e : _root_.Go.Sx.E, v = .s (.int .u32 e) ∧ e.i ρ = sumF x0.n (xArr x0 1 0)) ?_ csst (MRep.empty hxs Loc.id) rfl ⟨rfl, rfl, rfl⟩ hok0 ?_ ?_
  · rintro ρ v m hI ⟨e, rfl, he⟩ ι w' hm
    rw [endV_of rfl]
    exact ⟨by simp only [SV.conc, S.conc, he], hm.below0⟩
  · simp only [LT.holds]
    exact ⟨rfl, trivial, 0, 1, rfl, by omega, by omega, rfl⟩
  · rintro j h ρ hj hI hz ⟨rfl, i, z, rfl, hi0, hi1, hq⟩
    have hzr := sumF_rng i.toNat (xArr x0 1 0)
    rw [← hq] at hzr
    simp only [cshs, List.getElem?_cons_zero, Option.some.injEq] at hj; subst hj
    refine ⟨hok csh0.H i z (by omega) hzr rfl rfl rfl rfl rfl rfl, _, cssg0, ?_⟩
    simp only [LT.holds]
    refine ⟨fun hc0 => ?_, fun hc0 => ?_⟩
    ·
      simp only [E, cs0, cs1, cs2, cs3, cs4, cs5, cs6, i_v, b_bv, i_lit, b_blit, i_add, i_sub, i_mul, i_div, i_mod, i_tdiv, i_tmod, i_ite, b_ite, b_lt, b_le, b_eq, b_not, b_and, b_or, b_iff, i_sel, a_tab, i_pow2, List.getD_cons_zero, List.getD_cons_succ, decide_eq_true_eq, decide_eq_false_iff_not, Bool.and_eq_true, Bool.or_eq_true, Bool.not_eq_true', Bool.not_eq_false', Bool.and_eq_false_iff, Bool.or_eq_false_iff, Bool.not_not, ite_tt, ite_ff, iff_tt, iff_ff, a_av, a_ite, a_upd] at hc0
      have e2 : (i + 1).toNat = i.toNat + 1 := by omega
      refine ⟨rfl, ⟨trivial, i + 1, (z * 31 + xArr x0 1 0 i.toNat + 7) % 4294967296, rfl, by omega, by omega, ?_⟩, ?_⟩
      · rw [e2, sumF_succ, ← hq]
      · show ((x0.n : Int) + 1 - (i + 1)).toNat < ((x0.n : Int) + 1 - i).toNat
        omega
    ·
      simp only [E, cs0, cs1, cs2, cs3, cs4, cs5, cs6, i_v, b_bv, i_lit, b_blit, i_add, i_sub, i_mul, i_div, i_mod, i_tdiv, i_tmod, i_ite, b_ite, b_lt, b_le, b_eq, b_not, b_and, b_or, b_iff, i_sel, a_tab, i_pow2, List.getD_cons_zero, List.getD_cons_succ, decide_eq_true_eq, decide_eq_false_iff_not, Bool.and_eq_true, Bool.or_eq_true, Bool.not_eq_true', Bool.not_eq_false', Bool.and_eq_false_iff, Bool.or_eq_false_iff, Bool.not_not, ite_tt, ite_ff, iff_tt, iff_ff, a_av, a_ite, a_upd] at hc0
      refine ⟨_, rfl, ?_⟩
      have e1 : i.toNat = x0.n := by omega
      rw [e1] at hq
      simp only [E, cs0, cs1, cs2, cs3, cs4, cs5, cs6, i_v, b_bv, i_lit, b_blit, i_add, i_sub, i_mul, i_div, i_mod, i_tdiv, i_tmod, i_ite, b_ite, b_lt, b_le, b_eq, b_not, b_and, b_or, b_iff, i_sel, a_tab, i_pow2, List.getD_cons_zero, List.getD_cons_succ, decide_eq_true_eq, decide_eq_false_iff_not, Bool.and_eq_true, Bool.or_eq_true, Bool.not_eq_true', Bool.not_eq_false', Bool.and_eq_false_iff, Bool.or_eq_false_iff, Bool.not_not, ite_tt, ite_ff, iff_tt, iff_ff, a_av, a_ite, a_upd]
      rw [← hq]; try omega
def ccHy : Hyp := ⟨[(.v 0, (0, 67108864))], [(0, (0, 255))], [], [], [], [(0, ⟨.v 0, [(some .u8, .av 0)], []⟩)]⟩
def ccLs : List SV := [.s (.xslc 0 (.lit 0) (.lit 0) (.v 0))]

--SKEND
def cc0 : E := .lt (.v 1) (.v 0)
def cc1 : E := .add (.v 1) (.lit 1)
def cc2 : E := .sel (.av 0) (.v 1)
def cc3 : E := .upd (.av 1) (.v 1) cc2
noncomputable def ccT0 : List Item := seekS Try.prog 19 4
noncomputable def cch0 : Head := ⟨4, ccT0, ⟨[((.v 0), (0, 67108864)), ((.v 1), (0, 67108864))], [(0, (0, 255)), (1, (0, 255))], [], [], [], [(0, ⟨(.v 0), [(some .u8, (.av 0))], []⟩)]⟩, [⟨4, [], .s (.int .i64 (.v 1))⟩, ⟨3, [], .s (.slc 0 (.lit 0) (.v 0) (.kn (.v 0)))⟩, ⟨0, [], .s (.xslc 0 (.lit 0) (.lit 0) (.v 0))⟩], [⟨5, [.run .u8 (.v 0) (.av 1) 0], true, none, false⟩]⟩
noncomputable def cchs : List Head := [cch0]
def ccD : Dim := ⟨2, 0, 2, 1, 0, 1, 0⟩
theorem ccst : startL Try.prog S0 S0h ccD cchs [] 3000 0 19 ccHy ccLs [] = some (.jump 0 ccT0 ⟨[(1, (.lit 0))], [], [(1, (.tab []))]⟩) := by kernel_rfl
theorem ccsg0 : segL Try.prog S0 S0h ccD cchs [] 3000 0 19 cch0 = some (.ite cc0 (.jump 0 ccT0 ⟨[(1, cc1)], [], [(1, cc3)]⟩) (.ret (.s (.slc 0 (.lit 0) (.v 0) (.kn (.v 0)))) [⟨5, [.run .u8 (.v 0) (.av 1) 0], true, none, false⟩])) := by kernel_rfl
theorem ccok : CopyOK Try.prog 19 5 := by
  intro x0 w g0 hlen
  let I : Interp := Iv (fun i j => match i, j with | 0, 0 => x0 | _, _ => Ext.none)
  have hxs : ∀ i j, (I.xs i j).ok w := fun i j => by rcases i with _ | i <;> rcases j with _ | j <;> first | exact Ext.none_ok _ | exact g0.ok
  let E (i : Int) (B : Nat → Int) : Env := ⟨[(x0.n : Int), i], [], [xArr x0 1 0, B], [], I⟩
  have L0 := xlen_rng g0
  have R0 : ∀ j, inR (krng .u8) (xArr x0 1 0 j) := xArr_rng g0
  simp only [inR, krng, kmin, kmax] at L0 R0
  have hargs : (ccLs.map (SV.conc (E 0 (fun _ => 0)) Loc.id)).toArray = #[x0.v] := congrArg List.toArray (cons_eq (conc_ext g0 rfl rfl) (rfl))
  rw [← hargs]
  have hX : ∀ (p : Nat × XI), p ∈ [(0, ⟨.v 0, [(some .u8, .av 0)], []⟩)] → ∀ (i : Int) (B : Nat → Int), XI.ok (E i B) p.1 p.2 := by
    intro p hp i B
    simp only [List.mem_cons, List.not_mem_nil, or_false] at hp
    rcases hp with rfl
    · exact xi_ok g0 rfl rfl rfl
  have hok : ∀ (H : Hyp) (i : Int) (B : Nat → Int), 0 ≤ i ∧ i ≤ 67108864 → (∀ j, 0 ≤ B j ∧ B j ≤ 255) → H.e = [(.v 0, (0, 67108864)), (.v 1, (0, 67108864))] → H.a = [(0, (0, 255)), (1, (0, 255))] → H.fi = [] → H.fa = [] → H.b = [] → H.x = ccHy.x → H.ok (E i B) := by
    intro H i B hi hB e1 e2 e3 e4 e5 e6
    refine ⟨?_, ?_, ?_, by simp [e3], by simp [e4], by simp [e5]⟩
    · rw [e6]; exact fun p hp => hX p hp i B
    · rw [e1]; intro p hp
      simp only [List.mem_cons, List.not_mem_nil, or_false] at hp
      rcases hp with rfl | rfl
      · simp only [inR]; exact ⟨L0.1, by show (x0.n : Int) ≤ _; omega⟩
      · exact hi
    · rw [e2]; intro p hp
      simp only [List.mem_cons, List.not_mem_nil, or_false] at hp
      rcases hp with rfl | rfl
      · exact R0
      · exact hB
  have hok0 : ccHy.ok (E 0 fun _ => 0) := by
    refine ⟨?_, ?_, ?_, by simp [ccHy], by simp [ccHy], by simp [ccHy]⟩
    · exact fun p hp => hX p hp 0 fun _ => 0
    · intro p hp
      simp only [ccHy, List.mem_cons, List.not_mem_nil, or_false] at hp
      rcases hp with rfl
      · simp only [inR]; exact ⟨L0.1, by show (x0.n : Int) ≤ _; omega⟩
    · intro p hp
      simp only [ccHy, List.mem_cons, List.not_mem_nil, or_false] at hp
      rcases hp with rfl
      · exact R0
  refine calls_loops (β := ⟨w, 0, Loc.id⟩) (S0_ok I) (by kernel_rfl) (Nat.zero_le _) (fun k ρ => k = 0 ∧ ∃ (i : Int) (B : Nat → Int), ρ = E i B ∧ 0 ≤ i ∧ i ≤ x0.n ∧ (∀ j, 0 ≤ B j ∧ B j ≤ 255) ∧ ∀ j : Nat, (j : Int) < i → B j = xArr x0 1 0 j)
    (fun _ ρ => ((x0.n : Int) + 1 - ρ.i.getD 1 0).toNat) (fun ρ v m => v = .s (.slc 0 (.lit 0) (.v 0) (.kn (.v 0))) ∧ ρ.i.getD 0 0 = x0.n ∧ ∃ A : _root_.Go.Sx.E, m = [⟨5, [.run .u8 (.v 0) A 0], true, none, false⟩] ∧ ∀ j : Nat, j < x0.n → A.a ρ j = xArr x0 1 0 j) ?_ ccst (MRep.empty hxs Loc.id) rfl ⟨rfl, rfl, rfl⟩ hok0 ?_ ?_
  · rintro ρ v m hI ⟨rfl, hn, A, rfl, hA⟩ ι w' hm
    refine ⟨ρ, ι, _, ?_, hm, rfl, rfl, rfl, rfl, ?_⟩
    · rw [endV_of rfl]
      simp only [SV.conc, S.conc, addr, i_lit, i_v, hn]
      rfl
    · simp only [cellsOf, List.flatMap_cons, List.flatMap_nil, List.append_nil, Seg.cells, i_v, hn, Int.toNat_natCast]
      exact List.map_congr_left fun j hj => by rw [Nat.zero_add, hA j (List.mem_range.1 hj)]
  · simp only [LT.holds]
    exact ⟨rfl, trivial, 0, fun j => ([] : List Int).getD j 0, rfl, by omega, by omega, fun j => by simp, fun j hj => by omega⟩
  · rintro j h ρ hj hI hz ⟨rfl, i, B, rfl, hi0, hi1, hB, hq⟩
    simp only [cchs, List.getElem?_cons_zero, Option.some.injEq] at hj; subst hj
    refine ⟨hok cch0.H i B (by omega) hB rfl rfl rfl rfl rfl rfl, _, ccsg0, ?_⟩
    simp only [LT.holds]
    refine ⟨fun hc0 => ?_, fun hc0 => ?_⟩
    ·
      simp only [E, cc0, cc1, cc2, cc3, i_v, b_bv, i_lit, b_blit, i_add, i_sub, i_mul, i_div, i_mod, i_tdiv, i_tmod, i_ite, b_ite, b_lt, b_le, b_eq, b_not, b_and, b_or, b_iff, i_sel, a_tab, i_pow2, List.getD_cons_zero, List.getD_cons_succ, decide_eq_true_eq, decide_eq_false_iff_not, Bool.and_eq_true, Bool.or_eq_true, Bool.not_eq_true', Bool.not_eq_false', Bool.and_eq_false_iff, Bool.or_eq_false_iff, Bool.not_not, ite_tt, ite_ff, iff_tt, iff_ff, a_av, a_ite, a_upd] at hc0
      refine ⟨rfl, ⟨trivial, i + 1, fun k => if k = i.toNat then xArr x0 1 0 i.toNat else B k, rfl, by omega, by omega, fun j => ?_, fun j hj => ?_⟩, ?_⟩
      · have := R0 i.toNat; have := hB j
        simp only; split <;> omega
      · simp only
        split
        · rename_i e; rw [e]
        · exact hq j (by omega)
      · show ((x0.n : Int) + 1 - (i + 1)).toNat < ((x0.n : Int) + 1 - i).toNat
        omega
    ·
      simp only [E, cc0, cc1, cc2, cc3, i_v, b_bv, i_lit, b_blit, i_add, i_sub, i_mul, i_div, i_mod, i_tdiv, i_tmod, i_ite, b_ite, b_lt, b_le, b_eq, b_not, b_and, b_or, b_iff, i_sel, a_tab, i_pow2, List.getD_cons_zero, List.getD_cons_succ, decide_eq_true_eq, decide_eq_false_iff_not, Bool.and_eq_true, Bool.or_eq_true, Bool.not_eq_true', Bool.not_eq_false', Bool.and_eq_false_iff, Bool.or_eq_false_iff, Bool.not_not, ite_tt, ite_ff, iff_tt, iff_ff, a_av, a_ite, a_upd] at hc0
      refine ⟨?_, ?_, .av 1, ?_, fun j hj => ?_⟩
      · trivial
      · first | rfl | trivial
      · first | rfl | trivial
      · exact hq j (by omega)
def cpHy : Hyp := ⟨[(.v 0, (0, 9223372036854775807)), (.v 1, (0, 9223372036854775807)), (.v 2, (1, 9223372036854775807))], [(0, (0, 255))], [], [], [], []⟩
def cpLs : List SV := [.s (.slc 0 (.v 1) (.v 2) (.kn (.v 3)))]
def cpM (g : Option Nat) : Mem := [⟨5, [.run .u8 (.v 0) (.av 0) 0], true, g, false⟩]

--SKEND
def cp0 : E := .lt (.v 4) (.v 2)
def cp1 : E := .add (.v 1) (.v 4)
def cp2 : E := .lt cp1 (.v 0)
def cp3 : E := .add (.v 4) (.lit 1)
def cp4 : E := .sel (.av 1) cp1
def cp5 : E := .bits .xor .u8 cp4 (.lit 90)
def cp6 : E := .upd (.av 1) cp1 cp5
noncomputable def cpT0 (g : Option Nat) : List Item := seekS Try.prog 14 2
noncomputable def cph0 (g : Option Nat) : Head := ⟨2, (cpT0 g), ⟨[((.v 0), (0, 9223372036854775807)), ((.v 1), (0, 9223372036854775807)), ((.v 2), (1, 9223372036854775807)), ((.v 4), (0, 9223372036854775807))], [(0, (0, 255)), (1, (0, 255))], [], [], [], []⟩, [⟨2, [], .s (.int .i64 (.v 4))⟩, ⟨0, [], .s (.slc 0 (.v 1) (.v 2) (.kn (.v 3)))⟩], [⟨5, [.run .u8 (.v 0) (.av 1) 0], true, g, false⟩]⟩
noncomputable def cphs (g : Option Nat) : List Head := [(cph0 g)]
def cpD : Dim := ⟨5, 0, 2, 4, 0, 1, 1⟩
theorem cpstn : startL Try.prog S0 S0h cpD (cphs none) [] 3000 0 14 cpHy cpLs (cpM none) = some (.jump 0 (cpT0 none) ⟨[(4, (.lit 0))], [], [(1, (.av 0))]⟩) := by kernel_rfl
theorem cpsg0n : segL Try.prog S0 S0h cpD (cphs none) [] 3000 0 14 (cph0 none) = some (.ite cp0 (.need cp2 (.jump 0 (cpT0 none) ⟨[(4, cp3)], [], [(1, cp6)]⟩)) (.ret (.tup []) [⟨5, [.run .u8 (.v 0) (.av 1) 0], true, none, false⟩])) := by kernel_rfl
theorem cpsts : startL Try.prog S0 S0h cpD (cphs (some 1)) [] 3000 0 14 cpHy cpLs (cpM (some 1)) = some (.jump 0 (cpT0 (some 1)) ⟨[(4, (.lit 0))], [], [(1, (.av 0))]⟩) := by kernel_rfl
theorem cpsg0s : segL Try.prog S0 S0h cpD (cphs (some 1)) [] 3000 0 14 (cph0 (some 1)) = some (.ite cp0 (.need cp2 (.jump 0 (cpT0 (some 1)) ⟨[(4, cp3)], [], [(1, cp6)]⟩)) (.ret (.tup []) [⟨5, [.run .u8 (.v 0) (.av 1) 0], true, some 1, false⟩])) := by kernel_rfl
def cp0H : Hyp := ⟨[], [], [], [], [], []⟩
def cp0L : List SV := [.s (.xslc 0 (.lit 0) (.lit 0) (.lit 0))]
theorem cp0run : enter Try.prog S0 S0h 3000 6 14 cp0H cp0L [] = some ([], .tup [], none) := by kernel_rfl
theorem cpok : SpoilOK Try.prog 14 5 := by
  refine ⟨fun w base C hb => ?_, fun ρ ι B w o n C hm hty hwr hd hg hcells hon hmax hn => ?_⟩
  · let x : Ext := ⟨.slice base 0 C, 0, 1, fun _ => Go.undef⟩
    let I : Interp := Iv (fun i j => match i, j with | 0, 0 => x | _, _ => Ext.none)
    have hx : x.ok w := ⟨base, C, rfl, Nat.zero_le _, fun h => ⟨rfl, hb h⟩, fun a _ k hk => by simp [x] at hk⟩
    have hxs : ∀ i j, (I.xs i j).ok w := fun i j => by rcases i with _ | i <;> rcases j with _ | j <;> first | exact Ext.none_ok _ | exact hx
    let E : Env := ⟨[], [], [], [], I⟩
    have hok : cp0H.ok E := by refine ⟨?_, ?_, ?_, ?_, ?_, ?_⟩ <;> simp [cp0H]
    have hc := (enter_ok (P := Try.prog) (I := I) (f := 14) (hc' := S0h) (S0_ok I) (by kernel_rfl) 3000 6).ok cp0H cp0L [] [] (.tup []) none cp0run E ⟨w, 0, Loc.id⟩ Loc.id w rfl hok (fun e he => by cases he) (MRep.empty hxs Loc.id)
    have hargs : (cp0L.map (SV.conc E Loc.id)).toArray = #[.slice base 0 C] := by
      have : SV.conc E Loc.id (.s (.xslc 0 (.lit 0) (.lit 0) (.lit 0))) = .slice base 0 C := by
        simp only [SV.conc, S.conc, i_lit, Int.toNat_zero, Ext.sub, E, I, Iv, x, Nat.zero_mul, Nat.sub_zero]
        congr 1
        cases base <;> simp [Addr.add]
      exact congrArg List.toArray (cons_eq this rfl)
    rw [hargs] at hc
    exact hc.mono fun e w' ⟨h1, h2⟩ => ⟨by rw [h1, endV_of rfl]; rfl, h2.below0⟩
  · obtain ⟨g, hgg, hst, hsg⟩ : ∃ g, B.grow = g ∧ (startL Try.prog S0 S0h cpD (cphs g) [] 3000 0 14 cpHy cpLs (cpM g) = some (.jump 0 (cpT0 g) ⟨[(4, (.lit 0))], [], [(1, (.av 0))]⟩)) ∧ (segL Try.prog S0 S0h cpD (cphs g) [] 3000 0 14 (cph0 g) = some (.ite cp0 (.need cp2 (.jump 0 (cpT0 g) ⟨[(4, cp3)], [], [(1, cp6)]⟩)) (.ret (.tup []) [⟨5, [.run .u8 (.v 0) (.av 1) 0], true, g, false⟩]))) := by
      rcases hg with hg | hg
      · exact ⟨none, hg, cpstn, cpsg0n⟩
      · exact ⟨some 1, hg, cpsts, cpsg0s⟩
    let N := (cellsOf ρ ι B.segs).length
    let A0 : Nat → Int := fun j => numV (((cellsOf ρ ι B.segs)[j]?).getD Go.undef)
    let E (i : Int) (A : Nat → Int) : Env := ⟨[(N : Int), (o : Int), (n : Int), (C : Int), i], [], [A0, A], [], ρ.I⟩
    have hN : (N : Int) ≤ 9223372036854775807 := by have : N ≤ maxLen := hmax; have h2 : maxLen ≤ 9223372036854775807 := by decide
                                                    omega
    have hoN : o + n ≤ N := hon
    have hA0 : ∀ j, 0 ≤ A0 j ∧ A0 j ≤ 255 := fun j => by
      show 0 ≤ numV (((cellsOf ρ ι B.segs)[j]?).getD Go.undef) ∧ numV (((cellsOf ρ ι B.segs)[j]?).getD Go.undef) ≤ 255
      cases hj : (cellsOf ρ ι B.segs)[j]? with
      | none => simp [numV, Go.undef]
      | some v =>
        obtain ⟨z, rfl, hz⟩ := hcells v (List.mem_of_getElem? hj)
        simpa [numV, inR, krng, kmin, kmax] using hz
    have hce : ∀ i A, cellsOf (E i A) ι [Seg.run .u8 (.v 0) (.av 0) 0] = cellsOf ρ ι B.segs := fun i A => by
      simp only [cellsOf, List.flatMap_cons, List.flatMap_nil, List.append_nil, Seg.cells]
      apply List.ext_getElem?
      intro j
      rw [List.getElem?_map]
      show Option.map _ (List.range ((_root_.Go.Sx.E.i (E i A) (.v 0))).toNat)[j]? = _
      rw [show (_root_.Go.Sx.E.i (E i A) (.v 0)).toNat = N by simp [E, i_v]]
      by_cases hj : j < N
      · rw [List.getElem?_range hj, Option.map_some]
        have hj' : j < (cellsOf ρ ι B.segs).length := hj
        obtain ⟨z, hz, _⟩ := hcells _ (List.getElem_mem hj')
        have e1 : A0 j = z := by
          show numV (((cellsOf ρ ι B.segs)[j]?).getD Go.undef) = z
          rw [List.getElem?_eq_getElem hj', hz]; rfl
        have e2 : _root_.Go.Sx.E.a (E i A) (.av 0) (0 + j) = z := by rw [Nat.zero_add, ← e1]; rfl
        have hgoal : (List.flatMap (Seg.cells ρ ι) B.segs)[j]? = some (Value.int .u8 z) := by
          rw [show List.flatMap (Seg.cells ρ ι) B.segs = cellsOf ρ ι B.segs from rfl, List.getElem?_eq_getElem hj', hz]
        rw [hgoal, e2]
      · have hj' : (cellsOf ρ ι B.segs).length ≤ j := Nat.le_of_not_lt hj
        rw [show List.flatMap (Seg.cells ρ ι) B.segs = cellsOf ρ ι B.segs from rfl, List.getElem?_eq_none hj', List.getElem?_eq_none (by simpa using Nat.le_of_not_lt hj)]; rfl
    have hm0 : MRep (E 0 fun _ => 0) ⟨w, 1, ι⟩ ι (cpM g) w := hm.recell1 rfl (hce 0 _) hty.symm hwr.symm hgg.symm hd.symm
    have hargs : (cpLs.map (SV.conc (E 0 fun _ => 0) ι)).toArray = #[.slice (some ⟨ι 0, o, none⟩) n C] := by
      refine congrArg List.toArray (cons_eq ?_ rfl)
      simp [SV.conc, S.conc, addr, E, i_v]
    rw [← hargs]
    have hok : ∀ (H : Hyp) (i : Int) (A : Nat → Int), 0 ≤ i ∧ i ≤ 9223372036854775807 → (∀ j, 0 ≤ A j ∧ A j ≤ 255) → H.e = [(.v 0, (0, 9223372036854775807)), (.v 1, (0, 9223372036854775807)), (.v 2, (1, 9223372036854775807)), (.v 4, (0, 9223372036854775807))] → H.a = [(0, (0, 255)), (1, (0, 255))] → H.fi = [] → H.fa = [] → H.b = [] → H.x = [] → H.ok (E i A) := by
      intro H i A hi hA e1 e2 e3 e4 e5 e6
      refine ⟨by simp [e6], ?_, ?_, by simp [e3], by simp [e4], by simp [e5]⟩
      · rw [e1]; intro p hp
        simp only [List.mem_cons, List.not_mem_nil, or_false] at hp
        rcases hp with rfl | rfl | rfl | rfl <;> simp only [inR, i_v, E, List.getD_cons_zero, List.getD_cons_succ] <;> omega
      · rw [e2]; intro p hp
        simp only [List.mem_cons, List.not_mem_nil, or_false] at hp
        rcases hp with rfl | rfl
        · exact hA0
        · exact hA
    have hok0 : cpHy.ok (E 0 fun _ => 0) := by
      refine ⟨by simp [cpHy], ?_, ?_, by simp [cpHy], by simp [cpHy], by simp [cpHy]⟩
      · intro p hp
        simp only [cpHy, List.mem_cons, List.not_mem_nil, or_false] at hp
        rcases hp with rfl | rfl | rfl <;> simp only [inR, i_v, E, List.getD_cons_zero, List.getD_cons_succ] <;> omega
      · intro p hp
        simp only [cpHy, List.mem_cons, List.not_mem_nil, or_false] at hp
        rcases hp with rfl
        exact hA0
    refine calls_loops (β := ⟨w, 1, ι⟩) (S0_ok ρ.I) (by kernel_rfl) (Nat.le_refl _) (fun k ρ' => k = 0 ∧ ∃ (i : Int) (A : Nat → Int), ρ' = E i A ∧ 0 ≤ i ∧ i ≤ n ∧ ∀ j, 0 ≤ A j ∧ A j ≤ 255)
      (fun _ ρ => ((n : Int) + 1 - ρ.i.getD 4 0).toNat) (fun _ v m => v = .tup [] ∧ m.length = 1) ?_ hst hm0 rfl ⟨rfl, rfl, rfl⟩ hok0 ?_ ?_
    · rintro ρ' v m hI ⟨rfl, hl⟩ ι' w' hm'
      obtain ⟨B', rfl⟩ : ∃ B', m = [B'] := by
        match m, hl with
        | [B'], _ => exact ⟨B', rfl⟩
      exact ⟨by rw [endV_of rfl]; rfl, ρ', ι', B', hm'⟩
    · simp only [LT.holds]
      exact ⟨rfl, trivial, 0, A0, rfl, by omega, by omega, hA0⟩
    · rintro j h ρ' hj hI hz ⟨rfl, i, A, rfl, hi0, hi1, hA⟩
      simp only [cphs, List.getElem?_cons_zero, Option.some.injEq] at hj; subst hj
      refine ⟨hok (cph0 g).H i A (by omega) hA rfl rfl rfl rfl rfl rfl, _, hsg, ?_⟩
      simp only [LT.holds]
      refine ⟨fun hc0 => ?_, fun hc0 => ?_⟩
      ·
        refine ⟨?_, fun hc1 => ?_⟩
        ·
          simp only [E, cp0, cp1, cp2, cp3, cp4, cp5, cp6, i_v, b_bv, i_lit, b_blit, i_add, i_sub, i_mul, i_div, i_mod, i_tdiv, i_tmod, i_ite, b_ite, b_lt, b_le, b_eq, b_not, b_and, b_or, b_iff, i_sel, a_tab, i_pow2, List.getD_cons_zero, List.getD_cons_succ, decide_eq_true_eq, decide_eq_false_iff_not, Bool.and_eq_true, Bool.or_eq_true, Bool.not_eq_true', Bool.not_eq_false', Bool.and_eq_false_iff, Bool.or_eq_false_iff, Bool.not_not, ite_tt, ite_ff, iff_tt, iff_ff, a_av, a_ite, a_upd] at hc0 ⊢
          omega
        simp only [E, cp0, cp1, cp2, cp3, cp4, cp5, cp6, i_v, b_bv, i_lit, b_blit, i_add, i_sub, i_mul, i_div, i_mod, i_tdiv, i_tmod, i_ite, b_ite, b_lt, b_le, b_eq, b_not, b_and, b_or, b_iff, i_sel, a_tab, i_pow2, List.getD_cons_zero, List.getD_cons_succ, decide_eq_true_eq, decide_eq_false_iff_not, Bool.and_eq_true, Bool.or_eq_true, Bool.not_eq_true', Bool.not_eq_false', Bool.and_eq_false_iff, Bool.or_eq_false_iff, Bool.not_not, ite_tt, ite_ff, iff_tt, iff_ff, a_av, a_ite, a_upd] at hc0 hc1
        refine ⟨rfl, ⟨trivial, i + 1, _, rfl, by omega, by omega, fun j => ?_⟩, ?_⟩
        · have hb : ∀ x y : Int, 0 ≤ bitsInt .xor .u8 x y ∧ bitsInt .xor .u8 x y ≤ 255 := fun x y => by
            simp only [bitsInt, IntKind.wrap, IntKind.bits, IntKind.signed]
            simp
            omega
          have key : ∀ (c : Prop) [Decidable c] (x y : Int), (0 ≤ x ∧ x ≤ 255) → (0 ≤ y ∧ y ≤ 255) → 0 ≤ (if c then x else y) ∧ (if c then x else y) ≤ 255 := fun c _ x y h1 h2 => by split <;> assumption
          exact key _ _ _ (hb _ _) (hA j)
        · show ((n : Int) + 1 - (i + 1)).toNat < ((n : Int) + 1 - i).toNat
          omega
      ·
        exact ⟨by trivial, rfl⟩
end Go.Proofs.Ytflamojcdfmimaa
