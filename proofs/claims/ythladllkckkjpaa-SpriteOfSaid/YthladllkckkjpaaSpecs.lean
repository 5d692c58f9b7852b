/- Contracts of functions that laws of this seat call. They are run by symbols (SxA, SxB, SxC). No condition. -/
import Derived.Test.YthladllkckkjpaaProg
import Derived.Test.YthladllkckkjpaaSxC
namespace Go.Proofs.Ythladllkckkjpaa
open Go.Sx Go.RowKit
set_option linter.unusedVariables false
set_option linter.unusedSimpArgs false
set_option maxRecDepth 100000
noncomputable def S0 : Ctx := inl Try.prog (ctx []) 3000 6 5
noncomputable def S0h : HintCtx := inlH Try.prog (ctx []) 3000 6 5
theorem S0_ok (I : Interp) : CtxOK Try.prog I S0 := inl_ok (ctx_ok (fun p hp => by cases hp)) (by kernel_rfl) 3000 6 5
def btHy : Hyp := ⟨[(.v 0, (0, 9223372036854775807)), (.v 1, (0, 62))], [], [], [], [], []⟩
def btLs : List SV := [.s (.int .i64 (.v 0)), .s (.int .i64 (.v 1))]
def bt0 : E := .lt (.v 2) (.v 1)
def bt1 : E := .div (.v 3) (.lit 2)
def bt2 : E := .add (.v 2) (.lit 1)
def bt3 : E := .mod (.v 3) (.lit 2)
noncomputable def btT0 : List Item := todoS Try.prog S0 S0h [] 3000 0 36 btHy btLs [] 3
noncomputable def bth0 : Head := ⟨3, btT0, ⟨[((.v 0), (0, 9223372036854775807)), ((.v 1), (0, 62)), ((.v 2), (0, 62)), ((.v 3), (0, 9223372036854775807))], [], [], [], [], []⟩, [⟨5, [], .s (.int .i64 (.v 2))⟩, ⟨0, [], .s (.int .i64 (.v 3))⟩, ⟨1, [], .s (.int .i64 (.v 1))⟩], []⟩
noncomputable def bths : List Head := [bth0]
def btD : Dim := ⟨4, 0, 0, 2, 0, 0, 0⟩
theorem btst : startL Try.prog S0 S0h btD bths [] 3000 0 36 btHy btLs [] = some (.jump 0 btT0 ⟨[(3, (.v 0)), (2, (.lit 0))], [], []⟩) := by kernel_rfl
theorem btsg0 : segL Try.prog S0 S0h btD bths [] 3000 0 36 bth0 = some (.ite bt0 (.jump 0 btT0 ⟨[(3, bt1), (2, bt2)], [], []⟩) (.ret (.s (.int .i64 bt3)) [])) := by kernel_rfl
def btInv (I : Interp) (X n : Int) : Nat → Env → Prop := fun _ ρ => ∃ i y, ρ = (⟨[X, n, i, y], [], [], [], I⟩ : Env) ∧ (0 ≤ i ∧ i ≤ n) ∧ (0 ≤ y ∧ y ≤ 9223372036854775807) ∧ y = X / 2 ^ i.toNat
def btmu : Nat → Env → Nat := fun _ ρ => (63 - ρ.i.getD 2 0).toNat
theorem btvc0 (I : Interp) (X n i y : Int) (h0 : 0 ≤ X ∧ X ≤ 9223372036854775807) (h1 : 0 ≤ n ∧ n ≤ 62) (r : 0 ≤ i ∧ i ≤ n) (q : 0 ≤ y ∧ y ≤ 9223372036854775807) (hy : y = X / 2 ^ i.toNat) :
    LT.holds (⟨[X, n, i, y], [], [], [], I⟩ : Env) (fun v m => (∃ e, v = .s (.int .i64 e) ∧ E.i (⟨[X, n, i, y], [], [], [], I⟩ : Env) e = X / 2 ^ n.toNat % 2) ∧ m = []) (fun j' todo ρ' => (bths[j']?.map (·.todo)) = some todo ∧ btInv I X n j' ρ' ∧ btmu j' ρ' < btmu 0 (⟨[X, n, i, y], [], [], [], I⟩ : Env)) (.ite bt0 (.jump 0 btT0 ⟨[(3, bt1), (2, bt2)], [], []⟩) (.ret (.s (.int .i64 bt3)) [])) := by
  simp only [LT.holds]
  refine ⟨fun hc => ?_, fun hc => ?_⟩
  · simp only [bt0, bt1, bt2, bt3, i_v, b_bv, i_lit, b_blit, i_add, i_sub, i_mul, i_div, i_mod, i_tdiv, i_tmod, i_ite, b_ite, b_lt, b_le, b_eq, b_not, b_and, b_or, b_iff, i_sel, a_tab, i_pow2, List.getD_cons_zero, List.getD_cons_succ, decide_eq_true_eq, decide_eq_false_iff_not, Bool.and_eq_true, Bool.or_eq_true, Bool.not_eq_true', Bool.not_eq_false', Bool.and_eq_false_iff, Bool.or_eq_false_iff, Bool.not_not, ite_tt, ite_ff, iff_tt, iff_ff, a_av, a_ite, a_upd] at hc
    refine ⟨rfl, ⟨i + 1, y / 2, rfl, by omega, by omega, ?_⟩, ?_⟩
    · rw [hy, show (i + 1).toNat = i.toNat + 1 by omega, Int.pow_succ, Int.ediv_ediv_of_nonneg (Int.le_of_lt (Int.pow_pos (by omega)))]
    · simp only [btmu, Env.app, setAll, List.map_cons, List.map_nil, List.set, List.getD_cons_zero, List.getD_cons_succ, bt0, bt1, bt2, bt3, i_v, b_bv, i_lit, b_blit, i_add, i_sub, i_mul, i_div, i_mod, i_tdiv, i_tmod, i_ite, b_ite, b_lt, b_le, b_eq, b_not, b_and, b_or, b_iff, i_sel, a_tab, i_pow2, List.getD_cons_zero, List.getD_cons_succ, decide_eq_true_eq, decide_eq_false_iff_not, Bool.and_eq_true, Bool.or_eq_true, Bool.not_eq_true', Bool.not_eq_false', Bool.and_eq_false_iff, Bool.or_eq_false_iff, Bool.not_not, ite_tt, ite_ff, iff_tt, iff_ff, a_av, a_ite, a_upd]
      omega
  · simp only [bt0, bt1, bt2, bt3, i_v, b_bv, i_lit, b_blit, i_add, i_sub, i_mul, i_div, i_mod, i_tdiv, i_tmod, i_ite, b_ite, b_lt, b_le, b_eq, b_not, b_and, b_or, b_iff, i_sel, a_tab, i_pow2, List.getD_cons_zero, List.getD_cons_succ, decide_eq_true_eq, decide_eq_false_iff_not, Bool.and_eq_true, Bool.or_eq_true, Bool.not_eq_true', Bool.not_eq_false', Bool.and_eq_false_iff, Bool.or_eq_false_iff, Bool.not_not, ite_tt, ite_ff, iff_tt, iff_ff, a_av, a_ite, a_upd] at hc
    have : i = n := by omega
    subst this; subst hy
    first | exact ⟨⟨_, rfl, rfl⟩, rfl⟩ | exact ⟨⟨_, rfl, rfl⟩, trivial⟩
theorem btvcS (I : Interp) (X n : Int) (h0 : 0 ≤ X ∧ X ≤ 9223372036854775807) (h1 : 0 ≤ n ∧ n ≤ 62) :
    LT.holds (⟨[X, n, 0, 0], [], [], [], I⟩ : Env) (fun v m => (∃ e, v = .s (.int .i64 e) ∧ E.i (⟨[X, n, 0, 0], [], [], [], I⟩ : Env) e = X / 2 ^ n.toNat % 2) ∧ m = []) (fun j' todo ρ' => (bths[j']?.map (·.todo)) = some todo ∧ btInv I X n j' ρ') (.jump 0 btT0 ⟨[(3, (.v 0)), (2, (.lit 0))], [], []⟩) := by
  simp only [LT.holds]
  exact ⟨rfl, 0, X, rfl, by omega, h0, by simp⟩
theorem btpure : PureOK Try.prog 36 [.i64, .i64] .i64 (fun zs => 0 ≤ zs.getD 0 0 ∧ 0 ≤ zs.getD 1 0 ∧ zs.getD 1 0 ≤ 62) (fun zs => zs.getD 0 0 / 2 ^ (zs.getD 1 0).toNat % 2) := by
  intro zs w hf hD
  rcases zs with _ | ⟨X, _ | ⟨n, _ | ⟨c, zs⟩⟩⟩
  · simp [fitsI] at hf
  · simp [fitsI] at hf
  · simp only [List.getD_cons_zero, List.getD_cons_succ] at hD
    have hX := hf.1
    simp only [inR, krng, kmin, kmax] at hX
    let I : Interp := Iv (fun _ _ => Ext.none)
    have hx : ∀ i j, (I.xs i j).ok w := fun i j => Ext.none_ok _
    have h0 : 0 ≤ X ∧ X ≤ 9223372036854775807 := by omega
    have h1 : 0 ≤ n ∧ n ≤ 62 := by omega
    have hH : Hyp.ok btHy (⟨[X, n, 0, 0], [], [], [], I⟩ : Env) := by
      refine ⟨by simp [btHy], ?_, by simp [btHy], by simp [btHy], by simp [btHy], by simp [btHy]⟩
      intro p hp
      simp only [btHy, List.mem_cons, List.not_mem_nil, or_false] at hp
      rcases hp with rfl | rfl
      · exact h0
      · exact h1
    have hargs : (btLs.map (SV.conc (⟨[X, n, 0, 0], [], [], [], I⟩ : Env) Loc.id)).toArray = (intVals [.i64, .i64] [X, n]).toArray := rfl
    rw [← hargs]
    refine calls_loops (ρ := ⟨[X, n, 0, 0], [], [], [], I⟩) (β := ⟨w, 0, Loc.id⟩) (S0_ok I) (by kernel_rfl) (Nat.zero_le _) (btInv I X n) btmu (fun ρ v m => (∃ e, v = .s (.int .i64 e) ∧ E.i ρ e = X / 2 ^ n.toNat % 2) ∧ m = []) ?_ btst (MRep.empty hx Loc.id) rfl ⟨rfl, rfl, rfl⟩ hH (btvcS I X n h0 h1) ?_
    · rintro ρ v m hI ⟨⟨e, rfl, he⟩, rfl⟩ ι w' hm
      refine ⟨?_, hm.below0⟩
      simp only [SV.conc, S.conc, he]
      rfl
    · intro j h ρ hj hI hz hInv
      obtain ⟨i, y, rfl, r, q, hy⟩ := hInv
      rcases j with _ | j
      · simp only [bths, List.getElem?_cons_zero, Option.some.injEq] at hj; subst hj
        refine ⟨?_, _, btsg0, btvc0 I X n i y h0 h1 r q hy⟩
        refine ⟨by simp [bth0], ?_, by simp [bth0], by simp [bth0], by simp [bth0], by simp [bth0]⟩
        intro p hp
        simp only [bth0, List.mem_cons, List.not_mem_nil, or_false] at hp
        rcases hp with rfl | rfl | rfl | rfl
        · exact h0
        · exact h1
        · exact ⟨r.1, Int.le_trans r.2 h1.2⟩
        · exact q
      · simp [bths] at hj
  · simp [fitsI] at hf
def btDom : Hyp → List E → Bool := fun H es => atLeast H 0 (es.getD 0 (.lit (-1))) && atLeast H 0 (es.getD 1 (.lit 0)) && atMost H 62 (es.getD 1 (.lit 0))
def btG : Hyp → List E → E := fun H es => mkMod H (mkDiv (es.getD 0 (.lit 0)) (mkPow2 (es.getD 1 (.lit 0)))) (.lit 2)
def btSpec : Go.Sx.Spec := specI [.i64, .i64] .i64 btDom btG
theorem btSpec_ok {I : Interp} : SpecOK Try.prog I 36 btSpec := specI_ok (dom := btDom) (g := btG) btpure (by
  intro H ρ es hH hd hf
  rcases es with _ | ⟨a, _ | ⟨b, _ | ⟨c, es⟩⟩⟩
  · simp [fitsI] at hf
  · simp [fitsI] at hf
  · simp only [btDom, Bool.and_eq_true, List.getD_cons_zero, List.getD_cons_succ] at hd
    refine ⟨⟨atLeast_ok hH hd.1.1, atLeast_ok hH hd.1.2, atMost_ok hH hd.2⟩, ?_⟩
    simp [btG, mkMod_i hH, mkDiv_i, mkPow2_i, i_lit]
  · simp [fitsI] at hf)
def vdHy : Hyp := ⟨[(.v 0, (0, 9223372036854775807)), (.v 1, (0, 9223372036854775807)), (.v 2, (0, 9223372036854775807))], [(0, (0, 65535)), (1, (0, 255)), (2, (0, 65535))], [], [], [], [(0, ⟨.v 0, [(some .u16, .av 0)]⟩), (1, ⟨.v 1, [(some .u8, .av 1)]⟩), (2, ⟨.v 2, [(some .u16, .av 2)]⟩)]⟩
def vdLs : List SV := [.s (.xslc 0 (.lit 0) (.lit 0) (.v 0)), .s (.xslc 1 (.lit 0) (.lit 0) (.v 1)), .s (.xslc 2 (.lit 0) (.lit 0) (.v 2))]
def vd0 : E := .le (.v 3) (.lit 32767)
def vd1 : E := .le (.lit 1) (.v 0)
def vd2 : E := .and vd0 vd1
def vd3 : E := .add (.v 3) (.lit 1)
def vd4 : E := .mod (.v 3) (.v 0)
def vd5 : E := .sel (.av 0) vd4
def vd6 : E := .div (.v 3) (.v 0)
def vd7 : E := .add vd5 vd6
def vd8 : E := .mod vd7 (.lit 65536)
def vd9 : E := .upd (.av 3) (.v 3) vd8
def vd10 : E := .le (.v 4) (.lit 543)
def vd11 : E := .le (.lit 1) (.v 1)
def vd12 : E := .and vd10 vd11
def vd13 : E := .add (.v 4) (.lit 1)
def vd14 : E := .mod (.v 4) (.v 1)
def vd15 : E := .sel (.av 1) vd14
def vd16 : E := .div (.v 4) (.v 1)
def vd17 : E := .add vd15 vd16
def vd18 : E := .mod vd17 (.lit 256)
def vd19 : E := .upd (.av 5) (.v 4) vd18
def vd20 : E := .le (.v 5) (.lit 255)
def vd21 : E := .le (.lit 1) (.v 2)
def vd22 : E := .and vd20 vd21
def vd23 : E := .add (.v 5) (.lit 1)
def vd24 : E := .mod (.v 5) (.v 2)
def vd25 : E := .sel (.av 2) vd24
def vd26 : E := .div (.v 5) (.v 2)
def vd27 : E := .add vd25 vd26
def vd28 : E := .mod vd27 (.lit 32768)
def vd29 : E := .upd (.av 7) (.v 5) vd28
noncomputable def vdT0 : List Item := todoS Try.prog S0 S0h [] 3000 0 25 vdHy vdLs [] 4
noncomputable def vdh0 : Head := ⟨4, vdT0, ⟨[((.v 0), (0, 9223372036854775807)), ((.v 1), (0, 9223372036854775807)), ((.v 2), (0, 9223372036854775807)), ((.v 3), (0, 32768)), ((.v 4), (0, 544)), ((.v 5), (0, 256))], [(0, (0, 65535)), (1, (0, 255)), (2, (0, 65535)), (3, (0, 65535)), (4, (0, 65535)), (5, (0, 255)), (6, (0, 255)), (7, (0, 65535))], [], [], [], [(0, ⟨(.v 0), [(some .u16, (.av 0))]⟩), (1, ⟨(.v 1), [(some .u8, (.av 1))]⟩), (2, ⟨(.v 2), [(some .u16, (.av 2))]⟩)]⟩, [⟨8, [], .s (.int .i64 (.v 3))⟩, ⟨7, [], .s (.ptr 0 (.lit 0))⟩, ⟨0, [], .s (.xslc 0 (.lit 0) (.lit 0) (.v 0))⟩, ⟨1, [], .s (.xslc 1 (.lit 0) (.lit 0) (.v 1))⟩, ⟨2, [], .s (.xslc 2 (.lit 0) (.lit 0) (.v 2))⟩], [⟨49, [.run .u16 (.lit 32768) (.av 3) 0, .run .u8 (.lit 544) (.tab []) 0, .run .u16 (.lit 256) (.tab []) 0], true, none, false⟩]⟩
noncomputable def vdT1 : List Item := todoH Try.prog S0 S0h [] 3000 0 25 vdh0 8
noncomputable def vdh1 : Head := ⟨8, vdT1, ⟨[((.v 0), (0, 9223372036854775807)), ((.v 1), (0, 9223372036854775807)), ((.v 2), (0, 9223372036854775807)), ((.v 3), (0, 32768)), ((.v 4), (0, 544)), ((.v 5), (0, 256))], [(0, (0, 65535)), (1, (0, 255)), (2, (0, 65535)), (3, (0, 65535)), (4, (0, 65535)), (5, (0, 255)), (6, (0, 255)), (7, (0, 65535))], [], [], [], [(0, ⟨(.v 0), [(some .u16, (.av 0))]⟩), (1, ⟨(.v 1), [(some .u8, (.av 1))]⟩), (2, ⟨(.v 2), [(some .u16, (.av 2))]⟩)]⟩, [⟨9, [], .s (.int .i64 (.v 4))⟩, ⟨7, [], .s (.ptr 0 (.lit 0))⟩, ⟨1, [], .s (.xslc 1 (.lit 0) (.lit 0) (.v 1))⟩, ⟨2, [], .s (.xslc 2 (.lit 0) (.lit 0) (.v 2))⟩], [⟨49, [.run .u16 (.lit 32768) (.av 4) 0, .run .u8 (.lit 544) (.av 5) 0, .run .u16 (.lit 256) (.tab []) 0], true, none, false⟩]⟩
noncomputable def vdT2 : List Item := todoH Try.prog S0 S0h [] 3000 0 25 vdh1 12
noncomputable def vdh2 : Head := ⟨12, vdT2, ⟨[((.v 0), (0, 9223372036854775807)), ((.v 1), (0, 9223372036854775807)), ((.v 2), (0, 9223372036854775807)), ((.v 3), (0, 32768)), ((.v 4), (0, 544)), ((.v 5), (0, 256))], [(0, (0, 65535)), (1, (0, 255)), (2, (0, 65535)), (3, (0, 65535)), (4, (0, 65535)), (5, (0, 255)), (6, (0, 255)), (7, (0, 65535))], [], [], [], [(0, ⟨(.v 0), [(some .u16, (.av 0))]⟩), (1, ⟨(.v 1), [(some .u8, (.av 1))]⟩), (2, ⟨(.v 2), [(some .u16, (.av 2))]⟩)]⟩, [⟨10, [], .s (.int .i64 (.v 5))⟩, ⟨7, [], .s (.ptr 0 (.lit 0))⟩, ⟨2, [], .s (.xslc 2 (.lit 0) (.lit 0) (.v 2))⟩], [⟨49, [.run .u16 (.lit 32768) (.av 4) 0, .run .u8 (.lit 544) (.av 6) 0, .run .u16 (.lit 256) (.av 7) 0], true, none, false⟩]⟩
noncomputable def vdhs : List Head := [vdh0, vdh1, vdh2]
def vdD : Dim := ⟨6, 0, 8, 3, 0, 3, 0⟩
theorem vdst : startL Try.prog S0 S0h vdD vdhs [] 3000 0 25 vdHy vdLs [] = some (.jump 0 vdT0 ⟨[(3, (.lit 0))], [], [(3, (.tab []))]⟩) := by kernel_rfl
theorem vdsg0 : segL Try.prog S0 S0h vdD vdhs [] 3000 0 25 vdh0 = some (.ite vd2 (.jump 0 vdT0 ⟨[(3, vd3)], [], [(3, vd9)]⟩) (.jump 1 vdT1 ⟨[(4, (.lit 0))], [], [(5, (.tab [])), (4, (.av 3))]⟩)) := by kernel_rfl
theorem vdsg1 : segL Try.prog S0 S0h vdD vdhs [] 3000 0 25 vdh1 = some (.ite vd12 (.jump 1 vdT1 ⟨[(4, vd13)], [], [(5, vd19), (4, (.av 4))]⟩) (.jump 2 vdT2 ⟨[(5, (.lit 0))], [], [(7, (.tab [])), (6, (.av 5)), (4, (.av 4))]⟩)) := by kernel_rfl
theorem vdsg2 : segL Try.prog S0 S0h vdD vdhs [] 3000 0 25 vdh2 = some (.ite vd22 (.jump 2 vdT2 ⟨[(5, vd23)], [], [(7, vd29), (6, (.av 6)), (4, (.av 4))]⟩) (.ret (.s (.ptr 0 (.lit 0))) [⟨49, [.run .u16 (.lit 32768) (.av 4) 0, .run .u8 (.lit 544) (.av 6) 0, .run .u16 (.lit 256) (.av 7) 0], true, none, false⟩])) := by kernel_rfl
def upTo (n : Int) (A B : Nat → Int) : Prop := ∀ j : Nat, (j : Int) < n → A j = B j
def vdR (x3 x4 x5 : Int) (A3 A4 A5 A6 A7 : Nat → Int) : Prop := (0 ≤ x3 ∧ x3 ≤ 32768) ∧ (0 ≤ x4 ∧ x4 ≤ 544) ∧ (0 ≤ x5 ∧ x5 ≤ 256) ∧ (∀ j, 0 ≤ A3 j ∧ A3 j ≤ 65535) ∧ (∀ j, 0 ≤ A4 j ∧ A4 j ≤ 65535) ∧ (∀ j, 0 ≤ A5 j ∧ A5 j ≤ 255) ∧ (∀ j, 0 ≤ A6 j ∧ A6 j ≤ 255) ∧ (∀ j, 0 ≤ A7 j ∧ A7 j ≤ 65535)
def vdPart (n m md : Int) (A B : Nat → Int) : Prop := if 0 < m then upTo n A (vidF m B md) else A = fun _ => 0
def vdInv (I : Interp) (m0 m1 m2 : Int) (A0 A1 A2 : Nat → Int) (k : Nat) (ρ : Env) : Prop := ∃ x3 x4 x5 A3 A4 A5 A6 A7, ρ = (⟨[m0, m1, m2, x3, x4, x5], [], [A0, A1, A2, A3, A4, A5, A6, A7], [], I⟩ : Env) ∧ vdR x3 x4 x5 A3 A4 A5 A6 A7 ∧ (match k with
  | 0 => vdPart x3 m0 65536 A3 A0
  | 1 => upTo 32768 A4 (vidF m0 A0 65536) ∧ vdPart x4 m1 256 A5 A1
  | 2 => upTo 32768 A4 (vidF m0 A0 65536) ∧ upTo 544 A6 (vidF m1 A1 256) ∧ vdPart x5 m2 32768 A7 A2
  | _ => False)
def vdmu : Nat → Env → Nat := fun j ρ => (2 - j) * 40000 + (33000 - ρ.i.getD (j + 3) 0).toNat
def vdCells (m0 m1 m2 : Int) (A0 A1 A2 : Nat → Int) : List Value := ((List.range 32768).map fun j => Value.int .u16 (vidF m0 A0 65536 j)) ++ (((List.range 544).map fun j => Value.int .u8 (vidF m1 A1 256 j)) ++ ((List.range 256).map fun j => Value.int .u16 (vidF m2 A2 32768 j)))
def vdRet (m0 m1 m2 : Int) (A0 A1 A2 : Nat → Int) (ρ : Env) (v : SV) (m : Mem) : Prop := v = .s (.ptr 0 (.lit 0)) ∧ ∃ B : Blk, m = [B] ∧ B.ty = 49 ∧ B.wr = true ∧ B.grow = none ∧ B.dead = false ∧ ∀ ι, cellsOf ρ ι B.segs = vdCells m0 m1 m2 A0 A1 A2
theorem vdStep {n m md : Int} {A A' B : Nat → Int} (hn : 0 ≤ n) (hm : 0 < m) (h : vdPart n m md A B) (hA : ∀ j, A' j = if j = n.toNat then (B (n % m).toNat + n / m) % md else A j) : vdPart (n + 1) m md A' B := by
  unfold vdPart at *
  rw [if_pos hm] at *
  intro j hj
  rw [hA]
  split
  · rename_i e
    have : (j : Int) = n := by omega
    unfold vidF; rw [if_pos hm, this]
  · exact h j (by omega)
theorem vdRest {n k m md : Int} {A B : Nat → Int} (hk : k ≤ n ∨ ¬ 0 < m) (h : vdPart n m md A B) : upTo k A (vidF m B md) := by
  unfold vdPart at h
  intro j hj
  split at h
  · rename_i hm; exact h j (by rcases hk with h1 | h1; omega; exact absurd hm h1)
  · rename_i hm; rw [h]; unfold vidF; rw [if_neg hm]
theorem vd0' (m md : Int) (B : Nat → Int) : vdPart 0 m md (fun j => ([] : List Int).getD j 0) B := by
  unfold vdPart
  split
  · intro j hj; omega
  · funext j; simp
theorem modR (x md : Int) (h : 0 < md) : 0 ≤ x % md ∧ x % md ≤ md - 1 := by
  have := Int.emod_nonneg x (show md ≠ 0 by omega); have := Int.emod_lt_of_pos x h; omega
theorem updR {A : Nat → Int} {lo hi x : Int} {k : Nat} (h : ∀ j, lo ≤ A j ∧ A j ≤ hi) (hx : lo ≤ x ∧ x ≤ hi) : ∀ j, lo ≤ (if j = k then x else A j) ∧ (if j = k then x else A j) ≤ hi := by
  intro j; split; exact hx; exact h j
theorem vdvc0 (I : Interp) (m0 m1 m2 x3 x4 x5 : Int) (A0 A1 A2 A3 A4 A5 A6 A7 : Nat → Int) (h0 : 0 ≤ m0 ∧ m0 ≤ 9223372036854775807) (h1 : 0 ≤ m1 ∧ m1 ≤ 9223372036854775807) (h2 : 0 ≤ m2 ∧ m2 ≤ 9223372036854775807) (hR : vdR x3 x4 x5 A3 A4 A5 A6 A7) (hJ : vdPart x3 m0 65536 A3 A0) :
    LT.holds (⟨[m0, m1, m2, x3, x4, x5], [], [A0, A1, A2, A3, A4, A5, A6, A7], [], I⟩ : Env) (vdRet m0 m1 m2 A0 A1 A2 (⟨[m0, m1, m2, x3, x4, x5], [], [A0, A1, A2, A3, A4, A5, A6, A7], [], I⟩ : Env)) (fun j' todo ρ' => (vdhs[j']?.map (·.todo)) = some todo ∧ vdInv I m0 m1 m2 A0 A1 A2 j' ρ' ∧ vdmu j' ρ' < vdmu 0 (⟨[m0, m1, m2, x3, x4, x5], [], [A0, A1, A2, A3, A4, A5, A6, A7], [], I⟩ : Env)) (.ite vd2 (.jump 0 vdT0 ⟨[(3, vd3)], [], [(3, vd9)]⟩) (.jump 1 vdT1 ⟨[(4, (.lit 0))], [], [(5, (.tab [])), (4, (.av 3))]⟩)) := by
  obtain ⟨r3, r4, r5, q3, q4, q5, q6, q7⟩ := hR
  simp only [LT.holds]
  refine ⟨fun hc => ?_, fun hc => ?_⟩
  · simp only [vd0, vd1, vd2, vd3, vd4, vd5, vd6, vd7, vd8, vd9, vd10, vd11, vd12, vd13, vd14, vd15, vd16, vd17, vd18, vd19, vd20, vd21, vd22, vd23, vd24, vd25, vd26, vd27, vd28, vd29, i_v, b_bv, i_lit, b_blit, i_add, i_sub, i_mul, i_div, i_mod, i_tdiv, i_tmod, i_ite, b_ite, b_lt, b_le, b_eq, b_not, b_and, b_or, b_iff, i_sel, a_tab, i_pow2, List.getD_cons_zero, List.getD_cons_succ, decide_eq_true_eq, decide_eq_false_iff_not, Bool.and_eq_true, Bool.or_eq_true, Bool.not_eq_true', Bool.not_eq_false', Bool.and_eq_false_iff, Bool.or_eq_false_iff, Bool.not_not, ite_tt, ite_ff, iff_tt, iff_ff, a_av, a_ite, a_upd] at hc
    refine ⟨rfl, ⟨x3 + 1, x4, x5, (fun i => if i = (x3).toNat then (A0 (x3 % m0).toNat + x3 / m0) % 65536 else A3 i), A4, A5, A6, A7, rfl, ⟨by omega, r4, r5, updR q3 (by have := modR (A0 (x3 % m0).toNat + x3 / m0) 65536 (by decide); omega), q4, q5, q6, q7⟩, vdStep r3.1 hc.2 hJ (fun j => rfl)⟩, ?_⟩
    simp only [vdmu, Env.app, setAll, List.map_cons, List.map_nil, List.set, List.getD_cons_zero, List.getD_cons_succ, vd0, vd1, vd2, vd3, vd4, vd5, vd6, vd7, vd8, vd9, vd10, vd11, vd12, vd13, vd14, vd15, vd16, vd17, vd18, vd19, vd20, vd21, vd22, vd23, vd24, vd25, vd26, vd27, vd28, vd29, i_v, b_bv, i_lit, b_blit, i_add, i_sub, i_mul, i_div, i_mod, i_tdiv, i_tmod, i_ite, b_ite, b_lt, b_le, b_eq, b_not, b_and, b_or, b_iff, i_sel, a_tab, i_pow2, List.getD_cons_zero, List.getD_cons_succ, decide_eq_true_eq, decide_eq_false_iff_not, Bool.and_eq_true, Bool.or_eq_true, Bool.not_eq_true', Bool.not_eq_false', Bool.and_eq_false_iff, Bool.or_eq_false_iff, Bool.not_not, ite_tt, ite_ff, iff_tt, iff_ff, a_av, a_ite, a_upd]
    omega
  · simp only [vd0, vd1, vd2, vd3, vd4, vd5, vd6, vd7, vd8, vd9, vd10, vd11, vd12, vd13, vd14, vd15, vd16, vd17, vd18, vd19, vd20, vd21, vd22, vd23, vd24, vd25, vd26, vd27, vd28, vd29, i_v, b_bv, i_lit, b_blit, i_add, i_sub, i_mul, i_div, i_mod, i_tdiv, i_tmod, i_ite, b_ite, b_lt, b_le, b_eq, b_not, b_and, b_or, b_iff, i_sel, a_tab, i_pow2, List.getD_cons_zero, List.getD_cons_succ, decide_eq_true_eq, decide_eq_false_iff_not, Bool.and_eq_true, Bool.or_eq_true, Bool.not_eq_true', Bool.not_eq_false', Bool.and_eq_false_iff, Bool.or_eq_false_iff, Bool.not_not, ite_tt, ite_ff, iff_tt, iff_ff, a_av, a_ite, a_upd] at hc
    refine ⟨rfl, ⟨x3, 0, x5, A3, A3, fun j => ([] : List Int).getD j 0, A6, A7, rfl, ⟨r3, by omega, r5, q3, q3, fun j => by simp, q6, q7⟩, vdRest (by omega) hJ, vd0' _ _ _⟩, ?_⟩
    simp only [vdmu, Env.app, setAll, List.map_cons, List.map_nil, List.set, List.getD_cons_zero, List.getD_cons_succ, i_lit]
    omega
theorem vdvc1 (I : Interp) (m0 m1 m2 x3 x4 x5 : Int) (A0 A1 A2 A3 A4 A5 A6 A7 : Nat → Int) (h0 : 0 ≤ m0 ∧ m0 ≤ 9223372036854775807) (h1 : 0 ≤ m1 ∧ m1 ≤ 9223372036854775807) (h2 : 0 ≤ m2 ∧ m2 ≤ 9223372036854775807) (hR : vdR x3 x4 x5 A3 A4 A5 A6 A7) (u4 : upTo 32768 A4 (vidF m0 A0 65536)) (hJ : vdPart x4 m1 256 A5 A1) :
    LT.holds (⟨[m0, m1, m2, x3, x4, x5], [], [A0, A1, A2, A3, A4, A5, A6, A7], [], I⟩ : Env) (vdRet m0 m1 m2 A0 A1 A2 (⟨[m0, m1, m2, x3, x4, x5], [], [A0, A1, A2, A3, A4, A5, A6, A7], [], I⟩ : Env)) (fun j' todo ρ' => (vdhs[j']?.map (·.todo)) = some todo ∧ vdInv I m0 m1 m2 A0 A1 A2 j' ρ' ∧ vdmu j' ρ' < vdmu 1 (⟨[m0, m1, m2, x3, x4, x5], [], [A0, A1, A2, A3, A4, A5, A6, A7], [], I⟩ : Env)) (.ite vd12 (.jump 1 vdT1 ⟨[(4, vd13)], [], [(5, vd19), (4, (.av 4))]⟩) (.jump 2 vdT2 ⟨[(5, (.lit 0))], [], [(7, (.tab [])), (6, (.av 5)), (4, (.av 4))]⟩)) := by
  obtain ⟨r3, r4, r5, q3, q4, q5, q6, q7⟩ := hR
  simp only [LT.holds]
  refine ⟨fun hc => ?_, fun hc => ?_⟩
  · simp only [vd0, vd1, vd2, vd3, vd4, vd5, vd6, vd7, vd8, vd9, vd10, vd11, vd12, vd13, vd14, vd15, vd16, vd17, vd18, vd19, vd20, vd21, vd22, vd23, vd24, vd25, vd26, vd27, vd28, vd29, i_v, b_bv, i_lit, b_blit, i_add, i_sub, i_mul, i_div, i_mod, i_tdiv, i_tmod, i_ite, b_ite, b_lt, b_le, b_eq, b_not, b_and, b_or, b_iff, i_sel, a_tab, i_pow2, List.getD_cons_zero, List.getD_cons_succ, decide_eq_true_eq, decide_eq_false_iff_not, Bool.and_eq_true, Bool.or_eq_true, Bool.not_eq_true', Bool.not_eq_false', Bool.and_eq_false_iff, Bool.or_eq_false_iff, Bool.not_not, ite_tt, ite_ff, iff_tt, iff_ff, a_av, a_ite, a_upd] at hc
    refine ⟨rfl, ⟨x3, x4 + 1, x5, A3, A4, (fun i => if i = (x4).toNat then (A1 (x4 % m1).toNat + x4 / m1) % 256 else A5 i), A6, A7, rfl, ⟨r3, by omega, r5, q3, q4, updR q5 (by have := modR (A1 (x4 % m1).toNat + x4 / m1) 256 (by decide); omega), q6, q7⟩, ⟨u4, vdStep r4.1 hc.2 hJ (fun j => rfl)⟩⟩, ?_⟩
    simp only [vdmu, Env.app, setAll, List.map_cons, List.map_nil, List.set, List.getD_cons_zero, List.getD_cons_succ, vd0, vd1, vd2, vd3, vd4, vd5, vd6, vd7, vd8, vd9, vd10, vd11, vd12, vd13, vd14, vd15, vd16, vd17, vd18, vd19, vd20, vd21, vd22, vd23, vd24, vd25, vd26, vd27, vd28, vd29, i_v, b_bv, i_lit, b_blit, i_add, i_sub, i_mul, i_div, i_mod, i_tdiv, i_tmod, i_ite, b_ite, b_lt, b_le, b_eq, b_not, b_and, b_or, b_iff, i_sel, a_tab, i_pow2, List.getD_cons_zero, List.getD_cons_succ, decide_eq_true_eq, decide_eq_false_iff_not, Bool.and_eq_true, Bool.or_eq_true, Bool.not_eq_true', Bool.not_eq_false', Bool.and_eq_false_iff, Bool.or_eq_false_iff, Bool.not_not, ite_tt, ite_ff, iff_tt, iff_ff, a_av, a_ite, a_upd]
    omega
  · simp only [vd0, vd1, vd2, vd3, vd4, vd5, vd6, vd7, vd8, vd9, vd10, vd11, vd12, vd13, vd14, vd15, vd16, vd17, vd18, vd19, vd20, vd21, vd22, vd23, vd24, vd25, vd26, vd27, vd28, vd29, i_v, b_bv, i_lit, b_blit, i_add, i_sub, i_mul, i_div, i_mod, i_tdiv, i_tmod, i_ite, b_ite, b_lt, b_le, b_eq, b_not, b_and, b_or, b_iff, i_sel, a_tab, i_pow2, List.getD_cons_zero, List.getD_cons_succ, decide_eq_true_eq, decide_eq_false_iff_not, Bool.and_eq_true, Bool.or_eq_true, Bool.not_eq_true', Bool.not_eq_false', Bool.and_eq_false_iff, Bool.or_eq_false_iff, Bool.not_not, ite_tt, ite_ff, iff_tt, iff_ff, a_av, a_ite, a_upd] at hc
    refine ⟨rfl, ⟨x3, x4, 0, A3, A4, A5, A5, fun j => ([] : List Int).getD j 0, rfl, ⟨r3, r4, by omega, q3, q4, q5, q5, fun j => by simp⟩, u4, vdRest (by omega) hJ, vd0' _ _ _⟩, ?_⟩
    simp only [vdmu, Env.app, setAll, List.map_cons, List.map_nil, List.set, List.getD_cons_zero, List.getD_cons_succ, i_lit]
    omega
theorem vdvc2 (I : Interp) (m0 m1 m2 x3 x4 x5 : Int) (A0 A1 A2 A3 A4 A5 A6 A7 : Nat → Int) (h0 : 0 ≤ m0 ∧ m0 ≤ 9223372036854775807) (h1 : 0 ≤ m1 ∧ m1 ≤ 9223372036854775807) (h2 : 0 ≤ m2 ∧ m2 ≤ 9223372036854775807) (hR : vdR x3 x4 x5 A3 A4 A5 A6 A7) (u4 : upTo 32768 A4 (vidF m0 A0 65536)) (u6 : upTo 544 A6 (vidF m1 A1 256)) (hJ : vdPart x5 m2 32768 A7 A2) :
    LT.holds (⟨[m0, m1, m2, x3, x4, x5], [], [A0, A1, A2, A3, A4, A5, A6, A7], [], I⟩ : Env) (vdRet m0 m1 m2 A0 A1 A2 (⟨[m0, m1, m2, x3, x4, x5], [], [A0, A1, A2, A3, A4, A5, A6, A7], [], I⟩ : Env)) (fun j' todo ρ' => (vdhs[j']?.map (·.todo)) = some todo ∧ vdInv I m0 m1 m2 A0 A1 A2 j' ρ' ∧ vdmu j' ρ' < vdmu 2 (⟨[m0, m1, m2, x3, x4, x5], [], [A0, A1, A2, A3, A4, A5, A6, A7], [], I⟩ : Env)) (.ite vd22 (.jump 2 vdT2 ⟨[(5, vd23)], [], [(7, vd29), (6, (.av 6)), (4, (.av 4))]⟩) (.ret (.s (.ptr 0 (.lit 0))) [⟨49, [.run .u16 (.lit 32768) (.av 4) 0, .run .u8 (.lit 544) (.av 6) 0, .run .u16 (.lit 256) (.av 7) 0], true, none, false⟩])) := by
  obtain ⟨r3, r4, r5, q3, q4, q5, q6, q7⟩ := hR
  simp only [LT.holds]
  refine ⟨fun hc => ?_, fun hc => ?_⟩
  · simp only [vd0, vd1, vd2, vd3, vd4, vd5, vd6, vd7, vd8, vd9, vd10, vd11, vd12, vd13, vd14, vd15, vd16, vd17, vd18, vd19, vd20, vd21, vd22, vd23, vd24, vd25, vd26, vd27, vd28, vd29, i_v, b_bv, i_lit, b_blit, i_add, i_sub, i_mul, i_div, i_mod, i_tdiv, i_tmod, i_ite, b_ite, b_lt, b_le, b_eq, b_not, b_and, b_or, b_iff, i_sel, a_tab, i_pow2, List.getD_cons_zero, List.getD_cons_succ, decide_eq_true_eq, decide_eq_false_iff_not, Bool.and_eq_true, Bool.or_eq_true, Bool.not_eq_true', Bool.not_eq_false', Bool.and_eq_false_iff, Bool.or_eq_false_iff, Bool.not_not, ite_tt, ite_ff, iff_tt, iff_ff, a_av, a_ite, a_upd] at hc
    refine ⟨rfl, ⟨x3, x4, x5 + 1, A3, A4, A5, A6, (fun i => if i = (x5).toNat then (A2 (x5 % m2).toNat + x5 / m2) % 32768 else A7 i), rfl, ⟨r3, r4, by omega, q3, q4, q5, q6, updR q7 (by have := modR (A2 (x5 % m2).toNat + x5 / m2) 32768 (by decide); omega)⟩, ⟨u4, u6, vdStep r5.1 hc.2 hJ (fun j => rfl)⟩⟩, ?_⟩
    simp only [vdmu, Env.app, setAll, List.map_cons, List.map_nil, List.set, List.getD_cons_zero, List.getD_cons_succ, vd0, vd1, vd2, vd3, vd4, vd5, vd6, vd7, vd8, vd9, vd10, vd11, vd12, vd13, vd14, vd15, vd16, vd17, vd18, vd19, vd20, vd21, vd22, vd23, vd24, vd25, vd26, vd27, vd28, vd29, i_v, b_bv, i_lit, b_blit, i_add, i_sub, i_mul, i_div, i_mod, i_tdiv, i_tmod, i_ite, b_ite, b_lt, b_le, b_eq, b_not, b_and, b_or, b_iff, i_sel, a_tab, i_pow2, List.getD_cons_zero, List.getD_cons_succ, decide_eq_true_eq, decide_eq_false_iff_not, Bool.and_eq_true, Bool.or_eq_true, Bool.not_eq_true', Bool.not_eq_false', Bool.and_eq_false_iff, Bool.or_eq_false_iff, Bool.not_not, ite_tt, ite_ff, iff_tt, iff_ff, a_av, a_ite, a_upd]
    omega
  · simp only [vd0, vd1, vd2, vd3, vd4, vd5, vd6, vd7, vd8, vd9, vd10, vd11, vd12, vd13, vd14, vd15, vd16, vd17, vd18, vd19, vd20, vd21, vd22, vd23, vd24, vd25, vd26, vd27, vd28, vd29, i_v, b_bv, i_lit, b_blit, i_add, i_sub, i_mul, i_div, i_mod, i_tdiv, i_tmod, i_ite, b_ite, b_lt, b_le, b_eq, b_not, b_and, b_or, b_iff, i_sel, a_tab, i_pow2, List.getD_cons_zero, List.getD_cons_succ, decide_eq_true_eq, decide_eq_false_iff_not, Bool.and_eq_true, Bool.or_eq_true, Bool.not_eq_true', Bool.not_eq_false', Bool.and_eq_false_iff, Bool.or_eq_false_iff, Bool.not_not, ite_tt, ite_ff, iff_tt, iff_ff, a_av, a_ite, a_upd] at hc
    refine ⟨rfl, _, rfl, rfl, rfl, rfl, rfl, fun ι => ?_⟩
    have u7 : upTo 256 A7 (vidF m2 A2 32768) := vdRest (by omega) hJ
    simp only [cellsOf, List.flatMap_cons, List.flatMap_nil, List.append_nil, Seg.cells, i_lit, a_av, List.getD_cons_zero, List.getD_cons_succ, Nat.zero_add, vdCells]
    have k4 : ∀ j, j < 32768 → A4 j = vidF m0 A0 65536 j := fun j hj => u4 j (by omega)
    have k6 : ∀ j, j < 544 → A6 j = vidF m1 A1 256 j := fun j hj => u6 j (by omega)
    have k7 : ∀ j, j < 256 → A7 j = vidF m2 A2 32768 j := fun j hj => u7 j (by omega)
    rw [show (32768 : Int).toNat = 32768 from rfl, show (544 : Int).toNat = 544 from rfl, show (256 : Int).toNat = 256 from rfl,
      List.map_congr_left (fun j hj => by rw [k4 j (List.mem_range.1 hj)] : ∀ j ∈ List.range 32768, Value.int .u16 (A4 j) = Value.int .u16 (vidF m0 A0 65536 j)),
      List.map_congr_left (fun j hj => by rw [k6 j (List.mem_range.1 hj)] : ∀ j ∈ List.range 544, Value.int .u8 (A6 j) = Value.int .u8 (vidF m1 A1 256 j)),
      List.map_congr_left (fun j hj => by rw [k7 j (List.mem_range.1 hj)] : ∀ j ∈ List.range 256, Value.int .u16 (A7 j) = Value.int .u16 (vidF m2 A2 32768 j))]
theorem vdvcS (I : Interp) (m0 m1 m2 : Int) (A0 A1 A2 : Nat → Int) :
    LT.holds (⟨[m0, m1, m2, 0, 0, 0], [], [A0, A1, A2, fun _ => 0, fun _ => 0, fun _ => 0, fun _ => 0, fun _ => 0], [], I⟩ : Env) (vdRet m0 m1 m2 A0 A1 A2 (⟨[m0, m1, m2, 0, 0, 0], [], [A0, A1, A2, fun _ => 0, fun _ => 0, fun _ => 0, fun _ => 0, fun _ => 0], [], I⟩ : Env)) (fun j' todo ρ' => (vdhs[j']?.map (·.todo)) = some todo ∧ vdInv I m0 m1 m2 A0 A1 A2 j' ρ') (.jump 0 vdT0 ⟨[(3, (.lit 0))], [], [(3, (.tab []))]⟩) := by
  simp only [LT.holds]
  exact ⟨rfl, 0, 0, 0, fun j => ([] : List Int).getD j 0, fun _ => 0, fun _ => 0, fun _ => 0, fun _ => 0, rfl, ⟨by omega, by omega, by omega, fun j => by simp, fun j => by simp, fun j => by simp, fun j => by simp, fun j => by simp⟩, vd0' _ _ _⟩
theorem video_ok : VideoOK Try.prog 25 49 := by
  intro x0 x1 x2 w g0 g1 g2
  let I : Interp := Iv (fun i j => match i, j with | 0, 0 => x0 | 1, 0 => x1 | 2, 0 => x2 | _, _ => Ext.none)
  have hx : ∀ i j, (I.xs i j).ok w := fun i j => by rcases i with _ | _ | _ | i <;> rcases j with _ | j <;> first | exact Ext.none_ok _ | exact g0.ok | exact g1.ok | exact g2.ok
  let E (x3 x4 x5 : Int) (A3 A4 A5 A6 A7 : Nat → Int) : Env := ⟨[x0.n, x1.n, x2.n, x3, x4, x5], [], [xArr x0 1 0, xArr x1 1 0, xArr x2 1 0, A3, A4, A5, A6, A7], [], I⟩
  have hE : ∀ (H : Hyp) x3 x4 x5 A3 A4 A5 A6 A7, vdR x3 x4 x5 A3 A4 A5 A6 A7 → H.e = [(.v 0, (0, 9223372036854775807)), (.v 1, (0, 9223372036854775807)), (.v 2, (0, 9223372036854775807)), (.v 3, (0, 32768)), (.v 4, (0, 544)), (.v 5, (0, 256))] →
      H.a = [(0, (0, 65535)), (1, (0, 255)), (2, (0, 65535)), (3, (0, 65535)), (4, (0, 65535)), (5, (0, 255)), (6, (0, 255)), (7, (0, 65535))] → H.fi = [] → H.fa = [] → H.b = [] → H.x = vdHy.x → H.ok (E x3 x4 x5 A3 A4 A5 A6 A7) := by
    intro H x3 x4 x5 A3 A4 A5 A6 A7 ⟨r3, r4, r5, q3, q4, q5, q6, q7⟩ e1 e2 e3 e4 e5 e6
    refine ⟨?_, ?_, ?_, by simp [e3], by simp [e4], by simp [e5]⟩
    · rw [e6]; intro p hp
      simp only [vdHy, List.mem_cons, List.not_mem_nil, or_false] at hp
      rcases hp with rfl | rfl | rfl
      · exact xi_ok g0 rfl rfl rfl
      · exact xi_ok g1 rfl rfl rfl
      · exact xi_ok g2 rfl rfl rfl
    · rw [e1]; intro p hp
      simp only [List.mem_cons, List.not_mem_nil, or_false] at hp
      rcases hp with rfl | rfl | rfl | rfl | rfl | rfl
      · exact xlen_rng g0
      · exact xlen_rng g1
      · exact xlen_rng g2
      · exact r3
      · exact r4
      · exact r5
    · rw [e2]; intro p hp
      simp only [List.mem_cons, List.not_mem_nil, or_false] at hp
      rcases hp with rfl | rfl | rfl | rfl | rfl | rfl | rfl | rfl
      · exact xArr_rng g0
      · exact xArr_rng g1
      · exact xArr_rng g2
      · exact q3
      · exact q4
      · exact q5
      · exact q6
      · exact q7
  have h0 := xlen_rng g0
  have h1 := xlen_rng g1
  have h2 := xlen_rng g2
  have hargs : (vdLs.map (SV.conc (E 0 0 0 (fun _ => 0) (fun _ => 0) (fun _ => 0) (fun _ => 0) (fun _ => 0)) Loc.id)).toArray = #[x0.v, x1.v, x2.v] :=
    congrArg List.toArray (cons_eq (conc_ext g0 rfl rfl) (cons_eq (conc_ext g1 rfl rfl) (cons_eq (conc_ext g2 rfl rfl) rfl)))
  rw [← hargs]
  have hH0 : vdHy.ok (E 0 0 0 (fun _ => 0) (fun _ => 0) (fun _ => 0) (fun _ => 0) (fun _ => 0)) := by
    refine ⟨?_, ?_, ?_, by simp [vdHy], by simp [vdHy], by simp [vdHy]⟩
    · intro p hp
      simp only [vdHy, List.mem_cons, List.not_mem_nil, or_false] at hp
      rcases hp with rfl | rfl | rfl
      · exact xi_ok g0 rfl rfl rfl
      · exact xi_ok g1 rfl rfl rfl
      · exact xi_ok g2 rfl rfl rfl
    · intro p hp
      simp only [vdHy, List.mem_cons, List.not_mem_nil, or_false] at hp
      rcases hp with rfl | rfl | rfl
      · exact xlen_rng g0
      · exact xlen_rng g1
      · exact xlen_rng g2
    · intro p hp
      simp only [vdHy, List.mem_cons, List.not_mem_nil, or_false] at hp
      rcases hp with rfl | rfl | rfl
      · exact xArr_rng g0
      · exact xArr_rng g1
      · exact xArr_rng g2
  refine calls_loops (β := ⟨w, 0, Loc.id⟩) (S0_ok I) (by kernel_rfl) (Nat.zero_le _) (vdInv I x0.n x1.n x2.n (xArr x0 1 0) (xArr x1 1 0) (xArr x2 1 0)) vdmu (fun ρ => vdRet x0.n x1.n x2.n (xArr x0 1 0) (xArr x1 1 0) (xArr x2 1 0) ρ) ?_ vdst (MRep.empty hx Loc.id) rfl ⟨rfl, rfl, rfl⟩ hH0 (vdvcS I _ _ _ _ _ _) ?_
  · rintro ρ v m hI ⟨rfl, B, rfl, t1, t2, t3, t4, hc⟩ ι w' hm
    refine ⟨ρ, ι, B, ?_, hm, t1, t2, t3, t4, hc ι⟩
    simp [SV.conc, S.conc, addr, i_lit]
  · intro j h ρ hj hI hz hInv
    obtain ⟨x3, x4, x5, A3, A4, A5, A6, A7, rfl, hR, hJ⟩ := hInv
    rcases j with _ | _ | _ | j
    · simp only [vdhs, List.getElem?_cons_zero, Option.some.injEq] at hj; subst hj
      exact ⟨hE vdh0.H x3 x4 x5 A3 A4 A5 A6 A7 hR rfl rfl rfl rfl rfl rfl, _, vdsg0, vdvc0 I _ _ _ x3 x4 x5 _ _ _ A3 A4 A5 A6 A7 h0 h1 h2 hR hJ⟩
    · simp only [vdhs, List.getElem?_cons_zero, List.getElem?_cons_succ, Option.some.injEq] at hj; subst hj
      exact ⟨hE vdh1.H x3 x4 x5 A3 A4 A5 A6 A7 hR rfl rfl rfl rfl rfl rfl, _, vdsg1, vdvc1 I _ _ _ x3 x4 x5 _ _ _ A3 A4 A5 A6 A7 h0 h1 h2 hR hJ.1 hJ.2⟩
    · simp only [vdhs, List.getElem?_cons_zero, List.getElem?_cons_succ, Option.some.injEq] at hj; subst hj
      exact ⟨hE vdh2.H x3 x4 x5 A3 A4 A5 A6 A7 hR rfl rfl rfl rfl rfl rfl, _, vdsg2, vdvc2 I _ _ _ x3 x4 x5 _ _ _ A3 A4 A5 A6 A7 h0 h1 h2 hR hJ.1 hJ.2.1 hJ.2.2⟩
    · exact hJ.elim
end Go.Proofs.Ythladllkckkjpaa
