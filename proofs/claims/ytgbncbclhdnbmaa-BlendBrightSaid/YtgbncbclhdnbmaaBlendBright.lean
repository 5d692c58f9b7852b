/- The law BlendBright returns true for every input. No channel is brighter than it was. It is run by symbols (SxA, SxB); what is left is arithmetic. No condition. -/
import Derived.Test.YtgbncbclhdnbmaaRows
import Derived.Test.YtgbncbclhdnbmaaSxB
namespace Go.Proofs.Ytgbncbclhdnbmaa.BlendBright
open Go.Sx Go.ChangeShapes Go.WideShapes Go.ChangeAt Go.RowKit
set_option linter.unusedVariables false
set_option linter.unusedSimpArgs false
set_option maxRecDepth 100000
noncomputable def G : Ctx := inl Try.prog (ctx []) 3000 6 8
def Hy : Hyp := ⟨[(.v 0, (-32768, 32767)), (.v 1, (-32768, 32767)), (.v 2, (0, 65535)), (.v 3, (0, 65535))], [(0, (0, 255)), (1, (0, 65535)), (2, (0, 65535)), (3, (-32768, 32767))], [], [], []⟩
def Pc0 : List Pc := [.arr .u8 64, .arr .u16 4, .arr .u16 4, .arr .i16 6, .num .i16, .num .i16, .num .u16]
def Ls : List SV := [.agg (pcSegs 0 0 0 Pc0), .s (.int .u16 (.v 3))]
def I0 : Interp := ⟨fun _ _ _ _ => 0, fun _ _ _ _ => false, fun _ _ _ _ _ => 0⟩
theorem G_ok : CtxOK Try.prog I0 G := inl_ok (ctx_ok (fun p hp => by cases hp)) (by kernel_rfl) 3000 6 8
def e0 : E := .mod (.v 3) (.lit 32)
def e1 : E := .sel (.av 0) (.lit 0)
def e2 : E := .div e1 (.lit 128)
def e3 : E := .mul e2 (.lit 128)
def e4 : E := .eq e3 (.lit 0)
def e5 : E := .not e4
def e6 : E := .mod e1 (.lit 16)
def e7 : E := .mul e0 e6
def e8 : E := .div e7 (.lit 15)
def e9 : E := .mod (.v 3) (.lit 32768)
def e10 : E := .div e9 (.lit 32)
def e11 : E := .mod e10 (.lit 32)
def e12 : E := .mul e11 e6
def e13 : E := .div e12 (.lit 15)
def e14 : E := .mul e13 (.lit 32)
def e15 : E := .add e8 e14
def e16 : E := .div e9 (.lit 1024)
def e17 : E := .mul e16 e6
def e18 : E := .div e17 (.lit 15)
def e19 : E := .mul e18 (.lit 1024)
def e20 : E := .add e15 e19
def e21 : E := .ite e5 (.lit 0) e20
def e22 : E := .mod e21 (.lit 32)
def e23 : E := .lt e0 e22
def e24 : E := .div e21 (.lit 32)
def e25 : E := .mod e24 (.lit 32)
def e26 : E := .lt e11 e25
def e27 : E := .or e23 e26
def e28 : E := .div e21 (.lit 1024)
def e29 : E := .lt e16 e28
def e30 : E := .or e27 e29
def e31 : E := .not e30
def e32 : E := .mul e0 (.lit 15)
def e33 : E := .div e32 (.lit 15)
def e34 : E := .mul e11 (.lit 15)
def e35 : E := .div e34 (.lit 15)
def e36 : E := .mul e35 (.lit 32)
def e37 : E := .add e33 e36
def e38 : E := .mul e16 (.lit 15)
def e39 : E := .div e38 (.lit 15)
def e40 : E := .mul e39 (.lit 1024)
def e41 : E := .add e37 e40
def e42 : E := .eq e41 e9
def e43 : E := .and e31 e42
theorem erun : enter Try.prog G 3000 6 5 Hy Ls [] = some ([], .s (.bool e43), none) := by kernel_rfl

theorem vc (n0_4 n0_5 n0_6 a1 : Int) (A0 A1 A2 A3 : Nat → Int) (b0 : -32768 ≤ n0_4 ∧ n0_4 ≤ 32767) (b1 : -32768 ≤ n0_5 ∧ n0_5 ≤ 32767) (b2 : 0 ≤ n0_6 ∧ n0_6 ≤ 65535) (b3 : 0 ≤ a1 ∧ a1 ≤ 65535) (B0 : ∀ j, 0 ≤ A0 j ∧ A0 j ≤ 255) (B1 : ∀ j, 0 ≤ A1 j ∧ A1 j ≤ 65535) (B2 : ∀ j, 0 ≤ A2 j ∧ A2 j ≤ 65535) (B3 : ∀ j, -32768 ≤ A3 j ∧ A3 j ≤ 32767) : e43.b ⟨[n0_4, n0_5, n0_6, a1], [], [A0, A1, A2, A3], [], I0⟩ = true := by
  have hm : 0 ≤ A0 0 % 16 ∧ A0 0 % 16 ≤ 15 := by omega
  have k (x : Int) (hx : 0 ≤ x) : 0 ≤ x * (A0 0 % 16) ∧ x * (A0 0 % 16) ≤ x * 15 := ⟨Int.mul_nonneg hx hm.1, Int.mul_le_mul_of_nonneg_left hm.2 hx⟩
  have k1 := k (a1 % 32) (by omega)
  have k2 := k (a1 % 32768 / 32 % 32) (by omega)
  have k3 := k (a1 % 32768 / 1024) (by omega)
  simp only [e0, e1, e2, e3, e4, e5, e6, e7, e8, e9, e10, e11, e12, e13, e14, e15, e16, e17, e18, e19, e20, e21, e22, e23, e24, e25, e26, e27, e28, e29, e30, e31, e32, e33, e34, e35, e36, e37, e38, e39, e40, e41, e42, e43, i_v, b_bv, i_lit, b_blit, i_add, i_sub, i_mul, i_div, i_mod, i_tdiv, i_tmod, i_ite, b_ite, b_lt, b_le, b_eq, b_not, b_and, b_or, b_iff, i_sel, a_tab, i_pow2, List.getD_cons_zero, List.getD_cons_succ, decide_eq_true_eq, decide_eq_false_iff_not, Bool.and_eq_true, Bool.or_eq_true, Bool.not_eq_true', Bool.not_eq_false', Bool.and_eq_false_iff, Bool.or_eq_false_iff, Bool.not_not, ite_tt, ite_ff, iff_tt, iff_ff, a_av]
  have t0 : (0 : Int).toNat = 0 := rfl
  simp only [t0]
  generalize hp : A0 0 / 128 * 128 = q
  generalize hq : A0 0 % 16 = q2 at *
  generalize hu1 : a1 % 32 * q2 = u1 at *
  generalize hu2 : a1 % 32768 / 32 % 32 * q2 = u2 at *
  generalize hu3 : a1 % 32768 / 1024 * q2 = u3 at *
  clear k B0 B1 B2 B3 b0 b1 b2 t0 hm hp hq hu1 hu2 hu3
  refine ⟨?_, by omega⟩
  by_cases h : q = 0
  · simp only [h, not_true_eq_false, if_false]
    have e1 : (u1 / 15 + u2 / 15 * 32 + u3 / 15 * 1024) % 32 = u1 / 15 := by omega
    have e2 : (u1 / 15 + u2 / 15 * 32 + u3 / 15 * 1024) / 32 % 32 = u2 / 15 := by omega
    have e3 : (u1 / 15 + u2 / 15 * 32 + u3 / 15 * 1024) / 1024 = u3 / 15 := by omega
    rw [e1, e2, e3]
    omega
  · simp only [h, not_false_eq_true, if_true]
    omega
theorem calls (c0 : List Value) (l0 : c0.length = pcTotal Pc0) (f0 : PcFit c0 0 Pc0) (a1 : Int) (w1 : (Lit.int .u16 a1).wf = true) (w : World) :
    Calls Try.prog 5 #[.agg c0.toArray, .int .u16 a1] w fun r w' => r = .returned (.bool true) ∧ Below w.heap.size w w' := by
  have hc0 : cellsOf ⟨[intV (c0.getD 78 Go.undef), intV (c0.getD 79 Go.undef), intV (c0.getD 80 Go.undef), a1], [], [arrOf c0 0 64, arrOf c0 64 4, arrOf c0 68 4, arrOf c0 72 6], [], I0⟩ id (pcSegs 0 0 0 Pc0) = c0 := by
    rw [pc_cells Pc0 0 0 0 0 f0 (by intro j hj; rcases j with _ | _ | _ | _ | j <;> first | rfl | (simp [Pc0, pcA, pcB, pcI] at hj; omega)) (by intro j hj; simp [Pc0, pcA, pcB, pcI] at hj) (by intro j hj; rcases j with _ | _ | _ | j <;> first | rfl | (simp [Pc0, pcA, pcB, pcI] at hj; omega)), List.drop_zero, ← l0, List.take_length]
  have hargs : (Ls.map (SV.conc ⟨[intV (c0.getD 78 Go.undef), intV (c0.getD 79 Go.undef), intV (c0.getD 80 Go.undef), a1], [], [arrOf c0 0 64, arrOf c0 64 4, arrOf c0 68 4, arrOf c0 72 6], [], I0⟩ id)).toArray = #[.agg c0.toArray, .int .u16 a1] := by
    simp only [Ls, List.map_cons, List.map_nil, SV.conc, hc0]
    rfl
  rw [← hargs]
  have hok : Hyp.ok Hy ⟨[intV (c0.getD 78 Go.undef), intV (c0.getD 79 Go.undef), intV (c0.getD 80 Go.undef), a1], [], [arrOf c0 0 64, arrOf c0 64 4, arrOf c0 68 4, arrOf c0 72 6], [], I0⟩ := by
    refine ⟨?_, ?_, by simp [Hy], by simp [Hy], by simp [Hy]⟩
    · intro p hp
      simp only [Hy, List.mem_cons, List.not_mem_nil, or_false] at hp
      rcases hp with rfl | rfl | rfl | rfl
      · exact num_rng (f0.tail.tail.tail.tail)
      · exact num_rng (f0.tail.tail.tail.tail.tail)
      · exact num_rng (f0.tail.tail.tail.tail.tail.tail)
      · exact bounds_u16 w1
    · intro p hp
      simp only [Hy, List.mem_cons, List.not_mem_nil, or_false] at hp
      rcases hp with rfl | rfl | rfl | rfl
      · exact arrOf_rng (f0)
      · exact arrOf_rng (f0.tail)
      · exact arrOf_rng (f0.tail.tail)
      · exact arrOf_rng (f0.tail.tail.tail)
  exact law_true (ρ := ⟨[intV (c0.getD 78 Go.undef), intV (c0.getD 79 Go.undef), intV (c0.getD 80 Go.undef), a1], [], [arrOf c0 0 64, arrOf c0 64 4, arrOf c0 68 4, arrOf c0 72 6], [], I0⟩) G_ok (by kernel_rfl) erun rfl
    hok (by intro e he; cases he) (vc (intV (c0.getD 78 Go.undef)) (intV (c0.getD 79 Go.undef)) (intV (c0.getD 80 Go.undef)) (a1) (arrOf c0 0 64) (arrOf c0 64 4) (arrOf c0 68 4) (arrOf c0 72 6) (num_rng (f0.tail.tail.tail.tail)) (num_rng (f0.tail.tail.tail.tail.tail)) (num_rng (f0.tail.tail.tail.tail.tail.tail)) (bounds_u16 w1) (arrOf_rng (f0)) (arrOf_rng (f0.tail)) (arrOf_rng (f0.tail.tail)) (arrOf_rng (f0.tail.tail.tail))) w
theorem own : ownKnob Try.prog.godebug = none := by kernel_rfl
theorem lifted (os : Os) (started : os.Started) (H : Type) (enc : TypeId × Value → H) :
    ReturnsInHanded {} Try.checked os 5 .any (Rows.blendBrightSpec.pre6 enc Try.prog Try.f5 Rows.blendBrightRow.domain false) (Rows.blendBrightSpec.post enc Try.prog Try.f5 false true false false) := by
  refine returnsInHanded_of_change (C := Try.checked) own started (by kernel_rfl) Try.func5
    (ChangeSpec.witness6 (enc := enc) (C := Try.checked) false ⟨#[], #[.agg #[.int .u8 0, .int .u8 0, .int .u8 0, .int .u8 0, .int .u8 0, .int .u8 0, .int .u8 0, .int .u8 0, .int .u8 0, .int .u8 0, .int .u8 0, .int .u8 0, .int .u8 0, .int .u8 0, .int .u8 0, .int .u8 0, .int .u8 0, .int .u8 0, .int .u8 0, .int .u8 0, .int .u8 0, .int .u8 0, .int .u8 0, .int .u8 0, .int .u8 0, .int .u8 0, .int .u8 0, .int .u8 0, .int .u8 0, .int .u8 0, .int .u8 0, .int .u8 0, .int .u8 0, .int .u8 0, .int .u8 0, .int .u8 0, .int .u8 0, .int .u8 0, .int .u8 0, .int .u8 0, .int .u8 0, .int .u8 0, .int .u8 0, .int .u8 0, .int .u8 0, .int .u8 0, .int .u8 0, .int .u8 0, .int .u8 0, .int .u8 0, .int .u8 0, .int .u8 0, .int .u8 0, .int .u8 0, .int .u8 0, .int .u8 0, .int .u8 0, .int .u8 0, .int .u8 0, .int .u8 0, .int .u8 0, .int .u8 0, .int .u8 0, .int .u8 0, .int .u16 0, .int .u16 0, .int .u16 0, .int .u16 0, .int .u16 0, .int .u16 0, .int .u16 0, .int .u16 0, .int .i16 0, .int .i16 0, .int .i16 0, .int .i16 0, .int .i16 0, .int .i16 0, .int .i16 0, .int .i16 0, .int .u16 0], .int .u16 0], []⟩ 8 (by kernel_rfl) (by kernel_rfl) (by kernel_rfl) (by kernel_rfl)) ?_
  intro W base args ds gs before hval0 hW hcnd _
  have hval : ∀ (j : Nat) t v, Try.f5.params[j]? = some t → args[j]? = some v → Value.okWide Try.prog W .any base t v := hval0
  have hW' := hW
  obtain ⟨p, q, hA0, hV, rfl, hfz, hnd⟩ := hW
  have hA1 : DataW.TrodAll enc Try.prog W 0 (fun _ => true) true Try.f5.params.toList args.toList ds p := hA0
  rw [Try.params5] at hA1 hval
  obtain ⟨v0, vs0, d0, ds0, p0, q0, hargs, rfl, rfl, h0, r0⟩ := trodAll_cons hA1
  obtain ⟨v1, vs1, d1, ds1, p1, q1, rfl, rfl, rfl, h1, r1⟩ := trodAll_cons r0
  obtain ⟨rfl, rfl, rfl⟩ := trodAll_nil r1
  obtain rfl : args = #[v0, v1] := by cases args; simp_all
  obtain ⟨c0, rfl, l0, f0⟩ := open_pc Pc0 8 (by kernel_rfl) (by kernel_rfl) (by kernel_rfl) (hval 0 33 v0 rfl rfl) h0
  obtain ⟨a1, rfl, rfl, rfl, w1⟩ := open_int Try.underlying22 (hval 1 22 v1 rfl rfl) h1
  obtain ⟨rfl, rfl⟩ := trodVars_none hV
  clear hA0 hval0
  refine (calls c0 l0 f0 a1 w1 W).mono fun e W' ⟨he, hb⟩ => ⟨_, he, ?_⟩
  exact law_post (by kernel_rfl) (by kernel_rfl) rfl (by kernel_rfl) Try.underlying4 rfl hW' hb
theorem over : Rows.blendBrightRow.holds Try.pinned (OpenSpec.ofChange Rows.blendBrightSpec) :=
  OpenClaim.holds_of_wide 5 Try.f5 rfl rfl rfl rfl rfl rfl rfl ⟨rfl, rfl, rfl, rfl, rfl⟩ rfl rfl rfl rfl rfl (by kernel_rfl) Try.func5 (by kernel_rfl)
    (of_decide_eq_true (by kernel_rfl)) (by unfold Func.isWrapper; first | (rw [if_pos (by decide +kernel)]; kernel_rfl) | (rw [if_neg (by decide +kernel)]; exact ⟨rfl, rfl⟩))
    (fun os started H enc _ => lifted os started H enc)
theorem proved : Rows.BlendBrightSaid := over
#print axioms proved
end Go.Proofs.Ytgbncbclhdnbmaa.BlendBright
