/- The law PlaneGoes returns true for every input. From a place to the next one the point goes on by the matrix's numbers, cut. It is run by symbols (SxA, SxB); what is left is arithmetic. No condition. -/
import Derived.Test.YtdhjmnjooekemaaRows
import Derived.Test.YtdhjmnjooekemaaSxB
namespace Go.Proofs.Ytdhjmnjooekemaa.PlaneGoes
open Go.Sx Go.ChangeShapes Go.WideShapes Go.ChangeAt Go.RowKit
set_option linter.unusedVariables false
set_option linter.unusedSimpArgs false
set_option maxRecDepth 100000
noncomputable def G : Ctx := inl Try.prog (ctx []) 3000 6 8
def Hy : Hyp := ⟨[(.v 0, (-32768, 32767)), (.v 1, (-32768, 32767)), (.v 2, (0, 65535)), (.v 3, (-9223372036854775808, 9223372036854775807)), (.v 4, (-9223372036854775808, 9223372036854775807))], [(0, (0, 255)), (1, (0, 65535)), (2, (0, 65535)), (3, (-32768, 32767))], [], [], []⟩
def Pc0 : List Pc := [.arr .u8 64, .arr .u16 4, .arr .u16 4, .arr .i16 6, .num .i16, .num .i16, .num .u16]
def Ls : List SV := [.agg (pcSegs 0 0 0 Pc0), .s (.int .i64 (.v 3)), .s (.int .i64 (.v 4))]
def I0 : Interp := ⟨fun _ _ _ _ => 0, fun _ _ _ _ => false, fun _ _ _ _ _ => 0⟩
theorem G_ok : CtxOK Try.prog I0 G := inl_ok (ctx_ok (fun p hp => by cases hp)) (by kernel_rfl) 3000 6 8
def e0 : E := .lt (.v 3) (.lit 0)
def e1 : E := .lt (.lit 254) (.v 3)
def e2 : E := .or e0 e1
def e3 : E := .lt (.v 4) (.lit 0)
def e4 : E := .or e2 e3
def e5 : E := .lt (.lit 254) (.v 4)
def e6 : E := .or e4 e5
def e7 : E := .sel (.av 3) (.lit 0)
def e8 : E := .add e7 (.lit (-256))
def e9 : E := .sel (.av 0) (.lit 26)
def e10 : E := .mod e9 (.lit 4)
def e11 : E := .sub e9 e10
def e12 : E := .mod e11 (.lit 2)
def e13 : E := .eq e12 (.lit 0)
def e14 : E := .not e13
def e15 : E := .add (.v 3) (.lit 1)
def e16 : E := .sub (.lit 255) e15
def e17 : E := .ite e14 e16 e15
def e18 : E := .add e17 (.v 0)
def e19 : E := .sel (.av 3) (.lit 4)
def e20 : E := .sub e18 e19
def e21 : E := .mul e7 e20
def e22 : E := .sel (.av 3) (.lit 1)
def e23 : E := .div e11 (.lit 2)
def e24 : E := .mod e23 (.lit 2)
def e25 : E := .mul e24 (.lit 2)
def e26 : E := .eq e25 (.lit 0)
def e27 : E := .not e26
def e28 : E := .sub (.lit 255) (.v 4)
def e29 : E := .ite e27 e28 (.v 4)
def e30 : E := .add e29 (.v 1)
def e31 : E := .sel (.av 3) (.lit 5)
def e32 : E := .sub e30 e31
def e33 : E := .mul e22 e32
def e34 : E := .add e21 e33
def e35 : E := .mul e19 (.lit 256)
def e36 : E := .add e34 e35
def e37 : E := .div e36 (.lit 256)
def e38 : E := .sub (.lit 255) (.v 3)
def e39 : E := .ite e14 e38 (.v 3)
def e40 : E := .add e39 (.v 0)
def e41 : E := .sub e40 e19
def e42 : E := .mul e7 e41
def e43 : E := .add e42 e33
def e44 : E := .add e43 e35
def e45 : E := .div e44 (.lit 256)
def e46 : E := .sub e37 e45
def e47 : E := .mul e46 (.lit 256)
def e48 : E := .lt e8 e47
def e49 : E := .add e7 (.lit 256)
def e50 : E := .lt e47 e49
def e51 : E := .and e48 e50
def e52 : E := .sel (.av 3) (.lit 2)
def e53 : E := .add e52 (.lit (-256))
def e54 : E := .mul e52 e20
def e55 : E := .sel (.av 3) (.lit 3)
def e56 : E := .mul e55 e32
def e57 : E := .add e54 e56
def e58 : E := .mul e31 (.lit 256)
def e59 : E := .add e57 e58
def e60 : E := .div e59 (.lit 256)
def e61 : E := .mul e52 e41
def e62 : E := .add e61 e56
def e63 : E := .add e62 e58
def e64 : E := .div e63 (.lit 256)
def e65 : E := .sub e60 e64
def e66 : E := .mul e65 (.lit 256)
def e67 : E := .lt e53 e66
def e68 : E := .add e52 (.lit 256)
def e69 : E := .lt e66 e68
def e70 : E := .and e67 e69
def e71 : E := .and e51 e70
def e72 : E := .add e22 (.lit (-256))
def e73 : E := .add (.v 4) (.lit 1)
def e74 : E := .sub (.lit 255) e73
def e75 : E := .ite e27 e74 e73
def e76 : E := .add e75 (.v 1)
def e77 : E := .sub e76 e31
def e78 : E := .mul e22 e77
def e79 : E := .add e42 e78
def e80 : E := .add e79 e35
def e81 : E := .div e80 (.lit 256)
def e82 : E := .sub e81 e45
def e83 : E := .mul e82 (.lit 256)
def e84 : E := .lt e72 e83
def e85 : E := .add e22 (.lit 256)
def e86 : E := .lt e83 e85
def e87 : E := .and e84 e86
def e88 : E := .and e71 e87
def e89 : E := .add e55 (.lit (-256))
def e90 : E := .mul e55 e77
def e91 : E := .add e61 e90
def e92 : E := .add e91 e58
def e93 : E := .div e92 (.lit 256)
def e94 : E := .sub e93 e64
def e95 : E := .mul e94 (.lit 256)
def e96 : E := .lt e89 e95
def e97 : E := .add e55 (.lit 256)
def e98 : E := .lt e95 e97
def e99 : E := .and e96 e98
def e100 : E := .and e88 e99
def e101 : E := .or e6 e100
theorem erun : enter Try.prog G 3000 6 4 Hy Ls [] = some ([], .s (.bool e101), none) := by kernel_rfl

theorem vc (n0_4 n0_5 n0_6 a1 a2 : Int) (A0 A1 A2 A3 : Nat → Int) (b0 : -32768 ≤ n0_4 ∧ n0_4 ≤ 32767) (b1 : -32768 ≤ n0_5 ∧ n0_5 ≤ 32767) (b2 : 0 ≤ n0_6 ∧ n0_6 ≤ 65535) (b3 : -9223372036854775808 ≤ a1 ∧ a1 ≤ 9223372036854775807) (b4 : -9223372036854775808 ≤ a2 ∧ a2 ≤ 9223372036854775807) (B0 : ∀ j, 0 ≤ A0 j ∧ A0 j ≤ 255) (B1 : ∀ j, 0 ≤ A1 j ∧ A1 j ≤ 65535) (B2 : ∀ j, 0 ≤ A2 j ∧ A2 j ≤ 65535) (B3 : ∀ j, -32768 ≤ A3 j ∧ A3 j ≤ 32767) : e101.b ⟨[n0_4, n0_5, n0_6, a1, a2], [], [A0, A1, A2, A3], [], I0⟩ = true := by
  have B26 := B0 26
  have z1 : (A0 26 - A0 26 % 4) % 2 = 0 := by omega
  have z2 : (A0 26 - A0 26 % 4) / 2 % 2 * 2 = 0 := by omega
  simp only [e0, e1, e2, e3, e4, e5, e6, e7, e8, e9, e10, e11, e12, e13, e14, e15, e16, e17, e18, e19, e20, e21, e22, e23, e24, e25, e26, e27, e28, e29, e30, e31, e32, e33, e34, e35, e36, e37, e38, e39, e40, e41, e42, e43, e44, e45, e46, e47, e48, e49, e50, e51, e52, e53, e54, e55, e56, e57, e58, e59, e60, e61, e62, e63, e64, e65, e66, e67, e68, e69, e70, e71, e72, e73, e74, e75, e76, e77, e78, e79, e80, e81, e82, e83, e84, e85, e86, e87, e88, e89, e90, e91, e92, e93, e94, e95, e96, e97, e98, e99, e100, e101, i_v, b_bv, i_lit, b_blit, i_add, i_sub, i_mul, i_div, i_mod, i_tdiv, i_tmod, i_ite, b_ite, b_lt, b_le, b_eq, b_not, b_and, b_or, b_iff, i_sel, a_tab, i_pow2, List.getD_cons_zero, List.getD_cons_succ, decide_eq_true_eq, decide_eq_false_iff_not, Bool.and_eq_true, Bool.or_eq_true, Bool.not_eq_true', Bool.not_eq_false', Bool.and_eq_false_iff, Bool.or_eq_false_iff, Bool.not_not, ite_tt, ite_ff, iff_tt, iff_ff, a_av]
  have t0 : (0 : Int).toNat = 0 := rfl
  have t1 : (1 : Int).toNat = 1 := rfl
  have t2 : (2 : Int).toNat = 2 := rfl
  have t3 : (3 : Int).toNat = 3 := rfl
  have t4 : (4 : Int).toNat = 4 := rfl
  have t5 : (5 : Int).toNat = 5 := rfl
  have t26 : (26 : Int).toNat = 26 := rfl
  simp only [t0, t1, t2, t3, t4, t5, t26, z1, z2, not_true_eq_false, if_false]
  have d (m x y c : Int) : m * (x + 1 + y - c) = m * (x + y - c) + m := by
    rw [show x + 1 + y - c = (x + y - c) + 1 by omega, Int.mul_add, Int.mul_one]
  simp only [d]
  generalize A3 0 * (a1 + n0_4 - A3 4) = u1
  generalize A3 1 * (a2 + n0_5 - A3 5) = u2
  generalize A3 2 * (a1 + n0_4 - A3 4) = u3
  generalize A3 3 * (a2 + n0_5 - A3 5) = u4
  clear d t0 t1 t2 t3 t4 t5 t26 z1 z2 B26 B0 B1 B2 B3
  omega
theorem calls (c0 : List Value) (l0 : c0.length = pcTotal Pc0) (f0 : PcFit c0 0 Pc0) (a1 : Int) (w1 : (Lit.int .i64 a1).wf = true) (a2 : Int) (w2 : (Lit.int .i64 a2).wf = true) (w : World) :
    Calls Try.prog 4 #[.agg c0.toArray, .int .i64 a1, .int .i64 a2] w fun r w' => r = .returned (.bool true) ∧ Below w.heap.size w w' := by
  have hc0 : cellsOf ⟨[intV (c0.getD 78 Go.undef), intV (c0.getD 79 Go.undef), intV (c0.getD 80 Go.undef), a1, a2], [], [arrOf c0 0 64, arrOf c0 64 4, arrOf c0 68 4, arrOf c0 72 6], [], I0⟩ id (pcSegs 0 0 0 Pc0) = c0 := by
    rw [pc_cells Pc0 0 0 0 0 f0 (by intro j hj; rcases j with _ | _ | _ | _ | j <;> first | rfl | (simp [Pc0, pcA, pcB, pcI] at hj; omega)) (by intro j hj; simp [Pc0, pcA, pcB, pcI] at hj) (by intro j hj; rcases j with _ | _ | _ | j <;> first | rfl | (simp [Pc0, pcA, pcB, pcI] at hj; omega)), List.drop_zero, ← l0, List.take_length]
  have hargs : (Ls.map (SV.conc ⟨[intV (c0.getD 78 Go.undef), intV (c0.getD 79 Go.undef), intV (c0.getD 80 Go.undef), a1, a2], [], [arrOf c0 0 64, arrOf c0 64 4, arrOf c0 68 4, arrOf c0 72 6], [], I0⟩ id)).toArray = #[.agg c0.toArray, .int .i64 a1, .int .i64 a2] := by
    simp only [Ls, List.map_cons, List.map_nil, SV.conc, hc0]
    rfl
  rw [← hargs]
  have hok : Hyp.ok Hy ⟨[intV (c0.getD 78 Go.undef), intV (c0.getD 79 Go.undef), intV (c0.getD 80 Go.undef), a1, a2], [], [arrOf c0 0 64, arrOf c0 64 4, arrOf c0 68 4, arrOf c0 72 6], [], I0⟩ := by
    refine ⟨?_, ?_, by simp [Hy], by simp [Hy], by simp [Hy]⟩
    · intro p hp
      simp only [Hy, List.mem_cons, List.not_mem_nil, or_false] at hp
      rcases hp with rfl | rfl | rfl | rfl | rfl
      · exact num_rng (f0.tail.tail.tail.tail)
      · exact num_rng (f0.tail.tail.tail.tail.tail)
      · exact num_rng (f0.tail.tail.tail.tail.tail.tail)
      · exact bounds_i64 w1
      · exact bounds_i64 w2
    · intro p hp
      simp only [Hy, List.mem_cons, List.not_mem_nil, or_false] at hp
      rcases hp with rfl | rfl | rfl | rfl
      · exact arrOf_rng (f0)
      · exact arrOf_rng (f0.tail)
      · exact arrOf_rng (f0.tail.tail)
      · exact arrOf_rng (f0.tail.tail.tail)
  exact law_true (ρ := ⟨[intV (c0.getD 78 Go.undef), intV (c0.getD 79 Go.undef), intV (c0.getD 80 Go.undef), a1, a2], [], [arrOf c0 0 64, arrOf c0 64 4, arrOf c0 68 4, arrOf c0 72 6], [], I0⟩) G_ok (by kernel_rfl) erun rfl
    hok (by intro e he; cases he) (vc (intV (c0.getD 78 Go.undef)) (intV (c0.getD 79 Go.undef)) (intV (c0.getD 80 Go.undef)) (a1) (a2) (arrOf c0 0 64) (arrOf c0 64 4) (arrOf c0 68 4) (arrOf c0 72 6) (num_rng (f0.tail.tail.tail.tail)) (num_rng (f0.tail.tail.tail.tail.tail)) (num_rng (f0.tail.tail.tail.tail.tail.tail)) (bounds_i64 w1) (bounds_i64 w2) (arrOf_rng (f0)) (arrOf_rng (f0.tail)) (arrOf_rng (f0.tail.tail)) (arrOf_rng (f0.tail.tail.tail))) w
theorem own : ownKnob Try.prog.godebug = none := by kernel_rfl
theorem lifted (os : Os) (started : os.Started) (H : Type) (enc : TypeId × Value → H) :
    ReturnsInHanded {} Try.checked os 4 .any (Rows.planeGoesSpec.pre6 enc Try.prog Try.f4 Rows.planeGoesRow.domain false) (Rows.planeGoesSpec.post enc Try.prog Try.f4 false true false false) := by
  refine returnsInHanded_of_change (C := Try.checked) own started (by kernel_rfl) Try.func4
    (ChangeSpec.witness6 (enc := enc) (C := Try.checked) false ⟨#[], #[.agg #[.int .u8 0, .int .u8 0, .int .u8 0, .int .u8 0, .int .u8 0, .int .u8 0, .int .u8 0, .int .u8 0, .int .u8 0, .int .u8 0, .int .u8 0, .int .u8 0, .int .u8 0, .int .u8 0, .int .u8 0, .int .u8 0, .int .u8 0, .int .u8 0, .int .u8 0, .int .u8 0, .int .u8 0, .int .u8 0, .int .u8 0, .int .u8 0, .int .u8 0, .int .u8 0, .int .u8 0, .int .u8 0, .int .u8 0, .int .u8 0, .int .u8 0, .int .u8 0, .int .u8 0, .int .u8 0, .int .u8 0, .int .u8 0, .int .u8 0, .int .u8 0, .int .u8 0, .int .u8 0, .int .u8 0, .int .u8 0, .int .u8 0, .int .u8 0, .int .u8 0, .int .u8 0, .int .u8 0, .int .u8 0, .int .u8 0, .int .u8 0, .int .u8 0, .int .u8 0, .int .u8 0, .int .u8 0, .int .u8 0, .int .u8 0, .int .u8 0, .int .u8 0, .int .u8 0, .int .u8 0, .int .u8 0, .int .u8 0, .int .u8 0, .int .u8 0, .int .u16 0, .int .u16 0, .int .u16 0, .int .u16 0, .int .u16 0, .int .u16 0, .int .u16 0, .int .u16 0, .int .i16 0, .int .i16 0, .int .i16 0, .int .i16 0, .int .i16 0, .int .i16 0, .int .i16 0, .int .i16 0, .int .u16 0], .int .i64 0, .int .i64 0], []⟩ 8 (by kernel_rfl) (by kernel_rfl) (by kernel_rfl) (by kernel_rfl)) ?_
  intro W base args ds gs before hval0 hW hcnd _
  have hval : ∀ (j : Nat) t v, Try.f4.params[j]? = some t → args[j]? = some v → Value.okWide Try.prog W .any base t v := hval0
  have hW' := hW
  obtain ⟨p, q, hA0, hV, rfl, hfz, hnd⟩ := hW
  have hA1 : DataW.TrodAll enc Try.prog W 0 (fun _ => true) true Try.f4.params.toList args.toList ds p := hA0
  rw [Try.params4] at hA1 hval
  obtain ⟨v0, vs0, d0, ds0, p0, q0, hargs, rfl, rfl, h0, r0⟩ := trodAll_cons hA1
  obtain ⟨v1, vs1, d1, ds1, p1, q1, rfl, rfl, rfl, h1, r1⟩ := trodAll_cons r0
  obtain ⟨v2, vs2, d2, ds2, p2, q2, rfl, rfl, rfl, h2, r2⟩ := trodAll_cons r1
  obtain ⟨rfl, rfl, rfl⟩ := trodAll_nil r2
  obtain rfl : args = #[v0, v1, v2] := by cases args; simp_all
  obtain ⟨c0, rfl, l0, f0⟩ := open_pc Pc0 8 (by kernel_rfl) (by kernel_rfl) (by kernel_rfl) (hval 0 28 v0 rfl rfl) h0
  obtain ⟨a1, rfl, rfl, rfl, w1⟩ := open_int Try.underlying3 (hval 1 3 v1 rfl rfl) h1
  obtain ⟨a2, rfl, rfl, rfl, w2⟩ := open_int Try.underlying3 (hval 2 3 v2 rfl rfl) h2
  obtain ⟨rfl, rfl⟩ := trodVars_none hV
  clear hA0 hval0
  refine (calls c0 l0 f0 a1 w1 a2 w2 W).mono fun e W' ⟨he, hb⟩ => ⟨_, he, ?_⟩
  exact law_post (by kernel_rfl) (by kernel_rfl) rfl (by kernel_rfl) Try.underlying4 rfl hW' hb
theorem over : Rows.planeGoesRow.holds Try.pinned (OpenSpec.ofChange Rows.planeGoesSpec) :=
  OpenClaim.holds_of_wide 4 Try.f4 rfl rfl rfl rfl rfl rfl rfl ⟨rfl, rfl, rfl, rfl, rfl⟩ rfl rfl rfl rfl rfl (by kernel_rfl) Try.func4 (by kernel_rfl)
    (of_decide_eq_true (by kernel_rfl)) (by unfold Func.isWrapper; first | (rw [if_pos (by decide +kernel)]; kernel_rfl) | (rw [if_neg (by decide +kernel)]; exact ⟨rfl, rfl⟩))
    (fun os started H enc _ => lifted os started H enc)
theorem proved : Rows.PlaneGoesSaid := over
#print axioms proved
end Go.Proofs.Ytdhjmnjooekemaa.PlaneGoes
