/- The law PlaneRepeats returns true for every input. Points that are 1024 apart have one number, where the plane repeats. It is run by symbols (SxA, SxB, SxC); what is left is arithmetic. No condition. -/
import Derived.Test.YtdhjmnjooekemaaRows
import Derived.Test.YtdhjmnjooekemaaSxC
import Derived.Test.YtdhjmnjooekemaaSpecs
namespace Go.Proofs.Ytdhjmnjooekemaa.PlaneRepeats
open Go.Sx Go.ChangeShapes Go.WideShapes Go.ChangeAt Go.RowKit
set_option linter.unusedVariables false
set_option linter.unusedSimpArgs false
set_option maxRecDepth 100000
noncomputable def G : Ctx := inl Try.prog (ctx [(21, specVideo 50), (23, dnSpec)]) 3000 6 8
noncomputable def Gh : HintCtx := inlH Try.prog (ctx [(21, specVideo 50), (23, dnSpec)]) 3000 6 8
def Pc1 : List Pc := [.arr .u8 64, .arr .u16 4, .arr .u16 4, .arr .i16 6, .num .i16, .num .i16, .num .u16]
theorem G_ok (xs : Nat → Nat → Ext) : CtxOK Try.prog (Iv xs) G := inl_ok (ctx_ok (fun p hp => by
  simp only [List.mem_cons, List.not_mem_nil, or_false] at hp
  rcases hp with rfl | rfl
  · exact specVideo_ok video_ok rfl
  · exact dnSpec_ok
 )) (by kernel_rfl) 3000 6 8
def eHy : Hyp := ⟨[(.v 0, (0, 9223372036854775807)), (.v 1, (0, 9223372036854775807)), (.v 2, (0, 9223372036854775807)), (.v 3, (-32768, 32767)), (.v 4, (-32768, 32767)), (.v 5, (0, 65535)), (.v 6, (-9223372036854775808, 9223372036854775807)), (.v 7, (-9223372036854775808, 9223372036854775807)), (.v 8, (0, 255))], [(0, (0, 65535)), (1, (0, 255)), (2, (0, 65535)), (3, (0, 255)), (4, (0, 65535)), (5, (0, 65535)), (6, (-32768, 32767))], [], [(0, (0, 65535)), (1, (0, 255)), (2, (0, 32767))], [], [(0, ⟨.v 0, [(some .u16, .av 0)]⟩), (1, ⟨.v 1, [(some .u8, .av 1)]⟩), (2, ⟨.v 2, [(some .u16, .av 2)]⟩)]⟩
def eLs : List SV := [.agg [.one (.xslc 0 (.lit 0) (.lit 0) (.v 0)), .one (.xslc 1 (.lit 0) (.lit 0) (.v 1)), .one (.xslc 2 (.lit 0) (.lit 0) (.v 2))], .agg (pcSegs 3 0 3 Pc1), .s (.int .i64 (.v 6)), .s (.int .i64 (.v 7)), .s (.int .u8 (.v 8))]
def e0 : E := .le (.v 6) (.lit (-1))
def e1 : E := .le (.lit 1024) (.v 6)
def e2 : E := .or e0 e1
def e3 : E := .le (.v 7) (.lit (-1))
def e4 : E := .or e2 e3
def e5 : E := .le (.lit 1024) (.v 7)
def e6 : E := .or e4 e5
def e7 : E := .mod (.v 8) (.lit 4)
def e8 : E := .eq e7 (.lit 2)
def e9 : E := .eq e7 (.lit 3)
def e10 : E := .app 0 (.cons (.v 0) (.cons (.av 0) .nil))
def e11 : E := .mod (.v 7) (.lit 8)
def e12 : E := .mul e11 (.lit 8)
def e13 : E := .mod (.v 6) (.lit 8)
def e14 : E := .add e12 e13
def e15 : E := .sel e10 e14
def e16 : E := .div e15 (.lit 256)
def e17 : E := .div (.v 7) (.lit 8)
def e18 : E := .mul e17 (.lit 128)
def e19 : E := .div (.v 6) (.lit 8)
def e20 : E := .add e18 e19
def e21 : E := .sel e10 e20
def e22 : E := .mod e21 (.lit 256)
def e23 : E := .mul e22 (.lit 64)
def e24 : E := .add e23 e12
def e25 : E := .add e24 e13
def e26 : E := .sel e10 e25
def e27 : E := .div e26 (.lit 256)
def e28 : E := .ite e9 e16 e27
def e29 : E := .ite e8 (.lit 0) e28
def e30 : E := .eq e29 (.lit 0)
def e31 : E := .and e30 e8
def e32 : E := .not e8
def e33 : E := .eq e29 e16
def e34 : E := .and e32 e33
def e35 : E := .eq e27 e29
def e36 : E := .and e32 e35
def e37 : E := .ite e9 e34 e36
def e38 : E := .ite e8 e31 e37
def e39 : E := .or e6 e38
theorem erun : enter Try.prog G Gh 3000 6 6 eHy eLs [] = some ([], .s (.bool e39), none) := by kernel_rfl
theorem evc (x0 : Ext) (x1 : Ext) (x2 : Ext) (nx0 nx1 nx2 n1_4 n1_5 n1_6 a2 a3 a4 : Int) (Ax0 Ax1 Ax2 A3 A4 A5 A6 : Nat → Int) (b0 : 0 ≤ nx0 ∧ nx0 ≤ 9223372036854775807) (b1 : 0 ≤ nx1 ∧ nx1 ≤ 9223372036854775807) (b2 : 0 ≤ nx2 ∧ nx2 ≤ 9223372036854775807) (b3 : -32768 ≤ n1_4 ∧ n1_4 ≤ 32767) (b4 : -32768 ≤ n1_5 ∧ n1_5 ≤ 32767) (b5 : 0 ≤ n1_6 ∧ n1_6 ≤ 65535) (b6 : -9223372036854775808 ≤ a2 ∧ a2 ≤ 9223372036854775807) (b7 : -9223372036854775808 ≤ a3 ∧ a3 ≤ 9223372036854775807) (b8 : 0 ≤ a4 ∧ a4 ≤ 255) (B0 : ∀ j, 0 ≤ Ax0 j ∧ Ax0 j ≤ 65535) (B1 : ∀ j, 0 ≤ Ax1 j ∧ Ax1 j ≤ 255) (B2 : ∀ j, 0 ≤ Ax2 j ∧ Ax2 j ≤ 65535) (B3 : ∀ j, 0 ≤ A3 j ∧ A3 j ≤ 255) (B4 : ∀ j, 0 ≤ A4 j ∧ A4 j ≤ 65535) (B5 : ∀ j, 0 ≤ A5 j ∧ A5 j ≤ 65535) (B6 : ∀ j, -32768 ≤ A6 j ∧ A6 j ≤ 32767) : E.b (⟨[nx0, nx1, nx2, n1_4, n1_5, n1_6, a2, a3, a4], [], [Ax0, Ax1, Ax2, A3, A4, A5, A6], [], Iv (fun i j => match i, j with | 0, 0 => x0 | 1, 0 => x1 | 2, 0 => x2 | _, _ => Ext.none)⟩ : Env) e39 = true := by
  simp only [e7, e8, e9, e11, e12, e13, e14, e15, e16, e17, e18, e19, e20, e21, e22, e23, e24, e25, e26, e27, e28, e29, e30, e31, e32, e33, e34, e35, e36, e37, e38, e39, i_v, b_bv, i_lit, b_blit, i_add, i_sub, i_mul, i_div, i_mod, i_tdiv, i_tmod, i_ite, b_ite, b_lt, b_le, b_eq, b_not, b_and, b_or, b_iff, i_sel, a_tab, i_pow2, List.getD_cons_zero, List.getD_cons_succ, decide_eq_true_eq, decide_eq_false_iff_not, Bool.and_eq_true, Bool.or_eq_true, Bool.not_eq_true', Bool.not_eq_false', Bool.and_eq_false_iff, Bool.or_eq_false_iff, Bool.not_not, ite_tt, ite_ff, iff_tt, iff_ff, a_av, a_ite, a_upd]
  generalize E.a _ e10 = F
  generalize E.b _ e6 = c
  generalize a4 % 4 = q at *
  cases c <;> by_cases h2 : q = 2 <;> by_cases h3 : q = 3 <;> simp_all
theorem ecalls (x0 : Ext) (x1 : Ext) (x2 : Ext) (c1 : List Value) (l1 : c1.length = pcTotal Pc1) (f1 : PcFit c1 0 Pc1) (a2 : Int) (w2 : (Lit.int .i64 a2).wf = true) (a3 : Int) (w3 : (Lit.int .i64 a3).wf = true) (a4 : Int) (w4 : (Lit.int .u8 a4).wf = true) (w : World) (g0 : XFit x0 w [some .u16]) (g1 : XFit x1 w [some .u8]) (g2 : XFit x2 w [some .u16]) :
    Calls Try.prog 6 #[.agg #[x0.v, x1.v, x2.v], .agg c1.toArray, .int .i64 a2, .int .i64 a3, .int .u8 a4] w fun r w' => r = .returned (.bool true) ∧ Below w.heap.size w w' := by
  have hc1 : cellsOf (⟨[(x0.n : Int), (x1.n : Int), (x2.n : Int), intV (c1.getD 78 Go.undef), intV (c1.getD 79 Go.undef), intV (c1.getD 80 Go.undef), a2, a3, a4], [], [xArr x0 1 0, xArr x1 1 0, xArr x2 1 0, arrOf c1 0 64, arrOf c1 64 4, arrOf c1 68 4, arrOf c1 72 6], [], Iv (fun i j => match i, j with | 0, 0 => x0 | 1, 0 => x1 | 2, 0 => x2 | _, _ => Ext.none)⟩ : Env) Loc.id (pcSegs 3 0 3 Pc1) = c1 := by
    rw [pc_cells Pc1 0 3 0 3 f1 (by intro j hj; rcases j with _ | _ | _ | _ | j <;> first | rfl | (simp [Pc1, pcA, pcB, pcI] at hj; omega)) (by intro j hj; simp [Pc1, pcA, pcB, pcI] at hj) (by intro j hj; rcases j with _ | _ | _ | j <;> first | rfl | (simp [Pc1, pcA, pcB, pcI] at hj; omega)), List.drop_zero, ← l1, List.take_length]
  have hx0 : SV.conc (⟨[(x0.n : Int), (x1.n : Int), (x2.n : Int), intV (c1.getD 78 Go.undef), intV (c1.getD 79 Go.undef), intV (c1.getD 80 Go.undef), a2, a3, a4], [], [xArr x0 1 0, xArr x1 1 0, xArr x2 1 0, arrOf c1 0 64, arrOf c1 64 4, arrOf c1 68 4, arrOf c1 72 6], [], Iv (fun i j => match i, j with | 0, 0 => x0 | 1, 0 => x1 | 2, 0 => x2 | _, _ => Ext.none)⟩ : Env) Loc.id (.s (.xslc 0 (.lit 0) (.lit 0) (.v 0))) = x0.v := conc_ext g0 rfl rfl
  have hx1 : SV.conc (⟨[(x0.n : Int), (x1.n : Int), (x2.n : Int), intV (c1.getD 78 Go.undef), intV (c1.getD 79 Go.undef), intV (c1.getD 80 Go.undef), a2, a3, a4], [], [xArr x0 1 0, xArr x1 1 0, xArr x2 1 0, arrOf c1 0 64, arrOf c1 64 4, arrOf c1 68 4, arrOf c1 72 6], [], Iv (fun i j => match i, j with | 0, 0 => x0 | 1, 0 => x1 | 2, 0 => x2 | _, _ => Ext.none)⟩ : Env) Loc.id (.s (.xslc 1 (.lit 0) (.lit 0) (.v 1))) = x1.v := conc_ext g1 rfl rfl
  have hx2 : SV.conc (⟨[(x0.n : Int), (x1.n : Int), (x2.n : Int), intV (c1.getD 78 Go.undef), intV (c1.getD 79 Go.undef), intV (c1.getD 80 Go.undef), a2, a3, a4], [], [xArr x0 1 0, xArr x1 1 0, xArr x2 1 0, arrOf c1 0 64, arrOf c1 64 4, arrOf c1 68 4, arrOf c1 72 6], [], Iv (fun i j => match i, j with | 0, 0 => x0 | 1, 0 => x1 | 2, 0 => x2 | _, _ => Ext.none)⟩ : Env) Loc.id (.s (.xslc 2 (.lit 0) (.lit 0) (.v 2))) = x2.v := conc_ext g2 rfl rfl
  have hargs : (eLs.map (SV.conc (⟨[(x0.n : Int), (x1.n : Int), (x2.n : Int), intV (c1.getD 78 Go.undef), intV (c1.getD 79 Go.undef), intV (c1.getD 80 Go.undef), a2, a3, a4], [], [xArr x0 1 0, xArr x1 1 0, xArr x2 1 0, arrOf c1 0 64, arrOf c1 64 4, arrOf c1 68 4, arrOf c1 72 6], [], Iv (fun i j => match i, j with | 0, 0 => x0 | 1, 0 => x1 | 2, 0 => x2 | _, _ => Ext.none)⟩ : Env) Loc.id)).toArray = #[.agg #[x0.v, x1.v, x2.v], .agg c1.toArray, .int .i64 a2, .int .i64 a3, .int .u8 a4] := by
    refine congrArg List.toArray ?_
    exact (cons_eq (rows_eq hx0 hx1 hx2) (cons_eq (congrArg (fun l => Value.agg (List.toArray l)) hc1) (cons_eq rfl (cons_eq rfl (cons_eq rfl rfl)))))
  rw [← hargs]
  have hok : Hyp.ok eHy (⟨[(x0.n : Int), (x1.n : Int), (x2.n : Int), intV (c1.getD 78 Go.undef), intV (c1.getD 79 Go.undef), intV (c1.getD 80 Go.undef), a2, a3, a4], [], [xArr x0 1 0, xArr x1 1 0, xArr x2 1 0, arrOf c1 0 64, arrOf c1 64 4, arrOf c1 68 4, arrOf c1 72 6], [], Iv (fun i j => match i, j with | 0, 0 => x0 | 1, 0 => x1 | 2, 0 => x2 | _, _ => Ext.none)⟩ : Env) := by
    refine ⟨?_, ?_, ?_, by simp [eHy], ?_, by simp [eHy]⟩
    · intro p hp
      simp only [eHy, List.mem_cons, List.not_mem_nil, or_false] at hp
      rcases hp with rfl | rfl | rfl
      · exact xi_ok g0 rfl rfl rfl
      · exact xi_ok g1 rfl rfl rfl
      · exact xi_ok g2 rfl rfl rfl
    · intro p hp
      simp only [eHy, List.mem_cons, List.not_mem_nil, or_false] at hp
      rcases hp with rfl | rfl | rfl | rfl | rfl | rfl | rfl | rfl | rfl
      · exact xlen_rng g0
      · exact xlen_rng g1
      · exact xlen_rng g2
      · exact num_rng (f1.tail.tail.tail.tail)
      · exact num_rng (f1.tail.tail.tail.tail.tail)
      · exact num_rng (f1.tail.tail.tail.tail.tail.tail)
      · exact bounds_i64 w2
      · exact bounds_i64 w3
      · exact bounds_u8 w4
    · intro p hp
      simp only [eHy, List.mem_cons, List.not_mem_nil, or_false] at hp
      rcases hp with rfl | rfl | rfl | rfl | rfl | rfl | rfl
      · exact xArr_rng g0
      · exact xArr_rng g1
      · exact xArr_rng g2
      · exact arrOf_rng (f1)
      · exact arrOf_rng (f1.tail)
      · exact arrOf_rng (f1.tail.tail)
      · exact arrOf_rng (f1.tail.tail.tail)
    · intro p hp is bs xs j
      simp only [eHy, List.mem_cons, List.not_mem_nil, or_false] at hp
      rcases hp with rfl | rfl | rfl <;> exact vidF_rng _ _ _ (by decide) j
  exact law_true (ρ := (⟨[(x0.n : Int), (x1.n : Int), (x2.n : Int), intV (c1.getD 78 Go.undef), intV (c1.getD 79 Go.undef), intV (c1.getD 80 Go.undef), a2, a3, a4], [], [xArr x0 1 0, xArr x1 1 0, xArr x2 1 0, arrOf c1 0 64, arrOf c1 64 4, arrOf c1 68 4, arrOf c1 72 6], [], Iv (fun i j => match i, j with | 0, 0 => x0 | 1, 0 => x1 | 2, 0 => x2 | _, _ => Ext.none)⟩ : Env)) (G_ok _) (by kernel_rfl) erun rfl
    hok (by intro e he; cases he) (evc x0 x1 x2 ((x0.n : Int)) ((x1.n : Int)) ((x2.n : Int)) (intV (c1.getD 78 Go.undef)) (intV (c1.getD 79 Go.undef)) (intV (c1.getD 80 Go.undef)) (a2) (a3) (a4) (xArr x0 1 0) (xArr x1 1 0) (xArr x2 1 0) (arrOf c1 0 64) (arrOf c1 64 4) (arrOf c1 68 4) (arrOf c1 72 6) (xlen_rng g0) (xlen_rng g1) (xlen_rng g2) (num_rng (f1.tail.tail.tail.tail)) (num_rng (f1.tail.tail.tail.tail.tail)) (num_rng (f1.tail.tail.tail.tail.tail.tail)) (bounds_i64 w2) (bounds_i64 w3) (bounds_u8 w4) (xArr_rng g0) (xArr_rng g1) (xArr_rng g2) (arrOf_rng (f1)) (arrOf_rng (f1.tail)) (arrOf_rng (f1.tail.tail)) (arrOf_rng (f1.tail.tail.tail))) w (fun i j => by rcases i with _ | _ | _ | i <;> rcases j with _ | j <;> first | exact Ext.none_ok _ | exact g0.ok | exact g1.ok | exact g2.ok)
theorem own : ownKnob Try.prog.godebug = none := by kernel_rfl
theorem lifted (os : Os) (started : os.Started) (H : Type) (enc : TypeId × Value → H) :
    ReturnsInHanded {} Try.checked os 6 .any (Rows.planeRepeatsSpec.pre6 enc Try.prog Try.f6 Rows.planeRepeatsRow.domain false) (Rows.planeRepeatsSpec.post enc Try.prog Try.f6 false true false false) := by
  refine returnsInHanded_of_change (C := Try.checked) own started (by kernel_rfl) Try.func6
    (ChangeSpec.witness6 (enc := enc) (C := Try.checked) false ⟨#[], #[.agg #[.slice none 0 0, .slice none 0 0, .slice none 0 0], .agg #[.int .u8 0, .int .u8 0, .int .u8 0, .int .u8 0, .int .u8 0, .int .u8 0, .int .u8 0, .int .u8 0, .int .u8 0, .int .u8 0, .int .u8 0, .int .u8 0, .int .u8 0, .int .u8 0, .int .u8 0, .int .u8 0, .int .u8 0, .int .u8 0, .int .u8 0, .int .u8 0, .int .u8 0, .int .u8 0, .int .u8 0, .int .u8 0, .int .u8 0, .int .u8 0, .int .u8 0, .int .u8 0, .int .u8 0, .int .u8 0, .int .u8 0, .int .u8 0, .int .u8 0, .int .u8 0, .int .u8 0, .int .u8 0, .int .u8 0, .int .u8 0, .int .u8 0, .int .u8 0, .int .u8 0, .int .u8 0, .int .u8 0, .int .u8 0, .int .u8 0, .int .u8 0, .int .u8 0, .int .u8 0, .int .u8 0, .int .u8 0, .int .u8 0, .int .u8 0, .int .u8 0, .int .u8 0, .int .u8 0, .int .u8 0, .int .u8 0, .int .u8 0, .int .u8 0, .int .u8 0, .int .u8 0, .int .u8 0, .int .u8 0, .int .u8 0, .int .u16 0, .int .u16 0, .int .u16 0, .int .u16 0, .int .u16 0, .int .u16 0, .int .u16 0, .int .u16 0, .int .i16 0, .int .i16 0, .int .i16 0, .int .i16 0, .int .i16 0, .int .i16 0, .int .i16 0, .int .i16 0, .int .u16 0], .int .i64 0, .int .i64 0, .int .u8 0], []⟩ 8 (by kernel_rfl) (by kernel_rfl) (by kernel_rfl) (by kernel_rfl)) ?_
  intro W base args ds gs before hval0 hW hcnd _
  have hval : ∀ (j : Nat) t v, Try.f6.params[j]? = some t → args[j]? = some v → Value.okWide Try.prog W .any base t v := hval0
  have hW' := hW
  obtain ⟨p, q, hA0, hV, rfl, hfz, hnd⟩ := hW
  have hA1 : DataW.TrodAll enc Try.prog W 0 (fun _ => true) true Try.f6.params.toList args.toList ds p := hA0
  rw [Try.params6] at hA1 hval
  obtain ⟨v0, vs0, d0, ds0, p0, q0, hargs, rfl, rfl, h0, r0⟩ := trodAll_cons hA1
  obtain ⟨v1, vs1, d1, ds1, p1, q1, rfl, rfl, rfl, h1, r1⟩ := trodAll_cons r0
  obtain ⟨v2, vs2, d2, ds2, p2, q2, rfl, rfl, rfl, h2, r2⟩ := trodAll_cons r1
  obtain ⟨v3, vs3, d3, ds3, p3, q3, rfl, rfl, rfl, h3, r3⟩ := trodAll_cons r2
  obtain ⟨v4, vs4, d4, ds4, p4, q4, rfl, rfl, rfl, h4, r4⟩ := trodAll_cons r3
  obtain ⟨rfl, rfl, rfl⟩ := trodAll_nil r4
  obtain rfl : args = #[v0, v1, v2, v3, v4] := by cases args; simp_all
  obtain ⟨x0, x1, x2, rfl, g0, g1, g2⟩ := open_rows 4 Try.underlying39 (by kernel_rfl) ⟨rfl, rfl, rfl⟩ Try.underlying36 Try.underlying37 Try.underlying36 ⟨by kernel_rfl, by kernel_rfl, by kernel_rfl⟩ ⟨by kernel_rfl, by kernel_rfl, by kernel_rfl⟩ ⟨by kernel_rfl, by kernel_rfl, by kernel_rfl⟩ (hval 0 39 v0 rfl rfl) h0
  obtain ⟨c1, rfl, l1, f1⟩ := open_pc Pc1 8 (by kernel_rfl) (by kernel_rfl) (by kernel_rfl) (hval 1 28 v1 rfl rfl) h1
  obtain ⟨a2, rfl, rfl, rfl, w2⟩ := open_int Try.underlying3 (hval 2 3 v2 rfl rfl) h2
  obtain ⟨a3, rfl, rfl, rfl, w3⟩ := open_int Try.underlying3 (hval 3 3 v3 rfl rfl) h3
  obtain ⟨a4, rfl, rfl, rfl, w4⟩ := open_int Try.underlying5 (hval 4 5 v4 rfl rfl) h4
  obtain ⟨rfl, rfl⟩ := trodVars_none hV

  refine (ecalls x0 x1 x2 c1 l1 f1 a2 w2 a3 w3 a4 w4 W g0 g1 g2).mono fun e W' ⟨he, hb⟩ => ⟨_, he, ?_⟩
  exact law_post (by kernel_rfl) (by kernel_rfl) rfl (by kernel_rfl) Try.underlying4 rfl hW' hb
theorem over : Rows.planeRepeatsRow.holds Try.pinned (OpenSpec.ofChange Rows.planeRepeatsSpec) :=
  OpenClaim.holds_of_wide 6 Try.f6 rfl rfl rfl rfl rfl rfl rfl ⟨rfl, rfl, rfl, rfl, rfl⟩ rfl rfl rfl rfl rfl (by kernel_rfl) Try.func6 (by kernel_rfl)
    (of_decide_eq_true (by kernel_rfl)) (by unfold Func.isWrapper; first | (rw [if_pos (by decide +kernel)]; kernel_rfl) | (rw [if_neg (by decide +kernel)]; exact ⟨rfl, rfl⟩))
    (fun os started H enc _ => lifted os started H enc)
theorem proved : Rows.PlaneRepeatsSaid := over
#print axioms proved
end Go.Proofs.Ytdhjmnjooekemaa.PlaneRepeats
