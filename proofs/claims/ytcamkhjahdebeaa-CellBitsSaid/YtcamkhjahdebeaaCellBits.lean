/- The law CellBits returns true for every input. A tile's dots, depths and direct colours are those that the document says. It is run by symbols (SxA, SxB, SxC); what is left is arithmetic. No condition. -/
import Derived.Test.YtcamkhjahdebeaaRows
import Derived.Test.YtcamkhjahdebeaaSxC
import Derived.Test.YtcamkhjahdebeaaSpecs
namespace Go.Proofs.Ytcamkhjahdebeaa.CellBits
open Go.Sx Go.ChangeShapes Go.WideShapes Go.ChangeAt Go.RowKit
set_option linter.unusedVariables false
set_option linter.unusedSimpArgs false
set_option maxRecDepth 100000
noncomputable def G : Ctx := inl Try.prog (ctx [(26, specVideo 45), (37, moSpec), (33, btSpec), (22, dcSpec), (23, drSpec)]) 3000 6 8
noncomputable def Gh : HintCtx := inlH Try.prog (ctx [(26, specVideo 45), (37, moSpec), (33, btSpec), (22, dcSpec), (23, drSpec)]) 3000 6 8
theorem G_ok (xs : Nat → Nat → Ext) : CtxOK Try.prog (Iv xs) G := inl_ok (ctx_ok (fun p hp => by
  simp only [List.mem_cons, List.not_mem_nil, or_false] at hp
  rcases hp with rfl | rfl | rfl | rfl | rfl
  · exact specVideo_ok video_ok rfl
  · exact moSpec_ok
  · exact btSpec_ok
  · exact dcSpec_ok
  · exact drSpec_ok
 )) (by kernel_rfl) 3000 6 8
def eaHy : Hyp := ⟨[(.v 0, (0, 9223372036854775807)), (.v 1, (0, 9223372036854775807)), (.v 2, (0, 9223372036854775807)), (.v 3, (-9223372036854775808, 9223372036854775807)), (.v 4, (-9223372036854775808, 9223372036854775807)), (.v 5, (-9223372036854775808, 1)), (.v 6, (-9223372036854775808, 9223372036854775807)), (.v 7, (-9223372036854775808, 9223372036854775807)), (.v 8, (0, 255)), (.v 9, (0, 255))], [(0, (0, 65535)), (1, (0, 255)), (2, (0, 65535))], [], [(0, (0, 65535)), (1, (0, 255)), (2, (0, 32767))], [], [(0, ⟨.v 0, [(some .u16, .av 0)]⟩), (1, ⟨.v 1, [(some .u8, .av 1)]⟩), (2, ⟨.v 2, [(some .u16, .av 2)]⟩)]⟩
def eaLs : List SV := [.agg [.one (.xslc 0 (.lit 0) (.lit 0) (.v 0)), .one (.xslc 1 (.lit 0) (.lit 0) (.v 1)), .one (.xslc 2 (.lit 0) (.lit 0) (.v 2))], .s (.int .i64 (.v 3)), .s (.int .i64 (.v 4)), .s (.int .i64 (.v 5)), .s (.int .i64 (.v 6)), .s (.int .i64 (.v 7)), .s (.int .u8 (.v 8)), .s (.int .u8 (.v 9))]

theorem earun : enter Try.prog G Gh 3000 6 5 eaHy eaLs [] = some ([], .s (.bool (.blit true)), none) := by kernel_rfl
theorem eavc (x0 : Ext) (x1 : Ext) (x2 : Ext) (nx0 nx1 nx2 a1 a2 a3 a4 a5 a6 a7 : Int) (Ax0 Ax1 Ax2 : Nat → Int) (b0 : 0 ≤ nx0 ∧ nx0 ≤ 9223372036854775807) (b1 : 0 ≤ nx1 ∧ nx1 ≤ 9223372036854775807) (b2 : 0 ≤ nx2 ∧ nx2 ≤ 9223372036854775807) (b3 : -9223372036854775808 ≤ a1 ∧ a1 ≤ 9223372036854775807) (b4 : -9223372036854775808 ≤ a2 ∧ a2 ≤ 9223372036854775807) (b5 : -9223372036854775808 ≤ a3 ∧ a3 ≤ 1) (b6 : -9223372036854775808 ≤ a4 ∧ a4 ≤ 9223372036854775807) (b7 : -9223372036854775808 ≤ a5 ∧ a5 ≤ 9223372036854775807) (b8 : 0 ≤ a6 ∧ a6 ≤ 255) (b9 : 0 ≤ a7 ∧ a7 ≤ 255) (B0 : ∀ j, 0 ≤ Ax0 j ∧ Ax0 j ≤ 65535) (B1 : ∀ j, 0 ≤ Ax1 j ∧ Ax1 j ≤ 255) (B2 : ∀ j, 0 ≤ Ax2 j ∧ Ax2 j ≤ 65535) : E.b (⟨[nx0, nx1, nx2, a1, a2, a3, a4, a5, a6, a7], [], [Ax0, Ax1, Ax2], [], Iv (fun i j => match i, j with | 0, 0 => x0 | 1, 0 => x1 | 2, 0 => x2 | _, _ => Ext.none)⟩ : Env) (.blit true) = true := by
  rfl
theorem eacalls (x0 : Ext) (x1 : Ext) (x2 : Ext) (a1 : Int) (w1 : (Lit.int .i64 a1).wf = true) (a2 : Int) (w2 : (Lit.int .i64 a2).wf = true) (a3 : Int) (w3 : -9223372036854775808 ≤ a3 ∧ a3 ≤ 1) (a4 : Int) (w4 : (Lit.int .i64 a4).wf = true) (a5 : Int) (w5 : (Lit.int .i64 a5).wf = true) (a6 : Int) (w6 : (Lit.int .u8 a6).wf = true) (a7 : Int) (w7 : (Lit.int .u8 a7).wf = true) (w : World) (g0 : XFit x0 w [some .u16]) (g1 : XFit x1 w [some .u8]) (g2 : XFit x2 w [some .u16]) :
    Calls Try.prog 5 #[.agg #[x0.v, x1.v, x2.v], .int .i64 a1, .int .i64 a2, .int .i64 a3, .int .i64 a4, .int .i64 a5, .int .u8 a6, .int .u8 a7] w fun r w' => r = .returned (.bool true) ∧ Below w.heap.size w w' := by
  have hx0 : SV.conc (⟨[(x0.n : Int), (x1.n : Int), (x2.n : Int), a1, a2, a3, a4, a5, a6, a7], [], [xArr x0 1 0, xArr x1 1 0, xArr x2 1 0], [], Iv (fun i j => match i, j with | 0, 0 => x0 | 1, 0 => x1 | 2, 0 => x2 | _, _ => Ext.none)⟩ : Env) Loc.id (.s (.xslc 0 (.lit 0) (.lit 0) (.v 0))) = x0.v := conc_ext g0 rfl rfl
  have hx1 : SV.conc (⟨[(x0.n : Int), (x1.n : Int), (x2.n : Int), a1, a2, a3, a4, a5, a6, a7], [], [xArr x0 1 0, xArr x1 1 0, xArr x2 1 0], [], Iv (fun i j => match i, j with | 0, 0 => x0 | 1, 0 => x1 | 2, 0 => x2 | _, _ => Ext.none)⟩ : Env) Loc.id (.s (.xslc 1 (.lit 0) (.lit 0) (.v 1))) = x1.v := conc_ext g1 rfl rfl
  have hx2 : SV.conc (⟨[(x0.n : Int), (x1.n : Int), (x2.n : Int), a1, a2, a3, a4, a5, a6, a7], [], [xArr x0 1 0, xArr x1 1 0, xArr x2 1 0], [], Iv (fun i j => match i, j with | 0, 0 => x0 | 1, 0 => x1 | 2, 0 => x2 | _, _ => Ext.none)⟩ : Env) Loc.id (.s (.xslc 2 (.lit 0) (.lit 0) (.v 2))) = x2.v := conc_ext g2 rfl rfl
  have hargs : (eaLs.map (SV.conc (⟨[(x0.n : Int), (x1.n : Int), (x2.n : Int), a1, a2, a3, a4, a5, a6, a7], [], [xArr x0 1 0, xArr x1 1 0, xArr x2 1 0], [], Iv (fun i j => match i, j with | 0, 0 => x0 | 1, 0 => x1 | 2, 0 => x2 | _, _ => Ext.none)⟩ : Env) Loc.id)).toArray = #[.agg #[x0.v, x1.v, x2.v], .int .i64 a1, .int .i64 a2, .int .i64 a3, .int .i64 a4, .int .i64 a5, .int .u8 a6, .int .u8 a7] := by
    refine congrArg List.toArray ?_
    exact (cons_eq (rows_eq hx0 hx1 hx2) (cons_eq rfl (cons_eq rfl (cons_eq rfl (cons_eq rfl (cons_eq rfl (cons_eq rfl (cons_eq rfl rfl))))))))
  rw [← hargs]
  have hok : Hyp.ok eaHy (⟨[(x0.n : Int), (x1.n : Int), (x2.n : Int), a1, a2, a3, a4, a5, a6, a7], [], [xArr x0 1 0, xArr x1 1 0, xArr x2 1 0], [], Iv (fun i j => match i, j with | 0, 0 => x0 | 1, 0 => x1 | 2, 0 => x2 | _, _ => Ext.none)⟩ : Env) := by
    refine ⟨?_, ?_, ?_, by simp [eaHy], ?_, by simp [eaHy]⟩
    · intro p hp
      simp only [eaHy, List.mem_cons, List.not_mem_nil, or_false] at hp
      rcases hp with rfl | rfl | rfl
      · exact xi_ok g0 rfl rfl rfl
      · exact xi_ok g1 rfl rfl rfl
      · exact xi_ok g2 rfl rfl rfl
    · intro p hp
      simp only [eaHy, List.mem_cons, List.not_mem_nil, or_false] at hp
      rcases hp with rfl | rfl | rfl | rfl | rfl | rfl | rfl | rfl | rfl | rfl
      · exact xlen_rng g0
      · exact xlen_rng g1
      · exact xlen_rng g2
      · exact bounds_i64 w1
      · exact bounds_i64 w2
      · exact w3
      · exact bounds_i64 w4
      · exact bounds_i64 w5
      · exact bounds_u8 w6
      · exact bounds_u8 w7
    · intro p hp
      simp only [eaHy, List.mem_cons, List.not_mem_nil, or_false] at hp
      rcases hp with rfl | rfl | rfl
      · exact xArr_rng g0
      · exact xArr_rng g1
      · exact xArr_rng g2
    · intro p hp is bs xs j
      simp only [eaHy, List.mem_cons, List.not_mem_nil, or_false] at hp
      rcases hp with rfl | rfl | rfl <;> exact vidF_rng _ _ _ (by decide) j
  exact law_true (ρ := (⟨[(x0.n : Int), (x1.n : Int), (x2.n : Int), a1, a2, a3, a4, a5, a6, a7], [], [xArr x0 1 0, xArr x1 1 0, xArr x2 1 0], [], Iv (fun i j => match i, j with | 0, 0 => x0 | 1, 0 => x1 | 2, 0 => x2 | _, _ => Ext.none)⟩ : Env)) (G_ok _) (by kernel_rfl) earun rfl
    hok (by intro e he; cases he) (eavc x0 x1 x2 ((x0.n : Int)) ((x1.n : Int)) ((x2.n : Int)) (a1) (a2) (a3) (a4) (a5) (a6) (a7) (xArr x0 1 0) (xArr x1 1 0) (xArr x2 1 0) (xlen_rng g0) (xlen_rng g1) (xlen_rng g2) (bounds_i64 w1) (bounds_i64 w2) (w3) (bounds_i64 w4) (bounds_i64 w5) (bounds_u8 w6) (bounds_u8 w7) (xArr_rng g0) (xArr_rng g1) (xArr_rng g2)) w (fun i j => by rcases i with _ | _ | _ | i <;> rcases j with _ | j <;> first | exact Ext.none_ok _ | exact g0.ok | exact g1.ok | exact g2.ok)
def ebHy : Hyp := ⟨[(.v 0, (0, 9223372036854775807)), (.v 1, (0, 9223372036854775807)), (.v 2, (0, 9223372036854775807)), (.v 3, (-9223372036854775808, 9223372036854775807)), (.v 4, (-9223372036854775808, 9223372036854775807)), (.v 5, (-9223372036854775808, 9223372036854775807)), (.v 6, (-9223372036854775808, 9223372036854775807)), (.v 7, (0, 255)), (.v 8, (0, 255))], [(0, (0, 65535)), (1, (0, 255)), (2, (0, 65535))], [], [(0, (0, 65535)), (1, (0, 255)), (2, (0, 32767))], [], [(0, ⟨.v 0, [(some .u16, .av 0)]⟩), (1, ⟨.v 1, [(some .u8, .av 1)]⟩), (2, ⟨.v 2, [(some .u16, .av 2)]⟩)]⟩
def ebLs : List SV := [.agg [.one (.xslc 0 (.lit 0) (.lit 0) (.v 0)), .one (.xslc 1 (.lit 0) (.lit 0) (.v 1)), .one (.xslc 2 (.lit 0) (.lit 0) (.v 2))], .s (.int .i64 (.v 3)), .s (.int .i64 (.v 4)), .s (.int .i64 (.lit (2))), .s (.int .i64 (.v 5)), .s (.int .i64 (.v 6)), .s (.int .u8 (.v 7)), .s (.int .u8 (.v 8))]

theorem ebrun : enter Try.prog G Gh 3000 6 5 ebHy ebLs [] = some ([], .s (.bool (.blit true)), none) := by kernel_rfl
theorem ebvc (x0 : Ext) (x1 : Ext) (x2 : Ext) (nx0 nx1 nx2 a1 a2 a4 a5 a6 a7 : Int) (Ax0 Ax1 Ax2 : Nat → Int) (b0 : 0 ≤ nx0 ∧ nx0 ≤ 9223372036854775807) (b1 : 0 ≤ nx1 ∧ nx1 ≤ 9223372036854775807) (b2 : 0 ≤ nx2 ∧ nx2 ≤ 9223372036854775807) (b3 : -9223372036854775808 ≤ a1 ∧ a1 ≤ 9223372036854775807) (b4 : -9223372036854775808 ≤ a2 ∧ a2 ≤ 9223372036854775807) (b5 : -9223372036854775808 ≤ a4 ∧ a4 ≤ 9223372036854775807) (b6 : -9223372036854775808 ≤ a5 ∧ a5 ≤ 9223372036854775807) (b7 : 0 ≤ a6 ∧ a6 ≤ 255) (b8 : 0 ≤ a7 ∧ a7 ≤ 255) (B0 : ∀ j, 0 ≤ Ax0 j ∧ Ax0 j ≤ 65535) (B1 : ∀ j, 0 ≤ Ax1 j ∧ Ax1 j ≤ 255) (B2 : ∀ j, 0 ≤ Ax2 j ∧ Ax2 j ≤ 65535) : E.b (⟨[nx0, nx1, nx2, a1, a2, a4, a5, a6, a7], [], [Ax0, Ax1, Ax2], [], Iv (fun i j => match i, j with | 0, 0 => x0 | 1, 0 => x1 | 2, 0 => x2 | _, _ => Ext.none)⟩ : Env) (.blit true) = true := by
  rfl
theorem ebcalls (x0 : Ext) (x1 : Ext) (x2 : Ext) (a1 : Int) (w1 : (Lit.int .i64 a1).wf = true) (a2 : Int) (w2 : (Lit.int .i64 a2).wf = true) (a4 : Int) (w4 : (Lit.int .i64 a4).wf = true) (a5 : Int) (w5 : (Lit.int .i64 a5).wf = true) (a6 : Int) (w6 : (Lit.int .u8 a6).wf = true) (a7 : Int) (w7 : (Lit.int .u8 a7).wf = true) (w : World) (g0 : XFit x0 w [some .u16]) (g1 : XFit x1 w [some .u8]) (g2 : XFit x2 w [some .u16]) :
    Calls Try.prog 5 #[.agg #[x0.v, x1.v, x2.v], .int .i64 a1, .int .i64 a2, .int .i64 (2), .int .i64 a4, .int .i64 a5, .int .u8 a6, .int .u8 a7] w fun r w' => r = .returned (.bool true) ∧ Below w.heap.size w w' := by
  have hx0 : SV.conc (⟨[(x0.n : Int), (x1.n : Int), (x2.n : Int), a1, a2, a4, a5, a6, a7], [], [xArr x0 1 0, xArr x1 1 0, xArr x2 1 0], [], Iv (fun i j => match i, j with | 0, 0 => x0 | 1, 0 => x1 | 2, 0 => x2 | _, _ => Ext.none)⟩ : Env) Loc.id (.s (.xslc 0 (.lit 0) (.lit 0) (.v 0))) = x0.v := conc_ext g0 rfl rfl
  have hx1 : SV.conc (⟨[(x0.n : Int), (x1.n : Int), (x2.n : Int), a1, a2, a4, a5, a6, a7], [], [xArr x0 1 0, xArr x1 1 0, xArr x2 1 0], [], Iv (fun i j => match i, j with | 0, 0 => x0 | 1, 0 => x1 | 2, 0 => x2 | _, _ => Ext.none)⟩ : Env) Loc.id (.s (.xslc 1 (.lit 0) (.lit 0) (.v 1))) = x1.v := conc_ext g1 rfl rfl
  have hx2 : SV.conc (⟨[(x0.n : Int), (x1.n : Int), (x2.n : Int), a1, a2, a4, a5, a6, a7], [], [xArr x0 1 0, xArr x1 1 0, xArr x2 1 0], [], Iv (fun i j => match i, j with | 0, 0 => x0 | 1, 0 => x1 | 2, 0 => x2 | _, _ => Ext.none)⟩ : Env) Loc.id (.s (.xslc 2 (.lit 0) (.lit 0) (.v 2))) = x2.v := conc_ext g2 rfl rfl
  have hargs : (ebLs.map (SV.conc (⟨[(x0.n : Int), (x1.n : Int), (x2.n : Int), a1, a2, a4, a5, a6, a7], [], [xArr x0 1 0, xArr x1 1 0, xArr x2 1 0], [], Iv (fun i j => match i, j with | 0, 0 => x0 | 1, 0 => x1 | 2, 0 => x2 | _, _ => Ext.none)⟩ : Env) Loc.id)).toArray = #[.agg #[x0.v, x1.v, x2.v], .int .i64 a1, .int .i64 a2, .int .i64 (2), .int .i64 a4, .int .i64 a5, .int .u8 a6, .int .u8 a7] := by
    refine congrArg List.toArray ?_
    exact (cons_eq (rows_eq hx0 hx1 hx2) (cons_eq rfl (cons_eq rfl (cons_eq rfl (cons_eq rfl (cons_eq rfl (cons_eq rfl (cons_eq rfl rfl))))))))
  rw [← hargs]
  have hok : Hyp.ok ebHy (⟨[(x0.n : Int), (x1.n : Int), (x2.n : Int), a1, a2, a4, a5, a6, a7], [], [xArr x0 1 0, xArr x1 1 0, xArr x2 1 0], [], Iv (fun i j => match i, j with | 0, 0 => x0 | 1, 0 => x1 | 2, 0 => x2 | _, _ => Ext.none)⟩ : Env) := by
    refine ⟨?_, ?_, ?_, by simp [ebHy], ?_, by simp [ebHy]⟩
    · intro p hp
      simp only [ebHy, List.mem_cons, List.not_mem_nil, or_false] at hp
      rcases hp with rfl | rfl | rfl
      · exact xi_ok g0 rfl rfl rfl
      · exact xi_ok g1 rfl rfl rfl
      · exact xi_ok g2 rfl rfl rfl
    · intro p hp
      simp only [ebHy, List.mem_cons, List.not_mem_nil, or_false] at hp
      rcases hp with rfl | rfl | rfl | rfl | rfl | rfl | rfl | rfl | rfl
      · exact xlen_rng g0
      · exact xlen_rng g1
      · exact xlen_rng g2
      · exact bounds_i64 w1
      · exact bounds_i64 w2
      · exact bounds_i64 w4
      · exact bounds_i64 w5
      · exact bounds_u8 w6
      · exact bounds_u8 w7
    · intro p hp
      simp only [ebHy, List.mem_cons, List.not_mem_nil, or_false] at hp
      rcases hp with rfl | rfl | rfl
      · exact xArr_rng g0
      · exact xArr_rng g1
      · exact xArr_rng g2
    · intro p hp is bs xs j
      simp only [ebHy, List.mem_cons, List.not_mem_nil, or_false] at hp
      rcases hp with rfl | rfl | rfl <;> exact vidF_rng _ _ _ (by decide) j
  exact law_true (ρ := (⟨[(x0.n : Int), (x1.n : Int), (x2.n : Int), a1, a2, a4, a5, a6, a7], [], [xArr x0 1 0, xArr x1 1 0, xArr x2 1 0], [], Iv (fun i j => match i, j with | 0, 0 => x0 | 1, 0 => x1 | 2, 0 => x2 | _, _ => Ext.none)⟩ : Env)) (G_ok _) (by kernel_rfl) ebrun rfl
    hok (by intro e he; cases he) (ebvc x0 x1 x2 ((x0.n : Int)) ((x1.n : Int)) ((x2.n : Int)) (a1) (a2) (a4) (a5) (a6) (a7) (xArr x0 1 0) (xArr x1 1 0) (xArr x2 1 0) (xlen_rng g0) (xlen_rng g1) (xlen_rng g2) (bounds_i64 w1) (bounds_i64 w2) (bounds_i64 w4) (bounds_i64 w5) (bounds_u8 w6) (bounds_u8 w7) (xArr_rng g0) (xArr_rng g1) (xArr_rng g2)) w (fun i j => by rcases i with _ | _ | _ | i <;> rcases j with _ | j <;> first | exact Ext.none_ok _ | exact g0.ok | exact g1.ok | exact g2.ok)
def ecHy : Hyp := ⟨[(.v 0, (0, 9223372036854775807)), (.v 1, (0, 9223372036854775807)), (.v 2, (0, 9223372036854775807)), (.v 3, (-9223372036854775808, 9223372036854775807)), (.v 4, (-9223372036854775808, 9223372036854775807)), (.v 5, (-9223372036854775808, 9223372036854775807)), (.v 6, (-9223372036854775808, 9223372036854775807)), (.v 7, (0, 255)), (.v 8, (0, 255))], [(0, (0, 65535)), (1, (0, 255)), (2, (0, 65535))], [], [(0, (0, 65535)), (1, (0, 255)), (2, (0, 32767))], [], [(0, ⟨.v 0, [(some .u16, .av 0)]⟩), (1, ⟨.v 1, [(some .u8, .av 1)]⟩), (2, ⟨.v 2, [(some .u16, .av 2)]⟩)]⟩
def ecLs : List SV := [.agg [.one (.xslc 0 (.lit 0) (.lit 0) (.v 0)), .one (.xslc 1 (.lit 0) (.lit 0) (.v 1)), .one (.xslc 2 (.lit 0) (.lit 0) (.v 2))], .s (.int .i64 (.v 3)), .s (.int .i64 (.v 4)), .s (.int .i64 (.lit (3))), .s (.int .i64 (.v 5)), .s (.int .i64 (.v 6)), .s (.int .u8 (.v 7)), .s (.int .u8 (.v 8))]

theorem ecrun : enter Try.prog G Gh 3000 6 5 ecHy ecLs [] = some ([], .s (.bool (.blit true)), none) := by kernel_rfl
theorem ecvc (x0 : Ext) (x1 : Ext) (x2 : Ext) (nx0 nx1 nx2 a1 a2 a4 a5 a6 a7 : Int) (Ax0 Ax1 Ax2 : Nat → Int) (b0 : 0 ≤ nx0 ∧ nx0 ≤ 9223372036854775807) (b1 : 0 ≤ nx1 ∧ nx1 ≤ 9223372036854775807) (b2 : 0 ≤ nx2 ∧ nx2 ≤ 9223372036854775807) (b3 : -9223372036854775808 ≤ a1 ∧ a1 ≤ 9223372036854775807) (b4 : -9223372036854775808 ≤ a2 ∧ a2 ≤ 9223372036854775807) (b5 : -9223372036854775808 ≤ a4 ∧ a4 ≤ 9223372036854775807) (b6 : -9223372036854775808 ≤ a5 ∧ a5 ≤ 9223372036854775807) (b7 : 0 ≤ a6 ∧ a6 ≤ 255) (b8 : 0 ≤ a7 ∧ a7 ≤ 255) (B0 : ∀ j, 0 ≤ Ax0 j ∧ Ax0 j ≤ 65535) (B1 : ∀ j, 0 ≤ Ax1 j ∧ Ax1 j ≤ 255) (B2 : ∀ j, 0 ≤ Ax2 j ∧ Ax2 j ≤ 65535) : E.b (⟨[nx0, nx1, nx2, a1, a2, a4, a5, a6, a7], [], [Ax0, Ax1, Ax2], [], Iv (fun i j => match i, j with | 0, 0 => x0 | 1, 0 => x1 | 2, 0 => x2 | _, _ => Ext.none)⟩ : Env) (.blit true) = true := by
  rfl
theorem eccalls (x0 : Ext) (x1 : Ext) (x2 : Ext) (a1 : Int) (w1 : (Lit.int .i64 a1).wf = true) (a2 : Int) (w2 : (Lit.int .i64 a2).wf = true) (a4 : Int) (w4 : (Lit.int .i64 a4).wf = true) (a5 : Int) (w5 : (Lit.int .i64 a5).wf = true) (a6 : Int) (w6 : (Lit.int .u8 a6).wf = true) (a7 : Int) (w7 : (Lit.int .u8 a7).wf = true) (w : World) (g0 : XFit x0 w [some .u16]) (g1 : XFit x1 w [some .u8]) (g2 : XFit x2 w [some .u16]) :
    Calls Try.prog 5 #[.agg #[x0.v, x1.v, x2.v], .int .i64 a1, .int .i64 a2, .int .i64 (3), .int .i64 a4, .int .i64 a5, .int .u8 a6, .int .u8 a7] w fun r w' => r = .returned (.bool true) ∧ Below w.heap.size w w' := by
  have hx0 : SV.conc (⟨[(x0.n : Int), (x1.n : Int), (x2.n : Int), a1, a2, a4, a5, a6, a7], [], [xArr x0 1 0, xArr x1 1 0, xArr x2 1 0], [], Iv (fun i j => match i, j with | 0, 0 => x0 | 1, 0 => x1 | 2, 0 => x2 | _, _ => Ext.none)⟩ : Env) Loc.id (.s (.xslc 0 (.lit 0) (.lit 0) (.v 0))) = x0.v := conc_ext g0 rfl rfl
  have hx1 : SV.conc (⟨[(x0.n : Int), (x1.n : Int), (x2.n : Int), a1, a2, a4, a5, a6, a7], [], [xArr x0 1 0, xArr x1 1 0, xArr x2 1 0], [], Iv (fun i j => match i, j with | 0, 0 => x0 | 1, 0 => x1 | 2, 0 => x2 | _, _ => Ext.none)⟩ : Env) Loc.id (.s (.xslc 1 (.lit 0) (.lit 0) (.v 1))) = x1.v := conc_ext g1 rfl rfl
  have hx2 : SV.conc (⟨[(x0.n : Int), (x1.n : Int), (x2.n : Int), a1, a2, a4, a5, a6, a7], [], [xArr x0 1 0, xArr x1 1 0, xArr x2 1 0], [], Iv (fun i j => match i, j with | 0, 0 => x0 | 1, 0 => x1 | 2, 0 => x2 | _, _ => Ext.none)⟩ : Env) Loc.id (.s (.xslc 2 (.lit 0) (.lit 0) (.v 2))) = x2.v := conc_ext g2 rfl rfl
  have hargs : (ecLs.map (SV.conc (⟨[(x0.n : Int), (x1.n : Int), (x2.n : Int), a1, a2, a4, a5, a6, a7], [], [xArr x0 1 0, xArr x1 1 0, xArr x2 1 0], [], Iv (fun i j => match i, j with | 0, 0 => x0 | 1, 0 => x1 | 2, 0 => x2 | _, _ => Ext.none)⟩ : Env) Loc.id)).toArray = #[.agg #[x0.v, x1.v, x2.v], .int .i64 a1, .int .i64 a2, .int .i64 (3), .int .i64 a4, .int .i64 a5, .int .u8 a6, .int .u8 a7] := by
    refine congrArg List.toArray ?_
    exact (cons_eq (rows_eq hx0 hx1 hx2) (cons_eq rfl (cons_eq rfl (cons_eq rfl (cons_eq rfl (cons_eq rfl (cons_eq rfl (cons_eq rfl rfl))))))))
  rw [← hargs]
  have hok : Hyp.ok ecHy (⟨[(x0.n : Int), (x1.n : Int), (x2.n : Int), a1, a2, a4, a5, a6, a7], [], [xArr x0 1 0, xArr x1 1 0, xArr x2 1 0], [], Iv (fun i j => match i, j with | 0, 0 => x0 | 1, 0 => x1 | 2, 0 => x2 | _, _ => Ext.none)⟩ : Env) := by
    refine ⟨?_, ?_, ?_, by simp [ecHy], ?_, by simp [ecHy]⟩
    · intro p hp
      simp only [ecHy, List.mem_cons, List.not_mem_nil, or_false] at hp
      rcases hp with rfl | rfl | rfl
      · exact xi_ok g0 rfl rfl rfl
      · exact xi_ok g1 rfl rfl rfl
      · exact xi_ok g2 rfl rfl rfl
    · intro p hp
      simp only [ecHy, List.mem_cons, List.not_mem_nil, or_false] at hp
      rcases hp with rfl | rfl | rfl | rfl | rfl | rfl | rfl | rfl | rfl
      · exact xlen_rng g0
      · exact xlen_rng g1
      · exact xlen_rng g2
      · exact bounds_i64 w1
      · exact bounds_i64 w2
      · exact bounds_i64 w4
      · exact bounds_i64 w5
      · exact bounds_u8 w6
      · exact bounds_u8 w7
    · intro p hp
      simp only [ecHy, List.mem_cons, List.not_mem_nil, or_false] at hp
      rcases hp with rfl | rfl | rfl
      · exact xArr_rng g0
      · exact xArr_rng g1
      · exact xArr_rng g2
    · intro p hp is bs xs j
      simp only [ecHy, List.mem_cons, List.not_mem_nil, or_false] at hp
      rcases hp with rfl | rfl | rfl <;> exact vidF_rng _ _ _ (by decide) j
  exact law_true (ρ := (⟨[(x0.n : Int), (x1.n : Int), (x2.n : Int), a1, a2, a4, a5, a6, a7], [], [xArr x0 1 0, xArr x1 1 0, xArr x2 1 0], [], Iv (fun i j => match i, j with | 0, 0 => x0 | 1, 0 => x1 | 2, 0 => x2 | _, _ => Ext.none)⟩ : Env)) (G_ok _) (by kernel_rfl) ecrun rfl
    hok (by intro e he; cases he) (ecvc x0 x1 x2 ((x0.n : Int)) ((x1.n : Int)) ((x2.n : Int)) (a1) (a2) (a4) (a5) (a6) (a7) (xArr x0 1 0) (xArr x1 1 0) (xArr x2 1 0) (xlen_rng g0) (xlen_rng g1) (xlen_rng g2) (bounds_i64 w1) (bounds_i64 w2) (bounds_i64 w4) (bounds_i64 w5) (bounds_u8 w6) (bounds_u8 w7) (xArr_rng g0) (xArr_rng g1) (xArr_rng g2)) w (fun i j => by rcases i with _ | _ | _ | i <;> rcases j with _ | j <;> first | exact Ext.none_ok _ | exact g0.ok | exact g1.ok | exact g2.ok)
def edHy : Hyp := ⟨[(.v 0, (0, 9223372036854775807)), (.v 1, (0, 9223372036854775807)), (.v 2, (0, 9223372036854775807)), (.v 3, (-9223372036854775808, 9223372036854775807)), (.v 4, (-9223372036854775808, 9223372036854775807)), (.v 5, (-9223372036854775808, 9223372036854775807)), (.v 6, (-9223372036854775808, 9223372036854775807)), (.v 7, (0, 255)), (.v 8, (0, 255))], [(0, (0, 65535)), (1, (0, 255)), (2, (0, 65535))], [], [(0, (0, 65535)), (1, (0, 255)), (2, (0, 32767))], [], [(0, ⟨.v 0, [(some .u16, .av 0)]⟩), (1, ⟨.v 1, [(some .u8, .av 1)]⟩), (2, ⟨.v 2, [(some .u16, .av 2)]⟩)]⟩
def edLs : List SV := [.agg [.one (.xslc 0 (.lit 0) (.lit 0) (.v 0)), .one (.xslc 1 (.lit 0) (.lit 0) (.v 1)), .one (.xslc 2 (.lit 0) (.lit 0) (.v 2))], .s (.int .i64 (.v 3)), .s (.int .i64 (.v 4)), .s (.int .i64 (.lit (4))), .s (.int .i64 (.v 5)), .s (.int .i64 (.v 6)), .s (.int .u8 (.v 7)), .s (.int .u8 (.v 8))]

theorem edrun : enter Try.prog G Gh 3000 6 5 edHy edLs [] = some ([], .s (.bool (.blit true)), none) := by kernel_rfl
theorem edvc (x0 : Ext) (x1 : Ext) (x2 : Ext) (nx0 nx1 nx2 a1 a2 a4 a5 a6 a7 : Int) (Ax0 Ax1 Ax2 : Nat → Int) (b0 : 0 ≤ nx0 ∧ nx0 ≤ 9223372036854775807) (b1 : 0 ≤ nx1 ∧ nx1 ≤ 9223372036854775807) (b2 : 0 ≤ nx2 ∧ nx2 ≤ 9223372036854775807) (b3 : -9223372036854775808 ≤ a1 ∧ a1 ≤ 9223372036854775807) (b4 : -9223372036854775808 ≤ a2 ∧ a2 ≤ 9223372036854775807) (b5 : -9223372036854775808 ≤ a4 ∧ a4 ≤ 9223372036854775807) (b6 : -9223372036854775808 ≤ a5 ∧ a5 ≤ 9223372036854775807) (b7 : 0 ≤ a6 ∧ a6 ≤ 255) (b8 : 0 ≤ a7 ∧ a7 ≤ 255) (B0 : ∀ j, 0 ≤ Ax0 j ∧ Ax0 j ≤ 65535) (B1 : ∀ j, 0 ≤ Ax1 j ∧ Ax1 j ≤ 255) (B2 : ∀ j, 0 ≤ Ax2 j ∧ Ax2 j ≤ 65535) : E.b (⟨[nx0, nx1, nx2, a1, a2, a4, a5, a6, a7], [], [Ax0, Ax1, Ax2], [], Iv (fun i j => match i, j with | 0, 0 => x0 | 1, 0 => x1 | 2, 0 => x2 | _, _ => Ext.none)⟩ : Env) (.blit true) = true := by
  rfl
theorem edcalls (x0 : Ext) (x1 : Ext) (x2 : Ext) (a1 : Int) (w1 : (Lit.int .i64 a1).wf = true) (a2 : Int) (w2 : (Lit.int .i64 a2).wf = true) (a4 : Int) (w4 : (Lit.int .i64 a4).wf = true) (a5 : Int) (w5 : (Lit.int .i64 a5).wf = true) (a6 : Int) (w6 : (Lit.int .u8 a6).wf = true) (a7 : Int) (w7 : (Lit.int .u8 a7).wf = true) (w : World) (g0 : XFit x0 w [some .u16]) (g1 : XFit x1 w [some .u8]) (g2 : XFit x2 w [some .u16]) :
    Calls Try.prog 5 #[.agg #[x0.v, x1.v, x2.v], .int .i64 a1, .int .i64 a2, .int .i64 (4), .int .i64 a4, .int .i64 a5, .int .u8 a6, .int .u8 a7] w fun r w' => r = .returned (.bool true) ∧ Below w.heap.size w w' := by
  have hx0 : SV.conc (⟨[(x0.n : Int), (x1.n : Int), (x2.n : Int), a1, a2, a4, a5, a6, a7], [], [xArr x0 1 0, xArr x1 1 0, xArr x2 1 0], [], Iv (fun i j => match i, j with | 0, 0 => x0 | 1, 0 => x1 | 2, 0 => x2 | _, _ => Ext.none)⟩ : Env) Loc.id (.s (.xslc 0 (.lit 0) (.lit 0) (.v 0))) = x0.v := conc_ext g0 rfl rfl
  have hx1 : SV.conc (⟨[(x0.n : Int), (x1.n : Int), (x2.n : Int), a1, a2, a4, a5, a6, a7], [], [xArr x0 1 0, xArr x1 1 0, xArr x2 1 0], [], Iv (fun i j => match i, j with | 0, 0 => x0 | 1, 0 => x1 | 2, 0 => x2 | _, _ => Ext.none)⟩ : Env) Loc.id (.s (.xslc 1 (.lit 0) (.lit 0) (.v 1))) = x1.v := conc_ext g1 rfl rfl
  have hx2 : SV.conc (⟨[(x0.n : Int), (x1.n : Int), (x2.n : Int), a1, a2, a4, a5, a6, a7], [], [xArr x0 1 0, xArr x1 1 0, xArr x2 1 0], [], Iv (fun i j => match i, j with | 0, 0 => x0 | 1, 0 => x1 | 2, 0 => x2 | _, _ => Ext.none)⟩ : Env) Loc.id (.s (.xslc 2 (.lit 0) (.lit 0) (.v 2))) = x2.v := conc_ext g2 rfl rfl
  have hargs : (edLs.map (SV.conc (⟨[(x0.n : Int), (x1.n : Int), (x2.n : Int), a1, a2, a4, a5, a6, a7], [], [xArr x0 1 0, xArr x1 1 0, xArr x2 1 0], [], Iv (fun i j => match i, j with | 0, 0 => x0 | 1, 0 => x1 | 2, 0 => x2 | _, _ => Ext.none)⟩ : Env) Loc.id)).toArray = #[.agg #[x0.v, x1.v, x2.v], .int .i64 a1, .int .i64 a2, .int .i64 (4), .int .i64 a4, .int .i64 a5, .int .u8 a6, .int .u8 a7] := by
    refine congrArg List.toArray ?_
    exact (cons_eq (rows_eq hx0 hx1 hx2) (cons_eq rfl (cons_eq rfl (cons_eq rfl (cons_eq rfl (cons_eq rfl (cons_eq rfl (cons_eq rfl rfl))))))))
  rw [← hargs]
  have hok : Hyp.ok edHy (⟨[(x0.n : Int), (x1.n : Int), (x2.n : Int), a1, a2, a4, a5, a6, a7], [], [xArr x0 1 0, xArr x1 1 0, xArr x2 1 0], [], Iv (fun i j => match i, j with | 0, 0 => x0 | 1, 0 => x1 | 2, 0 => x2 | _, _ => Ext.none)⟩ : Env) := by
    refine ⟨?_, ?_, ?_, by simp [edHy], ?_, by simp [edHy]⟩
    · intro p hp
      simp only [edHy, List.mem_cons, List.not_mem_nil, or_false] at hp
      rcases hp with rfl | rfl | rfl
      · exact xi_ok g0 rfl rfl rfl
      · exact xi_ok g1 rfl rfl rfl
      · exact xi_ok g2 rfl rfl rfl
    · intro p hp
      simp only [edHy, List.mem_cons, List.not_mem_nil, or_false] at hp
      rcases hp with rfl | rfl | rfl | rfl | rfl | rfl | rfl | rfl | rfl
      · exact xlen_rng g0
      · exact xlen_rng g1
      · exact xlen_rng g2
      · exact bounds_i64 w1
      · exact bounds_i64 w2
      · exact bounds_i64 w4
      · exact bounds_i64 w5
      · exact bounds_u8 w6
      · exact bounds_u8 w7
    · intro p hp
      simp only [edHy, List.mem_cons, List.not_mem_nil, or_false] at hp
      rcases hp with rfl | rfl | rfl
      · exact xArr_rng g0
      · exact xArr_rng g1
      · exact xArr_rng g2
    · intro p hp is bs xs j
      simp only [edHy, List.mem_cons, List.not_mem_nil, or_false] at hp
      rcases hp with rfl | rfl | rfl <;> exact vidF_rng _ _ _ (by decide) j
  exact law_true (ρ := (⟨[(x0.n : Int), (x1.n : Int), (x2.n : Int), a1, a2, a4, a5, a6, a7], [], [xArr x0 1 0, xArr x1 1 0, xArr x2 1 0], [], Iv (fun i j => match i, j with | 0, 0 => x0 | 1, 0 => x1 | 2, 0 => x2 | _, _ => Ext.none)⟩ : Env)) (G_ok _) (by kernel_rfl) edrun rfl
    hok (by intro e he; cases he) (edvc x0 x1 x2 ((x0.n : Int)) ((x1.n : Int)) ((x2.n : Int)) (a1) (a2) (a4) (a5) (a6) (a7) (xArr x0 1 0) (xArr x1 1 0) (xArr x2 1 0) (xlen_rng g0) (xlen_rng g1) (xlen_rng g2) (bounds_i64 w1) (bounds_i64 w2) (bounds_i64 w4) (bounds_i64 w5) (bounds_u8 w6) (bounds_u8 w7) (xArr_rng g0) (xArr_rng g1) (xArr_rng g2)) w (fun i j => by rcases i with _ | _ | _ | i <;> rcases j with _ | j <;> first | exact Ext.none_ok _ | exact g0.ok | exact g1.ok | exact g2.ok)
def eeHy : Hyp := ⟨[(.v 0, (0, 9223372036854775807)), (.v 1, (0, 9223372036854775807)), (.v 2, (0, 9223372036854775807)), (.v 3, (-9223372036854775808, 9223372036854775807)), (.v 4, (-9223372036854775808, 9223372036854775807)), (.v 5, (5, 7)), (.v 6, (-9223372036854775808, 9223372036854775807)), (.v 7, (-9223372036854775808, 9223372036854775807)), (.v 8, (0, 255)), (.v 9, (0, 255))], [(0, (0, 65535)), (1, (0, 255)), (2, (0, 65535))], [], [(0, (0, 65535)), (1, (0, 255)), (2, (0, 32767))], [], [(0, ⟨.v 0, [(some .u16, .av 0)]⟩), (1, ⟨.v 1, [(some .u8, .av 1)]⟩), (2, ⟨.v 2, [(some .u16, .av 2)]⟩)]⟩
def eeLs : List SV := [.agg [.one (.xslc 0 (.lit 0) (.lit 0) (.v 0)), .one (.xslc 1 (.lit 0) (.lit 0) (.v 1)), .one (.xslc 2 (.lit 0) (.lit 0) (.v 2))], .s (.int .i64 (.v 3)), .s (.int .i64 (.v 4)), .s (.int .i64 (.v 5)), .s (.int .i64 (.v 6)), .s (.int .i64 (.v 7)), .s (.int .u8 (.v 8)), .s (.int .u8 (.v 9))]

theorem eerun : enter Try.prog G Gh 3000 6 5 eeHy eeLs [] = some ([], .s (.bool (.blit true)), none) := by kernel_rfl
theorem eevc (x0 : Ext) (x1 : Ext) (x2 : Ext) (nx0 nx1 nx2 a1 a2 a3 a4 a5 a6 a7 : Int) (Ax0 Ax1 Ax2 : Nat → Int) (b0 : 0 ≤ nx0 ∧ nx0 ≤ 9223372036854775807) (b1 : 0 ≤ nx1 ∧ nx1 ≤ 9223372036854775807) (b2 : 0 ≤ nx2 ∧ nx2 ≤ 9223372036854775807) (b3 : -9223372036854775808 ≤ a1 ∧ a1 ≤ 9223372036854775807) (b4 : -9223372036854775808 ≤ a2 ∧ a2 ≤ 9223372036854775807) (b5 : 5 ≤ a3 ∧ a3 ≤ 7) (b6 : -9223372036854775808 ≤ a4 ∧ a4 ≤ 9223372036854775807) (b7 : -9223372036854775808 ≤ a5 ∧ a5 ≤ 9223372036854775807) (b8 : 0 ≤ a6 ∧ a6 ≤ 255) (b9 : 0 ≤ a7 ∧ a7 ≤ 255) (B0 : ∀ j, 0 ≤ Ax0 j ∧ Ax0 j ≤ 65535) (B1 : ∀ j, 0 ≤ Ax1 j ∧ Ax1 j ≤ 255) (B2 : ∀ j, 0 ≤ Ax2 j ∧ Ax2 j ≤ 65535) : E.b (⟨[nx0, nx1, nx2, a1, a2, a3, a4, a5, a6, a7], [], [Ax0, Ax1, Ax2], [], Iv (fun i j => match i, j with | 0, 0 => x0 | 1, 0 => x1 | 2, 0 => x2 | _, _ => Ext.none)⟩ : Env) (.blit true) = true := by
  rfl
theorem eecalls (x0 : Ext) (x1 : Ext) (x2 : Ext) (a1 : Int) (w1 : (Lit.int .i64 a1).wf = true) (a2 : Int) (w2 : (Lit.int .i64 a2).wf = true) (a3 : Int) (w3 : 5 ≤ a3 ∧ a3 ≤ 7) (a4 : Int) (w4 : (Lit.int .i64 a4).wf = true) (a5 : Int) (w5 : (Lit.int .i64 a5).wf = true) (a6 : Int) (w6 : (Lit.int .u8 a6).wf = true) (a7 : Int) (w7 : (Lit.int .u8 a7).wf = true) (w : World) (g0 : XFit x0 w [some .u16]) (g1 : XFit x1 w [some .u8]) (g2 : XFit x2 w [some .u16]) :
    Calls Try.prog 5 #[.agg #[x0.v, x1.v, x2.v], .int .i64 a1, .int .i64 a2, .int .i64 a3, .int .i64 a4, .int .i64 a5, .int .u8 a6, .int .u8 a7] w fun r w' => r = .returned (.bool true) ∧ Below w.heap.size w w' := by
  have hx0 : SV.conc (⟨[(x0.n : Int), (x1.n : Int), (x2.n : Int), a1, a2, a3, a4, a5, a6, a7], [], [xArr x0 1 0, xArr x1 1 0, xArr x2 1 0], [], Iv (fun i j => match i, j with | 0, 0 => x0 | 1, 0 => x1 | 2, 0 => x2 | _, _ => Ext.none)⟩ : Env) Loc.id (.s (.xslc 0 (.lit 0) (.lit 0) (.v 0))) = x0.v := conc_ext g0 rfl rfl
  have hx1 : SV.conc (⟨[(x0.n : Int), (x1.n : Int), (x2.n : Int), a1, a2, a3, a4, a5, a6, a7], [], [xArr x0 1 0, xArr x1 1 0, xArr x2 1 0], [], Iv (fun i j => match i, j with | 0, 0 => x0 | 1, 0 => x1 | 2, 0 => x2 | _, _ => Ext.none)⟩ : Env) Loc.id (.s (.xslc 1 (.lit 0) (.lit 0) (.v 1))) = x1.v := conc_ext g1 rfl rfl
  have hx2 : SV.conc (⟨[(x0.n : Int), (x1.n : Int), (x2.n : Int), a1, a2, a3, a4, a5, a6, a7], [], [xArr x0 1 0, xArr x1 1 0, xArr x2 1 0], [], Iv (fun i j => match i, j with | 0, 0 => x0 | 1, 0 => x1 | 2, 0 => x2 | _, _ => Ext.none)⟩ : Env) Loc.id (.s (.xslc 2 (.lit 0) (.lit 0) (.v 2))) = x2.v := conc_ext g2 rfl rfl
  have hargs : (eeLs.map (SV.conc (⟨[(x0.n : Int), (x1.n : Int), (x2.n : Int), a1, a2, a3, a4, a5, a6, a7], [], [xArr x0 1 0, xArr x1 1 0, xArr x2 1 0], [], Iv (fun i j => match i, j with | 0, 0 => x0 | 1, 0 => x1 | 2, 0 => x2 | _, _ => Ext.none)⟩ : Env) Loc.id)).toArray = #[.agg #[x0.v, x1.v, x2.v], .int .i64 a1, .int .i64 a2, .int .i64 a3, .int .i64 a4, .int .i64 a5, .int .u8 a6, .int .u8 a7] := by
    refine congrArg List.toArray ?_
    exact (cons_eq (rows_eq hx0 hx1 hx2) (cons_eq rfl (cons_eq rfl (cons_eq rfl (cons_eq rfl (cons_eq rfl (cons_eq rfl (cons_eq rfl rfl))))))))
  rw [← hargs]
  have hok : Hyp.ok eeHy (⟨[(x0.n : Int), (x1.n : Int), (x2.n : Int), a1, a2, a3, a4, a5, a6, a7], [], [xArr x0 1 0, xArr x1 1 0, xArr x2 1 0], [], Iv (fun i j => match i, j with | 0, 0 => x0 | 1, 0 => x1 | 2, 0 => x2 | _, _ => Ext.none)⟩ : Env) := by
    refine ⟨?_, ?_, ?_, by simp [eeHy], ?_, by simp [eeHy]⟩
    · intro p hp
      simp only [eeHy, List.mem_cons, List.not_mem_nil, or_false] at hp
      rcases hp with rfl | rfl | rfl
      · exact xi_ok g0 rfl rfl rfl
      · exact xi_ok g1 rfl rfl rfl
      · exact xi_ok g2 rfl rfl rfl
    · intro p hp
      simp only [eeHy, List.mem_cons, List.not_mem_nil, or_false] at hp
      rcases hp with rfl | rfl | rfl | rfl | rfl | rfl | rfl | rfl | rfl | rfl
      · exact xlen_rng g0
      · exact xlen_rng g1
      · exact xlen_rng g2
      · exact bounds_i64 w1
      · exact bounds_i64 w2
      · exact w3
      · exact bounds_i64 w4
      · exact bounds_i64 w5
      · exact bounds_u8 w6
      · exact bounds_u8 w7
    · intro p hp
      simp only [eeHy, List.mem_cons, List.not_mem_nil, or_false] at hp
      rcases hp with rfl | rfl | rfl
      · exact xArr_rng g0
      · exact xArr_rng g1
      · exact xArr_rng g2
    · intro p hp is bs xs j
      simp only [eeHy, List.mem_cons, List.not_mem_nil, or_false] at hp
      rcases hp with rfl | rfl | rfl <;> exact vidF_rng _ _ _ (by decide) j
  exact law_true (ρ := (⟨[(x0.n : Int), (x1.n : Int), (x2.n : Int), a1, a2, a3, a4, a5, a6, a7], [], [xArr x0 1 0, xArr x1 1 0, xArr x2 1 0], [], Iv (fun i j => match i, j with | 0, 0 => x0 | 1, 0 => x1 | 2, 0 => x2 | _, _ => Ext.none)⟩ : Env)) (G_ok _) (by kernel_rfl) eerun rfl
    hok (by intro e he; cases he) (eevc x0 x1 x2 ((x0.n : Int)) ((x1.n : Int)) ((x2.n : Int)) (a1) (a2) (a3) (a4) (a5) (a6) (a7) (xArr x0 1 0) (xArr x1 1 0) (xArr x2 1 0) (xlen_rng g0) (xlen_rng g1) (xlen_rng g2) (bounds_i64 w1) (bounds_i64 w2) (w3) (bounds_i64 w4) (bounds_i64 w5) (bounds_u8 w6) (bounds_u8 w7) (xArr_rng g0) (xArr_rng g1) (xArr_rng g2)) w (fun i j => by rcases i with _ | _ | _ | i <;> rcases j with _ | j <;> first | exact Ext.none_ok _ | exact g0.ok | exact g1.ok | exact g2.ok)
def efHy : Hyp := ⟨[(.v 0, (0, 9223372036854775807)), (.v 1, (0, 9223372036854775807)), (.v 2, (0, 9223372036854775807)), (.v 3, (-9223372036854775808, 9223372036854775807)), (.v 4, (-9223372036854775808, 9223372036854775807)), (.v 5, (-9223372036854775808, 9223372036854775807)), (.v 6, (-9223372036854775808, 9223372036854775807)), (.v 7, (0, 255)), (.v 8, (0, 255))], [(0, (0, 65535)), (1, (0, 255)), (2, (0, 65535))], [], [(0, (0, 65535)), (1, (0, 255)), (2, (0, 32767))], [], [(0, ⟨.v 0, [(some .u16, .av 0)]⟩), (1, ⟨.v 1, [(some .u8, .av 1)]⟩), (2, ⟨.v 2, [(some .u16, .av 2)]⟩)]⟩
def efLs : List SV := [.agg [.one (.xslc 0 (.lit 0) (.lit 0) (.v 0)), .one (.xslc 1 (.lit 0) (.lit 0) (.v 1)), .one (.xslc 2 (.lit 0) (.lit 0) (.v 2))], .s (.int .i64 (.v 3)), .s (.int .i64 (.v 4)), .s (.int .i64 (.lit (8))), .s (.int .i64 (.v 5)), .s (.int .i64 (.v 6)), .s (.int .u8 (.v 7)), .s (.int .u8 (.v 8))]

theorem efrun : enter Try.prog G Gh 3000 6 5 efHy efLs [] = some ([], .s (.bool (.blit true)), none) := by kernel_rfl
theorem efvc (x0 : Ext) (x1 : Ext) (x2 : Ext) (nx0 nx1 nx2 a1 a2 a4 a5 a6 a7 : Int) (Ax0 Ax1 Ax2 : Nat → Int) (b0 : 0 ≤ nx0 ∧ nx0 ≤ 9223372036854775807) (b1 : 0 ≤ nx1 ∧ nx1 ≤ 9223372036854775807) (b2 : 0 ≤ nx2 ∧ nx2 ≤ 9223372036854775807) (b3 : -9223372036854775808 ≤ a1 ∧ a1 ≤ 9223372036854775807) (b4 : -9223372036854775808 ≤ a2 ∧ a2 ≤ 9223372036854775807) (b5 : -9223372036854775808 ≤ a4 ∧ a4 ≤ 9223372036854775807) (b6 : -9223372036854775808 ≤ a5 ∧ a5 ≤ 9223372036854775807) (b7 : 0 ≤ a6 ∧ a6 ≤ 255) (b8 : 0 ≤ a7 ∧ a7 ≤ 255) (B0 : ∀ j, 0 ≤ Ax0 j ∧ Ax0 j ≤ 65535) (B1 : ∀ j, 0 ≤ Ax1 j ∧ Ax1 j ≤ 255) (B2 : ∀ j, 0 ≤ Ax2 j ∧ Ax2 j ≤ 65535) : E.b (⟨[nx0, nx1, nx2, a1, a2, a4, a5, a6, a7], [], [Ax0, Ax1, Ax2], [], Iv (fun i j => match i, j with | 0, 0 => x0 | 1, 0 => x1 | 2, 0 => x2 | _, _ => Ext.none)⟩ : Env) (.blit true) = true := by
  rfl
theorem efcalls (x0 : Ext) (x1 : Ext) (x2 : Ext) (a1 : Int) (w1 : (Lit.int .i64 a1).wf = true) (a2 : Int) (w2 : (Lit.int .i64 a2).wf = true) (a4 : Int) (w4 : (Lit.int .i64 a4).wf = true) (a5 : Int) (w5 : (Lit.int .i64 a5).wf = true) (a6 : Int) (w6 : (Lit.int .u8 a6).wf = true) (a7 : Int) (w7 : (Lit.int .u8 a7).wf = true) (w : World) (g0 : XFit x0 w [some .u16]) (g1 : XFit x1 w [some .u8]) (g2 : XFit x2 w [some .u16]) :
    Calls Try.prog 5 #[.agg #[x0.v, x1.v, x2.v], .int .i64 a1, .int .i64 a2, .int .i64 (8), .int .i64 a4, .int .i64 a5, .int .u8 a6, .int .u8 a7] w fun r w' => r = .returned (.bool true) ∧ Below w.heap.size w w' := by
  have hx0 : SV.conc (⟨[(x0.n : Int), (x1.n : Int), (x2.n : Int), a1, a2, a4, a5, a6, a7], [], [xArr x0 1 0, xArr x1 1 0, xArr x2 1 0], [], Iv (fun i j => match i, j with | 0, 0 => x0 | 1, 0 => x1 | 2, 0 => x2 | _, _ => Ext.none)⟩ : Env) Loc.id (.s (.xslc 0 (.lit 0) (.lit 0) (.v 0))) = x0.v := conc_ext g0 rfl rfl
  have hx1 : SV.conc (⟨[(x0.n : Int), (x1.n : Int), (x2.n : Int), a1, a2, a4, a5, a6, a7], [], [xArr x0 1 0, xArr x1 1 0, xArr x2 1 0], [], Iv (fun i j => match i, j with | 0, 0 => x0 | 1, 0 => x1 | 2, 0 => x2 | _, _ => Ext.none)⟩ : Env) Loc.id (.s (.xslc 1 (.lit 0) (.lit 0) (.v 1))) = x1.v := conc_ext g1 rfl rfl
  have hx2 : SV.conc (⟨[(x0.n : Int), (x1.n : Int), (x2.n : Int), a1, a2, a4, a5, a6, a7], [], [xArr x0 1 0, xArr x1 1 0, xArr x2 1 0], [], Iv (fun i j => match i, j with | 0, 0 => x0 | 1, 0 => x1 | 2, 0 => x2 | _, _ => Ext.none)⟩ : Env) Loc.id (.s (.xslc 2 (.lit 0) (.lit 0) (.v 2))) = x2.v := conc_ext g2 rfl rfl
  have hargs : (efLs.map (SV.conc (⟨[(x0.n : Int), (x1.n : Int), (x2.n : Int), a1, a2, a4, a5, a6, a7], [], [xArr x0 1 0, xArr x1 1 0, xArr x2 1 0], [], Iv (fun i j => match i, j with | 0, 0 => x0 | 1, 0 => x1 | 2, 0 => x2 | _, _ => Ext.none)⟩ : Env) Loc.id)).toArray = #[.agg #[x0.v, x1.v, x2.v], .int .i64 a1, .int .i64 a2, .int .i64 (8), .int .i64 a4, .int .i64 a5, .int .u8 a6, .int .u8 a7] := by
    refine congrArg List.toArray ?_
    exact (cons_eq (rows_eq hx0 hx1 hx2) (cons_eq rfl (cons_eq rfl (cons_eq rfl (cons_eq rfl (cons_eq rfl (cons_eq rfl (cons_eq rfl rfl))))))))
  rw [← hargs]
  have hok : Hyp.ok efHy (⟨[(x0.n : Int), (x1.n : Int), (x2.n : Int), a1, a2, a4, a5, a6, a7], [], [xArr x0 1 0, xArr x1 1 0, xArr x2 1 0], [], Iv (fun i j => match i, j with | 0, 0 => x0 | 1, 0 => x1 | 2, 0 => x2 | _, _ => Ext.none)⟩ : Env) := by
    refine ⟨?_, ?_, ?_, by simp [efHy], ?_, by simp [efHy]⟩
    · intro p hp
      simp only [efHy, List.mem_cons, List.not_mem_nil, or_false] at hp
      rcases hp with rfl | rfl | rfl
      · exact xi_ok g0 rfl rfl rfl
      · exact xi_ok g1 rfl rfl rfl
      · exact xi_ok g2 rfl rfl rfl
    · intro p hp
      simp only [efHy, List.mem_cons, List.not_mem_nil, or_false] at hp
      rcases hp with rfl | rfl | rfl | rfl | rfl | rfl | rfl | rfl | rfl
      · exact xlen_rng g0
      · exact xlen_rng g1
      · exact xlen_rng g2
      · exact bounds_i64 w1
      · exact bounds_i64 w2
      · exact bounds_i64 w4
      · exact bounds_i64 w5
      · exact bounds_u8 w6
      · exact bounds_u8 w7
    · intro p hp
      simp only [efHy, List.mem_cons, List.not_mem_nil, or_false] at hp
      rcases hp with rfl | rfl | rfl
      · exact xArr_rng g0
      · exact xArr_rng g1
      · exact xArr_rng g2
    · intro p hp is bs xs j
      simp only [efHy, List.mem_cons, List.not_mem_nil, or_false] at hp
      rcases hp with rfl | rfl | rfl <;> exact vidF_rng _ _ _ (by decide) j
  exact law_true (ρ := (⟨[(x0.n : Int), (x1.n : Int), (x2.n : Int), a1, a2, a4, a5, a6, a7], [], [xArr x0 1 0, xArr x1 1 0, xArr x2 1 0], [], Iv (fun i j => match i, j with | 0, 0 => x0 | 1, 0 => x1 | 2, 0 => x2 | _, _ => Ext.none)⟩ : Env)) (G_ok _) (by kernel_rfl) efrun rfl
    hok (by intro e he; cases he) (efvc x0 x1 x2 ((x0.n : Int)) ((x1.n : Int)) ((x2.n : Int)) (a1) (a2) (a4) (a5) (a6) (a7) (xArr x0 1 0) (xArr x1 1 0) (xArr x2 1 0) (xlen_rng g0) (xlen_rng g1) (xlen_rng g2) (bounds_i64 w1) (bounds_i64 w2) (bounds_i64 w4) (bounds_i64 w5) (bounds_u8 w6) (bounds_u8 w7) (xArr_rng g0) (xArr_rng g1) (xArr_rng g2)) w (fun i j => by rcases i with _ | _ | _ | i <;> rcases j with _ | j <;> first | exact Ext.none_ok _ | exact g0.ok | exact g1.ok | exact g2.ok)
def egHy : Hyp := ⟨[(.v 0, (0, 9223372036854775807)), (.v 1, (0, 9223372036854775807)), (.v 2, (0, 9223372036854775807)), (.v 3, (-9223372036854775808, 9223372036854775807)), (.v 4, (-9223372036854775808, 9223372036854775807)), (.v 5, (9, 9223372036854775807)), (.v 6, (-9223372036854775808, 9223372036854775807)), (.v 7, (-9223372036854775808, 9223372036854775807)), (.v 8, (0, 255)), (.v 9, (0, 255))], [(0, (0, 65535)), (1, (0, 255)), (2, (0, 65535))], [], [(0, (0, 65535)), (1, (0, 255)), (2, (0, 32767))], [], [(0, ⟨.v 0, [(some .u16, .av 0)]⟩), (1, ⟨.v 1, [(some .u8, .av 1)]⟩), (2, ⟨.v 2, [(some .u16, .av 2)]⟩)]⟩
def egLs : List SV := [.agg [.one (.xslc 0 (.lit 0) (.lit 0) (.v 0)), .one (.xslc 1 (.lit 0) (.lit 0) (.v 1)), .one (.xslc 2 (.lit 0) (.lit 0) (.v 2))], .s (.int .i64 (.v 3)), .s (.int .i64 (.v 4)), .s (.int .i64 (.v 5)), .s (.int .i64 (.v 6)), .s (.int .i64 (.v 7)), .s (.int .u8 (.v 8)), .s (.int .u8 (.v 9))]

theorem egrun : enter Try.prog G Gh 3000 6 5 egHy egLs [] = some ([], .s (.bool (.blit true)), none) := by kernel_rfl
theorem egvc (x0 : Ext) (x1 : Ext) (x2 : Ext) (nx0 nx1 nx2 a1 a2 a3 a4 a5 a6 a7 : Int) (Ax0 Ax1 Ax2 : Nat → Int) (b0 : 0 ≤ nx0 ∧ nx0 ≤ 9223372036854775807) (b1 : 0 ≤ nx1 ∧ nx1 ≤ 9223372036854775807) (b2 : 0 ≤ nx2 ∧ nx2 ≤ 9223372036854775807) (b3 : -9223372036854775808 ≤ a1 ∧ a1 ≤ 9223372036854775807) (b4 : -9223372036854775808 ≤ a2 ∧ a2 ≤ 9223372036854775807) (b5 : 9 ≤ a3 ∧ a3 ≤ 9223372036854775807) (b6 : -9223372036854775808 ≤ a4 ∧ a4 ≤ 9223372036854775807) (b7 : -9223372036854775808 ≤ a5 ∧ a5 ≤ 9223372036854775807) (b8 : 0 ≤ a6 ∧ a6 ≤ 255) (b9 : 0 ≤ a7 ∧ a7 ≤ 255) (B0 : ∀ j, 0 ≤ Ax0 j ∧ Ax0 j ≤ 65535) (B1 : ∀ j, 0 ≤ Ax1 j ∧ Ax1 j ≤ 255) (B2 : ∀ j, 0 ≤ Ax2 j ∧ Ax2 j ≤ 65535) : E.b (⟨[nx0, nx1, nx2, a1, a2, a3, a4, a5, a6, a7], [], [Ax0, Ax1, Ax2], [], Iv (fun i j => match i, j with | 0, 0 => x0 | 1, 0 => x1 | 2, 0 => x2 | _, _ => Ext.none)⟩ : Env) (.blit true) = true := by
  rfl
theorem egcalls (x0 : Ext) (x1 : Ext) (x2 : Ext) (a1 : Int) (w1 : (Lit.int .i64 a1).wf = true) (a2 : Int) (w2 : (Lit.int .i64 a2).wf = true) (a3 : Int) (w3 : 9 ≤ a3 ∧ a3 ≤ 9223372036854775807) (a4 : Int) (w4 : (Lit.int .i64 a4).wf = true) (a5 : Int) (w5 : (Lit.int .i64 a5).wf = true) (a6 : Int) (w6 : (Lit.int .u8 a6).wf = true) (a7 : Int) (w7 : (Lit.int .u8 a7).wf = true) (w : World) (g0 : XFit x0 w [some .u16]) (g1 : XFit x1 w [some .u8]) (g2 : XFit x2 w [some .u16]) :
    Calls Try.prog 5 #[.agg #[x0.v, x1.v, x2.v], .int .i64 a1, .int .i64 a2, .int .i64 a3, .int .i64 a4, .int .i64 a5, .int .u8 a6, .int .u8 a7] w fun r w' => r = .returned (.bool true) ∧ Below w.heap.size w w' := by
  have hx0 : SV.conc (⟨[(x0.n : Int), (x1.n : Int), (x2.n : Int), a1, a2, a3, a4, a5, a6, a7], [], [xArr x0 1 0, xArr x1 1 0, xArr x2 1 0], [], Iv (fun i j => match i, j with | 0, 0 => x0 | 1, 0 => x1 | 2, 0 => x2 | _, _ => Ext.none)⟩ : Env) Loc.id (.s (.xslc 0 (.lit 0) (.lit 0) (.v 0))) = x0.v := conc_ext g0 rfl rfl
  have hx1 : SV.conc (⟨[(x0.n : Int), (x1.n : Int), (x2.n : Int), a1, a2, a3, a4, a5, a6, a7], [], [xArr x0 1 0, xArr x1 1 0, xArr x2 1 0], [], Iv (fun i j => match i, j with | 0, 0 => x0 | 1, 0 => x1 | 2, 0 => x2 | _, _ => Ext.none)⟩ : Env) Loc.id (.s (.xslc 1 (.lit 0) (.lit 0) (.v 1))) = x1.v := conc_ext g1 rfl rfl
  have hx2 : SV.conc (⟨[(x0.n : Int), (x1.n : Int), (x2.n : Int), a1, a2, a3, a4, a5, a6, a7], [], [xArr x0 1 0, xArr x1 1 0, xArr x2 1 0], [], Iv (fun i j => match i, j with | 0, 0 => x0 | 1, 0 => x1 | 2, 0 => x2 | _, _ => Ext.none)⟩ : Env) Loc.id (.s (.xslc 2 (.lit 0) (.lit 0) (.v 2))) = x2.v := conc_ext g2 rfl rfl
  have hargs : (egLs.map (SV.conc (⟨[(x0.n : Int), (x1.n : Int), (x2.n : Int), a1, a2, a3, a4, a5, a6, a7], [], [xArr x0 1 0, xArr x1 1 0, xArr x2 1 0], [], Iv (fun i j => match i, j with | 0, 0 => x0 | 1, 0 => x1 | 2, 0 => x2 | _, _ => Ext.none)⟩ : Env) Loc.id)).toArray = #[.agg #[x0.v, x1.v, x2.v], .int .i64 a1, .int .i64 a2, .int .i64 a3, .int .i64 a4, .int .i64 a5, .int .u8 a6, .int .u8 a7] := by
    refine congrArg List.toArray ?_
    exact (cons_eq (rows_eq hx0 hx1 hx2) (cons_eq rfl (cons_eq rfl (cons_eq rfl (cons_eq rfl (cons_eq rfl (cons_eq rfl (cons_eq rfl rfl))))))))
  rw [← hargs]
  have hok : Hyp.ok egHy (⟨[(x0.n : Int), (x1.n : Int), (x2.n : Int), a1, a2, a3, a4, a5, a6, a7], [], [xArr x0 1 0, xArr x1 1 0, xArr x2 1 0], [], Iv (fun i j => match i, j with | 0, 0 => x0 | 1, 0 => x1 | 2, 0 => x2 | _, _ => Ext.none)⟩ : Env) := by
    refine ⟨?_, ?_, ?_, by simp [egHy], ?_, by simp [egHy]⟩
    · intro p hp
      simp only [egHy, List.mem_cons, List.not_mem_nil, or_false] at hp
      rcases hp with rfl | rfl | rfl
      · exact xi_ok g0 rfl rfl rfl
      · exact xi_ok g1 rfl rfl rfl
      · exact xi_ok g2 rfl rfl rfl
    · intro p hp
      simp only [egHy, List.mem_cons, List.not_mem_nil, or_false] at hp
      rcases hp with rfl | rfl | rfl | rfl | rfl | rfl | rfl | rfl | rfl | rfl
      · exact xlen_rng g0
      · exact xlen_rng g1
      · exact xlen_rng g2
      · exact bounds_i64 w1
      · exact bounds_i64 w2
      · exact w3
      · exact bounds_i64 w4
      · exact bounds_i64 w5
      · exact bounds_u8 w6
      · exact bounds_u8 w7
    · intro p hp
      simp only [egHy, List.mem_cons, List.not_mem_nil, or_false] at hp
      rcases hp with rfl | rfl | rfl
      · exact xArr_rng g0
      · exact xArr_rng g1
      · exact xArr_rng g2
    · intro p hp is bs xs j
      simp only [egHy, List.mem_cons, List.not_mem_nil, or_false] at hp
      rcases hp with rfl | rfl | rfl <;> exact vidF_rng _ _ _ (by decide) j
  exact law_true (ρ := (⟨[(x0.n : Int), (x1.n : Int), (x2.n : Int), a1, a2, a3, a4, a5, a6, a7], [], [xArr x0 1 0, xArr x1 1 0, xArr x2 1 0], [], Iv (fun i j => match i, j with | 0, 0 => x0 | 1, 0 => x1 | 2, 0 => x2 | _, _ => Ext.none)⟩ : Env)) (G_ok _) (by kernel_rfl) egrun rfl
    hok (by intro e he; cases he) (egvc x0 x1 x2 ((x0.n : Int)) ((x1.n : Int)) ((x2.n : Int)) (a1) (a2) (a3) (a4) (a5) (a6) (a7) (xArr x0 1 0) (xArr x1 1 0) (xArr x2 1 0) (xlen_rng g0) (xlen_rng g1) (xlen_rng g2) (bounds_i64 w1) (bounds_i64 w2) (w3) (bounds_i64 w4) (bounds_i64 w5) (bounds_u8 w6) (bounds_u8 w7) (xArr_rng g0) (xArr_rng g1) (xArr_rng g2)) w (fun i j => by rcases i with _ | _ | _ | i <;> rcases j with _ | j <;> first | exact Ext.none_ok _ | exact g0.ok | exact g1.ok | exact g2.ok)
theorem calls (x0 : Ext) (x1 : Ext) (x2 : Ext) (a1 : Int) (w1 : (Lit.int .i64 a1).wf = true) (a2 : Int) (w2 : (Lit.int .i64 a2).wf = true) (a3 : Int) (w3 : (Lit.int .i64 a3).wf = true) (a4 : Int) (w4 : (Lit.int .i64 a4).wf = true) (a5 : Int) (w5 : (Lit.int .i64 a5).wf = true) (a6 : Int) (w6 : (Lit.int .u8 a6).wf = true) (a7 : Int) (w7 : (Lit.int .u8 a7).wf = true) (w : World) (g0 : XFit x0 w [some .u16]) (g1 : XFit x1 w [some .u8]) (g2 : XFit x2 w [some .u16]) :
    Calls Try.prog 5 #[.agg #[x0.v, x1.v, x2.v], .int .i64 a1, .int .i64 a2, .int .i64 a3, .int .i64 a4, .int .i64 a5, .int .u8 a6, .int .u8 a7] w fun r w' => r = .returned (.bool true) ∧ Below w.heap.size w w' := by
  have hr := bounds_i64 w3
  rcases (show (-9223372036854775808 ≤ a3 ∧ a3 ≤ 1) ∨ a3 = 2 ∨ a3 = 3 ∨ a3 = 4 ∨ (5 ≤ a3 ∧ a3 ≤ 7) ∨ a3 = 8 ∨ (9 ≤ a3 ∧ a3 ≤ 9223372036854775807) by omega) with h | rfl | rfl | rfl | h | rfl | h
  · exact eacalls x0 x1 x2 a1 w1 a2 w2 a3 h  a4 w4 a5 w5 a6 w6 a7 w7 w g0 g1 g2
  · exact ebcalls x0 x1 x2 a1 w1 a2 w2 a4 w4 a5 w5 a6 w6 a7 w7 w g0 g1 g2
  · exact eccalls x0 x1 x2 a1 w1 a2 w2 a4 w4 a5 w5 a6 w6 a7 w7 w g0 g1 g2
  · exact edcalls x0 x1 x2 a1 w1 a2 w2 a4 w4 a5 w5 a6 w6 a7 w7 w g0 g1 g2
  · exact eecalls x0 x1 x2 a1 w1 a2 w2 a3 h  a4 w4 a5 w5 a6 w6 a7 w7 w g0 g1 g2
  · exact efcalls x0 x1 x2 a1 w1 a2 w2 a4 w4 a5 w5 a6 w6 a7 w7 w g0 g1 g2
  · exact egcalls x0 x1 x2 a1 w1 a2 w2 a3 h  a4 w4 a5 w5 a6 w6 a7 w7 w g0 g1 g2

theorem own : ownKnob Try.prog.godebug = none := by kernel_rfl
theorem lifted (os : Os) (started : os.Started) (H : Type) (enc : TypeId × Value → H) :
    ReturnsInHanded {} Try.checked os 5 .any (Rows.cellBitsSpec.pre6 enc Try.prog Try.f5 Rows.cellBitsRow.domain false) (Rows.cellBitsSpec.post enc Try.prog Try.f5 false true false false) := by
  refine returnsInHanded_of_change (C := Try.checked) own started (by kernel_rfl) Try.func5
    (ChangeSpec.witness6 (enc := enc) (C := Try.checked) false ⟨#[], #[.agg #[.slice none 0 0, .slice none 0 0, .slice none 0 0], .int .i64 0, .int .i64 0, .int .i64 0, .int .i64 0, .int .i64 0, .int .u8 0, .int .u8 0], []⟩ 8 (by kernel_rfl) (by kernel_rfl) (by kernel_rfl) (by kernel_rfl)) ?_
  intro W base args ds gs before hval0 hW hcnd _
  have hval : ∀ (j : Nat) t v, Try.f5.params[j]? = some t → args[j]? = some v → Value.okWide Try.prog W .any base t v := hval0
  have hW' := hW
  obtain ⟨p, q, hA0, hV, rfl, hfz, hnd⟩ := hW
  have hA1 : DataW.TrodAll enc Try.prog W 0 (fun _ => true) true Try.f5.params.toList args.toList ds p := hA0
  rw [Try.params5] at hA1 hval
  obtain ⟨v0, vs0, d0, ds0, p0, q0, hargs, rfl, rfl, h0, r0⟩ := trodAll_cons hA1
  obtain ⟨v1, vs1, d1, ds1, p1, q1, rfl, rfl, rfl, h1, r1⟩ := trodAll_cons r0
  obtain ⟨v2, vs2, d2, ds2, p2, q2, rfl, rfl, rfl, h2, r2⟩ := trodAll_cons r1
  obtain ⟨v3, vs3, d3, ds3, p3, q3, rfl, rfl, rfl, h3, r3⟩ := trodAll_cons r2
  obtain ⟨v4, vs4, d4, ds4, p4, q4, rfl, rfl, rfl, h4, r4⟩ := trodAll_cons r3
  obtain ⟨v5, vs5, d5, ds5, p5, q5, rfl, rfl, rfl, h5, r5⟩ := trodAll_cons r4
  obtain ⟨v6, vs6, d6, ds6, p6, q6, rfl, rfl, rfl, h6, r6⟩ := trodAll_cons r5
  obtain ⟨v7, vs7, d7, ds7, p7, q7, rfl, rfl, rfl, h7, r7⟩ := trodAll_cons r6
  obtain ⟨rfl, rfl, rfl⟩ := trodAll_nil r7
  obtain rfl : args = #[v0, v1, v2, v3, v4, v5, v6, v7] := by cases args; simp_all
  obtain ⟨x0, x1, x2, rfl, g0, g1, g2⟩ := open_rows 4 Try.underlying25 (by kernel_rfl) ⟨rfl, rfl, rfl⟩ Try.underlying22 Try.underlying23 Try.underlying22 ⟨by kernel_rfl, by kernel_rfl, by kernel_rfl⟩ ⟨by kernel_rfl, by kernel_rfl, by kernel_rfl⟩ ⟨by kernel_rfl, by kernel_rfl, by kernel_rfl⟩ (hval 0 25 v0 rfl rfl) h0
  obtain ⟨a1, rfl, rfl, rfl, w1⟩ := open_int Try.underlying3 (hval 1 3 v1 rfl rfl) h1
  obtain ⟨a2, rfl, rfl, rfl, w2⟩ := open_int Try.underlying3 (hval 2 3 v2 rfl rfl) h2
  obtain ⟨a3, rfl, rfl, rfl, w3⟩ := open_int Try.underlying3 (hval 3 3 v3 rfl rfl) h3
  obtain ⟨a4, rfl, rfl, rfl, w4⟩ := open_int Try.underlying3 (hval 4 3 v4 rfl rfl) h4
  obtain ⟨a5, rfl, rfl, rfl, w5⟩ := open_int Try.underlying3 (hval 5 3 v5 rfl rfl) h5
  obtain ⟨a6, rfl, rfl, rfl, w6⟩ := open_int Try.underlying5 (hval 6 5 v6 rfl rfl) h6
  obtain ⟨a7, rfl, rfl, rfl, w7⟩ := open_int Try.underlying5 (hval 7 5 v7 rfl rfl) h7
  obtain ⟨rfl, rfl⟩ := trodVars_none hV

  refine (calls x0 x1 x2 a1 w1 a2 w2 a3 w3 a4 w4 a5 w5 a6 w6 a7 w7 W g0 g1 g2).mono fun e W' ⟨he, hb⟩ => ⟨_, he, ?_⟩
  exact law_post (by kernel_rfl) (by kernel_rfl) rfl (by kernel_rfl) Try.underlying4 rfl hW' hb
theorem over : Rows.cellBitsRow.holds Try.pinned (OpenSpec.ofChange Rows.cellBitsSpec) :=
  OpenClaim.holds_of_wide 5 Try.f5 rfl rfl rfl rfl rfl rfl rfl ⟨rfl, rfl, rfl, rfl, rfl⟩ rfl rfl rfl rfl rfl (by kernel_rfl) Try.func5 (by kernel_rfl)
    (of_decide_eq_true (by kernel_rfl)) (by unfold Func.isWrapper; first | (rw [if_pos (by decide +kernel)]; kernel_rfl) | (rw [if_neg (by decide +kernel)]; exact ⟨rfl, rfl⟩))
    (fun os started H enc _ => lifted os started H enc)
theorem proved : Rows.CellBitsSaid := over
#print axioms proved
end Go.Proofs.Ytcamkhjahdebeaa.CellBits
