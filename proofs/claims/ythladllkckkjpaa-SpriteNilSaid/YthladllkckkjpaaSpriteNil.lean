/- The law SpriteNil returns true for every input. No memories, no registers. It is run by symbols (SxA, SxB, SxC); what is left is arithmetic. No condition. -/
import Derived.Test.YthladllkckkjpaaRows
import Derived.Test.YthladllkckkjpaaSxC
import Derived.Test.YthladllkckkjpaaSpecs
import Derived.Test.YthladllkckkjpaaAwake
namespace Go.Proofs.Ythladllkckkjpaa.SpriteNil
open Go.Sx Go.ChangeShapes Go.WideShapes Go.ChangeAt Go.RowKit
set_option linter.unusedVariables false
set_option linter.unusedSimpArgs false
set_option maxRecDepth 100000
noncomputable def G : Ctx := inlS Try.prog [] (ctx [(25, specVideo 49), (16, trueSpec), (36, btSpec)]) 3000 6 8
noncomputable def Gh : HintCtx := inlSH Try.prog [] (ctx [(25, specVideo 49), (16, trueSpec), (36, btSpec)]) 3000 6 8
def Pc1 : List Pc := [.arr .u8 64, .arr .u16 4, .arr .u16 4, .arr .i16 6, .num .i16, .num .i16, .num .u16]
def Pc2 : List Pc := [.num .i64, .num .i64, .num .i64, .num .i64, .num .u8, .num .u8, .num .u8, .bit, .bit, .bit]
theorem G_ok (xs : Nat → Nat → Ext) : CtxOK Try.prog (Iv xs) G := inlS_ok (ctx_ok (fun p hp => by
  simp only [List.mem_cons, List.not_mem_nil, or_false] at hp
  rcases hp with rfl | rfl | rfl
  · exact specVideo_ok video_ok rfl
  · exact awake_ok _
  · exact btSpec_ok
 )) (by kernel_rfl) 3000 6 8
def eHy : Hyp := ⟨[(.v 0, (0, 9223372036854775807)), (.v 1, (0, 9223372036854775807)), (.v 2, (0, 9223372036854775807)), (.v 3, (-32768, 32767)), (.v 4, (-32768, 32767)), (.v 5, (0, 65535)), (.v 6, (-9223372036854775808, 9223372036854775807)), (.v 7, (-9223372036854775808, 9223372036854775807)), (.v 8, (-9223372036854775808, 9223372036854775807)), (.v 9, (-9223372036854775808, 9223372036854775807)), (.v 10, (0, 255)), (.v 11, (0, 255)), (.v 12, (0, 255))], [(0, (0, 65535)), (1, (0, 255)), (2, (0, 65535)), (3, (0, 255)), (4, (0, 65535)), (5, (0, 65535)), (6, (-32768, 32767))], [], [(0, (0, 65535)), (1, (0, 255)), (2, (0, 32767))], [], [(0, ⟨.v 0, [(some .u16, .av 0)]⟩), (1, ⟨.v 1, [(some .u8, .av 1)]⟩), (2, ⟨.v 2, [(some .u16, .av 2)]⟩)]⟩
def eLs : List SV := [.agg [.one (.xslc 0 (.lit 0) (.lit 0) (.v 0)), .one (.xslc 1 (.lit 0) (.lit 0) (.v 1)), .one (.xslc 2 (.lit 0) (.lit 0) (.v 2))], .agg (pcSegs 3 0 3 Pc1), .agg (pcSegs 7 0 6 Pc2)]

theorem erun : enter Try.prog G Gh 3000 6 10 eHy eLs [] = some ([], .s (.bool (.blit true)), none) := by kernel_rfl
theorem evc (x0 : Ext) (x1 : Ext) (x2 : Ext) (nx0 nx1 nx2 n1_4 n1_5 n1_6 n2_0 n2_1 n2_2 n2_3 n2_4 n2_5 n2_6 : Int) (p0 p1 p2 : Bool) (Ax0 Ax1 Ax2 A3 A4 A5 A6 : Nat → Int) (b0 : 0 ≤ nx0 ∧ nx0 ≤ 9223372036854775807) (b1 : 0 ≤ nx1 ∧ nx1 ≤ 9223372036854775807) (b2 : 0 ≤ nx2 ∧ nx2 ≤ 9223372036854775807) (b3 : -32768 ≤ n1_4 ∧ n1_4 ≤ 32767) (b4 : -32768 ≤ n1_5 ∧ n1_5 ≤ 32767) (b5 : 0 ≤ n1_6 ∧ n1_6 ≤ 65535) (b6 : -9223372036854775808 ≤ n2_0 ∧ n2_0 ≤ 9223372036854775807) (b7 : -9223372036854775808 ≤ n2_1 ∧ n2_1 ≤ 9223372036854775807) (b8 : -9223372036854775808 ≤ n2_2 ∧ n2_2 ≤ 9223372036854775807) (b9 : -9223372036854775808 ≤ n2_3 ∧ n2_3 ≤ 9223372036854775807) (b10 : 0 ≤ n2_4 ∧ n2_4 ≤ 255) (b11 : 0 ≤ n2_5 ∧ n2_5 ≤ 255) (b12 : 0 ≤ n2_6 ∧ n2_6 ≤ 255) (B0 : ∀ j, 0 ≤ Ax0 j ∧ Ax0 j ≤ 65535) (B1 : ∀ j, 0 ≤ Ax1 j ∧ Ax1 j ≤ 255) (B2 : ∀ j, 0 ≤ Ax2 j ∧ Ax2 j ≤ 65535) (B3 : ∀ j, 0 ≤ A3 j ∧ A3 j ≤ 255) (B4 : ∀ j, 0 ≤ A4 j ∧ A4 j ≤ 65535) (B5 : ∀ j, 0 ≤ A5 j ∧ A5 j ≤ 65535) (B6 : ∀ j, -32768 ≤ A6 j ∧ A6 j ≤ 32767) : E.b (⟨[nx0, nx1, nx2, n1_4, n1_5, n1_6, n2_0, n2_1, n2_2, n2_3, n2_4, n2_5, n2_6], [p0, p1, p2], [Ax0, Ax1, Ax2, A3, A4, A5, A6], [], Iv (fun i j => match i, j with | 0, 0 => x0 | 1, 0 => x1 | 2, 0 => x2 | _, _ => Ext.none)⟩ : Env) (.blit true) = true := by
  rfl
theorem ecalls (x0 : Ext) (x1 : Ext) (x2 : Ext) (c1 : List Value) (l1 : c1.length = pcTotal Pc1) (f1 : PcFit c1 0 Pc1) (c2 : List Value) (l2 : c2.length = pcTotal Pc2) (f2 : PcFit c2 0 Pc2) (w : World) (g0 : XFit x0 w [some .u16]) (g1 : XFit x1 w [some .u8]) (g2 : XFit x2 w [some .u16]) :
    Calls Try.prog 10 #[.agg #[x0.v, x1.v, x2.v], .agg c1.toArray, .agg c2.toArray] w fun r w' => r = .returned (.bool true) ∧ Below w.heap.size w w' := by
  have hc1 : cellsOf (⟨[(x0.n : Int), (x1.n : Int), (x2.n : Int), intV (c1.getD 78 Go.undef), intV (c1.getD 79 Go.undef), intV (c1.getD 80 Go.undef), intV (c2.getD 0 Go.undef), intV (c2.getD 1 Go.undef), intV (c2.getD 2 Go.undef), intV (c2.getD 3 Go.undef), intV (c2.getD 4 Go.undef), intV (c2.getD 5 Go.undef), intV (c2.getD 6 Go.undef)], [boolV (c2.getD 7 Go.undef), boolV (c2.getD 8 Go.undef), boolV (c2.getD 9 Go.undef)], [xArr x0 1 0, xArr x1 1 0, xArr x2 1 0, arrOf c1 0 64, arrOf c1 64 4, arrOf c1 68 4, arrOf c1 72 6], [], Iv (fun i j => match i, j with | 0, 0 => x0 | 1, 0 => x1 | 2, 0 => x2 | _, _ => Ext.none)⟩ : Env) Loc.id (pcSegs 3 0 3 Pc1) = c1 := by
    rw [pc_cells Pc1 0 3 0 3 f1 (by intro j hj; rcases j with _ | _ | _ | _ | j <;> first | rfl | (simp [Pc1, pcA, pcB, pcI] at hj; omega)) (by intro j hj; simp [Pc1, pcA, pcB, pcI] at hj) (by intro j hj; rcases j with _ | _ | _ | j <;> first | rfl | (simp [Pc1, pcA, pcB, pcI] at hj; omega)), List.drop_zero, ← l1, List.take_length]
  have hc2 : cellsOf (⟨[(x0.n : Int), (x1.n : Int), (x2.n : Int), intV (c1.getD 78 Go.undef), intV (c1.getD 79 Go.undef), intV (c1.getD 80 Go.undef), intV (c2.getD 0 Go.undef), intV (c2.getD 1 Go.undef), intV (c2.getD 2 Go.undef), intV (c2.getD 3 Go.undef), intV (c2.getD 4 Go.undef), intV (c2.getD 5 Go.undef), intV (c2.getD 6 Go.undef)], [boolV (c2.getD 7 Go.undef), boolV (c2.getD 8 Go.undef), boolV (c2.getD 9 Go.undef)], [xArr x0 1 0, xArr x1 1 0, xArr x2 1 0, arrOf c1 0 64, arrOf c1 64 4, arrOf c1 68 4, arrOf c1 72 6], [], Iv (fun i j => match i, j with | 0, 0 => x0 | 1, 0 => x1 | 2, 0 => x2 | _, _ => Ext.none)⟩ : Env) Loc.id (pcSegs 7 0 6 Pc2) = c2 := by
    rw [pc_cells Pc2 0 7 0 6 f2 (by intro j hj; simp [Pc2, pcA, pcB, pcI] at hj) (by intro j hj; rcases j with _ | _ | _ | j <;> first | rfl | (simp [Pc2, pcA, pcB, pcI] at hj; omega)) (by intro j hj; rcases j with _ | _ | _ | _ | _ | _ | _ | j <;> first | rfl | (simp [Pc2, pcA, pcB, pcI] at hj; omega)), List.drop_zero, ← l2, List.take_length]
  have hx0 : SV.conc (⟨[(x0.n : Int), (x1.n : Int), (x2.n : Int), intV (c1.getD 78 Go.undef), intV (c1.getD 79 Go.undef), intV (c1.getD 80 Go.undef), intV (c2.getD 0 Go.undef), intV (c2.getD 1 Go.undef), intV (c2.getD 2 Go.undef), intV (c2.getD 3 Go.undef), intV (c2.getD 4 Go.undef), intV (c2.getD 5 Go.undef), intV (c2.getD 6 Go.undef)], [boolV (c2.getD 7 Go.undef), boolV (c2.getD 8 Go.undef), boolV (c2.getD 9 Go.undef)], [xArr x0 1 0, xArr x1 1 0, xArr x2 1 0, arrOf c1 0 64, arrOf c1 64 4, arrOf c1 68 4, arrOf c1 72 6], [], Iv (fun i j => match i, j with | 0, 0 => x0 | 1, 0 => x1 | 2, 0 => x2 | _, _ => Ext.none)⟩ : Env) Loc.id (.s (.xslc 0 (.lit 0) (.lit 0) (.v 0))) = x0.v := conc_ext g0 rfl rfl
  have hx1 : SV.conc (⟨[(x0.n : Int), (x1.n : Int), (x2.n : Int), intV (c1.getD 78 Go.undef), intV (c1.getD 79 Go.undef), intV (c1.getD 80 Go.undef), intV (c2.getD 0 Go.undef), intV (c2.getD 1 Go.undef), intV (c2.getD 2 Go.undef), intV (c2.getD 3 Go.undef), intV (c2.getD 4 Go.undef), intV (c2.getD 5 Go.undef), intV (c2.getD 6 Go.undef)], [boolV (c2.getD 7 Go.undef), boolV (c2.getD 8 Go.undef), boolV (c2.getD 9 Go.undef)], [xArr x0 1 0, xArr x1 1 0, xArr x2 1 0, arrOf c1 0 64, arrOf c1 64 4, arrOf c1 68 4, arrOf c1 72 6], [], Iv (fun i j => match i, j with | 0, 0 => x0 | 1, 0 => x1 | 2, 0 => x2 | _, _ => Ext.none)⟩ : Env) Loc.id (.s (.xslc 1 (.lit 0) (.lit 0) (.v 1))) = x1.v := conc_ext g1 rfl rfl
  have hx2 : SV.conc (⟨[(x0.n : Int), (x1.n : Int), (x2.n : Int), intV (c1.getD 78 Go.undef), intV (c1.getD 79 Go.undef), intV (c1.getD 80 Go.undef), intV (c2.getD 0 Go.undef), intV (c2.getD 1 Go.undef), intV (c2.getD 2 Go.undef), intV (c2.getD 3 Go.undef), intV (c2.getD 4 Go.undef), intV (c2.getD 5 Go.undef), intV (c2.getD 6 Go.undef)], [boolV (c2.getD 7 Go.undef), boolV (c2.getD 8 Go.undef), boolV (c2.getD 9 Go.undef)], [xArr x0 1 0, xArr x1 1 0, xArr x2 1 0, arrOf c1 0 64, arrOf c1 64 4, arrOf c1 68 4, arrOf c1 72 6], [], Iv (fun i j => match i, j with | 0, 0 => x0 | 1, 0 => x1 | 2, 0 => x2 | _, _ => Ext.none)⟩ : Env) Loc.id (.s (.xslc 2 (.lit 0) (.lit 0) (.v 2))) = x2.v := conc_ext g2 rfl rfl
  have hargs : (eLs.map (SV.conc (⟨[(x0.n : Int), (x1.n : Int), (x2.n : Int), intV (c1.getD 78 Go.undef), intV (c1.getD 79 Go.undef), intV (c1.getD 80 Go.undef), intV (c2.getD 0 Go.undef), intV (c2.getD 1 Go.undef), intV (c2.getD 2 Go.undef), intV (c2.getD 3 Go.undef), intV (c2.getD 4 Go.undef), intV (c2.getD 5 Go.undef), intV (c2.getD 6 Go.undef)], [boolV (c2.getD 7 Go.undef), boolV (c2.getD 8 Go.undef), boolV (c2.getD 9 Go.undef)], [xArr x0 1 0, xArr x1 1 0, xArr x2 1 0, arrOf c1 0 64, arrOf c1 64 4, arrOf c1 68 4, arrOf c1 72 6], [], Iv (fun i j => match i, j with | 0, 0 => x0 | 1, 0 => x1 | 2, 0 => x2 | _, _ => Ext.none)⟩ : Env) Loc.id)).toArray = #[.agg #[x0.v, x1.v, x2.v], .agg c1.toArray, .agg c2.toArray] := by
    refine congrArg List.toArray ?_
    exact (cons_eq (rows_eq hx0 hx1 hx2) (cons_eq (congrArg (fun l => Value.agg (List.toArray l)) hc1) (cons_eq (congrArg (fun l => Value.agg (List.toArray l)) hc2) rfl)))
  rw [← hargs]
  have hok : Hyp.ok eHy (⟨[(x0.n : Int), (x1.n : Int), (x2.n : Int), intV (c1.getD 78 Go.undef), intV (c1.getD 79 Go.undef), intV (c1.getD 80 Go.undef), intV (c2.getD 0 Go.undef), intV (c2.getD 1 Go.undef), intV (c2.getD 2 Go.undef), intV (c2.getD 3 Go.undef), intV (c2.getD 4 Go.undef), intV (c2.getD 5 Go.undef), intV (c2.getD 6 Go.undef)], [boolV (c2.getD 7 Go.undef), boolV (c2.getD 8 Go.undef), boolV (c2.getD 9 Go.undef)], [xArr x0 1 0, xArr x1 1 0, xArr x2 1 0, arrOf c1 0 64, arrOf c1 64 4, arrOf c1 68 4, arrOf c1 72 6], [], Iv (fun i j => match i, j with | 0, 0 => x0 | 1, 0 => x1 | 2, 0 => x2 | _, _ => Ext.none)⟩ : Env) := by
    refine ⟨?_, ?_, ?_, by simp [eHy], ?_, by simp [eHy]⟩
    · intro p hp
      simp only [eHy, List.mem_cons, List.not_mem_nil, or_false] at hp
      rcases hp with rfl | rfl | rfl
      · exact xi_ok g0 rfl rfl rfl
      · exact xi_ok g1 rfl rfl rfl
      · exact xi_ok g2 rfl rfl rfl
    · intro p hp
      simp only [eHy, List.mem_cons, List.not_mem_nil, or_false] at hp
      rcases hp with rfl | rfl | rfl | rfl | rfl | rfl | rfl | rfl | rfl | rfl | rfl | rfl | rfl
      · exact xlen_rng g0
      · exact xlen_rng g1
      · exact xlen_rng g2
      · exact num_rng (f1.tail.tail.tail.tail)
      · exact num_rng (f1.tail.tail.tail.tail.tail)
      · exact num_rng (f1.tail.tail.tail.tail.tail.tail)
      · exact num_rng (f2)
      · exact num_rng (f2.tail)
      · exact num_rng (f2.tail.tail)
      · exact num_rng (f2.tail.tail.tail)
      · exact num_rng (f2.tail.tail.tail.tail)
      · exact num_rng (f2.tail.tail.tail.tail.tail)
      · exact num_rng (f2.tail.tail.tail.tail.tail.tail)
    · intro p hp
      simp only [eHy, List.mem_cons, List.not_mem_nil, or_false] at hp
      rcases hp with rfl | rfl | rfl | rfl | rfl | rfl | rfl
      · exact xArr_rng g0
      · exact xArr_rng g1
      · exact xArr_rng g2
      · exact arrOf_rng (f1)
      · exact arrOf_rng (f1.tail)
      · exact arrOf_rng (f1.tail.tail)
      · exact arrOf_rng (f1.tail.tail.tail)
    · intro p hp is bs xs j
      simp only [eHy, List.mem_cons, List.not_mem_nil, or_false] at hp
      rcases hp with rfl | rfl | rfl <;> exact vidF_rng _ _ _ (by decide) j
  exact law_true (ρ := (⟨[(x0.n : Int), (x1.n : Int), (x2.n : Int), intV (c1.getD 78 Go.undef), intV (c1.getD 79 Go.undef), intV (c1.getD 80 Go.undef), intV (c2.getD 0 Go.undef), intV (c2.getD 1 Go.undef), intV (c2.getD 2 Go.undef), intV (c2.getD 3 Go.undef), intV (c2.getD 4 Go.undef), intV (c2.getD 5 Go.undef), intV (c2.getD 6 Go.undef)], [boolV (c2.getD 7 Go.undef), boolV (c2.getD 8 Go.undef), boolV (c2.getD 9 Go.undef)], [xArr x0 1 0, xArr x1 1 0, xArr x2 1 0, arrOf c1 0 64, arrOf c1 64 4, arrOf c1 68 4, arrOf c1 72 6], [], Iv (fun i j => match i, j with | 0, 0 => x0 | 1, 0 => x1 | 2, 0 => x2 | _, _ => Ext.none)⟩ : Env)) (G_ok _) (by kernel_rfl) erun rfl
    hok (by intro e he; cases he) (evc x0 x1 x2 ((x0.n : Int)) ((x1.n : Int)) ((x2.n : Int)) (intV (c1.getD 78 Go.undef)) (intV (c1.getD 79 Go.undef)) (intV (c1.getD 80 Go.undef)) (intV (c2.getD 0 Go.undef)) (intV (c2.getD 1 Go.undef)) (intV (c2.getD 2 Go.undef)) (intV (c2.getD 3 Go.undef)) (intV (c2.getD 4 Go.undef)) (intV (c2.getD 5 Go.undef)) (intV (c2.getD 6 Go.undef)) (boolV (c2.getD 7 Go.undef)) (boolV (c2.getD 8 Go.undef)) (boolV (c2.getD 9 Go.undef)) (xArr x0 1 0) (xArr x1 1 0) (xArr x2 1 0) (arrOf c1 0 64) (arrOf c1 64 4) (arrOf c1 68 4) (arrOf c1 72 6) (xlen_rng g0) (xlen_rng g1) (xlen_rng g2) (num_rng (f1.tail.tail.tail.tail)) (num_rng (f1.tail.tail.tail.tail.tail)) (num_rng (f1.tail.tail.tail.tail.tail.tail)) (num_rng (f2)) (num_rng (f2.tail)) (num_rng (f2.tail.tail)) (num_rng (f2.tail.tail.tail)) (num_rng (f2.tail.tail.tail.tail)) (num_rng (f2.tail.tail.tail.tail.tail)) (num_rng (f2.tail.tail.tail.tail.tail.tail)) (xArr_rng g0) (xArr_rng g1) (xArr_rng g2) (arrOf_rng (f1)) (arrOf_rng (f1.tail)) (arrOf_rng (f1.tail.tail)) (arrOf_rng (f1.tail.tail.tail))) w (fun i j => by rcases i with _ | _ | _ | i <;> rcases j with _ | j <;> first | exact Ext.none_ok _ | exact g0.ok | exact g1.ok | exact g2.ok)
theorem own : ownKnob Try.prog.godebug = none := by kernel_rfl
theorem lifted (os : Os) (started : os.Started) (H : Type) (enc : TypeId × Value → H) :
    ReturnsInHanded {} Try.checked os 10 .any (Rows.spriteNilSpec.pre6 enc Try.prog Try.f10 Rows.spriteNilRow.domain false) (Rows.spriteNilSpec.post enc Try.prog Try.f10 false true false false) := by
  refine returnsInHanded_of_change (C := Try.checked) own started (by kernel_rfl) Try.func10
    (ChangeSpec.witness6 (enc := enc) (C := Try.checked) false ⟨#[], #[.agg #[.slice none 0 0, .slice none 0 0, .slice none 0 0], .agg #[.int .u8 0, .int .u8 0, .int .u8 0, .int .u8 0, .int .u8 0, .int .u8 0, .int .u8 0, .int .u8 0, .int .u8 0, .int .u8 0, .int .u8 0, .int .u8 0, .int .u8 0, .int .u8 0, .int .u8 0, .int .u8 0, .int .u8 0, .int .u8 0, .int .u8 0, .int .u8 0, .int .u8 0, .int .u8 0, .int .u8 0, .int .u8 0, .int .u8 0, .int .u8 0, .int .u8 0, .int .u8 0, .int .u8 0, .int .u8 0, .int .u8 0, .int .u8 0, .int .u8 0, .int .u8 0, .int .u8 0, .int .u8 0, .int .u8 0, .int .u8 0, .int .u8 0, .int .u8 0, .int .u8 0, .int .u8 0, .int .u8 0, .int .u8 0, .int .u8 0, .int .u8 0, .int .u8 0, .int .u8 0, .int .u8 0, .int .u8 0, .int .u8 0, .int .u8 0, .int .u8 0, .int .u8 0, .int .u8 0, .int .u8 0, .int .u8 0, .int .u8 0, .int .u8 0, .int .u8 0, .int .u8 0, .int .u8 0, .int .u8 0, .int .u8 0, .int .u16 0, .int .u16 0, .int .u16 0, .int .u16 0, .int .u16 0, .int .u16 0, .int .u16 0, .int .u16 0, .int .i16 0, .int .i16 0, .int .i16 0, .int .i16 0, .int .i16 0, .int .i16 0, .int .i16 0, .int .i16 0, .int .u16 0], .agg #[.int .i64 0, .int .i64 0, .int .i64 0, .int .i64 0, .int .u8 0, .int .u8 0, .int .u8 0, .bool false, .bool false, .bool false]], []⟩ 8 (by kernel_rfl) (by kernel_rfl) (by kernel_rfl) (by kernel_rfl)) ?_
  intro W base args ds gs before hval0 hW hcnd _
  have hval : ∀ (j : Nat) t v, Try.f10.params[j]? = some t → args[j]? = some v → Value.okWide Try.prog W .any base t v := hval0
  have hW' := hW
  obtain ⟨p, q, hA0, hV, rfl, hfz, hnd⟩ := hW
  have hA1 : DataW.TrodAll enc Try.prog W 0 (fun _ => true) true Try.f10.params.toList args.toList ds p := hA0
  rw [Try.params10] at hA1 hval
  obtain ⟨v0, vs0, d0, ds0, p0, q0, hargs, rfl, rfl, h0, r0⟩ := trodAll_cons hA1
  obtain ⟨v1, vs1, d1, ds1, p1, q1, rfl, rfl, rfl, h1, r1⟩ := trodAll_cons r0
  obtain ⟨v2, vs2, d2, ds2, p2, q2, rfl, rfl, rfl, h2, r2⟩ := trodAll_cons r1
  obtain ⟨rfl, rfl, rfl⟩ := trodAll_nil r2
  obtain rfl : args = #[v0, v1, v2] := by cases args; simp_all
  obtain ⟨x0, x1, x2, rfl, g0, g1, g2⟩ := open_rows 4 Try.underlying25 (by kernel_rfl) ⟨rfl, rfl, rfl⟩ Try.underlying22 Try.underlying23 Try.underlying22 ⟨by kernel_rfl, by kernel_rfl, by kernel_rfl⟩ ⟨by kernel_rfl, by kernel_rfl, by kernel_rfl⟩ ⟨by kernel_rfl, by kernel_rfl, by kernel_rfl⟩ (hval 0 25 v0 rfl rfl) h0
  obtain ⟨c1, rfl, l1, f1⟩ := open_pc Pc1 8 (by kernel_rfl) (by kernel_rfl) (by kernel_rfl) (hval 1 32 v1 rfl rfl) h1
  obtain ⟨c2, rfl, l2, f2⟩ := open_pc Pc2 8 (by kernel_rfl) (by kernel_rfl) (by kernel_rfl) (hval 2 56 v2 rfl rfl) h2
  obtain ⟨rfl, rfl⟩ := trodVars_none hV

  refine (ecalls x0 x1 x2 c1 l1 f1 c2 l2 f2 W g0 g1 g2).mono fun e W' ⟨he, hb⟩ => ⟨_, he, ?_⟩
  exact law_post (by kernel_rfl) (by kernel_rfl) rfl (by kernel_rfl) Try.underlying4 rfl hW' hb
theorem over : Rows.spriteNilRow.holds Try.pinned (OpenSpec.ofChange Rows.spriteNilSpec) :=
  OpenClaim.holds_of_wide 10 Try.f10 rfl rfl rfl rfl rfl rfl rfl ⟨rfl, rfl, rfl, rfl, rfl⟩ rfl rfl rfl rfl rfl (by kernel_rfl) Try.func10 (by kernel_rfl)
    (of_decide_eq_true (by kernel_rfl)) (by unfold Func.isWrapper; first | (rw [if_pos (by decide +kernel)]; kernel_rfl) | (rw [if_neg (by decide +kernel)]; exact ⟨rfl, rfl⟩))
    (fun os started H enc _ => lifted os started H enc)
theorem proved : Rows.SpriteNilSaid := over
#print axioms proved
end Go.Proofs.Ythladllkckkjpaa.SpriteNil
