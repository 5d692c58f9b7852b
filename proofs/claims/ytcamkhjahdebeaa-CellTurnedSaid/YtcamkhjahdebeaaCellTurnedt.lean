/- A part of the law CellTurned, which returns true for every input. A map all of whose words are turned has its tiles' dots the other way about (tiles whose bits don't lie in the map). No condition. -/
import Derived.Test.YtcamkhjahdebeaaCellTurned0
namespace Go.Proofs.Ytcamkhjahdebeaa.CellTurned
open Go.Sx Go.ChangeShapes Go.WideShapes Go.ChangeAt Go.RowKit
set_option linter.unusedVariables false
set_option linter.unusedSimpArgs false
set_option maxRecDepth 100000
def taHy : Hyp := ⟨[(.v 0, (0, 9223372036854775807)), (.v 1, (0, 65535)), (.v 2, (-9223372036854775808, -1)), (.v 3, (-9223372036854775808, 9223372036854775807)), (.v 4, (0, 255))], [(0, (0, 65535))], [], [(0, (0, 65535)), (1, (0, 255)), (2, (0, 32767))], [], [(0, ⟨.v 0, [(some .u16, .av 0)]⟩)]⟩
def taLs : List SV := [.s (.xslc 0 (.lit 0) (.lit 0) (.v 0)), .s (.int .u16 (.v 1)), .s (.int .i64 (.v 2)), .s (.int .i64 (.v 3)), .s (.int .u8 (.v 4))]

theorem tarun : enter Try.prog G Gh 3000 6 7 taHy taLs [] = some ([], .s (.bool (.blit true)), none) := by kernel_rfl
theorem tavc (x0 : Ext) (nx0 a1 a2 a3 a4 : Int) (Ax0 : Nat → Int) (b0 : 0 ≤ nx0 ∧ nx0 ≤ 9223372036854775807) (b1 : 0 ≤ a1 ∧ a1 ≤ 65535) (b2 : -9223372036854775808 ≤ a2 ∧ a2 ≤ -1) (b3 : -9223372036854775808 ≤ a3 ∧ a3 ≤ 9223372036854775807) (b4 : 0 ≤ a4 ∧ a4 ≤ 255) (B0 : ∀ j, 0 ≤ Ax0 j ∧ Ax0 j ≤ 65535) : E.b (⟨[nx0, a1, a2, a3, a4], [], [Ax0], [], Iv (fun i j => match i, j with | 0, 0 => x0 | _, _ => Ext.none)⟩ : Env) (.blit true) = true := by
  rfl
theorem tacalls (x0 : Ext) (a1 : Int) (w1 : (Lit.int .u16 a1).wf = true) (a2 : Int) (w2 : -9223372036854775808 ≤ a2 ∧ a2 ≤ -1) (a3 : Int) (w3 : (Lit.int .i64 a3).wf = true) (a4 : Int) (w4 : (Lit.int .u8 a4).wf = true) (w : World) (g0 : XFit x0 w [some .u16]) :
    Calls Try.prog 7 #[x0.v, .int .u16 a1, .int .i64 a2, .int .i64 a3, .int .u8 a4] w fun r w' => r = .returned (.bool true) ∧ Below w.heap.size w w' := by
  have hx0 : SV.conc (⟨[(x0.n : Int), a1, a2, a3, a4], [], [xArr x0 1 0], [], Iv (fun i j => match i, j with | 0, 0 => x0 | _, _ => Ext.none)⟩ : Env) Loc.id (.s (.xslc 0 (.lit 0) (.lit 0) (.v 0))) = x0.v := conc_ext g0 rfl rfl
  have hargs : (taLs.map (SV.conc (⟨[(x0.n : Int), a1, a2, a3, a4], [], [xArr x0 1 0], [], Iv (fun i j => match i, j with | 0, 0 => x0 | _, _ => Ext.none)⟩ : Env) Loc.id)).toArray = #[x0.v, .int .u16 a1, .int .i64 a2, .int .i64 a3, .int .u8 a4] := by
    refine congrArg List.toArray ?_
    exact (cons_eq hx0 (cons_eq rfl (cons_eq rfl (cons_eq rfl (cons_eq rfl rfl)))))
  rw [← hargs]
  have hok : Hyp.ok taHy (⟨[(x0.n : Int), a1, a2, a3, a4], [], [xArr x0 1 0], [], Iv (fun i j => match i, j with | 0, 0 => x0 | _, _ => Ext.none)⟩ : Env) := by
    refine ⟨?_, ?_, ?_, by simp [taHy], ?_, by simp [taHy]⟩
    · intro p hp
      simp only [taHy, List.mem_cons, List.not_mem_nil, or_false] at hp
      rcases hp with rfl
      · exact xi_ok g0 rfl rfl rfl
    · intro p hp
      simp only [taHy, List.mem_cons, List.not_mem_nil, or_false] at hp
      rcases hp with rfl | rfl | rfl | rfl | rfl
      · exact xlen_rng g0
      · exact bounds_u16 w1
      · exact w2
      · exact bounds_i64 w3
      · exact bounds_u8 w4
    · intro p hp
      simp only [taHy, List.mem_cons, List.not_mem_nil, or_false] at hp
      rcases hp with rfl
      · exact xArr_rng g0
    · intro p hp is bs xs j
      simp only [taHy, List.mem_cons, List.not_mem_nil, or_false] at hp
      rcases hp with rfl | rfl | rfl <;> exact vidF_rng _ _ _ (by decide) j
  exact law_true (ρ := (⟨[(x0.n : Int), a1, a2, a3, a4], [], [xArr x0 1 0], [], Iv (fun i j => match i, j with | 0, 0 => x0 | _, _ => Ext.none)⟩ : Env)) (G_ok _) (by kernel_rfl) tarun rfl
    hok (by intro e he; cases he) (tavc x0 ((x0.n : Int)) (a1) (a2) (a3) (a4) (xArr x0 1 0) (xlen_rng g0) (bounds_u16 w1) (w2) (bounds_i64 w3) (bounds_u8 w4) (xArr_rng g0)) w (fun i j => by rcases i with _ | i <;> rcases j with _ | j <;> first | exact Ext.none_ok _ | exact g0.ok)
def tbHy : Hyp := ⟨[(.v 0, (0, 9223372036854775807)), (.v 1, (0, 65535)), (.v 2, (8, 9223372036854775807)), (.v 3, (-9223372036854775808, 9223372036854775807)), (.v 4, (0, 255))], [(0, (0, 65535))], [], [(0, (0, 65535)), (1, (0, 255)), (2, (0, 32767))], [], [(0, ⟨.v 0, [(some .u16, .av 0)]⟩)]⟩
def tbLs : List SV := [.s (.xslc 0 (.lit 0) (.lit 0) (.v 0)), .s (.int .u16 (.v 1)), .s (.int .i64 (.v 2)), .s (.int .i64 (.v 3)), .s (.int .u8 (.v 4))]

theorem tbrun : enter Try.prog G Gh 3000 6 7 tbHy tbLs [] = some ([], .s (.bool (.blit true)), none) := by kernel_rfl
theorem tbvc (x0 : Ext) (nx0 a1 a2 a3 a4 : Int) (Ax0 : Nat → Int) (b0 : 0 ≤ nx0 ∧ nx0 ≤ 9223372036854775807) (b1 : 0 ≤ a1 ∧ a1 ≤ 65535) (b2 : 8 ≤ a2 ∧ a2 ≤ 9223372036854775807) (b3 : -9223372036854775808 ≤ a3 ∧ a3 ≤ 9223372036854775807) (b4 : 0 ≤ a4 ∧ a4 ≤ 255) (B0 : ∀ j, 0 ≤ Ax0 j ∧ Ax0 j ≤ 65535) : E.b (⟨[nx0, a1, a2, a3, a4], [], [Ax0], [], Iv (fun i j => match i, j with | 0, 0 => x0 | _, _ => Ext.none)⟩ : Env) (.blit true) = true := by
  rfl
theorem tbcalls (x0 : Ext) (a1 : Int) (w1 : (Lit.int .u16 a1).wf = true) (a2 : Int) (w2 : 8 ≤ a2 ∧ a2 ≤ 9223372036854775807) (a3 : Int) (w3 : (Lit.int .i64 a3).wf = true) (a4 : Int) (w4 : (Lit.int .u8 a4).wf = true) (w : World) (g0 : XFit x0 w [some .u16]) :
    Calls Try.prog 7 #[x0.v, .int .u16 a1, .int .i64 a2, .int .i64 a3, .int .u8 a4] w fun r w' => r = .returned (.bool true) ∧ Below w.heap.size w w' := by
  have hx0 : SV.conc (⟨[(x0.n : Int), a1, a2, a3, a4], [], [xArr x0 1 0], [], Iv (fun i j => match i, j with | 0, 0 => x0 | _, _ => Ext.none)⟩ : Env) Loc.id (.s (.xslc 0 (.lit 0) (.lit 0) (.v 0))) = x0.v := conc_ext g0 rfl rfl
  have hargs : (tbLs.map (SV.conc (⟨[(x0.n : Int), a1, a2, a3, a4], [], [xArr x0 1 0], [], Iv (fun i j => match i, j with | 0, 0 => x0 | _, _ => Ext.none)⟩ : Env) Loc.id)).toArray = #[x0.v, .int .u16 a1, .int .i64 a2, .int .i64 a3, .int .u8 a4] := by
    refine congrArg List.toArray ?_
    exact (cons_eq hx0 (cons_eq rfl (cons_eq rfl (cons_eq rfl (cons_eq rfl rfl)))))
  rw [← hargs]
  have hok : Hyp.ok tbHy (⟨[(x0.n : Int), a1, a2, a3, a4], [], [xArr x0 1 0], [], Iv (fun i j => match i, j with | 0, 0 => x0 | _, _ => Ext.none)⟩ : Env) := by
    refine ⟨?_, ?_, ?_, by simp [tbHy], ?_, by simp [tbHy]⟩
    · intro p hp
      simp only [tbHy, List.mem_cons, List.not_mem_nil, or_false] at hp
      rcases hp with rfl
      · exact xi_ok g0 rfl rfl rfl
    · intro p hp
      simp only [tbHy, List.mem_cons, List.not_mem_nil, or_false] at hp
      rcases hp with rfl | rfl | rfl | rfl | rfl
      · exact xlen_rng g0
      · exact bounds_u16 w1
      · exact w2
      · exact bounds_i64 w3
      · exact bounds_u8 w4
    · intro p hp
      simp only [tbHy, List.mem_cons, List.not_mem_nil, or_false] at hp
      rcases hp with rfl
      · exact xArr_rng g0
    · intro p hp is bs xs j
      simp only [tbHy, List.mem_cons, List.not_mem_nil, or_false] at hp
      rcases hp with rfl | rfl | rfl <;> exact vidF_rng _ _ _ (by decide) j
  exact law_true (ρ := (⟨[(x0.n : Int), a1, a2, a3, a4], [], [xArr x0 1 0], [], Iv (fun i j => match i, j with | 0, 0 => x0 | _, _ => Ext.none)⟩ : Env)) (G_ok _) (by kernel_rfl) tbrun rfl
    hok (by intro e he; cases he) (tbvc x0 ((x0.n : Int)) (a1) (a2) (a3) (a4) (xArr x0 1 0) (xlen_rng g0) (bounds_u16 w1) (w2) (bounds_i64 w3) (bounds_u8 w4) (xArr_rng g0)) w (fun i j => by rcases i with _ | i <;> rcases j with _ | j <;> first | exact Ext.none_ok _ | exact g0.ok)
def tcHy : Hyp := ⟨[(.v 0, (0, 9223372036854775807)), (.v 1, (0, 65535)), (.v 2, (0, 7)), (.v 3, (-9223372036854775808, -1)), (.v 4, (0, 255))], [(0, (0, 65535))], [], [(0, (0, 65535)), (1, (0, 255)), (2, (0, 32767))], [], [(0, ⟨.v 0, [(some .u16, .av 0)]⟩)]⟩
def tcLs : List SV := [.s (.xslc 0 (.lit 0) (.lit 0) (.v 0)), .s (.int .u16 (.v 1)), .s (.int .i64 (.v 2)), .s (.int .i64 (.v 3)), .s (.int .u8 (.v 4))]

theorem tcrun : enter Try.prog G Gh 3000 6 7 tcHy tcLs [] = some ([], .s (.bool (.blit true)), none) := by kernel_rfl
theorem tcvc (x0 : Ext) (nx0 a1 a2 a3 a4 : Int) (Ax0 : Nat → Int) (b0 : 0 ≤ nx0 ∧ nx0 ≤ 9223372036854775807) (b1 : 0 ≤ a1 ∧ a1 ≤ 65535) (b2 : 0 ≤ a2 ∧ a2 ≤ 7) (b3 : -9223372036854775808 ≤ a3 ∧ a3 ≤ -1) (b4 : 0 ≤ a4 ∧ a4 ≤ 255) (B0 : ∀ j, 0 ≤ Ax0 j ∧ Ax0 j ≤ 65535) : E.b (⟨[nx0, a1, a2, a3, a4], [], [Ax0], [], Iv (fun i j => match i, j with | 0, 0 => x0 | _, _ => Ext.none)⟩ : Env) (.blit true) = true := by
  rfl
theorem tccalls (x0 : Ext) (a1 : Int) (w1 : (Lit.int .u16 a1).wf = true) (a2 : Int) (w2 : 0 ≤ a2 ∧ a2 ≤ 7) (a3 : Int) (w3 : -9223372036854775808 ≤ a3 ∧ a3 ≤ -1) (a4 : Int) (w4 : (Lit.int .u8 a4).wf = true) (w : World) (g0 : XFit x0 w [some .u16]) :
    Calls Try.prog 7 #[x0.v, .int .u16 a1, .int .i64 a2, .int .i64 a3, .int .u8 a4] w fun r w' => r = .returned (.bool true) ∧ Below w.heap.size w w' := by
  have hx0 : SV.conc (⟨[(x0.n : Int), a1, a2, a3, a4], [], [xArr x0 1 0], [], Iv (fun i j => match i, j with | 0, 0 => x0 | _, _ => Ext.none)⟩ : Env) Loc.id (.s (.xslc 0 (.lit 0) (.lit 0) (.v 0))) = x0.v := conc_ext g0 rfl rfl
  have hargs : (tcLs.map (SV.conc (⟨[(x0.n : Int), a1, a2, a3, a4], [], [xArr x0 1 0], [], Iv (fun i j => match i, j with | 0, 0 => x0 | _, _ => Ext.none)⟩ : Env) Loc.id)).toArray = #[x0.v, .int .u16 a1, .int .i64 a2, .int .i64 a3, .int .u8 a4] := by
    refine congrArg List.toArray ?_
    exact (cons_eq hx0 (cons_eq rfl (cons_eq rfl (cons_eq rfl (cons_eq rfl rfl)))))
  rw [← hargs]
  have hok : Hyp.ok tcHy (⟨[(x0.n : Int), a1, a2, a3, a4], [], [xArr x0 1 0], [], Iv (fun i j => match i, j with | 0, 0 => x0 | _, _ => Ext.none)⟩ : Env) := by
    refine ⟨?_, ?_, ?_, by simp [tcHy], ?_, by simp [tcHy]⟩
    · intro p hp
      simp only [tcHy, List.mem_cons, List.not_mem_nil, or_false] at hp
      rcases hp with rfl
      · exact xi_ok g0 rfl rfl rfl
    · intro p hp
      simp only [tcHy, List.mem_cons, List.not_mem_nil, or_false] at hp
      rcases hp with rfl | rfl | rfl | rfl | rfl
      · exact xlen_rng g0
      · exact bounds_u16 w1
      · exact w2
      · exact w3
      · exact bounds_u8 w4
    · intro p hp
      simp only [tcHy, List.mem_cons, List.not_mem_nil, or_false] at hp
      rcases hp with rfl
      · exact xArr_rng g0
    · intro p hp is bs xs j
      simp only [tcHy, List.mem_cons, List.not_mem_nil, or_false] at hp
      rcases hp with rfl | rfl | rfl <;> exact vidF_rng _ _ _ (by decide) j
  exact law_true (ρ := (⟨[(x0.n : Int), a1, a2, a3, a4], [], [xArr x0 1 0], [], Iv (fun i j => match i, j with | 0, 0 => x0 | _, _ => Ext.none)⟩ : Env)) (G_ok _) (by kernel_rfl) tcrun rfl
    hok (by intro e he; cases he) (tcvc x0 ((x0.n : Int)) (a1) (a2) (a3) (a4) (xArr x0 1 0) (xlen_rng g0) (bounds_u16 w1) (w2) (w3) (bounds_u8 w4) (xArr_rng g0)) w (fun i j => by rcases i with _ | i <;> rcases j with _ | j <;> first | exact Ext.none_ok _ | exact g0.ok)
def tdHy : Hyp := ⟨[(.v 0, (0, 9223372036854775807)), (.v 1, (0, 65535)), (.v 2, (0, 7)), (.v 3, (8, 9223372036854775807)), (.v 4, (0, 255))], [(0, (0, 65535))], [], [(0, (0, 65535)), (1, (0, 255)), (2, (0, 32767))], [], [(0, ⟨.v 0, [(some .u16, .av 0)]⟩)]⟩
def tdLs : List SV := [.s (.xslc 0 (.lit 0) (.lit 0) (.v 0)), .s (.int .u16 (.v 1)), .s (.int .i64 (.v 2)), .s (.int .i64 (.v 3)), .s (.int .u8 (.v 4))]

theorem tdrun : enter Try.prog G Gh 3000 6 7 tdHy tdLs [] = some ([], .s (.bool (.blit true)), none) := by kernel_rfl
theorem tdvc (x0 : Ext) (nx0 a1 a2 a3 a4 : Int) (Ax0 : Nat → Int) (b0 : 0 ≤ nx0 ∧ nx0 ≤ 9223372036854775807) (b1 : 0 ≤ a1 ∧ a1 ≤ 65535) (b2 : 0 ≤ a2 ∧ a2 ≤ 7) (b3 : 8 ≤ a3 ∧ a3 ≤ 9223372036854775807) (b4 : 0 ≤ a4 ∧ a4 ≤ 255) (B0 : ∀ j, 0 ≤ Ax0 j ∧ Ax0 j ≤ 65535) : E.b (⟨[nx0, a1, a2, a3, a4], [], [Ax0], [], Iv (fun i j => match i, j with | 0, 0 => x0 | _, _ => Ext.none)⟩ : Env) (.blit true) = true := by
  rfl
theorem tdcalls (x0 : Ext) (a1 : Int) (w1 : (Lit.int .u16 a1).wf = true) (a2 : Int) (w2 : 0 ≤ a2 ∧ a2 ≤ 7) (a3 : Int) (w3 : 8 ≤ a3 ∧ a3 ≤ 9223372036854775807) (a4 : Int) (w4 : (Lit.int .u8 a4).wf = true) (w : World) (g0 : XFit x0 w [some .u16]) :
    Calls Try.prog 7 #[x0.v, .int .u16 a1, .int .i64 a2, .int .i64 a3, .int .u8 a4] w fun r w' => r = .returned (.bool true) ∧ Below w.heap.size w w' := by
  have hx0 : SV.conc (⟨[(x0.n : Int), a1, a2, a3, a4], [], [xArr x0 1 0], [], Iv (fun i j => match i, j with | 0, 0 => x0 | _, _ => Ext.none)⟩ : Env) Loc.id (.s (.xslc 0 (.lit 0) (.lit 0) (.v 0))) = x0.v := conc_ext g0 rfl rfl
  have hargs : (tdLs.map (SV.conc (⟨[(x0.n : Int), a1, a2, a3, a4], [], [xArr x0 1 0], [], Iv (fun i j => match i, j with | 0, 0 => x0 | _, _ => Ext.none)⟩ : Env) Loc.id)).toArray = #[x0.v, .int .u16 a1, .int .i64 a2, .int .i64 a3, .int .u8 a4] := by
    refine congrArg List.toArray ?_
    exact (cons_eq hx0 (cons_eq rfl (cons_eq rfl (cons_eq rfl (cons_eq rfl rfl)))))
  rw [← hargs]
  have hok : Hyp.ok tdHy (⟨[(x0.n : Int), a1, a2, a3, a4], [], [xArr x0 1 0], [], Iv (fun i j => match i, j with | 0, 0 => x0 | _, _ => Ext.none)⟩ : Env) := by
    refine ⟨?_, ?_, ?_, by simp [tdHy], ?_, by simp [tdHy]⟩
    · intro p hp
      simp only [tdHy, List.mem_cons, List.not_mem_nil, or_false] at hp
      rcases hp with rfl
      · exact xi_ok g0 rfl rfl rfl
    · intro p hp
      simp only [tdHy, List.mem_cons, List.not_mem_nil, or_false] at hp
      rcases hp with rfl | rfl | rfl | rfl | rfl
      · exact xlen_rng g0
      · exact bounds_u16 w1
      · exact w2
      · exact w3
      · exact bounds_u8 w4
    · intro p hp
      simp only [tdHy, List.mem_cons, List.not_mem_nil, or_false] at hp
      rcases hp with rfl
      · exact xArr_rng g0
    · intro p hp is bs xs j
      simp only [tdHy, List.mem_cons, List.not_mem_nil, or_false] at hp
      rcases hp with rfl | rfl | rfl <;> exact vidF_rng _ _ _ (by decide) j
  exact law_true (ρ := (⟨[(x0.n : Int), a1, a2, a3, a4], [], [xArr x0 1 0], [], Iv (fun i j => match i, j with | 0, 0 => x0 | _, _ => Ext.none)⟩ : Env)) (G_ok _) (by kernel_rfl) tdrun rfl
    hok (by intro e he; cases he) (tdvc x0 ((x0.n : Int)) (a1) (a2) (a3) (a4) (xArr x0 1 0) (xlen_rng g0) (bounds_u16 w1) (w2) (w3) (bounds_u8 w4) (xArr_rng g0)) w (fun i j => by rcases i with _ | i <;> rcases j with _ | j <;> first | exact Ext.none_ok _ | exact g0.ok)
end Go.Proofs.Ytcamkhjahdebeaa.CellTurned
