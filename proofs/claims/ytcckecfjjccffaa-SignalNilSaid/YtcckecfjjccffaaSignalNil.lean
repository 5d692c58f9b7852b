/- The law SignalNil returns true for every input. A chip that is none says so; what may not be is refused. It is run by symbols (SxA, SxB, SxC); what is left is arithmetic. No condition. -/
import Derived.Test.YtcckecfjjccffaaRows
import Derived.Test.YtcckecfjjccffaaSxC
import Derived.Test.YtcckecfjjccffaaRw
import Derived.Test.YtcckecfjjccffaaMm
namespace Go.Proofs.Ytcckecfjjccffaa.SignalNil
open Go.Sx Go.ChangeShapes Go.WideShapes Go.ChangeAt Go.RowKit
set_option linter.unusedVariables false
set_option linter.unusedSimpArgs false
set_option maxRecDepth 100000
noncomputable def G : Ctx := inlS Try.prog [] (ctx [(32, memS 5), (27, specCopy 5), (33, specSpoil 5)]) 3000 40 14
noncomputable def Gh : HintCtx := inlSH Try.prog [] (ctx [(32, memS 5), (27, specCopy 5), (33, specSpoil 5)]) 3000 40 14
theorem G_ok (xs : Nat → Nat → Ext) : CtxOK Try.prog (Iv xs) G := inlS_ok (ctx_ok (fun p hp => by
  simp only [List.mem_cons, List.not_mem_nil, or_false] at hp
  rcases hp with rfl | rfl | rfl
  · exact memS_ok mmok
  · exact specCopy_ok ccok
  · exact specSpoil_ok cpok
 )) (by kernel_rfl) 3000 40 14
def e0_Hy : Hyp := ⟨[(.v 0, (0, 8191)), (.v 1, (0, 255))], [], [], [], [], []⟩
def e0_Ls : List SV := [.s (.int .i64 (.v 0)), .s (.int .u8 (.v 1))]

theorem e0_run : enter Try.prog G Gh 3000 40 8 e0_Hy e0_Ls [] = some ([], .s (.bool (.blit true)), none) := by kernel_rfl
theorem e0_vc (a0 a1 : Int) (b0 : 0 ≤ a0 ∧ a0 ≤ 8191) (b1 : 0 ≤ a1 ∧ a1 ≤ 255) : E.b (⟨[a0, a1], [], [], [], Iv (fun _ _ => Ext.none)⟩ : Env) (.blit true) = true := by
  simp only [i_v, b_bv, i_lit, b_blit, i_add, i_sub, i_mul, i_div, i_mod, i_tdiv, i_tmod, i_ite, b_ite, b_lt, b_le, b_eq, b_not, b_and, b_or, b_iff, i_sel, a_tab, i_pow2, List.getD_cons_zero, List.getD_cons_succ, decide_eq_true_eq, decide_eq_false_iff_not, Bool.and_eq_true, Bool.or_eq_true, Bool.not_eq_true', Bool.not_eq_false', Bool.and_eq_false_iff, Bool.or_eq_false_iff, Bool.not_not, ite_tt, ite_ff, iff_tt, iff_ff, a_av, a_ite, a_upd]
theorem e0_calls (a0 : Int) (w0 : 0 ≤ a0 ∧ a0 ≤ 8191) (a1 : Int) (w1 : (Lit.int .u8 a1).wf = true) (w : World) :
    Calls Try.prog 8 #[.int .i64 a0, .int .u8 a1] w fun r w' => r = .returned (.bool true) ∧ Below w.heap.size w w' := by
  have hargs : (e0_Ls.map (SV.conc (⟨[a0, a1], [], [], [], Iv (fun _ _ => Ext.none)⟩ : Env) Loc.id)).toArray = #[.int .i64 a0, .int .u8 a1] := by
    refine congrArg List.toArray ?_
    exact (cons_eq rfl (cons_eq rfl rfl))
  rw [← hargs]
  have hok : Hyp.ok e0_Hy (⟨[a0, a1], [], [], [], Iv (fun _ _ => Ext.none)⟩ : Env) := by
    refine ⟨?_, ?_, ?_, by simp [e0_Hy], ?_, by simp [e0_Hy]⟩
    · simp [e0_Hy]
    · intro p hp
      simp only [e0_Hy, List.mem_cons, List.not_mem_nil, or_false] at hp
      rcases hp with rfl | rfl
      · exact w0
      · exact bounds_u8 w1
    · simp [e0_Hy]
    · simp [e0_Hy]
  exact law_true (ρ := (⟨[a0, a1], [], [], [], Iv (fun _ _ => Ext.none)⟩ : Env)) (G_ok _) (by kernel_rfl) e0_run rfl
    hok (by intro e he; cases he) (e0_vc (a0) (a1) (w0) (bounds_u8 w1)) w (fun i j => Ext.none_ok _)
def e1_Hy : Hyp := ⟨[(.v 0, (0, 255))], [], [], [], [], []⟩
def e1_Ls : List SV := [.s (.int .i64 (.lit (8192))), .s (.int .u8 (.v 0))]

theorem e1_run : enter Try.prog G Gh 3000 40 8 e1_Hy e1_Ls [] = some ([], .s (.bool (.blit true)), none) := by kernel_rfl
theorem e1_vc (a1 : Int) (b0 : 0 ≤ a1 ∧ a1 ≤ 255) : E.b (⟨[a1], [], [], [], Iv (fun _ _ => Ext.none)⟩ : Env) (.blit true) = true := by
  simp only [i_v, b_bv, i_lit, b_blit, i_add, i_sub, i_mul, i_div, i_mod, i_tdiv, i_tmod, i_ite, b_ite, b_lt, b_le, b_eq, b_not, b_and, b_or, b_iff, i_sel, a_tab, i_pow2, List.getD_cons_zero, List.getD_cons_succ, decide_eq_true_eq, decide_eq_false_iff_not, Bool.and_eq_true, Bool.or_eq_true, Bool.not_eq_true', Bool.not_eq_false', Bool.and_eq_false_iff, Bool.or_eq_false_iff, Bool.not_not, ite_tt, ite_ff, iff_tt, iff_ff, a_av, a_ite, a_upd]
theorem e1_calls (a1 : Int) (w1 : (Lit.int .u8 a1).wf = true) (w : World) :
    Calls Try.prog 8 #[.int .i64 (8192), .int .u8 a1] w fun r w' => r = .returned (.bool true) ∧ Below w.heap.size w w' := by
  have hargs : (e1_Ls.map (SV.conc (⟨[a1], [], [], [], Iv (fun _ _ => Ext.none)⟩ : Env) Loc.id)).toArray = #[.int .i64 (8192), .int .u8 a1] := by
    refine congrArg List.toArray ?_
    exact (cons_eq rfl (cons_eq rfl rfl))
  rw [← hargs]
  have hok : Hyp.ok e1_Hy (⟨[a1], [], [], [], Iv (fun _ _ => Ext.none)⟩ : Env) := by
    refine ⟨?_, ?_, ?_, by simp [e1_Hy], ?_, by simp [e1_Hy]⟩
    · simp [e1_Hy]
    · intro p hp
      simp only [e1_Hy, List.mem_cons, List.not_mem_nil, or_false] at hp
      rcases hp with rfl
      · exact bounds_u8 w1
    · simp [e1_Hy]
    · simp [e1_Hy]
  exact law_true (ρ := (⟨[a1], [], [], [], Iv (fun _ _ => Ext.none)⟩ : Env)) (G_ok _) (by kernel_rfl) e1_run rfl
    hok (by intro e he; cases he) (e1_vc (a1) (bounds_u8 w1)) w (fun i j => Ext.none_ok _)
def e2_Hy : Hyp := ⟨[(.v 0, (8193, 65535)), (.v 1, (0, 255))], [], [], [], [], []⟩
def e2_Ls : List SV := [.s (.int .i64 (.v 0)), .s (.int .u8 (.v 1))]

theorem e2_run : enter Try.prog G Gh 3000 40 8 e2_Hy e2_Ls [] = some ([], .s (.bool (.blit true)), none) := by kernel_rfl
theorem e2_vc (a0 a1 : Int) (b0 : 8193 ≤ a0 ∧ a0 ≤ 65535) (b1 : 0 ≤ a1 ∧ a1 ≤ 255) : E.b (⟨[a0, a1], [], [], [], Iv (fun _ _ => Ext.none)⟩ : Env) (.blit true) = true := by
  simp only [i_v, b_bv, i_lit, b_blit, i_add, i_sub, i_mul, i_div, i_mod, i_tdiv, i_tmod, i_ite, b_ite, b_lt, b_le, b_eq, b_not, b_and, b_or, b_iff, i_sel, a_tab, i_pow2, List.getD_cons_zero, List.getD_cons_succ, decide_eq_true_eq, decide_eq_false_iff_not, Bool.and_eq_true, Bool.or_eq_true, Bool.not_eq_true', Bool.not_eq_false', Bool.and_eq_false_iff, Bool.or_eq_false_iff, Bool.not_not, ite_tt, ite_ff, iff_tt, iff_ff, a_av, a_ite, a_upd]
theorem e2_calls (a0 : Int) (w0 : 8193 ≤ a0 ∧ a0 ≤ 65535) (a1 : Int) (w1 : (Lit.int .u8 a1).wf = true) (w : World) :
    Calls Try.prog 8 #[.int .i64 a0, .int .u8 a1] w fun r w' => r = .returned (.bool true) ∧ Below w.heap.size w w' := by
  have hargs : (e2_Ls.map (SV.conc (⟨[a0, a1], [], [], [], Iv (fun _ _ => Ext.none)⟩ : Env) Loc.id)).toArray = #[.int .i64 a0, .int .u8 a1] := by
    refine congrArg List.toArray ?_
    exact (cons_eq rfl (cons_eq rfl rfl))
  rw [← hargs]
  have hok : Hyp.ok e2_Hy (⟨[a0, a1], [], [], [], Iv (fun _ _ => Ext.none)⟩ : Env) := by
    refine ⟨?_, ?_, ?_, by simp [e2_Hy], ?_, by simp [e2_Hy]⟩
    · simp [e2_Hy]
    · intro p hp
      simp only [e2_Hy, List.mem_cons, List.not_mem_nil, or_false] at hp
      rcases hp with rfl | rfl
      · exact w0
      · exact bounds_u8 w1
    · simp [e2_Hy]
    · simp [e2_Hy]
  exact law_true (ρ := (⟨[a0, a1], [], [], [], Iv (fun _ _ => Ext.none)⟩ : Env)) (G_ok _) (by kernel_rfl) e2_run rfl
    hok (by intro e he; cases he) (e2_vc (a0) (a1) (w0) (bounds_u8 w1)) w (fun i j => Ext.none_ok _)
def e3_Hy : Hyp := ⟨[(.v 0, (65536, 9223372036854775807)), (.v 1, (0, 255))], [], [], [], [], []⟩
def e3_Ls : List SV := [.s (.int .i64 (.v 0)), .s (.int .u8 (.v 1))]

theorem e3_run : enter Try.prog G Gh 3000 40 8 e3_Hy e3_Ls [] = some ([], .s (.bool (.blit true)), none) := by kernel_rfl
theorem e3_vc (a0 a1 : Int) (b0 : 65536 ≤ a0 ∧ a0 ≤ 9223372036854775807) (b1 : 0 ≤ a1 ∧ a1 ≤ 255) : E.b (⟨[a0, a1], [], [], [], Iv (fun _ _ => Ext.none)⟩ : Env) (.blit true) = true := by
  simp only [i_v, b_bv, i_lit, b_blit, i_add, i_sub, i_mul, i_div, i_mod, i_tdiv, i_tmod, i_ite, b_ite, b_lt, b_le, b_eq, b_not, b_and, b_or, b_iff, i_sel, a_tab, i_pow2, List.getD_cons_zero, List.getD_cons_succ, decide_eq_true_eq, decide_eq_false_iff_not, Bool.and_eq_true, Bool.or_eq_true, Bool.not_eq_true', Bool.not_eq_false', Bool.and_eq_false_iff, Bool.or_eq_false_iff, Bool.not_not, ite_tt, ite_ff, iff_tt, iff_ff, a_av, a_ite, a_upd]
theorem e3_calls (a0 : Int) (w0 : 65536 ≤ a0 ∧ a0 ≤ 9223372036854775807) (a1 : Int) (w1 : (Lit.int .u8 a1).wf = true) (w : World) :
    Calls Try.prog 8 #[.int .i64 a0, .int .u8 a1] w fun r w' => r = .returned (.bool true) ∧ Below w.heap.size w w' := by
  have hargs : (e3_Ls.map (SV.conc (⟨[a0, a1], [], [], [], Iv (fun _ _ => Ext.none)⟩ : Env) Loc.id)).toArray = #[.int .i64 a0, .int .u8 a1] := by
    refine congrArg List.toArray ?_
    exact (cons_eq rfl (cons_eq rfl rfl))
  rw [← hargs]
  have hok : Hyp.ok e3_Hy (⟨[a0, a1], [], [], [], Iv (fun _ _ => Ext.none)⟩ : Env) := by
    refine ⟨?_, ?_, ?_, by simp [e3_Hy], ?_, by simp [e3_Hy]⟩
    · simp [e3_Hy]
    · intro p hp
      simp only [e3_Hy, List.mem_cons, List.not_mem_nil, or_false] at hp
      rcases hp with rfl | rfl
      · exact w0
      · exact bounds_u8 w1
    · simp [e3_Hy]
    · simp [e3_Hy]
  exact law_true (ρ := (⟨[a0, a1], [], [], [], Iv (fun _ _ => Ext.none)⟩ : Env)) (G_ok _) (by kernel_rfl) e3_run rfl
    hok (by intro e he; cases he) (e3_vc (a0) (a1) (w0) (bounds_u8 w1)) w (fun i j => Ext.none_ok _)
def e4_Hy : Hyp := ⟨[(.v 0, (-9223372036854775808, -1)), (.v 1, (0, 255))], [], [], [], [], []⟩
def e4_Ls : List SV := [.s (.int .i64 (.v 0)), .s (.int .u8 (.v 1))]

theorem e4_run : enter Try.prog G Gh 3000 40 8 e4_Hy e4_Ls [] = some ([], .s (.bool (.blit true)), none) := by kernel_rfl
theorem e4_vc (a0 a1 : Int) (b0 : -9223372036854775808 ≤ a0 ∧ a0 ≤ -1) (b1 : 0 ≤ a1 ∧ a1 ≤ 255) : E.b (⟨[a0, a1], [], [], [], Iv (fun _ _ => Ext.none)⟩ : Env) (.blit true) = true := by
  simp only [i_v, b_bv, i_lit, b_blit, i_add, i_sub, i_mul, i_div, i_mod, i_tdiv, i_tmod, i_ite, b_ite, b_lt, b_le, b_eq, b_not, b_and, b_or, b_iff, i_sel, a_tab, i_pow2, List.getD_cons_zero, List.getD_cons_succ, decide_eq_true_eq, decide_eq_false_iff_not, Bool.and_eq_true, Bool.or_eq_true, Bool.not_eq_true', Bool.not_eq_false', Bool.and_eq_false_iff, Bool.or_eq_false_iff, Bool.not_not, ite_tt, ite_ff, iff_tt, iff_ff, a_av, a_ite, a_upd]
theorem e4_calls (a0 : Int) (w0 : -9223372036854775808 ≤ a0 ∧ a0 ≤ -1) (a1 : Int) (w1 : (Lit.int .u8 a1).wf = true) (w : World) :
    Calls Try.prog 8 #[.int .i64 a0, .int .u8 a1] w fun r w' => r = .returned (.bool true) ∧ Below w.heap.size w w' := by
  have hargs : (e4_Ls.map (SV.conc (⟨[a0, a1], [], [], [], Iv (fun _ _ => Ext.none)⟩ : Env) Loc.id)).toArray = #[.int .i64 a0, .int .u8 a1] := by
    refine congrArg List.toArray ?_
    exact (cons_eq rfl (cons_eq rfl rfl))
  rw [← hargs]
  have hok : Hyp.ok e4_Hy (⟨[a0, a1], [], [], [], Iv (fun _ _ => Ext.none)⟩ : Env) := by
    refine ⟨?_, ?_, ?_, by simp [e4_Hy], ?_, by simp [e4_Hy]⟩
    · simp [e4_Hy]
    · intro p hp
      simp only [e4_Hy, List.mem_cons, List.not_mem_nil, or_false] at hp
      rcases hp with rfl | rfl
      · exact w0
      · exact bounds_u8 w1
    · simp [e4_Hy]
    · simp [e4_Hy]
  exact law_true (ρ := (⟨[a0, a1], [], [], [], Iv (fun _ _ => Ext.none)⟩ : Env)) (G_ok _) (by kernel_rfl) e4_run rfl
    hok (by intro e he; cases he) (e4_vc (a0) (a1) (w0) (bounds_u8 w1)) w (fun i j => Ext.none_ok _)
theorem calls (a0 : Int) (w0 : (Lit.int .i64 a0).wf = true) (a1 : Int) (w1 : (Lit.int .u8 a1).wf = true) (w : World) :
    Calls Try.prog 8 #[.int .i64 a0, .int .u8 a1] w fun r w' => r = .returned (.bool true) ∧ Below w.heap.size w w' := by
  have hr := bounds_i64 w0
  rcases (show (0 ≤ a0 ∧ a0 ≤ 8191) ∨ a0 = 8192 ∨ (8193 ≤ a0 ∧ a0 ≤ 65535) ∨ (65536 ≤ a0 ∧ a0 ≤ 9223372036854775807) ∨ (-9223372036854775808 ≤ a0 ∧ a0 ≤ -1) by omega) with h | rfl | h | h | h
  · exact e0_calls a0 h  a1 w1 w
  · exact e1_calls a1 w1 w
  · exact e2_calls a0 h  a1 w1 w
  · exact e3_calls a0 h  a1 w1 w
  · exact e4_calls a0 h  a1 w1 w

theorem own : ownKnob Try.prog.godebug = none := by kernel_rfl
theorem lifted (os : Os) (started : os.Started) (H : Type) (enc : TypeId × Value → H) :
    ReturnsInHanded {} Try.checked os 8 .any (Rows.signalNilSpec.pre6 enc Try.prog Try.f8 Rows.signalNilRow.domain false) (Rows.signalNilSpec.post enc Try.prog Try.f8 false true false false) := by
  refine returnsInHanded_of_change (C := Try.checked) own started (by kernel_rfl) Try.func8
    (ChangeSpec.witness6 (enc := enc) (C := Try.checked) false ⟨#[], #[.int .i64 0, .int .u8 0], []⟩ 8 (by kernel_rfl) (by kernel_rfl) (by kernel_rfl) (by kernel_rfl)) ?_
  intro W base args ds gs before hval0 hW hcnd _
  have hval : ∀ (j : Nat) t v, Try.f8.params[j]? = some t → args[j]? = some v → Value.okWide Try.prog W .any base t v := hval0
  have hW' := hW
  obtain ⟨p, q, hA0, hV, rfl, hfz, hnd⟩ := hW
  have hA1 : DataW.TrodAll enc Try.prog W 0 (fun _ => true) true Try.f8.params.toList args.toList ds p := hA0
  rw [Try.params8] at hA1 hval
  obtain ⟨v0, vs0, d0, ds0, p0, q0, hargs, rfl, rfl, h0, r0⟩ := trodAll_cons hA1
  obtain ⟨v1, vs1, d1, ds1, p1, q1, rfl, rfl, rfl, h1, r1⟩ := trodAll_cons r0
  obtain ⟨rfl, rfl, rfl⟩ := trodAll_nil r1
  obtain rfl : args = #[v0, v1] := by cases args; simp_all
  obtain ⟨a0, rfl, rfl, rfl, w0⟩ := open_int Try.underlying3 (hval 0 3 v0 rfl rfl) h0
  obtain ⟨a1, rfl, rfl, rfl, w1⟩ := open_int Try.underlying5 (hval 1 5 v1 rfl rfl) h1
  obtain ⟨rfl, rfl⟩ := trodVars_none hV

  refine (calls a0 w0 a1 w1 W).mono fun e W' ⟨he, hb⟩ => ⟨_, he, ?_⟩
  exact law_post (by kernel_rfl) (by kernel_rfl) rfl (by kernel_rfl) Try.underlying4 rfl hW' hb
theorem over : Rows.signalNilRow.holds Try.pinned (OpenSpec.ofChange Rows.signalNilSpec) :=
  OpenClaim.holds_of_wide 8 Try.f8 rfl rfl rfl rfl rfl rfl rfl ⟨rfl, rfl, rfl, rfl, rfl⟩ rfl rfl rfl rfl rfl (by kernel_rfl) Try.func8 (by kernel_rfl)
    (of_decide_eq_true (by kernel_rfl)) (by unfold Func.isWrapper; first | (rw [if_pos (by decide +kernel)]; kernel_rfl) | (rw [if_neg (by decide +kernel)]; exact ⟨rfl, rfl⟩))
    (fun os started H enc _ => lifted os started H enc)
theorem proved : Rows.SignalNilSaid := over
#print axioms proved
end Go.Proofs.Ytcckecfjjccffaa.SignalNil
