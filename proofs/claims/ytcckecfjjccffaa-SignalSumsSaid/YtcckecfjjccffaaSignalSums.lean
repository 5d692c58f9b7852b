/- The law SignalSums returns true for every input. What the chip makes of two numbers by adding and by taking away is their sum and difference, and the flags say so. It is run by symbols (SxA, SxB, SxC); what is left is arithmetic. No condition. -/
import Derived.Test.YtcckecfjjccffaaRows
import Derived.Test.YtcckecfjjccffaaSxC
import Derived.Test.YtcckecfjjccffaaRw
import Derived.Test.YtcckecfjjccffaaMm
namespace Go.Proofs.Ytcckecfjjccffaa.SignalSums
open Go.Sx Go.ChangeShapes Go.WideShapes Go.ChangeAt Go.RowKit
set_option linter.unusedVariables false
set_option linter.unusedSimpArgs false
set_option maxRecDepth 100000
noncomputable def G : Ctx := inlS Try.prog [] (ctx [(32, memS 5), (27, specCopy 5), (33, specSpoil 5)]) 3000 40 14
noncomputable def Gh : HintCtx := inlSH Try.prog [] (ctx [(32, memS 5), (27, specCopy 5), (33, specSpoil 5)]) 3000 40 14
theorem G_ok (xs : Nat → Nat → Ext) : CtxOK Try.prog (Iv xs) G := inlS_ok (ctx_ok (fun p hp => by
  simp only [List.mem_cons, List.not_mem_nil, or_false] at hp
  rcases hp with rfl | rfl | rfl
  · exact memS_ok mmok
  · exact specCopy_ok ccok
  · exact specSpoil_ok cpok
 )) (by kernel_rfl) 3000 40 14
def eHy : Hyp := ⟨[(.v 0, (0, 65535)), (.v 1, (0, 65535))], [], [], [], [], []⟩
def eLs : List SV := [.s (.int .u16 (.v 0)), .s (.int .u16 (.v 1))]
def e0 : E := .le (.lit 32768) (.v 0)
def e1 : E := .le (.lit 32768) (.v 1)
def e2 : E := .iff e0 e1
def e3 : E := .not e2
def e4 : E := .add (.v 0) (.v 1)
def e5 : E := .div e4 (.lit 32768)
def e6 : E := .mod e5 (.lit 2)
def e7 : E := .eq e6 (.lit 0)
def e8 : E := .not e7
def e9 : E := .iff e0 e8
def e10 : E := .or e3 e9
def e11 : E := .ite e10 (.lit 0) (.lit 32768)
def e12 : E := .eq e11 (.lit 0)
def e13 : E := .ite e12 (.lit 0) (.lit 16)
def e14 : E := .eq e13 (.lit 0)
def e15 : E := .not e14
def e16 : E := .mod e4 (.lit 65536)
def e17 : E := .wrap .i16 e16
def e18 : E := .wrap .i16 (.v 0)
def e19 : E := .wrap .i16 (.v 1)
def e20 : E := .add e18 e19
def e21 : E := .eq e17 e20
def e22 : E := .ite e7 (.lit 0) (.lit 1)
def e23 : E := .eq e22 (.lit 0)
def e24 : E := .not e23
def e25 : E := .le e20 (.lit (-1))
def e26 : E := .iff e24 e25
def e27 : E := .and e21 e26
def e28 : E := .or e15 e27
def e29 : E := .sub (.v 0) (.v 1)
def e30 : E := .div e29 (.lit 32768)
def e31 : E := .mod e30 (.lit 2)
def e32 : E := .eq e31 (.lit 0)
def e33 : E := .not e32
def e34 : E := .iff e0 e33
def e35 : E := .or e2 e34
def e36 : E := .ite e35 (.lit 0) (.lit 32768)
def e37 : E := .eq e36 (.lit 0)
def e38 : E := .ite e37 (.lit 0) (.lit 16)
def e39 : E := .eq e38 (.lit 0)
def e40 : E := .not e39
def e41 : E := .mod e29 (.lit 65536)
def e42 : E := .wrap .i16 e41
def e43 : E := .sub e18 e19
def e44 : E := .eq e42 e43
def e45 : E := .ite e32 (.lit 0) (.lit 1)
def e46 : E := .eq e45 (.lit 0)
def e47 : E := .not e46
def e48 : E := .le e43 (.lit (-1))
def e49 : E := .iff e47 e48
def e50 : E := .and e44 e49
def e51 : E := .or e40 e50
def e52 : E := .and e28 e51
def e53 : E := .le (.lit (-32768)) e20
def e54 : E := .le e20 (.lit 32767)
def e55 : E := .and e53 e54
def e56 : E := .iff e14 e55
def e57 : E := .and e52 e56
def e58 : E := .le (.lit (-32768)) e43
def e59 : E := .le e43 (.lit 32767)
def e60 : E := .and e58 e59
def e61 : E := .iff e39 e60
def e62 : E := .and e57 e61
def e63 : E := .lt (.v 0) (.v 1)
def e64 : E := .ite e63 (.lit 4) (.lit 0)
def e65 : E := .eq e64 (.lit 0)
def e66 : E := .not e65
def e67 : E := .iff e66 e63
def e68 : E := .and e62 e67
def e69 : E := .le e4 (.lit 65535)
def e70 : E := .ite e69 (.lit 0) (.lit 4)
def e71 : E := .eq e70 (.lit 0)
def e72 : E := .not e71
def e73 : E := .le (.lit 65536) e4
def e74 : E := .iff e72 e73
def e75 : E := .and e68 e74
def e76 : E := .eq e41 (.lit 0)
def e77 : E := .ite e76 (.lit 8) (.lit 0)
def e78 : E := .eq e77 (.lit 0)
def e79 : E := .not e78
def e80 : E := .eq (.v 0) (.v 1)
def e81 : E := .iff e79 e80
def e82 : E := .and e75 e81
def e83 : E := .ite e7 (.lit 0) (.lit 2)
def e84 : E := .eq e83 (.lit 0)
def e85 : E := .not e84
def e86 : E := .iff e85 e8
def e87 : E := .and e82 e86
theorem erun : enter Try.prog G Gh 3000 40 3 eHy eLs [] = some ([], .s (.bool e87), none) := by kernel_rfl
theorem evc (a0 a1 : Int) (b0 : 0 ≤ a0 ∧ a0 ≤ 65535) (b1 : 0 ≤ a1 ∧ a1 ≤ 65535) : E.b (⟨[a0, a1], [], [], [], Iv (fun _ _ => Ext.none)⟩ : Env) e87 = true := by
  simp only [e0, e1, e2, e3, e4, e5, e6, e7, e8, e9, e10, e11, e12, e13, e14, e15, e16, e17, e18, e19, e20, e21, e22, e23, e24, e25, e26, e27, e28, e29, e30, e31, e32, e33, e34, e35, e36, e37, e38, e39, e40, e41, e42, e43, e44, e45, e46, e47, e48, e49, e50, e51, e52, e53, e54, e55, e56, e57, e58, e59, e60, e61, e62, e63, e64, e65, e66, e67, e68, e69, e70, e71, e72, e73, e74, e75, e76, e77, e78, e79, e80, e81, e82, e83, e84, e85, e86, e87, i_v, b_bv, i_lit, b_blit, i_add, i_sub, i_mul, i_div, i_mod, i_tdiv, i_tmod, i_ite, b_ite, b_lt, b_le, b_eq, b_not, b_and, b_or, b_iff, i_sel, a_tab, i_pow2, List.getD_cons_zero, List.getD_cons_succ, decide_eq_true_eq, decide_eq_false_iff_not, Bool.and_eq_true, Bool.or_eq_true, Bool.not_eq_true', Bool.not_eq_false', Bool.and_eq_false_iff, Bool.or_eq_false_iff, Bool.not_not, ite_tt, ite_ff, iff_tt, iff_ff, a_av, a_ite, a_upd, i_wrap, IntKind.wrap, IntKind.bits, IntKind.signed]
  have e0 : a0 % 65536 = a0 := by omega
  have e1 : a1 % 65536 = a1 := by omega
  have e2 : ((a0 + a1) % 65536) % 65536 = (a0 + a1) % 65536 := by omega
  have e3 : ((a0 - a1) % 65536) % 65536 = (a0 - a1) % 65536 := by omega
  simp only [show (2 : Int) ^ 16 = 65536 from rfl, show (2 : Int) ^ (16 - 1) = 32768 from rfl, ge_iff_le, true_and, e0, e1, e2, e3]
  by_cases c0 : 32768 ≤ a0 <;> by_cases c1 : 32768 ≤ a1 <;> by_cases c2 : (a0 + a1) / 32768 % 2 = 0 <;> by_cases c3 : (a0 - a1) / 32768 % 2 = 0 <;>
    by_cases c4 : 32768 ≤ (a0 + a1) % 65536 <;> by_cases c5 : 32768 ≤ (a0 - a1) % 65536 <;> first | (exfalso; omega) | skip
  all_goals simp only [c0, c1, c2, c3, c4, c5, if_true, if_false, not_true_eq_false, not_false_eq_true, iff_true, iff_false, true_iff, false_iff, or_true, or_false, true_or, false_or, and_true, true_and]
  all_goals (repeat' apply And.intro)
  all_goals first
    | omega
    | (split <;> omega)
    | (repeat' split
       all_goals omega)

theorem ecalls (a0 : Int) (w0 : (Lit.int .u16 a0).wf = true) (a1 : Int) (w1 : (Lit.int .u16 a1).wf = true) (w : World) :
    Calls Try.prog 3 #[.int .u16 a0, .int .u16 a1] w fun r w' => r = .returned (.bool true) ∧ Below w.heap.size w w' := by
  have hargs : (eLs.map (SV.conc (⟨[a0, a1], [], [], [], Iv (fun _ _ => Ext.none)⟩ : Env) Loc.id)).toArray = #[.int .u16 a0, .int .u16 a1] := by
    refine congrArg List.toArray ?_
    exact (cons_eq rfl (cons_eq rfl rfl))
  rw [← hargs]
  have hok : Hyp.ok eHy (⟨[a0, a1], [], [], [], Iv (fun _ _ => Ext.none)⟩ : Env) := by
    refine ⟨?_, ?_, ?_, by simp [eHy], ?_, by simp [eHy]⟩
    · simp [eHy]
    · intro p hp
      simp only [eHy, List.mem_cons, List.not_mem_nil, or_false] at hp
      rcases hp with rfl | rfl
      · exact bounds_u16 w0
      · exact bounds_u16 w1
    · simp [eHy]
    · simp [eHy]
  exact law_true (ρ := (⟨[a0, a1], [], [], [], Iv (fun _ _ => Ext.none)⟩ : Env)) (G_ok _) (by kernel_rfl) erun rfl
    hok (by intro e he; cases he) (evc (a0) (a1) (bounds_u16 w0) (bounds_u16 w1)) w (fun i j => Ext.none_ok _)
theorem own : ownKnob Try.prog.godebug = none := by kernel_rfl
theorem lifted (os : Os) (started : os.Started) (H : Type) (enc : TypeId × Value → H) :
    ReturnsInHanded {} Try.checked os 3 .any (Rows.signalSumsSpec.pre6 enc Try.prog Try.f3 Rows.signalSumsRow.domain false) (Rows.signalSumsSpec.post enc Try.prog Try.f3 false true false false) := by
  refine returnsInHanded_of_change (C := Try.checked) own started (by kernel_rfl) Try.func3
    (ChangeSpec.witness6 (enc := enc) (C := Try.checked) false ⟨#[], #[.int .u16 0, .int .u16 0], []⟩ 8 (by kernel_rfl) (by kernel_rfl) (by kernel_rfl) (by kernel_rfl)) ?_
  intro W base args ds gs before hval0 hW hcnd _
  have hval : ∀ (j : Nat) t v, Try.f3.params[j]? = some t → args[j]? = some v → Value.okWide Try.prog W .any base t v := hval0
  have hW' := hW
  obtain ⟨p, q, hA0, hV, rfl, hfz, hnd⟩ := hW
  have hA1 : DataW.TrodAll enc Try.prog W 0 (fun _ => true) true Try.f3.params.toList args.toList ds p := hA0
  rw [Try.params3] at hA1 hval
  obtain ⟨v0, vs0, d0, ds0, p0, q0, hargs, rfl, rfl, h0, r0⟩ := trodAll_cons hA1
  obtain ⟨v1, vs1, d1, ds1, p1, q1, rfl, rfl, rfl, h1, r1⟩ := trodAll_cons r0
  obtain ⟨rfl, rfl, rfl⟩ := trodAll_nil r1
  obtain rfl : args = #[v0, v1] := by cases args; simp_all
  obtain ⟨a0, rfl, rfl, rfl, w0⟩ := open_int Try.underlying22 (hval 0 22 v0 rfl rfl) h0
  obtain ⟨a1, rfl, rfl, rfl, w1⟩ := open_int Try.underlying22 (hval 1 22 v1 rfl rfl) h1
  obtain ⟨rfl, rfl⟩ := trodVars_none hV

  refine (ecalls a0 w0 a1 w1 W).mono fun e W' ⟨he, hb⟩ => ⟨_, he, ?_⟩
  exact law_post (by kernel_rfl) (by kernel_rfl) rfl (by kernel_rfl) Try.underlying4 rfl hW' hb
theorem over : Rows.signalSumsRow.holds Try.pinned (OpenSpec.ofChange Rows.signalSumsSpec) :=
  OpenClaim.holds_of_wide 3 Try.f3 rfl rfl rfl rfl rfl rfl rfl ⟨rfl, rfl, rfl, rfl, rfl⟩ rfl rfl rfl rfl rfl (by kernel_rfl) Try.func3 (by kernel_rfl)
    (of_decide_eq_true (by kernel_rfl)) (by unfold Func.isWrapper; first | (rw [if_pos (by decide +kernel)]; kernel_rfl) | (rw [if_neg (by decide +kernel)]; exact ⟨rfl, rfl⟩))
    (fun os started H enc _ => lifted os started H enc)
theorem proved : Rows.SignalSumsSaid := over
#print axioms proved
end Go.Proofs.Ytcckecfjjccffaa.SignalSums
