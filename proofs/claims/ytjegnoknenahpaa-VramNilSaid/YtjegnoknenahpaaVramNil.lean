/- The law VramNil returns true for every input. No memories: every call on none says so, and an empty body that a writer gives is read. It is run by symbols (SxA, SxB, SxC); what is left is arithmetic. No condition. -/
import Derived.Test.YtjegnoknenahpaaRows
import Derived.Test.YtjegnoknenahpaaSxC
import Derived.Test.YtjegnoknenahpaaVn
namespace Go.Proofs.Ytjegnoknenahpaa.VramNil
open Go.Sx Go.ChangeShapes Go.WideShapes Go.ChangeAt Go.RowKit
set_option linter.unusedVariables false
set_option linter.unusedSimpArgs false
set_option maxRecDepth 100000
noncomputable def G : Ctx := inlS Try.prog [] (ctx [(34, dnS)]) 3000 60 14
noncomputable def Gh : HintCtx := inlSH Try.prog [] (ctx [(34, dnS)]) 3000 60 14
theorem G_ok (xs : Nat → Nat → Ext) : CtxOK Try.prog (Iv xs) G := inlS_ok (ctx_ok (fun p hp => by
  simp only [List.mem_cons, List.not_mem_nil, or_false] at hp
  rcases hp with rfl
  · exact dnok _
 )) (by kernel_rfl) 3000 60 14
def eHy : Hyp := ⟨[(.v 0, (0, 255)), (.v 1, (0, 255))], [], [], [], [], []⟩
def eLs : List SV := [.s (.int .u8 (.v 0)), .s (.int .u8 (.v 1))]

theorem erun : enter Try.prog G Gh 3000 60 8 eHy eLs [] = some ([], .s (.bool (.blit true)), none) := by kernel_rfl
theorem evc (a0 a1 : Int) (b0 : 0 ≤ a0 ∧ a0 ≤ 255) (b1 : 0 ≤ a1 ∧ a1 ≤ 255) : E.b (⟨[a0, a1], [], [], [], Iv (fun _ _ => Ext.none)⟩ : Env) (.blit true) = true := by
  rfl
theorem ecalls (a0 : Int) (w0 : (Lit.int .u8 a0).wf = true) (a1 : Int) (w1 : (Lit.int .u8 a1).wf = true) (w : World) :
    Calls Try.prog 8 #[.int .u8 a0, .int .u8 a1] w fun r w' => r = .returned (.bool true) ∧ Below w.heap.size w w' := by
  have hargs : (eLs.map (SV.conc (⟨[a0, a1], [], [], [], Iv (fun _ _ => Ext.none)⟩ : Env) Loc.id)).toArray = #[.int .u8 a0, .int .u8 a1] := by
    refine congrArg List.toArray ?_
    exact (cons_eq rfl (cons_eq rfl rfl))
  rw [← hargs]
  have hok : Hyp.ok eHy (⟨[a0, a1], [], [], [], Iv (fun _ _ => Ext.none)⟩ : Env) := by
    refine ⟨?_, ?_, ?_, by simp [eHy], ?_, by simp [eHy]⟩
    · simp [eHy]
    · intro p hp
      simp only [eHy, List.mem_cons, List.not_mem_nil, or_false] at hp
      rcases hp with rfl | rfl
      · exact bounds_u8 w0
      · exact bounds_u8 w1
    · simp [eHy]
    · simp [eHy]
  exact law_true (ρ := (⟨[a0, a1], [], [], [], Iv (fun _ _ => Ext.none)⟩ : Env)) (G_ok _) (by kernel_rfl) erun rfl
    hok (by intro e he; cases he) (evc (a0) (a1) (bounds_u8 w0) (bounds_u8 w1)) w (fun i j => Ext.none_ok _)
theorem own : ownKnob Try.prog.godebug = none := by kernel_rfl
theorem lifted (os : Os) (started : os.Started) (H : Type) (enc : TypeId × Value → H) :
    ReturnsInHanded {} Try.checked os 8 .any (Rows.vramNilSpec.pre6 enc Try.prog Try.f8 Rows.vramNilRow.domain false) (Rows.vramNilSpec.post enc Try.prog Try.f8 false true false false) := by
  refine returnsInHanded_of_change (C := Try.checked) own started (by kernel_rfl) Try.func8
    (ChangeSpec.witness6 (enc := enc) (C := Try.checked) false ⟨#[], #[.int .u8 0, .int .u8 0], []⟩ 8 (by kernel_rfl) (by kernel_rfl) (by kernel_rfl) (by kernel_rfl)) ?_
  intro W base args ds gs before hval0 hW hcnd _
  have hval : ∀ (j : Nat) t v, Try.f8.params[j]? = some t → args[j]? = some v → Value.okWide Try.prog W .any base t v := hval0
  have hW' := hW
  obtain ⟨p, q, hA0, hV, rfl, hfz, hnd⟩ := hW
  have hA1 : DataW.TrodAll enc Try.prog W 0 (fun _ => true) true Try.f8.params.toList args.toList ds p := hA0
  rw [Try.params8] at hA1 hval
  obtain ⟨v0, vs0, d0, ds0, p0, q0, hargs, rfl, rfl, h0, r0⟩ := trodAll_cons hA1
  obtain ⟨v1, vs1, d1, ds1, p1, q1, rfl, rfl, rfl, h1, r1⟩ := trodAll_cons r0
  obtain ⟨rfl, rfl, rfl⟩ := trodAll_nil r1
  obtain rfl : args = #[v0, v1] := by cases args; simp_all
  obtain ⟨a0, rfl, rfl, rfl, w0⟩ := open_int Try.underlying5 (hval 0 5 v0 rfl rfl) h0
  obtain ⟨a1, rfl, rfl, rfl, w1⟩ := open_int Try.underlying5 (hval 1 5 v1 rfl rfl) h1
  obtain ⟨rfl, rfl⟩ := trodVars_none hV

  refine (ecalls a0 w0 a1 w1 W).mono fun e W' ⟨he, hb⟩ => ⟨_, he, ?_⟩
  exact law_post (by kernel_rfl) (by kernel_rfl) rfl (by kernel_rfl) Try.underlying4 rfl hW' hb
theorem over : Rows.vramNilRow.holds Try.pinned (OpenSpec.ofChange Rows.vramNilSpec) :=
  OpenClaim.holds_of_wide 8 Try.f8 rfl rfl rfl rfl rfl rfl rfl ⟨rfl, rfl, rfl, rfl, rfl⟩ rfl rfl rfl rfl rfl (by kernel_rfl) Try.func8 (by kernel_rfl)
    (of_decide_eq_true (by kernel_rfl)) (by unfold Func.isWrapper; first | (rw [if_pos (by decide +kernel)]; kernel_rfl) | (rw [if_neg (by decide +kernel)]; exact ⟨rfl, rfl⟩))
    (fun os started H enc _ => lifted os started H enc)
theorem proved : Rows.VramNilSaid := over
#print axioms proved
end Go.Proofs.Ytjegnoknenahpaa.VramNil
