/- The whole of the law TickRuns, which returns true for every input. Whatever is done to it, in every order, timers, ports and registers are what the document says, to the last saved byte. Where what comes in is of bulk at most 1048576. No condition. -/
import Derived.Test.YtngbibifiadgiaaTickRunsH
namespace Go.Proofs.Ytngbibifiadgiaa.TickRuns
open Go.Sx Go.ChangeShapes Go.WideShapes Go.ChangeAt Go.RowKit
set_option linter.unusedVariables false
set_option linter.unusedSimpArgs false
set_option maxRecDepth 100000
theorem calls (x0 : Ext) (w : World) (g0 : XFit x0 w [some .i64, some .i64, some .u8]) (m0 : (x0.n : Int) ≤ 1048575) :
    Calls Try.prog 5 #[x0.v] w fun r w' => r = .returned (.bool true) ∧ Below w.heap.size w w' := by
  have b0 : 0 ≤ (x0.n : Int) ∧ (x0.n : Int) ≤ 1048575 := by omega
  exact ecalls x0 b0 w g0

theorem bulk_one {H : Type} (d : DataW H) : 1 ≤ Rows.uptoBulk d := by
  cases d with
  | lit l => cases l <;> simp [Rows.uptoBulk]
  | _ => simp [Rows.uptoBulk]
theorem bulk_all {H : Type} (l : List (DataW H)) : l.length ≤ Rows.uptoBulkAll l := by
  induction l with
  | nil => simp [Rows.uptoBulkAll]
  | cons x r ih => have := bulk_one x; simp only [Rows.uptoBulkAll, List.length_cons]; omega
theorem bulk_len {H : Type} {n : Nat} {d : DataW H} (h : n = 0 ∨ ∃ l sp, d = .slice l sp ∧ l.length = n) : n + 1 ≤ Rows.uptoBulk d := by
  rcases h with rfl | ⟨l, sp, rfl, rfl⟩
  · exact bulk_one d
  · have := bulk_all l
    simp only [Rows.uptoBulk]; omega
theorem bulk_at {H : Type} : ∀ (l : List (DataW H)) (j : Nat) (d : DataW H), l[j]? = some d → Rows.uptoBulk d ≤ Rows.uptoBulkAll l
  | [], j, d, h => by simp at h
  | x :: r, 0, d, h => by
    simp only [List.getElem?_cons_zero, Option.some.injEq] at h; subst h
    simp only [Rows.uptoBulkAll]; omega
  | x :: r, j + 1, d, h => by
    have := bulk_at r j d (by simpa using h)
    simp only [Rows.uptoBulkAll]; omega
theorem bulk_put {H : Type} {n : Nat} {d : DataW H} (h : n = 0 ∨ ∃ parts l sp, d = .agg parts ∧ parts[2]? = some (.slice l sp) ∧ l.length = n) : n + 1 ≤ Rows.uptoBulk d := by
  rcases h with rfl | ⟨parts, l, sp, rfl, hp, rfl⟩
  · exact bulk_one d
  · have h1 := bulk_at parts 2 _ hp
    have h2 := bulk_all l
    simp only [Rows.uptoBulk] at h1 ⊢; omega
theorem own : ownKnob Try.prog.godebug = none := by kernel_rfl
theorem lifted (os : Os) (started : os.Started) (H : Type) (enc : TypeId × Value → H) (F : Stop.Interp) :
    ReturnsInHanded {} Try.checked os 5 .any ((Rows.OpenSpec.upto Rows.tickRunsSpec).pre6 enc Try.prog Try.f5 Rows.tickRunsUptoRow.domain false) (((Rows.OpenSpec.upto Rows.tickRunsSpec).at F).post enc Try.prog Try.f5 false true false false) := by
  refine returnsInHanded_of_cond (C := Try.checked) (s := Rows.OpenSpec.upto Rows.tickRunsSpec) (k := Rows.uptoSmall) rfl own started (by kernel_rfl) Try.func5
    (OpenSpec.witness (enc := enc) (C := Try.checked) (s := Rows.OpenSpec.upto Rows.tickRunsSpec) (k := Rows.uptoSmall) rfl false ⟨#[], #[.slice none 0 0], []⟩ 8 (by kernel_rfl) (by kernel_rfl) (by kernel_rfl)
      (x := ([.nil], [], [])) (by kernel_rfl) rfl (by kernel_rfl)) ?_
  intro W base args ds gs before hval0 hW _ hk _
  have hval : ∀ (j : Nat) t v, Try.f5.params[j]? = some t → args[j]? = some v → Value.okWide Try.prog W .any base t v := hval0
  have hW' := hW
  obtain ⟨p, q, hA0, hV, rfl, hfz, hnd⟩ := hW
  have hA1 : DataW.TrodAll enc Try.prog W 0 (fun _ => true) true Try.f5.params.toList args.toList ds p := hA0
  rw [Try.params5] at hA1 hval
  obtain ⟨v0, vs0, d0, ds0, p0, q0, hargs, rfl, rfl, h0, r0⟩ := trodAll_cons hA1
  obtain ⟨rfl, rfl, rfl⟩ := trodAll_nil r0
  obtain rfl : args = #[v0] := by cases args; simp_all
  obtain ⟨x0, rfl, g0, u0⟩ := open_slcN [some .i64, some .i64, some .u8] 4 Try.underlying33 (by kernel_rfl) (by kernel_rfl) (by decide) (hval 0 33 v0 rfl rfl) h0
  obtain ⟨rfl, rfl⟩ := trodVars_none hV
  have hk2 : Rows.uptoBulkAll _ ≤ 1048576 := of_decide_eq_true hk
  simp only [List.append_nil, Rows.uptoBulkAll] at hk2
  have m0 : (x0.n : Int) ≤ 1048575 := by
    have := bulk_len u0
    omega
  refine (calls x0 W g0 m0).mono fun e W' ⟨he, hb⟩ => ⟨_, he, ?_⟩
  exact law_post (by kernel_rfl) (by kernel_rfl) rfl (by kernel_rfl) Try.underlying4 rfl hW' hb
theorem proved : Rows.TickRunsUptoSaid :=
  OpenClaim.holds_of_cond 5 Try.f5 rfl rfl rfl rfl rfl rfl rfl ⟨rfl, rfl, rfl, rfl, rfl⟩ rfl rfl rfl rfl rfl (by kernel_rfl) Try.func5 (by kernel_rfl)
    (of_decide_eq_true (by kernel_rfl)) (by unfold Func.isWrapper; first | (rw [if_pos (by decide +kernel)]; kernel_rfl) | (rw [if_neg (by decide +kernel)]; exact ⟨rfl, rfl⟩))
    (fun os started H enc _ F => lifted os started H enc F)
#print axioms proved
end Go.Proofs.Ytngbibifiadgiaa.TickRuns
