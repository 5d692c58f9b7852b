/- The whole of the law TickLoads, which returns true for every input. Bytes are taken, if they are a state, and refused if not, and then all is as it was; what was taken is saved again with the same bytes. Where what comes in is of bulk at most 1048576. No condition. -/
import Derived.Test.YtngbibifiadgiaaTickLoadsP0
import Derived.Test.YtngbibifiadgiaaTickLoadsP1
import Derived.Test.YtngbibifiadgiaaTickLoadsP2
import Derived.Test.YtngbibifiadgiaaTickLoadsP3
import Derived.Test.YtngbibifiadgiaaTickLoadsP4
import Derived.Test.YtngbibifiadgiaaTickLoadsP5
import Derived.Test.YtngbibifiadgiaaTickLoadsP6
import Derived.Test.YtngbibifiadgiaaTickLoadsP7
import Derived.Test.YtngbibifiadgiaaTickLoadsG1
import Derived.Test.YtngbibifiadgiaaTickLoadsG23
import Derived.Test.YtngbibifiadgiaaTickLoadsG24
namespace Go.Proofs.Ytngbibifiadgiaa.TickLoads
open Go.Sx Go.ChangeShapes Go.WideShapes Go.ChangeAt Go.RowKit
set_option linter.unusedVariables false
set_option linter.unusedSimpArgs false
set_option maxRecDepth 100000
theorem calls (x0 : Ext) (x1 : Ext) (w : World) (g0 : XFit x0 w [some .u8]) (g1 : XFit x1 w [some .i64, some .i64, some .u8]) (m0 : (x0.n : Int) ≤ 1048575) (m1 : (x1.n : Int) ≤ 1048575) :
    Calls Try.prog 7 #[x0.v, x1.v] w fun r w' => r = .returned (.bool true) ∧ Below w.heap.size w w' := by
  have b0 : 0 ≤ (x1.n : Int) ∧ (x1.n : Int) ≤ 1048575 := by omega
  rcases (show (x0.n : Int) = 0 ∨ (x0.n : Int) = 1 ∨ (x0.n : Int) = 2 ∨ (x0.n : Int) = 3 ∨ (x0.n : Int) = 4 ∨ (x0.n : Int) = 5 ∨ (x0.n : Int) = 6 ∨ (x0.n : Int) = 7 ∨ (x0.n : Int) = 8 ∨ (x0.n : Int) = 9 ∨ (x0.n : Int) = 10 ∨ (x0.n : Int) = 11 ∨ (x0.n : Int) = 12 ∨ (x0.n : Int) = 13 ∨ (x0.n : Int) = 14 ∨ (x0.n : Int) = 15 ∨ (x0.n : Int) = 16 ∨ (x0.n : Int) = 17 ∨ (x0.n : Int) = 18 ∨ (x0.n : Int) = 19 ∨ (x0.n : Int) = 20 ∨ (x0.n : Int) = 21 ∨ (x0.n : Int) = 22 ∨ (x0.n : Int) = 23 ∨ (24 ≤ (x0.n : Int) ∧ (x0.n : Int) ≤ 1048575) by omega) with h | h | h | h | h | h | h | h | h | h | h | h | h | h | h | h | h | h | h | h | h | h | h | h | h
  · exact g_calls 0 g_st_0 g_sg_0 x0 x1 h b0 w g0 g1
  · exact h_calls x0 x1 h b0 w g0 g1
  · exact g_calls 2 g_st_2 g_sg_2 x0 x1 h b0 w g0 g1
  · exact g_calls 3 g_st_3 g_sg_3 x0 x1 h b0 w g0 g1
  · exact g_calls 4 g_st_4 g_sg_4 x0 x1 h b0 w g0 g1
  · exact g_calls 5 g_st_5 g_sg_5 x0 x1 h b0 w g0 g1
  · exact g_calls 6 g_st_6 g_sg_6 x0 x1 h b0 w g0 g1
  · exact g_calls 7 g_st_7 g_sg_7 x0 x1 h b0 w g0 g1
  · exact g_calls 8 g_st_8 g_sg_8 x0 x1 h b0 w g0 g1
  · exact g_calls 9 g_st_9 g_sg_9 x0 x1 h b0 w g0 g1
  · exact g_calls 10 g_st_10 g_sg_10 x0 x1 h b0 w g0 g1
  · exact g_calls 11 g_st_11 g_sg_11 x0 x1 h b0 w g0 g1
  · exact g_calls 12 g_st_12 g_sg_12 x0 x1 h b0 w g0 g1
  · exact g_calls 13 g_st_13 g_sg_13 x0 x1 h b0 w g0 g1
  · exact g_calls 14 g_st_14 g_sg_14 x0 x1 h b0 w g0 g1
  · exact g_calls 15 g_st_15 g_sg_15 x0 x1 h b0 w g0 g1
  · exact g_calls 16 g_st_16 g_sg_16 x0 x1 h b0 w g0 g1
  · exact g_calls 17 g_st_17 g_sg_17 x0 x1 h b0 w g0 g1
  · exact g_calls 18 g_st_18 g_sg_18 x0 x1 h b0 w g0 g1
  · exact g_calls 19 g_st_19 g_sg_19 x0 x1 h b0 w g0 g1
  · exact g_calls 20 g_st_20 g_sg_20 x0 x1 h b0 w g0 g1
  · exact g_calls 21 g_st_21 g_sg_21 x0 x1 h b0 w g0 g1
  · exact g_calls 22 g_st_22 g_sg_22 x0 x1 h b0 w g0 g1
  · exact i_calls x0 x1 h b0 w g0 g1
  · exact j_calls x0 x1 h b0 w g0 g1

theorem bulk_one {H : Type} (d : DataW H) : 1 ≤ Rows.uptoBulk d := by
  cases d with
  | lit l => cases l <;> simp [Rows.uptoBulk]
  | _ => simp [Rows.uptoBulk]
theorem bulk_all {H : Type} (l : List (DataW H)) : l.length ≤ Rows.uptoBulkAll l := by
  induction l with
  | nil => simp [Rows.uptoBulkAll]
  | cons x r ih => have := bulk_one x; simp only [Rows.uptoBulkAll, List.length_cons]; omega
theorem bulk_len {H : Type} {n : Nat} {d : DataW H} (h : n = 0 ∨ ∃ l sp, d = .slice l sp ∧ l.length = n) : n + 1 ≤ Rows.uptoBulk d := by
  rcases h with rfl | ⟨l, sp, rfl, rfl⟩
  · exact bulk_one d
  · have := bulk_all l
    simp only [Rows.uptoBulk]; omega
theorem bulk_at {H : Type} : ∀ (l : List (DataW H)) (j : Nat) (d : DataW H), l[j]? = some d → Rows.uptoBulk d ≤ Rows.uptoBulkAll l
  | [], j, d, h => by simp at h
  | x :: r, 0, d, h => by
    simp only [List.getElem?_cons_zero, Option.some.injEq] at h; subst h
    simp only [Rows.uptoBulkAll]; omega
  | x :: r, j + 1, d, h => by
    have := bulk_at r j d (by simpa using h)
    simp only [Rows.uptoBulkAll]; omega
theorem bulk_put {H : Type} {n : Nat} {d : DataW H} (h : n = 0 ∨ ∃ parts l sp, d = .agg parts ∧ parts[2]? = some (.slice l sp) ∧ l.length = n) : n + 1 ≤ Rows.uptoBulk d := by
  rcases h with rfl | ⟨parts, l, sp, rfl, hp, rfl⟩
  · exact bulk_one d
  · have h1 := bulk_at parts 2 _ hp
    have h2 := bulk_all l
    simp only [Rows.uptoBulk] at h1 ⊢; omega
theorem own : ownKnob Try.prog.godebug = none := by kernel_rfl
theorem lifted (os : Os) (started : os.Started) (H : Type) (enc : TypeId × Value → H) (F : Stop.Interp) :
    ReturnsInHanded {} Try.checked os 7 .any ((Rows.OpenSpec.upto Rows.tickLoadsSpec).pre6 enc Try.prog Try.f7 Rows.tickLoadsUptoRow.domain false) (((Rows.OpenSpec.upto Rows.tickLoadsSpec).at F).post enc Try.prog Try.f7 false true false false) := by
  refine returnsInHanded_of_cond (C := Try.checked) (s := Rows.OpenSpec.upto Rows.tickLoadsSpec) (k := Rows.uptoSmall) rfl own started (by kernel_rfl) Try.func7
    (OpenSpec.witness (enc := enc) (C := Try.checked) (s := Rows.OpenSpec.upto Rows.tickLoadsSpec) (k := Rows.uptoSmall) rfl false ⟨#[], #[.slice none 0 0, .slice none 0 0], []⟩ 8 (by kernel_rfl) (by kernel_rfl) (by kernel_rfl)
      (x := ([.nil, .nil], [], [])) (by kernel_rfl) rfl (by kernel_rfl)) ?_
  intro W base args ds gs before hval0 hW _ hk _
  have hval : ∀ (j : Nat) t v, Try.f7.params[j]? = some t → args[j]? = some v → Value.okWide Try.prog W .any base t v := hval0
  have hW' := hW
  obtain ⟨p, q, hA0, hV, rfl, hfz, hnd⟩ := hW
  have hA1 : DataW.TrodAll enc Try.prog W 0 (fun _ => true) true Try.f7.params.toList args.toList ds p := hA0
  rw [Try.params7] at hA1 hval
  obtain ⟨v0, vs0, d0, ds0, p0, q0, hargs, rfl, rfl, h0, r0⟩ := trodAll_cons hA1
  obtain ⟨v1, vs1, d1, ds1, p1, q1, rfl, rfl, rfl, h1, r1⟩ := trodAll_cons r0
  obtain ⟨rfl, rfl, rfl⟩ := trodAll_nil r1
  obtain rfl : args = #[v0, v1] := by cases args; simp_all
  obtain ⟨x0, rfl, g0, u0⟩ := open_slcN [some .u8] 4 Try.underlying25 (by kernel_rfl) (by kernel_rfl) (by decide) (hval 0 25 v0 rfl rfl) h0
  obtain ⟨x1, rfl, g1, u1⟩ := open_slcN [some .i64, some .i64, some .u8] 4 Try.underlying33 (by kernel_rfl) (by kernel_rfl) (by decide) (hval 1 33 v1 rfl rfl) h1
  obtain ⟨rfl, rfl⟩ := trodVars_none hV
  have hk2 : Rows.uptoBulkAll _ ≤ 1048576 := of_decide_eq_true hk
  simp only [List.append_nil, Rows.uptoBulkAll] at hk2
  have m0 : (x0.n : Int) ≤ 1048575 := by
    have := bulk_len u0
    omega
  have m1 : (x1.n : Int) ≤ 1048575 := by
    have := bulk_len u1
    omega
  refine (calls x0 x1 W g0 g1 m0 m1).mono fun e W' ⟨he, hb⟩ => ⟨_, he, ?_⟩
  exact law_post (by kernel_rfl) (by kernel_rfl) rfl (by kernel_rfl) Try.underlying4 rfl hW' hb
theorem proved : Rows.TickLoadsUptoSaid :=
  OpenClaim.holds_of_cond 7 Try.f7 rfl rfl rfl rfl rfl rfl rfl ⟨rfl, rfl, rfl, rfl, rfl⟩ rfl rfl rfl rfl rfl (by kernel_rfl) Try.func7 (by kernel_rfl)
    (of_decide_eq_true (by kernel_rfl)) (by unfold Func.isWrapper; first | (rw [if_pos (by decide +kernel)]; kernel_rfl) | (rw [if_neg (by decide +kernel)]; exact ⟨rfl, rfl⟩))
    (fun os started H enc _ F => lifted os started H enc F)
#print axioms proved
end Go.Proofs.Ytngbibifiadgiaa.TickLoads
