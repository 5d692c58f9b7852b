/- The whole of the law SaveReads, which returns true for every input. A reader of whatever bytes answers, call by call in every order, what the document says, and stands where it says. Where what comes in is of bulk at most 1048576. No condition. -/
import Derived.Test.YtflamojcdfmimaaSaveReadsE
import Derived.Test.YtflamojcdfmimaaSaveReadsF
import Derived.Test.YtflamojcdfmimaaSaveReadsH
namespace Go.Proofs.Ytflamojcdfmimaa.SaveReads
open Go.Sx Go.ChangeShapes Go.WideShapes Go.ChangeAt Go.RowKit
set_option linter.unusedVariables false
set_option linter.unusedSimpArgs false
set_option maxRecDepth 100000
theorem calls (x0 : Ext) (x1 : Ext) (Y1 : Nat → Ext) (w : World) (g0 : XFit x0 w [some .u8]) (g1 : PFit x1 Y1 w) (m0 : (x0.n : Int) ≤ 1048575) :
    Calls Try.prog 5 #[x0.v, x1.v] w fun r w' => r = .returned (.bool true) ∧ Below w.heap.size w w' := by
  rcases (show ((x0.n : Int) ≤ 12) ∨ (x0.n : Int) = 13 ∨ 14 ≤ (x0.n : Int) by omega) with h | h | h
  · exact hcalls x0 x1 Y1 ⟨by omega, h⟩ w g0 g1
  · exact fcalls x0 x1 Y1 h w g0 g1
  · exact ecalls x0 x1 Y1 ⟨h, m0⟩ w g0 g1

theorem bulk_one {H : Type} (d : DataW H) : 1 ≤ Rows.uptoBulk d := by
  cases d with
  | lit l => cases l <;> simp [Rows.uptoBulk]
  | _ => simp [Rows.uptoBulk]
theorem bulk_all {H : Type} (l : List (DataW H)) : l.length ≤ Rows.uptoBulkAll l := by
  induction l with
  | nil => simp [Rows.uptoBulkAll]
  | cons x r ih => have := bulk_one x; simp only [Rows.uptoBulkAll, List.length_cons]; omega
theorem bulk_len {H : Type} {n : Nat} {d : DataW H} (h : n = 0 ∨ ∃ l sp, d = .slice l sp ∧ l.length = n) : n + 1 ≤ Rows.uptoBulk d := by
  rcases h with rfl | ⟨l, sp, rfl, rfl⟩
  · exact bulk_one d
  · have := bulk_all l
    simp only [Rows.uptoBulk]; omega
theorem bulk_at {H : Type} : ∀ (l : List (DataW H)) (j : Nat) (d : DataW H), l[j]? = some d → Rows.uptoBulk d ≤ Rows.uptoBulkAll l
  | [], j, d, h => by simp at h
  | x :: r, 0, d, h => by
    simp only [List.getElem?_cons_zero, Option.some.injEq] at h; subst h
    simp only [Rows.uptoBulkAll]; omega
  | x :: r, j + 1, d, h => by
    have := bulk_at r j d (by simpa using h)
    simp only [Rows.uptoBulkAll]; omega
theorem bulk_put {H : Type} {n : Nat} {d : DataW H} (h : n = 0 ∨ ∃ parts l sp, d = .agg parts ∧ parts[2]? = some (.slice l sp) ∧ l.length = n) : n + 1 ≤ Rows.uptoBulk d := by
  rcases h with rfl | ⟨parts, l, sp, rfl, hp, rfl⟩
  · exact bulk_one d
  · have h1 := bulk_at parts 2 _ hp
    have h2 := bulk_all l
    simp only [Rows.uptoBulk] at h1 ⊢; omega
theorem bulk_three {H : Type} (l : List (DataW H)) (a b c : DataW H) (h0 : l[0]? = some a) (h1 : l[1]? = some b) (h2 : l[2]? = some c) : Rows.uptoBulk a + Rows.uptoBulk b + Rows.uptoBulk c ≤ Rows.uptoBulkAll l := by
  match l, h0, h1, h2 with
  | x :: y :: z :: r, h0, h1, h2 =>
    simp only [List.getElem?_cons_zero, List.getElem?_cons_succ, Option.some.injEq] at h0 h1 h2
    subst h0; subst h1; subst h2
    simp only [Rows.uptoBulkAll]; omega
theorem bulk_take {H : Type} : ∀ (l : List (DataW H)) (k : Nat) (d : DataW H), l[k]? = some d → Rows.uptoBulkAll (l.take (k + 1)) = Rows.uptoBulkAll (l.take k) + Rows.uptoBulk d
  | [], k, d, h => by simp at h
  | x :: r, 0, d, h => by
    simp only [List.getElem?_cons_zero, Option.some.injEq] at h; subst h
    simp [Rows.uptoBulkAll]
  | x :: r, k + 1, d, h => by
    have := bulk_take r k d (by simpa using h)
    simp only [List.take_succ_cons, Rows.uptoBulkAll] at this ⊢; omega
theorem bulk_take_le {H : Type} : ∀ (l : List (DataW H)) (k : Nat), Rows.uptoBulkAll (l.take k) ≤ Rows.uptoBulkAll l
  | [], k => by simp
  | x :: r, 0 => by simp [Rows.uptoBulkAll]
  | x :: r, k + 1 => by
    have := bulk_take_le r k
    simp only [List.take_succ_cons, Rows.uptoBulkAll]; omega
theorem bulk_puts {H : Type} {n : Nat} {ys : Nat → Ext} {d : DataW H} (h : n = 0 ∨ ∃ l sp, d = .slice l sp ∧ l.length = n ∧ ∀ k, k < n → ∃ parts p0 p1 p2, l[k]? = some (.agg parts) ∧ parts[0]? = some p0 ∧ parts[1]? = some p1 ∧ parts[2]? = some p2 ∧ ((ys k).n = 0 ∨ ∃ l' sp', p2 = .slice l' sp' ∧ l'.length = (ys k).n)) :
    ∀ k : Nat, k ≤ n → pSum (nLen ys) k + 2 ≤ 2 * (Rows.uptoBulk d : Int) := by
  rcases h with rfl | ⟨l, sp, rfl, rfl, hk⟩
  · intro k h0
    obtain rfl : k = 0 := by omega
    have := bulk_one d
    simp only [pSum]; omega
  · have key : ∀ k : Nat, k ≤ l.length → pSum (nLen ys) k ≤ 2 * (Rows.uptoBulkAll (l.take k) : Int) := by
      intro k
      induction k with
      | zero => intro _; simp [pSum]; omega
      | succ k ih =>
        intro hl
        have ih := ih (by omega)
        obtain ⟨parts, p0, p1, p2, hp, h0, h1, h2, h3⟩ := hk k (by omega)
        have e := bulk_take l k _ hp
        have q := bulk_three parts p0 p1 p2 h0 h1 h2
        have r0 := bulk_one p0
        have r1 := bulk_one p1
        have r2 := bulk_len h3
        have s : Rows.uptoBulk (.agg parts) = Rows.uptoBulkAll parts + 1 := by simp only [Rows.uptoBulk]
        simp only [pSum, nLen]
        rw [e]; omega
    intro k hl
    have h1 := key k hl
    have h2 := bulk_take_le l k
    simp only [Rows.uptoBulk]; omega
theorem own : ownKnob Try.prog.godebug = none := by kernel_rfl
theorem lifted (os : Os) (started : os.Started) (H : Type) (enc : TypeId × Value → H) (F : Stop.Interp) :
    ReturnsInHanded {} Try.checked os 5 .any ((Rows.OpenSpec.upto Rows.saveReadsSpec).pre6 enc Try.prog Try.f5 Rows.saveReadsUptoRow.domain false) (((Rows.OpenSpec.upto Rows.saveReadsSpec).at F).post enc Try.prog Try.f5 false true false false) := by
  refine returnsInHanded_of_cond (C := Try.checked) (s := Rows.OpenSpec.upto Rows.saveReadsSpec) (k := Rows.uptoSmall) rfl own started (by kernel_rfl) Try.func5
    (OpenSpec.witness (enc := enc) (C := Try.checked) (s := Rows.OpenSpec.upto Rows.saveReadsSpec) (k := Rows.uptoSmall) rfl false ⟨#[], #[.slice none 0 0, .slice none 0 0], []⟩ 8 (by kernel_rfl) (by kernel_rfl) (by kernel_rfl)
      (x := ([.nil, .nil], [], [])) (by kernel_rfl) rfl (by kernel_rfl)) ?_
  intro W base args ds gs before hval0 hW _ hk _
  have hval : ∀ (j : Nat) t v, Try.f5.params[j]? = some t → args[j]? = some v → Value.okWide Try.prog W .any base t v := hval0
  have hW' := hW
  obtain ⟨p, q, hA0, hV, rfl, hfz, hnd⟩ := hW
  have hA1 : DataW.TrodAll enc Try.prog W 0 (fun _ => true) true Try.f5.params.toList args.toList ds p := hA0
  rw [Try.params5] at hA1 hval
  obtain ⟨v0, vs0, d0, ds0, p0, q0, hargs, rfl, rfl, h0, r0⟩ := trodAll_cons hA1
  obtain ⟨v1, vs1, d1, ds1, p1, q1, rfl, rfl, rfl, h1, r1⟩ := trodAll_cons r0
  obtain ⟨rfl, rfl, rfl⟩ := trodAll_nil r1
  obtain rfl : args = #[v0, v1] := by cases args; simp_all
  obtain ⟨x0, rfl, g0, u0⟩ := open_slcN [some .u8] 4 Try.underlying25 (by kernel_rfl) (by kernel_rfl) (by decide) (hval 0 25 v0 rfl rfl) h0
  obtain ⟨x1, Y1, rfl, g1, u1⟩ := open_puts 8 Try.underlying22 Try.underlying32 (by kernel_rfl) rfl Try.underlying25 (by kernel_rfl) (by kernel_rfl) (by kernel_rfl) (by kernel_rfl) (by kernel_rfl) (hval 1 22 v1 rfl rfl) h1
  obtain ⟨rfl, rfl⟩ := trodVars_none hV
  have hk2 : Rows.uptoBulkAll _ ≤ 1048576 := of_decide_eq_true hk
  simp only [List.append_nil, Rows.uptoBulkAll] at hk2
  have m0 : (x0.n : Int) ≤ 1048575 := by
    have := bulk_len u0
    omega
  have g1 : PFit x1 Y1 W := ⟨g1.1, fun k hk => by
    have := bulk_puts u1 k hk
    omega, g1.2⟩
  refine (calls x0 x1 Y1 W g0 g1 m0).mono fun e W' ⟨he, hb⟩ => ⟨_, he, ?_⟩
  exact law_post (by kernel_rfl) (by kernel_rfl) rfl (by kernel_rfl) Try.underlying4 rfl hW' hb
theorem proved : Rows.SaveReadsUptoSaid :=
  OpenClaim.holds_of_cond 5 Try.f5 rfl rfl rfl rfl rfl rfl rfl ⟨rfl, rfl, rfl, rfl, rfl⟩ rfl rfl rfl rfl rfl (by kernel_rfl) Try.func5 (by kernel_rfl)
    (of_decide_eq_true (by kernel_rfl)) (by unfold Func.isWrapper; first | (rw [if_pos (by decide +kernel)]; kernel_rfl) | (rw [if_neg (by decide +kernel)]; exact ⟨rfl, rfl⟩))
    (fun os started H enc _ F => lifted os started H enc F)
#print axioms proved
end Go.Proofs.Ytflamojcdfmimaa.SaveReads
