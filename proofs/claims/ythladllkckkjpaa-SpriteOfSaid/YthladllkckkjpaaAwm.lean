/- Contracts of functions that laws of this seat call. They are run by symbols (SxA, SxB, SxC). No condition. -/
import Derived.Test.YthladllkckkjpaaProg
import Derived.Test.YthladllkckkjpaaAwo
import Derived.Test.YthladllkckkjpaaAwp
import Derived.Test.YthladllkckkjpaaAwq
import Derived.Test.YthladllkckkjpaaAwr
import Derived.Test.YthladllkckkjpaaSxC
namespace Go.Proofs.Ythladllkckkjpaa
open Go.Sx Go.RowKit
set_option linter.unusedVariables false
set_option linter.unusedSimpArgs false
set_option maxRecDepth 100000
theorem awAt {lo n : Nat} (h : awChk lo n = true) (k : Nat) (h1 : lo ≤ k) (h2 : k < lo + n) : enter Try.prog M1 M1h 3000 6 18 awH [.s (.ptr 0 (.lit 0)), .s (.ptr 1 (.lit 0)), .s (.int .i64 (.lit (k : Int)))] awM = some ([], awR k, none) := by
  have h3 := List.all_eq_true.1 h (k - lo) (List.mem_range.2 (by omega))
  have h4 := of_decide_eq_true h3
  rw [show lo + (k - lo) = k by omega] at h4
  exact h4
theorem awO_ok (I : Interp) : SpecOK Try.prog I 18 awSpec := memoK_ok (enter_ok (M1_ok I) (by kernel_rfl) 3000 6) (fun k hk => by
  rcases (show (0 ≤ k ∧ k < 0 + 16) ∨ (16 ≤ k ∧ k < 16 + 16) ∨ (32 ≤ k ∧ k < 32 + 16) ∨ (48 ≤ k ∧ k < 48 + 16) ∨ (64 ≤ k ∧ k < 64 + 16) ∨ (80 ≤ k ∧ k < 80 + 16) ∨ (96 ≤ k ∧ k < 96 + 16) ∨ (112 ≤ k ∧ k < 112 + 16) by omega) with h | h | h | h | h | h | h | h
  · exact awAt awC0 k h.1 h.2
  · exact awAt awC1 k h.1 h.2
  · exact awAt awC2 k h.1 h.2
  · exact awAt awC3 k h.1 h.2
  · exact awAt awC4 k h.1 h.2
  · exact awAt awC5 k h.1 h.2
  · exact awAt awC6 k h.1 h.2
  · exact awAt awC7 k h.1 h.2)
end Go.Proofs.Ythladllkckkjpaa
