/- Contracts of functions that laws of this seat call. They are run by symbols (SxA, SxB, SxC). No condition. -/
import Derived.Test.YthladllkckkjpaaProg
import Derived.Test.YthladllkckkjpaaSxC
namespace Go.Proofs.Ythladllkckkjpaa
open Go.Sx Go.RowKit
set_option linter.unusedVariables false
set_option linter.unusedSimpArgs false
set_option maxRecDepth 100000
noncomputable def M1 : Ctx := inl Try.prog (ctx []) 3000 6 3
noncomputable def M1h : HintCtx := inlH Try.prog (ctx []) 3000 6 3
theorem M1_ok (I : Interp) : CtxOK Try.prog I M1 := inl_ok (ctx_ok (fun p hp => by cases hp)) (by kernel_rfl) 3000 6 3
def aq0 : E := .upd (.tab []) (.lit 0) (.lit 128)
def aq1 : E := .upd (.tab []) (.lit 0) (.lit 5)
def aq2 : E := .upd aq1 (.lit 1) (.lit 7)
def aq3 : E := .upd aq2 (.lit 5) (.lit 240)
def aq4 : E := .upd aq3 (.lit 9) (.lit 240)
def aq5 : E := .upd aq4 (.lit 13) (.lit 240)
def aq6 : E := .upd aq5 (.lit 17) (.lit 240)
def aq7 : E := .upd aq6 (.lit 21) (.lit 240)
def aq8 : E := .upd aq7 (.lit 25) (.lit 240)
def aq9 : E := .upd aq8 (.lit 29) (.lit 240)
def aq10 : E := .upd aq9 (.lit 33) (.lit 240)
def aq11 : E := .upd aq10 (.lit 37) (.lit 240)
def aq12 : E := .upd aq11 (.lit 41) (.lit 240)
def aq13 : E := .upd aq12 (.lit 45) (.lit 240)
def aq14 : E := .upd aq13 (.lit 49) (.lit 240)
def aq15 : E := .upd aq14 (.lit 53) (.lit 240)
def aq16 : E := .upd aq15 (.lit 57) (.lit 240)
def aq17 : E := .upd aq16 (.lit 61) (.lit 240)
def aq18 : E := .upd aq17 (.lit 65) (.lit 240)
def aq19 : E := .upd aq18 (.lit 69) (.lit 240)
def aq20 : E := .upd aq19 (.lit 73) (.lit 240)
def aq21 : E := .upd aq20 (.lit 77) (.lit 240)
def aq22 : E := .upd aq21 (.lit 81) (.lit 240)
def aq23 : E := .upd aq22 (.lit 85) (.lit 240)
def aq24 : E := .upd aq23 (.lit 89) (.lit 240)
def aq25 : E := .upd aq24 (.lit 93) (.lit 240)
def aq26 : E := .upd aq25 (.lit 97) (.lit 240)
def aq27 : E := .upd aq26 (.lit 101) (.lit 240)
def aq28 : E := .upd aq27 (.lit 105) (.lit 240)
def aq29 : E := .upd aq28 (.lit 109) (.lit 240)
def aq30 : E := .upd aq29 (.lit 113) (.lit 240)
def aq31 : E := .upd aq30 (.lit 117) (.lit 240)
def aq32 : E := .upd aq31 (.lit 121) (.lit 240)
def aq33 : E := .upd aq32 (.lit 125) (.lit 240)
def aq34 : E := .upd aq33 (.lit 129) (.lit 240)
def aq35 : E := .upd aq34 (.lit 133) (.lit 240)
def aq36 : E := .upd aq35 (.lit 137) (.lit 240)
def aq37 : E := .upd aq36 (.lit 141) (.lit 240)
def aq38 : E := .upd aq37 (.lit 145) (.lit 240)
def aq39 : E := .upd aq38 (.lit 149) (.lit 240)
def aq40 : E := .upd aq39 (.lit 153) (.lit 240)
def aq41 : E := .upd aq40 (.lit 157) (.lit 240)
def aq42 : E := .upd aq41 (.lit 161) (.lit 240)
def aq43 : E := .upd aq42 (.lit 165) (.lit 240)
def aq44 : E := .upd aq43 (.lit 169) (.lit 240)
def aq45 : E := .upd aq44 (.lit 173) (.lit 240)
def aq46 : E := .upd aq45 (.lit 177) (.lit 240)
def aq47 : E := .upd aq46 (.lit 181) (.lit 240)
def aq48 : E := .upd aq47 (.lit 185) (.lit 240)
def aq49 : E := .upd aq48 (.lit 189) (.lit 240)
def aq50 : E := .upd aq49 (.lit 193) (.lit 240)
def aq51 : E := .upd aq50 (.lit 197) (.lit 240)
def aq52 : E := .upd aq51 (.lit 201) (.lit 240)
def aq53 : E := .upd aq52 (.lit 205) (.lit 240)
def aq54 : E := .upd aq53 (.lit 209) (.lit 240)
def aq55 : E := .upd aq54 (.lit 213) (.lit 240)
def aq56 : E := .upd aq55 (.lit 217) (.lit 240)
def aq57 : E := .upd aq56 (.lit 221) (.lit 240)
def aq58 : E := .upd aq57 (.lit 225) (.lit 240)
def aq59 : E := .upd aq58 (.lit 229) (.lit 240)
def aq60 : E := .upd aq59 (.lit 233) (.lit 240)
def aq61 : E := .upd aq60 (.lit 237) (.lit 240)
def aq62 : E := .upd aq61 (.lit 241) (.lit 240)
def aq63 : E := .upd aq62 (.lit 245) (.lit 240)
def aq64 : E := .upd aq63 (.lit 249) (.lit 240)
def aq65 : E := .upd aq64 (.lit 253) (.lit 240)
def aq66 : E := .upd aq65 (.lit 257) (.lit 240)
def aq67 : E := .upd aq66 (.lit 261) (.lit 240)
def aq68 : E := .upd aq67 (.lit 265) (.lit 240)
def aq69 : E := .upd aq68 (.lit 269) (.lit 240)
def aq70 : E := .upd aq69 (.lit 273) (.lit 240)
def aq71 : E := .upd aq70 (.lit 277) (.lit 240)
def aq72 : E := .upd aq71 (.lit 281) (.lit 240)
def aq73 : E := .upd aq72 (.lit 285) (.lit 240)
def aq74 : E := .upd aq73 (.lit 289) (.lit 240)
def aq75 : E := .upd aq74 (.lit 293) (.lit 240)
def aq76 : E := .upd aq75 (.lit 297) (.lit 240)
def aq77 : E := .upd aq76 (.lit 301) (.lit 240)
def aq78 : E := .upd aq77 (.lit 305) (.lit 240)
def aq79 : E := .upd aq78 (.lit 309) (.lit 240)
def aq80 : E := .upd aq79 (.lit 313) (.lit 240)
def aq81 : E := .upd aq80 (.lit 317) (.lit 240)
def aq82 : E := .upd aq81 (.lit 321) (.lit 240)
def aq83 : E := .upd aq82 (.lit 325) (.lit 240)
def aq84 : E := .upd aq83 (.lit 329) (.lit 240)
def aq85 : E := .upd aq84 (.lit 333) (.lit 240)
def aq86 : E := .upd aq85 (.lit 337) (.lit 240)
def aq87 : E := .upd aq86 (.lit 341) (.lit 240)
def aq88 : E := .upd aq87 (.lit 345) (.lit 240)
def aq89 : E := .upd aq88 (.lit 349) (.lit 240)
def aq90 : E := .upd aq89 (.lit 353) (.lit 240)
def aq91 : E := .upd aq90 (.lit 357) (.lit 240)
def aq92 : E := .upd aq91 (.lit 361) (.lit 240)
def aq93 : E := .upd aq92 (.lit 365) (.lit 240)
def aq94 : E := .upd aq93 (.lit 369) (.lit 240)
def aq95 : E := .upd aq94 (.lit 373) (.lit 240)
def aq96 : E := .upd aq95 (.lit 377) (.lit 240)
def aq97 : E := .upd aq96 (.lit 381) (.lit 240)
def aq98 : E := .upd aq97 (.lit 385) (.lit 240)
def aq99 : E := .upd aq98 (.lit 389) (.lit 240)
def aq100 : E := .upd aq99 (.lit 393) (.lit 240)
def aq101 : E := .upd aq100 (.lit 397) (.lit 240)
def aq102 : E := .upd aq101 (.lit 401) (.lit 240)
def aq103 : E := .upd aq102 (.lit 405) (.lit 240)
def aq104 : E := .upd aq103 (.lit 409) (.lit 240)
def aq105 : E := .upd aq104 (.lit 413) (.lit 240)
def aq106 : E := .upd aq105 (.lit 417) (.lit 240)
def aq107 : E := .upd aq106 (.lit 421) (.lit 240)
def aq108 : E := .upd aq107 (.lit 425) (.lit 240)
def aq109 : E := .upd aq108 (.lit 429) (.lit 240)
def aq110 : E := .upd aq109 (.lit 433) (.lit 240)
def aq111 : E := .upd aq110 (.lit 437) (.lit 240)
def aq112 : E := .upd aq111 (.lit 441) (.lit 240)
def aq113 : E := .upd aq112 (.lit 445) (.lit 240)
def aq114 : E := .upd aq113 (.lit 449) (.lit 240)
def aq115 : E := .upd aq114 (.lit 453) (.lit 240)
def aq116 : E := .upd aq115 (.lit 457) (.lit 240)
def aq117 : E := .upd aq116 (.lit 461) (.lit 240)
def aq118 : E := .upd aq117 (.lit 465) (.lit 240)
def aq119 : E := .upd aq118 (.lit 469) (.lit 240)
def aq120 : E := .upd aq119 (.lit 473) (.lit 240)
def aq121 : E := .upd aq120 (.lit 477) (.lit 240)
def aq122 : E := .upd aq121 (.lit 481) (.lit 240)
def aq123 : E := .upd aq122 (.lit 485) (.lit 240)
def aq124 : E := .upd aq123 (.lit 489) (.lit 240)
def aq125 : E := .upd aq124 (.lit 493) (.lit 240)
def aq126 : E := .upd aq125 (.lit 497) (.lit 240)
def aq127 : E := .upd aq126 (.lit 501) (.lit 240)
def aq128 : E := .upd aq127 (.lit 505) (.lit 240)
def aq129 : E := .upd aq128 (.lit 509) (.lit 240)
def aq130 : E := .upd (.tab []) (.lit 129) (.lit 9)
def awM : Mem := [⟨49, [.run .u16 (.lit 32768) aq0 0, .run .u8 (.lit 544) aq129 0, .run .u16 (.lit 256) aq130 0], true, none, false⟩, ⟨32, [.run .u8 (.lit 64) (.tab []) 0, .run .u16 (.lit 4) (.tab []) 0, .run .u16 (.lit 4) (.tab []) 0, .run .i16 (.lit 6) (.tab []) 0, .one (.int .i16 (.lit 0)), .one (.int .i16 (.lit 0)), .one (.int .u16 (.lit 0))], true, none, false⟩]
def awH : Hyp := ⟨[], [], [], [], [], []⟩
def awR (k : Nat) : SV := if k = 0 then .tup [(true, [.one (.int .i64 (.lit 5)), .one (.int .i64 (.lit 7)), .one (.int .i64 (.lit 8)), .one (.int .i64 (.lit 8)), .one (.int .u8 (.lit 0)), .one (.int .u8 (.lit 0)), .one (.int .u8 (.lit 0)), .one (.bool (.blit false)), .one (.bool (.blit false)), .one (.bool (.blit false))]), (false, [.one (.bool (.blit true))])] else .tup [(true, [.one (.int .i64 (.lit 0)), .one (.int .i64 (.lit 240)), .one (.int .i64 (.lit 8)), .one (.int .i64 (.lit 8)), .one (.int .u8 (.lit 0)), .one (.int .u8 (.lit 0)), .one (.int .u8 (.lit 0)), .one (.bool (.blit false)), .one (.bool (.blit false)), .one (.bool (.blit false))]), (false, [.one (.bool (.blit true))])]
def awSpec : Go.Sx.Spec := memoK awH (.s (.ptr 0 (.lit 0))) (.s (.ptr 1 (.lit 0))) awM awR 128
noncomputable def awChk (lo n : Nat) : Bool := (List.range n).all fun j => decide (enter Try.prog M1 M1h 3000 6 18 awH [.s (.ptr 0 (.lit 0)), .s (.ptr 1 (.lit 0)), .s (.int .i64 (.lit ((lo + j : Nat) : Int)))] awM = some ([], awR (lo + j), none))
theorem awC0 : awChk 0 16 = true := by kernel_rfl
theorem awC1 : awChk 16 16 = true := by kernel_rfl
theorem awC2 : awChk 32 16 = true := by kernel_rfl
theorem awC3 : awChk 48 16 = true := by kernel_rfl
theorem awC4 : awChk 64 16 = true := by kernel_rfl
theorem awC5 : awChk 80 16 = true := by kernel_rfl
theorem awC6 : awChk 96 16 = true := by kernel_rfl
theorem awC7 : awChk 112 16 = true := by kernel_rfl
theorem awAt {lo n : Nat} (h : awChk lo n = true) (k : Nat) (h1 : lo ≤ k) (h2 : k < lo + n) : enter Try.prog M1 M1h 3000 6 18 awH [.s (.ptr 0 (.lit 0)), .s (.ptr 1 (.lit 0)), .s (.int .i64 (.lit (k : Int)))] awM = some ([], awR k, none) := by
  have h3 := List.all_eq_true.1 h (k - lo) (List.mem_range.2 (by omega))
  have h4 := of_decide_eq_true h3
  rw [show lo + (k - lo) = k by omega] at h4
  exact h4
theorem awO_ok (I : Interp) : SpecOK Try.prog I 18 awSpec := memoK_ok (enter_ok (M1_ok I) (by kernel_rfl) 3000 6) (fun k hk => by
  rcases (show (0 ≤ k ∧ k < 0 + 16) ∨ (16 ≤ k ∧ k < 16 + 16) ∨ (32 ≤ k ∧ k < 32 + 16) ∨ (48 ≤ k ∧ k < 48 + 16) ∨ (64 ≤ k ∧ k < 64 + 16) ∨ (80 ≤ k ∧ k < 80 + 16) ∨ (96 ≤ k ∧ k < 96 + 16) ∨ (112 ≤ k ∧ k < 112 + 16) by omega) with h | h | h | h | h | h | h | h
  · exact awAt awC0 k h.1 h.2
  · exact awAt awC1 k h.1 h.2
  · exact awAt awC2 k h.1 h.2
  · exact awAt awC3 k h.1 h.2
  · exact awAt awC4 k h.1 h.2
  · exact awAt awC5 k h.1 h.2
  · exact awAt awC6 k h.1 h.2
  · exact awAt awC7 k h.1 h.2)
end Go.Proofs.Ythladllkckkjpaa
