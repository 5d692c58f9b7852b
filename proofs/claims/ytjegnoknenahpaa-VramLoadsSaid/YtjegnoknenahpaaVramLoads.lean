/- The whole of the law VramLoads, which returns true for every input. A state that is handed in is taken just if it can be; else the memories have not changed; it is saved as the same bytes. No condition. -/
import Derived.Test.YtjegnoknenahpaaVramLoadsL0
import Derived.Test.YtjegnoknenahpaaVramLoadsL1
import Derived.Test.YtjegnoknenahpaaVramLoadsL2
import Derived.Test.YtjegnoknenahpaaVramLoadsL3
import Derived.Test.YtjegnoknenahpaaVramLoadsL4
import Derived.Test.YtjegnoknenahpaaVramLoadsL5
import Derived.Test.YtjegnoknenahpaaVramLoadsZ
namespace Go.Proofs.Ytjegnoknenahpaa.VramLoads
open Go.Sx Go.ChangeShapes Go.WideShapes Go.ChangeAt Go.RowKit
set_option linter.unusedVariables false
set_option linter.unusedSimpArgs false
set_option maxRecDepth 100000
theorem calls (c0 : List Value) (l0 : c0.length = pcTotal Pc0) (f0 : PcFit c0 0 Pc0) (a1 : Int) (w1 : (Lit.int .i64 a1).wf = true) (w : World) :
    Calls Try.prog 6 #[.agg c0.toArray, .int .i64 a1] w fun r w' => r = .returned (.bool true) ∧ Below w.heap.size w w' := by
  have b0 := num_rng (f0.tail.tail.tail)
  have b1 := num_rng (f0.tail.tail.tail.tail.tail)
  have b4 := num_rng (f0.tail.tail.tail.tail.tail.tail.tail.tail)
  have b6 := num_rng (f0.tail.tail.tail.tail.tail.tail.tail.tail.tail.tail)
  have ba := bounds_i64 w1
  rcases (show intV (c0.getD 33568 Go.undef) ≤ -1 ∨ 65536 ≤ intV (c0.getD 33568 Go.undef) ∨ (0 ≤ intV (c0.getD 33568 Go.undef) ∧ intV (c0.getD 33568 Go.undef) ≤ 65535) by omega) with h | h | h0
  · exact o0lcalls c0 l0 f0 a1 w1  ⟨b0.1, h⟩ w
  · exact o0hcalls c0 l0 f0 a1 w1  ⟨h, b0.2⟩ w
  rcases (show intV (c0.getD 33570 Go.undef) ≤ -1 ∨ 65536 ≤ intV (c0.getD 33570 Go.undef) ∨ (0 ≤ intV (c0.getD 33570 Go.undef) ∧ intV (c0.getD 33570 Go.undef) ≤ 65535) by omega) with h | h | h1
  · exact o1lcalls c0 l0 f0 a1 w1 h0 ⟨b1.1, h⟩ w
  · exact o1hcalls c0 l0 f0 a1 w1 h0 ⟨h, b1.2⟩ w
  rcases (show intV (c0.getD 33573 Go.undef) ≤ -1 ∨ 65536 ≤ intV (c0.getD 33573 Go.undef) ∨ (0 ≤ intV (c0.getD 33573 Go.undef) ∧ intV (c0.getD 33573 Go.undef) ≤ 65535) by omega) with h | h | h4
  · exact o2lcalls c0 l0 f0 a1 w1 h0 h1 ⟨b4.1, h⟩ w
  · exact o2hcalls c0 l0 f0 a1 w1 h0 h1 ⟨h, b4.2⟩ w
  rcases (show intV (c0.getD 33575 Go.undef) ≤ -1 ∨ 65536 ≤ intV (c0.getD 33575 Go.undef) ∨ (0 ≤ intV (c0.getD 33575 Go.undef) ∧ intV (c0.getD 33575 Go.undef) ≤ 65535) by omega) with h | h | h6
  · exact o3lcalls c0 l0 f0 a1 w1 h0 h1 h4 ⟨b6.1, h⟩ w
  · exact o3hcalls c0 l0 f0 a1 w1 h0 h1 h4 ⟨h, b6.2⟩ w
  rcases (show a1 ≤ 0 ∨ 4 ≤ a1 ∨ a1 = 1 ∨ a1 = 2 ∨ a1 = 3 by omega) with k | k | rfl | rfl | rfl
  · rcases (show 512 ≤ intV (c0.getD 33568 Go.undef) ∨ intV (c0.getD 33568 Go.undef) ≤ 511 by omega) with g | g0
    · exact ah0calls c0 l0 f0 a1 ⟨ba.1, k⟩ h4  ⟨g, h0.2⟩ h1 h6 w
    rcases (show 1024 ≤ intV (c0.getD 33570 Go.undef) ∨ intV (c0.getD 33570 Go.undef) ≤ 1023 by omega) with g | g1
    · exact ah1calls c0 l0 f0 a1 ⟨ba.1, k⟩ h4 ⟨h0.1, g0⟩ ⟨g, h1.2⟩ h6 w
    rcases (show 512 ≤ intV (c0.getD 33575 Go.undef) ∨ intV (c0.getD 33575 Go.undef) ≤ 511 by omega) with g | g6
    · exact ah6calls c0 l0 f0 a1 ⟨ba.1, k⟩ h4 ⟨h0.1, g0⟩ ⟨h1.1, g1⟩ ⟨g, h6.2⟩  w
    cases hb : E.b (⟨[intV (c0.getD 33568 Go.undef), intV (c0.getD 33570 Go.undef), intV (c0.getD 33571 Go.undef), intV (c0.getD 33572 Go.undef), intV (c0.getD 33573 Go.undef), intV (c0.getD 33574 Go.undef), intV (c0.getD 33575 Go.undef), intV (c0.getD 33576 Go.undef), a1], [boolV (c0.getD 33569 Go.undef)], [arrOf c0 0 32768, arrOf c0 32768 544, arrOf c0 33312 256], [], Iv (fun _ _ => Ext.none)⟩ : Env) (.app 60 (.cons (.lit 256) (.cons (.lit 32768) (.cons (.av 2) .nil)))) with
    | false => exact afcalls c0 l0 f0 a1 ⟨ba.1, k⟩ h4 ⟨h0.1, g0⟩ ⟨h1.1, g1⟩ ⟨h6.1, g6⟩ hb w
    | true =>
      cases hc : boolV (c0.getD 33569 Go.undef) with
      | false => exact atfcalls c0 l0 f0 a1 ⟨ba.1, k⟩ h4 ⟨h0.1, g0⟩ ⟨h1.1, g1⟩ ⟨h6.1, g6⟩ hb hc w
      | true => exact attcalls c0 l0 f0 a1 ⟨ba.1, k⟩ h4 ⟨h0.1, g0⟩ ⟨h1.1, g1⟩ ⟨h6.1, g6⟩ hb hc w
  · rcases (show 512 ≤ intV (c0.getD 33568 Go.undef) ∨ intV (c0.getD 33568 Go.undef) ≤ 511 by omega) with g | g0
    · exact zh0calls c0 l0 f0 a1 ⟨k, ba.2⟩ h4  ⟨g, h0.2⟩ h1 h6 w
    rcases (show 1024 ≤ intV (c0.getD 33570 Go.undef) ∨ intV (c0.getD 33570 Go.undef) ≤ 1023 by omega) with g | g1
    · exact zh1calls c0 l0 f0 a1 ⟨k, ba.2⟩ h4 ⟨h0.1, g0⟩ ⟨g, h1.2⟩ h6 w
    rcases (show 512 ≤ intV (c0.getD 33575 Go.undef) ∨ intV (c0.getD 33575 Go.undef) ≤ 511 by omega) with g | g6
    · exact zh6calls c0 l0 f0 a1 ⟨k, ba.2⟩ h4 ⟨h0.1, g0⟩ ⟨h1.1, g1⟩ ⟨g, h6.2⟩  w
    cases hb : E.b (⟨[intV (c0.getD 33568 Go.undef), intV (c0.getD 33570 Go.undef), intV (c0.getD 33571 Go.undef), intV (c0.getD 33572 Go.undef), intV (c0.getD 33573 Go.undef), intV (c0.getD 33574 Go.undef), intV (c0.getD 33575 Go.undef), intV (c0.getD 33576 Go.undef), a1], [boolV (c0.getD 33569 Go.undef)], [arrOf c0 0 32768, arrOf c0 32768 544, arrOf c0 33312 256], [], Iv (fun _ _ => Ext.none)⟩ : Env) (.app 60 (.cons (.lit 256) (.cons (.lit 32768) (.cons (.av 2) .nil)))) with
    | false => exact zfcalls c0 l0 f0 a1 ⟨k, ba.2⟩ h4 ⟨h0.1, g0⟩ ⟨h1.1, g1⟩ ⟨h6.1, g6⟩ hb w
    | true =>
      cases hc : boolV (c0.getD 33569 Go.undef) with
      | false => exact ztfcalls c0 l0 f0 a1 ⟨k, ba.2⟩ h4 ⟨h0.1, g0⟩ ⟨h1.1, g1⟩ ⟨h6.1, g6⟩ hb hc w
      | true => exact zttcalls c0 l0 f0 a1 ⟨k, ba.2⟩ h4 ⟨h0.1, g0⟩ ⟨h1.1, g1⟩ ⟨h6.1, g6⟩ hb hc w
  · exact b1calls c0 l0 f0 h0 h1 h4 h6 w
  · exact b2calls c0 l0 f0 h0 h1 h4 h6 w
  · exact b3calls c0 l0 f0 h0 h1 h4 h6 w

theorem own : ownKnob Try.prog.godebug = none := by kernel_rfl
theorem lifted (os : Os) (started : os.Started) (H : Type) (enc : TypeId × Value → H) :
    ReturnsInHanded {} Try.checked os 6 .any (Rows.vramLoadsSpec.pre6 enc Try.prog Try.f6 Rows.vramLoadsRow.domain false) (Rows.vramLoadsSpec.post enc Try.prog Try.f6 false true false false) := by
  refine returnsInHanded_of_change (C := Try.checked) own started (by kernel_rfl) Try.func6
    (zwit enc os) ?_
  intro W base args ds gs before hval0 hW hcnd _
  have hval : ∀ (j : Nat) t v, Try.f6.params[j]? = some t → args[j]? = some v → Value.okWide Try.prog W .any base t v := hval0
  have hW' := hW
  obtain ⟨p, q, hA0, hV, rfl, hfz, hnd⟩ := hW
  have hA1 : DataW.TrodAll enc Try.prog W 0 (fun _ => true) true Try.f6.params.toList args.toList ds p := hA0
  rw [Try.params6] at hA1 hval
  obtain ⟨v0, vs0, d0, ds0, p0, q0, hargs, rfl, rfl, h0, r0⟩ := trodAll_cons hA1
  obtain ⟨v1, vs1, d1, ds1, p1, q1, rfl, rfl, rfl, h1, r1⟩ := trodAll_cons r0
  obtain ⟨rfl, rfl, rfl⟩ := trodAll_nil r1
  obtain rfl : args = #[v0, v1] := by cases args; simp_all
  obtain ⟨c0, rfl, l0, f0⟩ := open_pcz (hval 0 43 v0 rfl rfl) h0
  obtain ⟨a1, rfl, rfl, rfl, w1⟩ := open_int Try.underlying3 (hval 1 3 v1 rfl rfl) h1
  obtain ⟨rfl, rfl⟩ := trodVars_none hV

  refine (calls c0 l0 f0 a1 w1 W).mono fun e W' ⟨he, hb⟩ => ⟨_, he, ?_⟩
  exact law_post (by kernel_rfl) (by kernel_rfl) rfl (by kernel_rfl) Try.underlying4 rfl hW' hb
theorem over : Rows.vramLoadsRow.holds Try.pinned (OpenSpec.ofChange Rows.vramLoadsSpec) :=
  OpenClaim.holds_of_wide 6 Try.f6 rfl rfl rfl rfl rfl rfl rfl ⟨rfl, rfl, rfl, rfl, rfl⟩ rfl rfl rfl rfl rfl (by kernel_rfl) Try.func6 (by kernel_rfl)
    (of_decide_eq_true (by kernel_rfl)) (by unfold Func.isWrapper; first | (rw [if_pos (by decide +kernel)]; kernel_rfl) | (rw [if_neg (by decide +kernel)]; exact ⟨rfl, rfl⟩))
    (fun os started H enc _ => lifted os started H enc)
theorem proved : Rows.VramLoadsSaid := over
#print axioms proved
end Go.Proofs.Ytjegnoknenahpaa.VramLoads
