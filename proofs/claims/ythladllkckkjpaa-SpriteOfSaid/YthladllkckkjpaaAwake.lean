/- Contracts of functions that laws of this seat call. They are run by symbols (SxA, SxB, SxC). No condition. -/
import Derived.Test.YthladllkckkjpaaProg
import Derived.Test.YthladllkckkjpaaAwg
import Derived.Test.YthladllkckkjpaaAwh
import Derived.Test.YthladllkckkjpaaSxC
namespace Go.Proofs.Ythladllkckkjpaa
open Go.Sx Go.RowKit
set_option linter.unusedVariables false
set_option linter.unusedSimpArgs false
set_option maxRecDepth 100000
theorem fdr0 : runX Try.prog F1 F1h Try.f26 Try.f26.ntmps 40000 200 fd0.ph fd0.todo fd0.H fd0.fr fd0.m = runX Try.prog F1 F1h Try.f26 Try.f26.ntmps 39941 199 fds0.ph fds0.todo fds0.H fds0.fr fds0.m := iterX_ok (hc := F1h) (N := 59) (k := 39941) fdc0
theorem fdr1 : runX Try.prog F1 F1h Try.f26 Try.f26.ntmps 39941 199 fds0.ph fds0.todo fds0.H fds0.fr fds0.m = runX Try.prog F1 F1h Try.f26 Try.f26.ntmps 39317 183 fds1.ph fds1.todo fds1.H fds1.fr fds1.m := iterX_ok (hc := F1h) (N := 624) (k := 39317) fdc1
theorem fdr2 : runX Try.prog F1 F1h Try.f26 Try.f26.ntmps 39317 183 fds1.ph fds1.todo fds1.H fds1.fr fds1.m = runX Try.prog F1 F1h Try.f26 Try.f26.ntmps 38693 167 fds2.ph fds2.todo fds2.H fds2.fr fds2.m := iterX_ok (hc := F1h) (N := 624) (k := 38693) fdc2
theorem fdr3 : runX Try.prog F1 F1h Try.f26 Try.f26.ntmps 38693 167 fds2.ph fds2.todo fds2.H fds2.fr fds2.m = runX Try.prog F1 F1h Try.f26 Try.f26.ntmps 38069 151 fds3.ph fds3.todo fds3.H fds3.fr fds3.m := iterX_ok (hc := F1h) (N := 624) (k := 38069) fdc3
theorem fdr4 : runX Try.prog F1 F1h Try.f26 Try.f26.ntmps 38069 151 fds3.ph fds3.todo fds3.H fds3.fr fds3.m = runX Try.prog F1 F1h Try.f26 Try.f26.ntmps 37445 135 fds4.ph fds4.todo fds4.H fds4.fr fds4.m := iterX_ok (hc := F1h) (N := 624) (k := 37445) fdc4
theorem fdr5 : runX Try.prog F1 F1h Try.f26 Try.f26.ntmps 37445 135 fds4.ph fds4.todo fds4.H fds4.fr fds4.m = runX Try.prog F1 F1h Try.f26 Try.f26.ntmps 36821 119 fds5.ph fds5.todo fds5.H fds5.fr fds5.m := iterX_ok (hc := F1h) (N := 624) (k := 36821) fdc5
theorem fdr6 : runX Try.prog F1 F1h Try.f26 Try.f26.ntmps 36821 119 fds5.ph fds5.todo fds5.H fds5.fr fds5.m = runX Try.prog F1 F1h Try.f26 Try.f26.ntmps 36197 103 fds6.ph fds6.todo fds6.H fds6.fr fds6.m := iterX_ok (hc := F1h) (N := 624) (k := 36197) fdc6
theorem fdr7 : runX Try.prog F1 F1h Try.f26 Try.f26.ntmps 36197 103 fds6.ph fds6.todo fds6.H fds6.fr fds6.m = runX Try.prog F1 F1h Try.f26 Try.f26.ntmps 35573 87 fds7.ph fds7.todo fds7.H fds7.fr fds7.m := iterX_ok (hc := F1h) (N := 624) (k := 35573) fdc7
theorem fdRun : enter Try.prog F1 F1h 40000 200 26 awH fdL fdM = some ([], .tup [], some fdM1) :=
  enter_of_runX (c := fdC) Try.func26 (by kernel_rfl) (by kernel_rfl) (of_decide_eq_true (by kernel_rfl)) (fdr0.trans (fdr1.trans (fdr2.trans (fdr3.trans (fdr4.trans (fdr5.trans (fdr6.trans fdr7))))))) fdEnd (by kernel_rfl)
def fdSpec : Go.Sx.Spec := memoM awH fdL fdM [] (.tup []) fdM1
theorem fdO_ok (I : Interp) : SpecOK Try.prog I 26 fdSpec := memoM_ok (enter_ok (F1_ok I) (by kernel_rfl) 40000 200) fdRun
noncomputable def S1 : Ctx := inl Try.prog (ctx [(18, awSpec), (26, fdSpec)]) 40000 200 5
noncomputable def S1h : HintCtx := inlH Try.prog (ctx [(18, awSpec), (26, fdSpec)]) 40000 200 5
theorem S1_ok (I : Interp) : CtxOK Try.prog I S1 := inl_ok (ctx_ok (fun p hp => by
  simp only [List.mem_cons, List.not_mem_nil, or_false] at hp
  rcases hp with rfl | rfl
  · exact awO_ok I
  · exact fdO_ok I)) (by kernel_rfl) 40000 200 5
theorem awake_run : enter Try.prog S1 S1h 40000 200 16 ⟨[], [], [], [], [], []⟩ [] [] = some ([], .s (.bool (.blit true)), none) := by kernel_rfl
theorem awake_ok (I : Interp) : SpecOK Try.prog I 16 trueSpec := trueSpec_ok S1_ok (by kernel_rfl) awake_run
end Go.Proofs.Ythladllkckkjpaa
