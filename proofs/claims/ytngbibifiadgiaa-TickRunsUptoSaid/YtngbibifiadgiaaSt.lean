/- A contract of the function of the document that steps the timers: what it answers, for any state and any number of cycles. No condition. -/
import Derived.Test.YtngbibifiadgiaaRw
namespace Go.Proofs.Ytngbibifiadgiaa
open Go.Sx Go.RowKit
set_option linter.unusedVariables false
set_option linter.unusedSimpArgs false
set_option maxRecDepth 100000
def tmE (H : Hyp) (f : Nat) (n T A B C o : E) (k : Nat) : E := .app (f + k) (.cons n (.cons (mkSel H T (.lit k)) (.cons (mkSel H A (.lit k)) (.cons (mkSel H B (.lit k)) (.cons (mkSel H C (.lit k)) (.cons o .nil))))))
def tmA (H : Hyp) (f : Nat) (Z n T A B C o0 o1 o2 : E) : E := mkUpd (mkUpd (mkUpd Z (.lit 0) (tmE H f n T A B C o0 0)) (.lit 1) (tmE H f n T A B C o1 1)) (.lit 2) (tmE H f n T A B C o2 2)
def byteA (H : Hyp) (A : E) : Bool := match arrR H A with
  | some (p, q) => decide (0 ≤ p) && decide (q ≤ 255)
  | none => false
def stepS : Go.Sx.Spec := fun H l _ => match l with
  | [.agg [.one (.bool o0), .one (.bool o1), .one (.bool o2), .one (.bool o3), .run .i64 (.lit 3) T 0, .run .i64 (.lit 3) A 0, .run .i64 (.lit 3) B 0, .run .i64 (.lit 3) C 0, .run .u8 (.lit 4) X 0, .run .u8 (.lit 4) Y 0, .run .u8 (.lit 2) Z 0], .s (.int .i64 n)] =>
    if within H .i64 n && byteA H T && byteA H A && byteA H B && byteA H C then
      some ([], .agg [.one (.bool o0), .one (.bool o1), .one (.bool o2), .one (.bool o3), .run .i64 (.lit 3) T 0, .run .i64 (.lit 3) (tmA H 30 A n T A B C o0 o1 o2) 0, .run .i64 (.lit 3) (tmA H 33 B n T A B C o0 o1 o2) 0, .run .i64 (.lit 3) (tmA H 36 C n T A B C o0 o1 o2) 0, .run .u8 (.lit 4) X 0, .run .u8 (.lit 4) Y 0, .run .u8 (.lit 2) Z 0], none)
    else none
  | _ => none
def rsHy : Hyp := ⟨[(.v 0, (-9223372036854775808, 9223372036854775807))], [(0, (0, 255)), (1, (0, 255)), (2, (0, 255)), (3, (0, 255))], [], [], [], []⟩
def rsLs : List SV := [.agg [.one (.bool (.bv 0)), .one (.bool (.bv 1)), .one (.bool (.bv 2)), .one (.bool (.bv 3)), .run .i64 (.lit 3) (.av 0) 0, .run .i64 (.lit 3) (.av 1) 0, .run .i64 (.lit 3) (.av 2) 0, .run .i64 (.lit 3) (.av 3) 0, .run .u8 (.lit 4) (.av 4) 0, .run .u8 (.lit 4) (.av 5) 0, .run .u8 (.lit 2) (.av 6) 0], .s (.int .i64 (.v 0))]

--SKEND
def rs0 : E := .lt (.v 1) (.v 0)
def rs1 : E := .add (.v 1) (.lit 1)
def rs2 : E := .not (.bv 0)
def rs3 : E := .sel (.av 7) (.lit 0)
def rs4 : E := .add rs3 (.lit 1)
def rs5 : E := .mod rs4 (.lit 128)
def rs6 : E := .eq rs5 (.lit 0)
def rs7 : E := .not rs6
def rs8 : E := .or rs2 rs7
def rs9 : E := .sel (.av 9) (.lit 0)
def rs10 : E := .sel (.av 8) (.lit 0)
def rs11 : E := .add rs10 (.lit 1)
def rs12 : E := .mod rs11 (.lit 256)
def rs13 : E := .sel (.av 0) (.lit 0)
def rs14 : E := .eq rs12 rs13
def rs15 : E := .add rs9 (.lit 1)
def rs16 : E := .mod rs15 (.lit 16)
def rs17 : E := .ite rs14 rs16 rs9
def rs18 : E := .ite rs8 rs9 rs17
def rs19 : E := .upd (.av 9) (.lit 0) rs18
def rs20 : E := .not (.bv 1)
def rs21 : E := .sel (.av 7) (.lit 1)
def rs22 : E := .add rs21 (.lit 1)
def rs23 : E := .mod rs22 (.lit 128)
def rs24 : E := .eq rs23 (.lit 0)
def rs25 : E := .not rs24
def rs26 : E := .or rs20 rs25
def rs27 : E := .sel (.av 9) (.lit 1)
def rs28 : E := .sel (.av 8) (.lit 1)
def rs29 : E := .add rs28 (.lit 1)
def rs30 : E := .mod rs29 (.lit 256)
def rs31 : E := .sel (.av 0) (.lit 1)
def rs32 : E := .eq rs30 rs31
def rs33 : E := .add rs27 (.lit 1)
def rs34 : E := .mod rs33 (.lit 16)
def rs35 : E := .ite rs32 rs34 rs27
def rs36 : E := .ite rs26 rs27 rs35
def rs37 : E := .upd rs19 (.lit 1) rs36
def rs38 : E := .not (.bv 2)
def rs39 : E := .sel (.av 7) (.lit 2)
def rs40 : E := .add rs39 (.lit 1)
def rs41 : E := .mod rs40 (.lit 16)
def rs42 : E := .eq rs41 (.lit 0)
def rs43 : E := .not rs42
def rs44 : E := .or rs38 rs43
def rs45 : E := .sel (.av 9) (.lit 2)
def rs46 : E := .sel (.av 8) (.lit 2)
def rs47 : E := .add rs46 (.lit 1)
def rs48 : E := .mod rs47 (.lit 256)
def rs49 : E := .sel (.av 0) (.lit 2)
def rs50 : E := .eq rs48 rs49
def rs51 : E := .add rs45 (.lit 1)
def rs52 : E := .mod rs51 (.lit 16)
def rs53 : E := .ite rs50 rs52 rs45
def rs54 : E := .ite rs44 rs45 rs53
def rs55 : E := .upd rs37 (.lit 2) rs54
def rs56 : E := .ite rs14 (.lit 0) rs12
def rs57 : E := .ite rs8 rs10 rs56
def rs58 : E := .upd (.av 8) (.lit 0) rs57
def rs59 : E := .ite rs32 (.lit 0) rs30
def rs60 : E := .ite rs26 rs28 rs59
def rs61 : E := .upd rs58 (.lit 1) rs60
def rs62 : E := .ite rs50 (.lit 0) rs48
def rs63 : E := .ite rs44 rs46 rs62
def rs64 : E := .upd rs61 (.lit 2) rs63
def rs65 : E := .upd (.av 7) (.lit 0) rs5
def rs66 : E := .upd rs65 (.lit 1) rs23
def rs67 : E := .upd rs66 (.lit 2) rs41
noncomputable def rsT0 : List Item := todoS Try.prog S0 S0h [3] 3000 4 15 rsHy rsLs [] 3
noncomputable def rsh0 : Head := ⟨3, rsT0, ⟨[((.v 0), ((-9223372036854775808), 9223372036854775807)), ((.v 1), (0, 9223372036854775807))], [(0, (0, 255)), (1, (0, 255)), (2, (0, 255)), (3, (0, 255)), (7, (0, 255)), (8, (0, 255)), (9, (0, 255))], [], [], [], []⟩, [⟨5, [], .s (.int .i64 (.v 1))⟩, ⟨4, [], .s (.ptr 1 (.lit 0))⟩, ⟨2, [], .s (.ptr 0 (.lit 0))⟩, ⟨1, [], .s (.int .i64 (.v 0))⟩], [⟨39, [.one (.bool (.bv 0)), .one (.bool (.bv 1)), .one (.bool (.bv 2)), .one (.bool (.bv 3)), .run .i64 (.lit 3) (.av 0) 0, .run .i64 (.lit 3) (.av 7) 0, .run .i64 (.lit 3) (.av 8) 0, .run .i64 (.lit 3) (.av 9) 0, .run .u8 (.lit 4) (.av 4) 0, .run .u8 (.lit 4) (.av 5) 0, .run .u8 (.lit 2) (.av 6) 0], true, none, false⟩, ⟨39, [.one (.bool (.blit false)), .one (.bool (.blit false)), .one (.bool (.blit false)), .one (.bool (.blit false)), .run .i64 (.lit 3) (.tab []) 0, .run .i64 (.lit 3) (.tab []) 0, .run .i64 (.lit 3) (.tab []) 0, .run .i64 (.lit 3) (.tab []) 0, .run .u8 (.lit 4) (.tab []) 0, .run .u8 (.lit 4) (.tab []) 0, .run .u8 (.lit 2) (.tab []) 0], true, none, false⟩]⟩
noncomputable def rshs : List Head := [rsh0]
def rsD : Dim := ⟨2, 4, 10, 1, 4, 7, 0⟩
theorem rsst : startL Try.prog S0 S0h rsD rshs [3] 3000 4 15 rsHy rsLs [] = some (.jump 0 rsT0 ⟨[(1, (.lit 0))], [], [(9, (.av 3)), (8, (.av 2)), (7, (.av 1))]⟩) := by kernel_rfl
theorem rssg0 : segL Try.prog S0 S0h rsD rshs [3] 3000 4 15 rsh0 = some (.ite rs0 (.jump 0 rsT0 ⟨[(1, rs1)], [], [(9, rs55), (8, rs64), (7, rs67)]⟩) (.ret (.agg [.one (.bool (.bv 0)), .one (.bool (.bv 1)), .one (.bool (.bv 2)), .one (.bool (.bv 3)), .run .i64 (.lit 3) (.av 0) 0, .run .i64 (.lit 3) (.av 7) 0, .run .i64 (.lit 3) (.av 8) 0, .run .i64 (.lit 3) (.av 9) 0, .run .u8 (.lit 4) (.av 4) 0, .run .u8 (.lit 4) (.av 5) 0, .run .u8 (.lit 2) (.av 6) 0]) [⟨39, [.one (.bool (.bv 0)), .one (.bool (.bv 1)), .one (.bool (.bv 2)), .one (.bool (.bv 3)), .run .i64 (.lit 3) (.av 0) 0, .run .i64 (.lit 3) (.av 7) 0, .run .i64 (.lit 3) (.av 8) 0, .run .i64 (.lit 3) (.av 9) 0, .run .u8 (.lit 4) (.av 4) 0, .run .u8 (.lit 4) (.av 5) 0, .run .u8 (.lit 2) (.av 6) 0], true, none, false⟩, ⟨39, [.one (.bool (.bv 0)), .one (.bool (.bv 1)), .one (.bool (.bv 2)), .one (.bool (.bv 3)), .run .i64 (.lit 3) (.av 0) 0, .run .i64 (.lit 3) (.av 7) 0, .run .i64 (.lit 3) (.av 8) 0, .run .i64 (.lit 3) (.av 9) 0, .run .u8 (.lit 4) (.av 4) 0, .run .u8 (.lit 4) (.av 5) 0, .run .u8 (.lit 2) (.av 6) 0], true, none, false⟩])) := by kernel_rfl
theorem byteA_ok {H : Hyp} {ρ : Env} (hH : H.ok ρ) {A : E} (h : byteA H A = true) : ∀ j, 0 ≤ A.a ρ j ∧ A.a ρ j ≤ 255 := by
  unfold byteA at h
  split at h
  · rename_i p q hr
    simp only [Bool.and_eq_true, decide_eq_true_eq] at h
    intro j
    have := arrR_ok hH _ _ hr j
    simp only [inR] at this
    omega
  · cases h
theorem tm_succ (p : Int) (o : Bool) (T : Int) (n : Nat) (s : Int × Int × Int) : tmN p o T (n + 1) s = tm1 p o T (tmN p o T n s) := rfl
theorem tmE_i {H : Hyp} {ρ : Env} (hH : H.ok ρ) (hfi : ρ.I.fi = Ifi) (f : Nat) (n T A B C o : E) (k : Nat) : (tmE H f n T A B C o k).i ρ = Ifi (f + k) [n.i ρ, T.a ρ k, A.a ρ k, B.a ρ k, C.a ρ k, o.i ρ] [n.b ρ, (mkSel H T (.lit k)).b ρ, (mkSel H A (.lit k)).b ρ, (mkSel H B (.lit k)).b ρ, (mkSel H C (.lit k)).b ρ, o.b ρ] [n.a ρ, (mkSel H T (.lit k)).a ρ, (mkSel H A (.lit k)).a ρ, (mkSel H B (.lit k)).a ρ, (mkSel H C (.lit k)).a ρ, o.a ρ] := by
  unfold tmE
  rw [i_app, hfi]
  simp only [is_cons, is_nil, bs_cons, bs_nil, as_cons, as_nil, mkSel_i hH, i_lit, Int.toNat_natCast]
theorem stepok {I : Interp} (hfi : I.fi = Ifi) : SpecOK Try.prog I 15 stepS := by
  constructor
  intro H l m nd v om h ρ β ι w hI hH hn hm
  unfold stepS at h
  split at h
  rotate_left
  · cases h
  rename_i o0 o1 o2 o3 T A B C X Y Z n
  split at h
  rotate_left
  · cases h
  rename_i hc
  simp only [Bool.and_eq_true] at hc
  simp only [Option.some.injEq, Prod.mk.injEq] at h
  obtain ⟨rfl, rfl, rfl⟩ := h
  obtain ⟨⟨⟨⟨hn0, hT⟩, hA⟩, hB⟩, hC⟩ := hc
  have hn1 := within_ok hH hn0
  simp only [inR, krng, kmin, kmax] at hn1
  have hT := byteA_ok hH hT
  have hA := byteA_ok hH hA
  have hB := byteA_ok hH hB
  have hC := byteA_ok hH hC
  let N := n.i ρ
  let oj : Nat → Bool := fun j => [o0.b ρ, o1.b ρ, o2.b ρ].getD j false
  let st (c : Nat) (j : Nat) : Int × Int × Int := tmN (perT j) (oj j) (T.a ρ j) c (A.a ρ j, B.a ρ j, C.a ρ j)
  let R (X : Nat → Int) : Prop := ∀ j, 0 ≤ X j ∧ X j ≤ 255
  let E (c : Int) (A' B' C' : Nat → Int) : Env := ⟨[N, c], [o0.b ρ, o1.b ρ, o2.b ρ, o3.b ρ], [T.a ρ, A.a ρ, B.a ρ, C.a ρ, X.a ρ, Y.a ρ, Z.a ρ, A', B', C'], [], I⟩
  have hargs : (rsLs.map (SV.conc (E 0 (fun _ => 0) (fun _ => 0) fun _ => 0) Loc.id)).toArray = ([.agg [.one (.bool o0), .one (.bool o1), .one (.bool o2), .one (.bool o3), .run .i64 (.lit 3) T 0, .run .i64 (.lit 3) A 0, .run .i64 (.lit 3) B 0, .run .i64 (.lit 3) C 0, .run .u8 (.lit 4) X 0, .run .u8 (.lit 4) Y 0, .run .u8 (.lit 2) Z 0], .s (.int .i64 n)].map (SV.conc ρ ι)).toArray := rfl
  rw [← hargs]
  have hxs : ∀ i j, (I.xs i j).ok w := fun i j => by have := hm.xnow i j; rwa [hI] at this
  have hok : ∀ (H : Hyp) (c : Int) (A' B' C' : Nat → Int), 0 ≤ c ∧ c ≤ 9223372036854775807 → R A' → R B' → R C' → H.e = [(.v 0, (-9223372036854775808, 9223372036854775807)), (.v 1, (0, 9223372036854775807))] → H.a = [(0, (0, 255)), (1, (0, 255)), (2, (0, 255)), (3, (0, 255)), (7, (0, 255)), (8, (0, 255)), (9, (0, 255))] → H.fi = [] → H.fa = [] → H.b = [] → H.x = [] → H.ok (E c A' B' C') := by
    intro H c A' B' C' hc r1 r2 r3 e1 e2 e3 e4 e5 e6
    refine ⟨by simp [e6], ?_, ?_, by simp [e3], by simp [e4], by simp [e5]⟩
    · rw [e1]; intro p hp
      simp only [List.mem_cons, List.not_mem_nil, or_false] at hp
      rcases hp with rfl | rfl
      · exact hn1
      · exact hc
    · rw [e2]; intro p hp
      simp only [List.mem_cons, List.not_mem_nil, or_false] at hp
      rcases hp with rfl | rfl | rfl | rfl | rfl | rfl | rfl
      · exact hT
      · exact hA
      · exact hB
      · exact hC
      · exact r1
      · exact r2
      · exact r3
  have hok0 : rsHy.ok (E 0 (fun _ => 0) (fun _ => 0) fun _ => 0) := by
    refine ⟨by simp [rsHy], ?_, ?_, by simp [rsHy], by simp [rsHy], by simp [rsHy]⟩
    · intro p hp
      simp only [rsHy, List.mem_cons, List.not_mem_nil, or_false] at hp
      rcases hp with rfl
      exact hn1
    · intro p hp
      simp only [rsHy, List.mem_cons, List.not_mem_nil, or_false] at hp
      rcases hp with rfl | rfl | rfl | rfl
      · exact hT
      · exact hA
      · exact hB
      · exact hC
  let J (c : Int) (A' B' C' : Nat → Int) : Prop := ∀ j, (A' j, B' j, C' j) = if j < 3 then st c.toNat j else (A.a ρ j, B.a ρ j, C.a ρ j)
  have hfin : ∀ (A' B' C' : Nat → Int) (c : Int), c.toNat = N.toNat → J c A' B' C' → SV.conc (E c A' B' C') ι (.agg [.one (.bool (.bv 0)), .one (.bool (.bv 1)), .one (.bool (.bv 2)), .one (.bool (.bv 3)), .run .i64 (.lit 3) (.av 0) 0, .run .i64 (.lit 3) (.av 7) 0, .run .i64 (.lit 3) (.av 8) 0, .run .i64 (.lit 3) (.av 9) 0, .run .u8 (.lit 4) (.av 4) 0, .run .u8 (.lit 4) (.av 5) 0, .run .u8 (.lit 2) (.av 6) 0])
      = SV.conc ρ ι (.agg [.one (.bool o0), .one (.bool o1), .one (.bool o2), .one (.bool o3), .run .i64 (.lit 3) T 0, .run .i64 (.lit 3) (tmA H 30 A n T A B C o0 o1 o2) 0, .run .i64 (.lit 3) (tmA H 33 B n T A B C o0 o1 o2) 0, .run .i64 (.lit 3) (tmA H 36 C n T A B C o0 o1 o2) 0, .run .u8 (.lit 4) X 0, .run .u8 (.lit 4) Y 0, .run .u8 (.lit 2) Z 0]) := by
    intro A' B' C' c hcN hJ
    have h0 := hJ 0
    have h1 := hJ 1
    have h2 := hJ 2
    simp only [Prod.ext_iff, show (0 : Nat) < 3 from by omega, show (1 : Nat) < 3 from by omega, show (2 : Nat) < 3 from by omega, if_true] at h0 h1 h2
    have hf : ρ.I.fi = Ifi := by rw [hI]; exact hfi
    have run3 : ∀ (ρ : Env) (A : _root_.Go.Sx.E), Seg.cells ρ ι (.run .i64 (.lit 3) A 0) = [.int .i64 (A.a ρ 0), .int .i64 (A.a ρ 1), .int .i64 (A.a ρ 2)] := fun ρ A => rfl
    have tA : ∀ (f : Nat) (Z : _root_.Go.Sx.E), Seg.cells ρ ι (.run .i64 (.lit 3) (tmA H f Z n T A B C o0 o1 o2) 0) = [.int .i64 ((tmE H f n T A B C o0 0).i ρ), .int .i64 ((tmE H f n T A B C o1 1).i ρ), .int .i64 ((tmE H f n T A B C o2 2).i ρ)] := fun f Z => by
      rw [run3]
      unfold tmA
      simp only [mkUpd_a, i_lit]
      rfl
    have key : Seg.cells (E c A' B' C') ι (.run .i64 (.lit 3) (.av 7) 0) = Seg.cells ρ ι (.run .i64 (.lit 3) (tmA H 30 A n T A B C o0 o1 o2) 0) ∧ Seg.cells (E c A' B' C') ι (.run .i64 (.lit 3) (.av 8) 0) = Seg.cells ρ ι (.run .i64 (.lit 3) (tmA H 33 B n T A B C o0 o1 o2) 0) ∧ Seg.cells (E c A' B' C') ι (.run .i64 (.lit 3) (.av 9) 0) = Seg.cells ρ ι (.run .i64 (.lit 3) (tmA H 36 C n T A B C o0 o1 o2) 0) := by
      rw [tA, tA, tA, run3, run3, run3]
      simp only [tmE_i hH hf]
      have e0 : st c.toNat 0 = tmv 0 [n.i ρ, T.a ρ 0, A.a ρ 0, B.a ρ 0, C.a ρ 0, o0.i ρ] [n.b ρ, (mkSel H T (.lit 0)).b ρ, (mkSel H A (.lit 0)).b ρ, (mkSel H B (.lit 0)).b ρ, (mkSel H C (.lit 0)).b ρ, o0.b ρ] := by rw [hcN]; rfl
      have e1 : st c.toNat 1 = tmv 1 [n.i ρ, T.a ρ 1, A.a ρ 1, B.a ρ 1, C.a ρ 1, o1.i ρ] [n.b ρ, (mkSel H T (.lit 1)).b ρ, (mkSel H A (.lit 1)).b ρ, (mkSel H B (.lit 1)).b ρ, (mkSel H C (.lit 1)).b ρ, o1.b ρ] := by rw [hcN]; rfl
      have e2 : st c.toNat 2 = tmv 2 [n.i ρ, T.a ρ 2, A.a ρ 2, B.a ρ 2, C.a ρ 2, o2.i ρ] [n.b ρ, (mkSel H T (.lit 2)).b ρ, (mkSel H A (.lit 2)).b ρ, (mkSel H B (.lit 2)).b ρ, (mkSel H C (.lit 2)).b ρ, o2.b ρ] := by rw [hcN]; rfl
      rw [e0] at h0
      rw [e1] at h1
      rw [e2] at h2
      refine ⟨?_, ?_, ?_⟩
      · rw [show (_root_.Go.Sx.E.av 7).a (E c A' B' C') = A' from rfl, h0.1, h1.1, h2.1]; rfl
      · rw [show (_root_.Go.Sx.E.av 8).a (E c A' B' C') = B' from rfl, h0.2.1, h1.2.1, h2.2.1]; rfl
      · rw [show (_root_.Go.Sx.E.av 9).a (E c A' B' C') = C' from rfl, h0.2.2, h1.2.2, h2.2.2]; rfl
    simp only [SV.conc]
    congr 2
    simp only [cellsOf, List.flatMap_cons, List.flatMap_nil, key.1, key.2.1, key.2.2]
    rfl
  refine Calls.mono (R := fun e w' => e = endV ρ ι (.agg [.one (.bool o0), .one (.bool o1), .one (.bool o2), .one (.bool o3), .run .i64 (.lit 3) T 0, .run .i64 (.lit 3) (tmA H 30 A n T A B C o0 o1 o2) 0, .run .i64 (.lit 3) (tmA H 33 B n T A B C o0 o1 o2) 0, .run .i64 (.lit 3) (tmA H 36 C n T A B C o0 o1 o2) 0, .run .u8 (.lit 4) X 0, .run .u8 (.lit 4) Y 0, .run .u8 (.lit 2) Z 0]) ∧ Below w.heap.size w w') ?_ (fun e w' hq => ⟨hq.1, hm.below hq.2⟩)
  refine calls_loops (β := ⟨w, 0, Loc.id⟩) (S0_ok I) (by kernel_rfl) (Nat.zero_le _) (fun k ρ' => k = 0 ∧ ∃ (c : Int) (A' B' C' : Nat → Int), ρ' = E c A' B' C' ∧ 0 ≤ c ∧ (c ≤ N ∨ c = 0) ∧ R A' ∧ R B' ∧ R C' ∧ J c A' B' C')
    (fun _ ρ => (N + 1 - ρ.i.getD 1 0).toNat) (fun ρ' v _ => v = .agg [.one (.bool (.bv 0)), .one (.bool (.bv 1)), .one (.bool (.bv 2)), .one (.bool (.bv 3)), .run .i64 (.lit 3) (.av 0) 0, .run .i64 (.lit 3) (.av 7) 0, .run .i64 (.lit 3) (.av 8) 0, .run .i64 (.lit 3) (.av 9) 0, .run .u8 (.lit 4) (.av 4) 0, .run .u8 (.lit 4) (.av 5) 0, .run .u8 (.lit 2) (.av 6) 0] ∧ ∃ (c : Int) (A' B' C' : Nat → Int), ρ' = E c A' B' C' ∧ c.toNat = N.toNat ∧ J c A' B' C') ?_ rsst (MRep.empty hxs Loc.id) rfl ⟨rfl, rfl, rfl⟩ hok0 ?_ ?_
  · rintro ρ' v m' hI' ⟨rfl, c, A', B', C', rfl, hcN, hJ⟩ ι' w' hm'
    have h1 := hfin A' B' C' c hcN hJ
    refine ⟨?_, hm'.below0⟩
    rw [endV_of rfl, endV_of rfl, ← h1]
    rfl
  · simp only [LT.holds]
    refine ⟨rfl, trivial, 0, A.a ρ, B.a ρ, C.a ρ, rfl, by omega, .inr rfl, hA, hB, hC, fun j => ?_⟩
    split <;> rfl
  · rintro j h ρ' hj hI' hz ⟨rfl, c, A', B', C', rfl, hc0, hc1, r1, r2, r3, hJ⟩
    simp only [rshs, List.getElem?_cons_zero, Option.some.injEq] at hj; subst hj
    refine ⟨hok rsh0.H c A' B' C' (by rcases hc1 with h | h <;> omega) r1 r2 r3 rfl rfl rfl rfl rfl rfl, _, rssg0, ?_⟩
    simp only [LT.holds]
    refine ⟨fun hc2 => ?_, fun hc2 => ?_⟩
    · have hlt : c < N := by
        simp only [E, rs0, i_v, b_bv, i_lit, b_blit, i_add, i_sub, i_mul, i_div, i_mod, i_tdiv, i_tmod, i_ite, b_ite, b_lt, b_le, b_eq, b_not, b_and, b_or, b_iff, i_sel, a_tab, i_pow2, List.getD_cons_zero, List.getD_cons_succ, decide_eq_true_eq, decide_eq_false_iff_not, Bool.and_eq_true, Bool.or_eq_true, Bool.not_eq_true', Bool.not_eq_false', Bool.and_eq_false_iff, Bool.or_eq_false_iff, Bool.not_not, ite_tt, ite_ff, iff_tt, iff_ff, a_av, a_ite, a_upd] at hc2
        exact hc2
      have e1 : (c + 1).toNat = c.toNat + 1 := by omega
      have st1 : ∀ j, st (c + 1).toNat j = tm1 (perT j) (oj j) (T.a ρ j) (st c.toNat j) := fun j => by rw [e1]; rfl
      have hst : ∀ j, j < 3 → st c.toNat j = (A' j, B' j, C' j) := fun j hj => by rw [hJ j, if_pos hj]
      have val : ∀ j, (rs67.a (E c A' B' C') j, rs64.a (E c A' B' C') j, rs55.a (E c A' B' C') j) = if j < 3 then st (c + 1).toNat j else (A' j, B' j, C' j) := fun j => by
        have one : ∀ (k : Nat) (p : Int) (o : Bool) (T a b c' : Int), ((a + 1) % p, (if (o = false ∨ ¬ (a + 1) % p = 0) then b else if (b + 1) % 256 = T then 0 else (b + 1) % 256), (if (o = false ∨ ¬ (a + 1) % p = 0) then c' else if (b + 1) % 256 = T then (c' + 1) % 16 else c')) = tm1 p o T (a, b, c') := by
          intro k p o T a b c'
          unfold tm1
          cases o <;> by_cases h1 : (a + 1) % p = 0 <;> by_cases h2 : (b + 1) % 256 = T <;> simp [h1, h2]
        rcases j with _ | _ | _ | j
        · rw [if_pos (by omega), st1, hst 0 (by omega), ← one 0]
          simp only [rs0, rs1, rs2, rs3, rs4, rs5, rs6, rs7, rs8, rs9, rs10, rs11, rs12, rs13, rs14, rs15, rs16, rs17, rs18, rs19, rs20, rs21, rs22, rs23, rs24, rs25, rs26, rs27, rs28, rs29, rs30, rs31, rs32, rs33, rs34, rs35, rs36, rs37, rs38, rs39, rs40, rs41, rs42, rs43, rs44, rs45, rs46, rs47, rs48, rs49, rs50, rs51, rs52, rs53, rs54, rs55, rs56, rs57, rs58, rs59, rs60, rs61, rs62, rs63, rs64, rs65, rs66, rs67, i_v, b_bv, i_lit, b_blit, i_add, i_sub, i_mul, i_div, i_mod, i_tdiv, i_tmod, i_ite, b_ite, b_lt, b_le, b_eq, b_not, b_and, b_or, b_iff, i_sel, a_tab, i_pow2, List.getD_cons_zero, List.getD_cons_succ, decide_eq_true_eq, decide_eq_false_iff_not, Bool.and_eq_true, Bool.or_eq_true, Bool.not_eq_true', Bool.not_eq_false', Bool.and_eq_false_iff, Bool.or_eq_false_iff, Bool.not_not, ite_tt, ite_ff, iff_tt, iff_ff, a_av, a_ite, a_upd]
          simp [E, perT, oj]
        · rw [if_pos (by omega), st1, hst 1 (by omega), ← one 1]
          simp only [rs0, rs1, rs2, rs3, rs4, rs5, rs6, rs7, rs8, rs9, rs10, rs11, rs12, rs13, rs14, rs15, rs16, rs17, rs18, rs19, rs20, rs21, rs22, rs23, rs24, rs25, rs26, rs27, rs28, rs29, rs30, rs31, rs32, rs33, rs34, rs35, rs36, rs37, rs38, rs39, rs40, rs41, rs42, rs43, rs44, rs45, rs46, rs47, rs48, rs49, rs50, rs51, rs52, rs53, rs54, rs55, rs56, rs57, rs58, rs59, rs60, rs61, rs62, rs63, rs64, rs65, rs66, rs67, i_v, b_bv, i_lit, b_blit, i_add, i_sub, i_mul, i_div, i_mod, i_tdiv, i_tmod, i_ite, b_ite, b_lt, b_le, b_eq, b_not, b_and, b_or, b_iff, i_sel, a_tab, i_pow2, List.getD_cons_zero, List.getD_cons_succ, decide_eq_true_eq, decide_eq_false_iff_not, Bool.and_eq_true, Bool.or_eq_true, Bool.not_eq_true', Bool.not_eq_false', Bool.and_eq_false_iff, Bool.or_eq_false_iff, Bool.not_not, ite_tt, ite_ff, iff_tt, iff_ff, a_av, a_ite, a_upd]
          simp [E, perT, oj]
        · rw [if_pos (by omega), st1, hst 2 (by omega), ← one 2]
          simp only [rs0, rs1, rs2, rs3, rs4, rs5, rs6, rs7, rs8, rs9, rs10, rs11, rs12, rs13, rs14, rs15, rs16, rs17, rs18, rs19, rs20, rs21, rs22, rs23, rs24, rs25, rs26, rs27, rs28, rs29, rs30, rs31, rs32, rs33, rs34, rs35, rs36, rs37, rs38, rs39, rs40, rs41, rs42, rs43, rs44, rs45, rs46, rs47, rs48, rs49, rs50, rs51, rs52, rs53, rs54, rs55, rs56, rs57, rs58, rs59, rs60, rs61, rs62, rs63, rs64, rs65, rs66, rs67, i_v, b_bv, i_lit, b_blit, i_add, i_sub, i_mul, i_div, i_mod, i_tdiv, i_tmod, i_ite, b_ite, b_lt, b_le, b_eq, b_not, b_and, b_or, b_iff, i_sel, a_tab, i_pow2, List.getD_cons_zero, List.getD_cons_succ, decide_eq_true_eq, decide_eq_false_iff_not, Bool.and_eq_true, Bool.or_eq_true, Bool.not_eq_true', Bool.not_eq_false', Bool.and_eq_false_iff, Bool.or_eq_false_iff, Bool.not_not, ite_tt, ite_ff, iff_tt, iff_ff, a_av, a_ite, a_upd]
          simp [E, perT, oj]
        · rw [if_neg (by omega)]
          simp only [rs0, rs1, rs2, rs3, rs4, rs5, rs6, rs7, rs8, rs9, rs10, rs11, rs12, rs13, rs14, rs15, rs16, rs17, rs18, rs19, rs20, rs21, rs22, rs23, rs24, rs25, rs26, rs27, rs28, rs29, rs30, rs31, rs32, rs33, rs34, rs35, rs36, rs37, rs38, rs39, rs40, rs41, rs42, rs43, rs44, rs45, rs46, rs47, rs48, rs49, rs50, rs51, rs52, rs53, rs54, rs55, rs56, rs57, rs58, rs59, rs60, rs61, rs62, rs63, rs64, rs65, rs66, rs67, i_v, b_bv, i_lit, b_blit, i_add, i_sub, i_mul, i_div, i_mod, i_tdiv, i_tmod, i_ite, b_ite, b_lt, b_le, b_eq, b_not, b_and, b_or, b_iff, i_sel, a_tab, i_pow2, List.getD_cons_zero, List.getD_cons_succ, decide_eq_true_eq, decide_eq_false_iff_not, Bool.and_eq_true, Bool.or_eq_true, Bool.not_eq_true', Bool.not_eq_false', Bool.and_eq_false_iff, Bool.or_eq_false_iff, Bool.not_not, ite_tt, ite_ff, iff_tt, iff_ff, a_av, a_ite, a_upd]
          simp [E]
      have rg : ∀ j, (0 ≤ (st (c + 1).toNat j).1 ∧ (st (c + 1).toNat j).1 ≤ 255) ∧ (j < 3 → (0 ≤ (st (c + 1).toNat j).2.1 ∧ (st (c + 1).toNat j).2.1 ≤ 255) ∧ 0 ≤ (st (c + 1).toNat j).2.2 ∧ (st (c + 1).toNat j).2.2 ≤ 255) := fun j => by
        have hp : (1 : Int) ≤ perT j ∧ perT j ≤ 128 := by unfold perT; split <;> omega
        rw [st1]
        have h1 := Int.emod_nonneg ((st c.toNat j).1 + 1) (show perT j ≠ 0 by omega)
        have h2 := Int.emod_lt_of_pos ((st c.toNat j).1 + 1) (show 0 < perT j by omega)
        refine ⟨?_, fun hj => ?_⟩
        · unfold tm1
          split
          · split <;> (simp only; omega)
          · simp only; omega
        · have h3 := r2 j
          have h4 := r3 j
          rw [hst j hj]
          unfold tm1
          split
          · split <;> (simp only; omega)
          · simp only; omega
      have rgA : ∀ j, (0 ≤ rs67.a (E c A' B' C') j ∧ rs67.a (E c A' B' C') j ≤ 255) ∧ (0 ≤ rs64.a (E c A' B' C') j ∧ rs64.a (E c A' B' C') j ≤ 255) ∧ (0 ≤ rs55.a (E c A' B' C') j ∧ rs55.a (E c A' B' C') j ≤ 255) := fun j => by
        have hv := val j
        by_cases hj : j < 3
        · rw [if_pos hj, Prod.ext_iff, Prod.ext_iff] at hv
          simp only at hv
          rw [hv.1, hv.2.1, hv.2.2]
          exact ⟨(rg j).1, (rg j).2 hj⟩
        · rw [if_neg hj, Prod.ext_iff, Prod.ext_iff] at hv
          simp only at hv
          rw [hv.1, hv.2.1, hv.2.2]
          exact ⟨r1 j, r2 j, r3 j⟩
      refine ⟨rfl, ⟨trivial, c + 1, rs67.a (E c A' B' C'), rs64.a (E c A' B' C'), rs55.a (E c A' B' C'), rfl, by omega, .inl (by omega), fun j => (rgA j).1, fun j => (rgA j).2.1, fun j => (rgA j).2.2, fun j => ?_⟩, ?_⟩
      · rw [val j]
        split
        · rfl
        · rename_i hj; rw [hJ j, if_neg hj]
      · show (N + 1 - (c + 1)).toNat < (N + 1 - c).toNat
        omega
    · have hge : ¬ c < N := by
        simp only [E, rs0, i_v, b_bv, i_lit, b_blit, i_add, i_sub, i_mul, i_div, i_mod, i_tdiv, i_tmod, i_ite, b_ite, b_lt, b_le, b_eq, b_not, b_and, b_or, b_iff, i_sel, a_tab, i_pow2, List.getD_cons_zero, List.getD_cons_succ, decide_eq_true_eq, decide_eq_false_iff_not, Bool.and_eq_true, Bool.or_eq_true, Bool.not_eq_true', Bool.not_eq_false', Bool.and_eq_false_iff, Bool.or_eq_false_iff, Bool.not_not, ite_tt, ite_ff, iff_tt, iff_ff, a_av, a_ite, a_upd] at hc2
        omega
      refine ⟨by trivial, c, A', B', C', rfl, ?_, hJ⟩
      rcases hc1 with h | h <;> omega
end Go.Proofs.Ytngbibifiadgiaa
