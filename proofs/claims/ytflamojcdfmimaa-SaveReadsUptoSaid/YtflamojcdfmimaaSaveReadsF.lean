/- A part of the law SaveReads, which returns true for every input. A reader of whatever bytes answers, call by call in every order, what the document says, and stands where it says. Where what comes in is of bulk at most 1048576. No condition. -/
import Derived.Test.YtflamojcdfmimaaSaveReads0
namespace Go.Proofs.Ytflamojcdfmimaa.SaveReads
open Go.Sx Go.ChangeShapes Go.WideShapes Go.ChangeAt Go.RowKit
set_option linter.unusedVariables false
set_option linter.unusedSimpArgs false
set_option maxRecDepth 100000
def eVf (x0 : Ext) (x1 : Ext) (Y1 : Nat → Ext) (nx0 nx1 y2 : Int) (Ax0 Ax1_0 Ax1_1 Ax1_2 Ax1_3 : Nat → Int) : Env := (⟨[nx0, nx1, y2], [], [Ax0, Ax1_0, Ax1_1, Ax1_2, Ax1_3], [], Iv (fun i j => match i, j with | 0, 0 => x0 | 1, 0 => x1 | 2, j => Y1 j | _, _ => Ext.none)⟩ : Env)
theorem smf : (∀ (ρ : Env) (n : Nat), E.i ρ (.v n) = ρ.i.getD n 0) ∧ (∀ (ρ : Env) (z : Int), E.i ρ (.lit z) = z) ∧ (∀ (ρ : Env) (a b : E), E.i ρ (.add a b) = E.i ρ a + E.i ρ b) ∧ (∀ (ρ : Env) (a b : E), E.i ρ (.sub a b) = E.i ρ a - E.i ρ b) ∧ (∀ (ρ : Env) (a b : E), E.i ρ (.mul a b) = E.i ρ a * E.i ρ b) ∧ (∀ (ρ : Env) (a b : E), E.i ρ (.mod a b) = E.i ρ a % E.i ρ b) ∧ (∀ (ρ : Env) (a b : E), E.i ρ (.sel a b) = E.a ρ a (E.i ρ b).toNat) ∧ (∀ (ρ : Env) (c a b : E), E.i ρ (.ite c a b) = if E.b ρ c = true then E.i ρ a else E.i ρ b) ∧ (∀ (ρ : Env) (n : Nat), E.a ρ (.av n) = ρ.a.getD n (fun _ => 0)) ∧ (∀ (ρ : Env) (l : List Int) (j : Nat), E.a ρ (.tab l) j = l.getD j 0) ∧ (∀ (ρ : Env) (a i x : E) (j : Nat), E.a ρ (.upd a i x) j = if j = (E.i ρ i).toNat then E.i ρ x else E.a ρ a j) ∧ (∀ (ρ : Env) (a b : E), E.b ρ (.lt a b) = decide (E.i ρ a < E.i ρ b)) ∧ (∀ (ρ : Env) (a b : E), E.b ρ (.le a b) = decide (E.i ρ a ≤ E.i ρ b)) ∧ (∀ (ρ : Env) (a b : E), E.b ρ (.eq a b) = decide (E.i ρ a = E.i ρ b)) ∧ (∀ (ρ : Env) (a b : E), E.b ρ (.or a b) = (E.b ρ a || E.b ρ b)) ∧ (∀ (ρ : Env) (a b : E), E.b ρ (.and a b) = (E.b ρ a && E.b ρ b)) ∧ (∀ (ρ : Env) (a : E), E.b ρ (.not a) = !(E.b ρ a)) ∧ (∀ (ρ : Env) (z : Bool), E.b ρ (.blit z) = z) := by
  refine ⟨?_, ?_, ?_, ?_, ?_, ?_, ?_, ?_, ?_, ?_, ?_, ?_, ?_, ?_, ?_, ?_, ?_, ?_⟩ <;> intros <;> first | rfl | exact i_ite _ _ _ _ | simp [a_upd]
theorem snf : (∀ (x d : Int) (l : List Int), (x :: l).getD 0 d = x) ∧ (∀ (x d : Int) (l : List Int) (n : Nat), (x :: l).getD (n + 1) d = l.getD n d) ∧ (∀ (x d : Nat → Int) (l : List (Nat → Int)), (x :: l).getD 0 d = x) ∧ (∀ (x d : Nat → Int) (l : List (Nat → Int)) (n : Nat), (x :: l).getD (n + 1) d = l.getD n d) ∧ (∀ (d : Int) (n : Nat), ([] : List Int).getD n d = d) ∧ (∀ p q : Bool, ((p || q) = true) = (p = true ∨ q = true)) ∧ (∀ p q : Bool, ((p && q) = true) = (p = true ∧ q = true)) ∧ (∀ p : Bool, ((!p) = true) = (p = false)) ∧ (∀ p : Bool, ((!p) = false) = (p = true)) ∧ (∀ p q : Bool, ((p || q) = false) = (p = false ∧ q = false)) ∧ (∀ (p : Prop) [Decidable p], (decide p = true) = p) ∧ (∀ (p : Prop) [Decidable p], (decide p = false) = ¬ p) ∧ Int.toNat 0 = 0 ∧ Int.toNat 1 = 1 ∧ Int.toNat 2 = 2 := by
  refine ⟨fun _ _ _ => rfl, fun _ _ _ _ => rfl, fun _ _ _ => rfl, fun _ _ _ _ => rfl, fun _ _ => rfl, ?_, ?_, ?_, ?_, ?_, ?_, ?_, rfl, rfl, rfl⟩ <;> intros <;> simp
def fHy : Hyp := ⟨[((.v 0), (13, 13)), (.v 0, (0, 9223372036854775807)), (.v 1, (0, 1048575))], [(0, (0, 255)), (1, (-9223372036854775808, 9223372036854775807)), (2, (-9223372036854775808, 9223372036854775807)), (3, (0, 1048575)), (4, (0, 255))], [(10, (0, 4294967295))], [], [], [(0, ⟨.lit 13, [(some .u8, .av 0)], []⟩), (1, ⟨.v 1, [(some .i64, .av 1), (some .i64, .av 2)], [(2, .av 3, .av 4)]⟩)]⟩
def fLs : List SV := [.s (.xslc 0 (.lit 0) (.lit 0) (.lit 13)), .s (.xslc 1 (.lit 0) (.lit 0) (.v 1))]
def f0 : E := .sel (.av 0) (.lit 0)
def f1 : E := .eq f0 (.lit 76)
def f2 : E := .not f1
def f3 : E := .sel (.av 0) (.lit 1)
def f4 : E := .eq f3 (.lit 65)
def f5 : E := .not f4
def f6 : E := .or f2 f5
def f7 : E := .sel (.av 0) (.lit 2)
def f8 : E := .eq f7 (.lit 78)
def f9 : E := .not f8
def f10 : E := .or f6 f9
def f11 : E := .sel (.av 0) (.lit 3)
def f12 : E := .eq f11 (.lit 84)
def f13 : E := .not f12
def f14 : E := .or f10 f13
def f15 : E := .sel (.av 0) (.lit 4)
def f16 : E := .eq f15 (.lit 1)
def f17 : E := .not f16
def f18 : E := .sel (.av 0) (.lit 8)
def f19 : E := .mul f18 (.lit 16777216)
def f20 : E := .sel (.av 0) (.lit 7)
def f21 : E := .mul f20 (.lit 65536)
def f22 : E := .add f19 f21
def f23 : E := .sel (.av 0) (.lit 6)
def f24 : E := .mul f23 (.lit 256)
def f25 : E := .add f22 f24
def f26 : E := .sel (.av 0) (.lit 5)
def f27 : E := .add f25 f26
def f28 : E := .eq f27 (.lit 0)
def f29 : E := .not f28
def f30 : E := .sel (.av 0) (.lit 12)
def f31 : E := .mul f30 (.lit 16777216)
def f32 : E := .sel (.av 0) (.lit 11)
def f33 : E := .mul f32 (.lit 65536)
def f34 : E := .add f31 f33
def f35 : E := .sel (.av 0) (.lit 10)
def f36 : E := .mul f35 (.lit 256)
def f37 : E := .add f34 f36
def f38 : E := .sel (.av 0) (.lit 9)
def f39 : E := .add f37 f38
def f40 : E := .app 10 (.cons (.lit 0) (.cons (.tab []) .nil))
def f41 : E := .eq f39 f40
def f42 : E := .not f41
def f43 : E := .sel (.av 1) (.v 2)
def f44 : E := .lt (.v 2) (.v 1)
def f45 : E := .add (.v 2) (.lit 1)
theorem ndf : f0 = (.sel (.av 0) (.lit 0)) ∧ f1 = (.eq f0 (.lit 76)) ∧ f2 = (.not f1) ∧ f3 = (.sel (.av 0) (.lit 1)) ∧ f4 = (.eq f3 (.lit 65)) ∧ f5 = (.not f4) ∧ f6 = (.or f2 f5) ∧ f7 = (.sel (.av 0) (.lit 2)) ∧ f8 = (.eq f7 (.lit 78)) ∧ f9 = (.not f8) ∧ f10 = (.or f6 f9) ∧ f11 = (.sel (.av 0) (.lit 3)) ∧ f12 = (.eq f11 (.lit 84)) ∧ f13 = (.not f12) ∧ f14 = (.or f10 f13) ∧ f15 = (.sel (.av 0) (.lit 4)) ∧ f16 = (.eq f15 (.lit 1)) ∧ f17 = (.not f16) ∧ f18 = (.sel (.av 0) (.lit 8)) ∧ f19 = (.mul f18 (.lit 16777216)) ∧ f20 = (.sel (.av 0) (.lit 7)) ∧ f21 = (.mul f20 (.lit 65536)) ∧ f22 = (.add f19 f21) ∧ f23 = (.sel (.av 0) (.lit 6)) ∧ f24 = (.mul f23 (.lit 256)) ∧ f25 = (.add f22 f24) ∧ f26 = (.sel (.av 0) (.lit 5)) ∧ f27 = (.add f25 f26) ∧ f28 = (.eq f27 (.lit 0)) ∧ f29 = (.not f28) ∧ f30 = (.sel (.av 0) (.lit 12)) ∧ f31 = (.mul f30 (.lit 16777216)) ∧ f32 = (.sel (.av 0) (.lit 11)) ∧ f33 = (.mul f32 (.lit 65536)) ∧ f34 = (.add f31 f33) ∧ f35 = (.sel (.av 0) (.lit 10)) ∧ f36 = (.mul f35 (.lit 256)) ∧ f37 = (.add f34 f36) ∧ f38 = (.sel (.av 0) (.lit 9)) ∧ f39 = (.add f37 f38) ∧ f40 = (.app 10 (.cons (.lit 0) (.cons (.tab []) .nil))) ∧ f41 = (.eq f39 f40) ∧ f42 = (.not f41) ∧ f43 = (.sel (.av 1) (.v 2)) ∧ f44 = (.lt (.v 2) (.v 1)) ∧ f45 = (.add (.v 2) (.lit 1)) := ⟨rfl, rfl, rfl, rfl, rfl, rfl, rfl, rfl, rfl, rfl, rfl, rfl, rfl, rfl, rfl, rfl, rfl, rfl, rfl, rfl, rfl, rfl, rfl, rfl, rfl, rfl, rfl, rfl, rfl, rfl, rfl, rfl, rfl, rfl, rfl, rfl, rfl, rfl, rfl, rfl, rfl, rfl, rfl, rfl, rfl, rfl⟩
noncomputable def fT0 : List Item := todoS Try.prog G Gh [] 3000 0 5 fHy fLs [] 12
noncomputable def fh0 : Head := ⟨12, fT0, ⟨[((.v 0), (13, 13)), ((.v 0), (0, 9223372036854775807)), ((.v 1), (0, 1048575)), ((.v 2), (0, 1048575))], [(0, (0, 255)), (1, ((-9223372036854775808), 9223372036854775807)), (2, ((-9223372036854775808), 9223372036854775807)), (3, (0, 1048575)), (4, (0, 255))], [(10, (0, 4294967295))], [], [], [(0, ⟨(.lit 13), [(some .u8, (.av 0))], []⟩), (1, ⟨(.v 1), [(some .i64, (.av 1)), (some .i64, (.av 2))], [(2, (.av 3), (.av 4))]⟩)]⟩, [⟨11, [], .s (.int .i64 (.v 2))⟩, ⟨10, [], .s (.ptr 3 (.lit 0))⟩, ⟨8, [], .s (.ptr 1 (.lit 0))⟩, ⟨1, [], .s (.xslc 1 (.lit 0) (.lit 0) (.v 1))⟩], [⟨5, [], true, none, false⟩, ⟨80, [.one (.slc 0 (.lit 0) (.lit 0) (.kn (.lit 0))), .one (.int .i64 (.lit 0)), .one (.int .i64 (.lit 0)), .run .i64 (.lit 16) (.tab []) 0, .one (.int .i64 (.lit 0))], true, none, false⟩, ⟨3, [.run .i64 (.lit 1) (.tab [0]) 0], true, none, false⟩, ⟨53, [.one (.xtl 0 (.lit 0) (.lit 0) (.lit 13)), .one (.int .i64 (.lit 0)), .one (.slc 2 (.lit 0) (.lit 1) (.kn (.lit 1)))], true, none, false⟩]⟩
noncomputable def fhs : List Head := [fh0]
def fD : Dim := ⟨3, 0, 5, 2, 0, 5, 0⟩
theorem fst : startL Try.prog G Gh fD fhs [] 3000 0 5 fHy fLs [] = some (.ite f14 (.ret (.s (.bool (.blit true))) [⟨5, [.run .u8 (.lit 13) (.av 0) 0], true, none, true⟩]) (.ite f17 (.ret (.s (.bool (.blit true))) [⟨5, [.run .u8 (.lit 13) (.av 0) 0], true, none, true⟩]) (.ite f29 (.ret (.s (.bool (.blit true))) [⟨5, [.run .u8 (.lit 13) (.av 0) 0], true, none, true⟩]) (.ite f42 (.ret (.s (.bool (.blit true))) [⟨5, [.run .u8 (.lit 13) (.av 0) 0], true, none, true⟩]) (.jump 0 fT0 ⟨[(2, (.lit 0))], [], []⟩))))) := by kernel_rfl
theorem fhT0 : (fhs[0]?.map (·.todo)) = some fT0 := by kernel_rfl
def fBase (x0 : Ext) (x1 : Ext) (Y1 : Nat → Ext) (nx0 nx1 : Int) (Ax0 Ax1_0 Ax1_1 Ax1_2 Ax1_3 : Nat → Int) : Prop := (0 ≤ nx0 ∧ nx0 ≤ 9223372036854775807) ∧ (0 ≤ nx1 ∧ nx1 ≤ 1048575) ∧ (∀ j, 0 ≤ Ax0 j ∧ Ax0 j ≤ 255) ∧ (∀ j, -9223372036854775808 ≤ Ax1_0 j ∧ Ax1_0 j ≤ 9223372036854775807) ∧ (∀ j, -9223372036854775808 ≤ Ax1_1 j ∧ Ax1_1 j ≤ 9223372036854775807) ∧ (∀ j, 0 ≤ Ax1_2 j ∧ Ax1_2 j ≤ 1048575) ∧ (∀ j, 0 ≤ Ax1_3 j ∧ Ax1_3 j ≤ 255) ∧ nx0 = (x0.n : Int) ∧ nx1 = (x1.n : Int) ∧ Ax0 = xArr x0 1 0 ∧ Ax1_0 = xArr x1 3 0 ∧ Ax1_1 = xArr x1 3 1 ∧ Ax1_2 = nLen Y1 ∧ Ax1_3 = nArr Y1 ∧ (∀ k : Nat, k ≤ x1.n → pSum (nLen Y1) k ≤ 2097150) ∧ ((nx0) = 13) ∧ True
def fJ0 (nx0 nx1 y2 : Int) (Ax0 Ax1_0 Ax1_1 Ax1_2 Ax1_3 : Nat → Int) : Prop := (0 ≤ y2 ∧ y2 ≤ 1048575) ∧ y2 ≤ nx1 ∧ True
def fInv (x0 : Ext) (x1 : Ext) (Y1 : Nat → Ext) : Nat → Env → Prop
  | 0, ρ => ∃ (nx0 nx1 y2 : Int) (Ax0 Ax1_0 Ax1_1 Ax1_2 Ax1_3 : Nat → Int), ρ = (⟨[nx0, nx1, y2], [], [Ax0, Ax1_0, Ax1_1, Ax1_2, Ax1_3], [], Iv (fun i j => match i, j with | 0, 0 => x0 | 1, 0 => x1 | 2, j => Y1 j | _, _ => Ext.none)⟩ : Env) ∧ fBase x0 x1 Y1 nx0 nx1 Ax0 Ax1_0 Ax1_1 Ax1_2 Ax1_3 ∧ fJ0 nx0 nx1 y2 Ax0 Ax1_0 Ax1_1 Ax1_2 Ax1_3
  | _, _ => False
def fmu : Nat → Env → Nat := fun j ρ => (ρ.i.getD 1 0 - ρ.i.getD 2 0).toNat
theorem fvcS (x0 : Ext) (x1 : Ext) (Y1 : Nat → Ext) (nx0 nx1 : Int) (Ax0 Ax1_0 Ax1_1 Ax1_2 Ax1_3 : Nat → Int) (hB : fBase x0 x1 Y1 nx0 nx1 Ax0 Ax1_0 Ax1_1 Ax1_2 Ax1_3) :
    LT.holds (⟨[nx0, nx1, 0], [], [Ax0, Ax1_0, Ax1_1, Ax1_2, Ax1_3], [], Iv (fun i j => match i, j with | 0, 0 => x0 | 1, 0 => x1 | 2, j => Y1 j | _, _ => Ext.none)⟩ : Env) (fun v _ => retTrue (⟨[nx0, nx1, 0], [], [Ax0, Ax1_0, Ax1_1, Ax1_2, Ax1_3], [], Iv (fun i j => match i, j with | 0, 0 => x0 | 1, 0 => x1 | 2, j => Y1 j | _, _ => Ext.none)⟩ : Env) v) (fun j' todo ρ' => (fhs[j']?.map (·.todo)) = some todo ∧ fInv x0 x1 Y1 j' ρ') (.ite f14 (.ret (.s (.bool (.blit true))) [⟨5, [.run .u8 (.lit 13) (.av 0) 0], true, none, true⟩]) (.ite f17 (.ret (.s (.bool (.blit true))) [⟨5, [.run .u8 (.lit 13) (.av 0) 0], true, none, true⟩]) (.ite f29 (.ret (.s (.bool (.blit true))) [⟨5, [.run .u8 (.lit 13) (.av 0) 0], true, none, true⟩]) (.ite f42 (.ret (.s (.bool (.blit true))) [⟨5, [.run .u8 (.lit 13) (.av 0) 0], true, none, true⟩]) (.jump 0 fT0 ⟨[(2, (.lit 0))], [], []⟩))))) := by
  simp only [LT.holds, retTrue]
  refine ⟨fun hc0 => ?_, fun hc0 => ?_⟩
  ·
    rfl
  ·
    refine ⟨fun hc2 => ?_, fun hc2 => ?_⟩
    ·
      rfl
    ·
      refine ⟨fun hc4 => ?_, fun hc4 => ?_⟩
      ·
        rfl
      ·
        refine ⟨fun hc6 => ?_, fun hc6 => ?_⟩
        ·
          rfl
        ·
          refine ⟨fhT0, nx0, nx1, (_root_.Go.Sx.E.i (⟨[nx0, nx1, 0], [], [Ax0, Ax1_0, Ax1_1, Ax1_2, Ax1_3], [], Iv (fun i j => match i, j with | 0, 0 => x0 | 1, 0 => x1 | 2, j => Y1 j | _, _ => Ext.none)⟩ : Env) (.lit 0)), Ax0, Ax1_0, Ax1_1, Ax1_2, Ax1_3, (by kernel_rfl), hB, ?_⟩
          ·
            simp only [fBase] at hB
            obtain ⟨b0, b1, c0, c1, c2, c3, c4, en0, en1, ea0, ea1, ea2, ea3, ea4, hs, hx0, _⟩ := hB
            simp only [fJ0]
            refine ⟨?_, ?_, trivial⟩
            all_goals (try simp only [ndf, smf, snf])
            all_goals omega
def fE0_w0 : List (E × Rng) := [(f43, (0, 0))]
def fQ0_w0 : List (E × Bool) := [(f44, true)]
noncomputable def fH0_w0 : Hyp := { fh0.H with e := fE0_w0 ++ fh0.H.e, b := fQ0_w0 ++ fh0.H.b }
set_option maxHeartbeats 40000000 in
theorem fsg0_w0 : (segL Try.prog G Gh fD fhs [] 3000 0 5 { fh0 with H := fH0_w0 }).map LT.bare = some (.jump 0 fT0 ⟨[(2, f45)], [], []⟩) := by kernel_rfl
theorem fvc0_w0 (x0 : Ext) (x1 : Ext) (Y1 : Nat → Ext) (nx0 nx1 y2 : Int) (Ax0 Ax1_0 Ax1_1 Ax1_2 Ax1_3 : Nat → Int) (hB : fBase x0 x1 Y1 nx0 nx1 Ax0 Ax1_0 Ax1_1 Ax1_2 Ax1_3) (hJ : fJ0 nx0 nx1 y2 Ax0 Ax1_0 Ax1_1 Ax1_2 Ax1_3) (hH : Hyp.ok fH0_w0 (eVf x0 x1 Y1 nx0 nx1 y2 Ax0 Ax1_0 Ax1_1 Ax1_2 Ax1_3))  :
    LT.holds (eVf x0 x1 Y1 nx0 nx1 y2 Ax0 Ax1_0 Ax1_1 Ax1_2 Ax1_3) (fun v _ => retTrue (eVf x0 x1 Y1 nx0 nx1 y2 Ax0 Ax1_0 Ax1_1 Ax1_2 Ax1_3) v) (fun j' todo ρ' => (fhs[j']?.map (·.todo)) = some todo ∧ fInv x0 x1 Y1 j' ρ' ∧ fmu j' ρ' < fmu 0 (eVf x0 x1 Y1 nx0 nx1 y2 Ax0 Ax1_0 Ax1_1 Ax1_2 Ax1_3)) (.jump 0 fT0 ⟨[(2, f45)], [], []⟩) := by
  simp only [LT.holds, retTrue]
  have hB3 := hB
  have hJ3 := hJ
  simp only [fBase] at hB3
  obtain ⟨b0, b1, c0, c1, c2, c3, c4, en0, en1, ea0, ea1, ea2, ea3, ea4, hs, hx0, _⟩ := hB3
  simp only [fJ0] at hJ3
  obtain ⟨l2, i1, _⟩ := hJ3
  have fe : ∀ p ∈ fE0_w0, inR p.2 (p.1.i (eVf x0 x1 Y1 nx0 nx1 y2 Ax0 Ax1_0 Ax1_1 Ax1_2 Ax1_3)) := fun p hp => hH.e p (List.mem_append_left _ hp)
  have fb : ∀ p ∈ fQ0_w0, p.1.b (eVf x0 x1 Y1 nx0 nx1 y2 Ax0 Ax1_0 Ax1_1 Ax1_2 Ax1_3) = p.2 := fun p hp => hH.b p (List.mem_append_left _ hp)
  simp only [fE0_w0, fQ0_w0, List.forall_mem_cons, inR] at fe fb
  have ff := And.intro fe fb
  clear fe fb
  simp only [ndf, smf, snf, eVf] at ff
  refine ⟨fhT0, ⟨nx0, nx1, (_root_.Go.Sx.E.i (eVf x0 x1 Y1 nx0 nx1 y2 Ax0 Ax1_0 Ax1_1 Ax1_2 Ax1_3) f45), Ax0, Ax1_0, Ax1_1, Ax1_2, Ax1_3, (by kernel_rfl), hB, ?_⟩, ?_⟩
  ·
    simp only [fJ0]
    refine ⟨?_, ?_, trivial⟩
    all_goals (try simp only [ndf, smf, snf, eVf])
    all_goals omega
  simp only [fmu, Env.app, setAll, List.map_cons, List.map_nil, List.set, ndf, smf, snf, eVf]
  omega
def fE0_w1 : List (E × Rng) := [(f43, (1, 1))]
def fQ0_w1 : List (E × Bool) := [(f44, true)]
noncomputable def fH0_w1 : Hyp := { fh0.H with e := fE0_w1 ++ fh0.H.e, b := fQ0_w1 ++ fh0.H.b }
set_option maxHeartbeats 40000000 in
theorem fsg0_w1 : (segL Try.prog G Gh fD fhs [] 3000 0 5 { fh0 with H := fH0_w1 }).map LT.bare = some (.jump 0 fT0 ⟨[(2, f45)], [], []⟩) := by kernel_rfl
theorem fvc0_w1 (x0 : Ext) (x1 : Ext) (Y1 : Nat → Ext) (nx0 nx1 y2 : Int) (Ax0 Ax1_0 Ax1_1 Ax1_2 Ax1_3 : Nat → Int) (hB : fBase x0 x1 Y1 nx0 nx1 Ax0 Ax1_0 Ax1_1 Ax1_2 Ax1_3) (hJ : fJ0 nx0 nx1 y2 Ax0 Ax1_0 Ax1_1 Ax1_2 Ax1_3) (hH : Hyp.ok fH0_w1 (eVf x0 x1 Y1 nx0 nx1 y2 Ax0 Ax1_0 Ax1_1 Ax1_2 Ax1_3))  :
    LT.holds (eVf x0 x1 Y1 nx0 nx1 y2 Ax0 Ax1_0 Ax1_1 Ax1_2 Ax1_3) (fun v _ => retTrue (eVf x0 x1 Y1 nx0 nx1 y2 Ax0 Ax1_0 Ax1_1 Ax1_2 Ax1_3) v) (fun j' todo ρ' => (fhs[j']?.map (·.todo)) = some todo ∧ fInv x0 x1 Y1 j' ρ' ∧ fmu j' ρ' < fmu 0 (eVf x0 x1 Y1 nx0 nx1 y2 Ax0 Ax1_0 Ax1_1 Ax1_2 Ax1_3)) (.jump 0 fT0 ⟨[(2, f45)], [], []⟩) := by
  simp only [LT.holds, retTrue]
  have hB3 := hB
  have hJ3 := hJ
  simp only [fBase] at hB3
  obtain ⟨b0, b1, c0, c1, c2, c3, c4, en0, en1, ea0, ea1, ea2, ea3, ea4, hs, hx0, _⟩ := hB3
  simp only [fJ0] at hJ3
  obtain ⟨l2, i1, _⟩ := hJ3
  have fe : ∀ p ∈ fE0_w1, inR p.2 (p.1.i (eVf x0 x1 Y1 nx0 nx1 y2 Ax0 Ax1_0 Ax1_1 Ax1_2 Ax1_3)) := fun p hp => hH.e p (List.mem_append_left _ hp)
  have fb : ∀ p ∈ fQ0_w1, p.1.b (eVf x0 x1 Y1 nx0 nx1 y2 Ax0 Ax1_0 Ax1_1 Ax1_2 Ax1_3) = p.2 := fun p hp => hH.b p (List.mem_append_left _ hp)
  simp only [fE0_w1, fQ0_w1, List.forall_mem_cons, inR] at fe fb
  have ff := And.intro fe fb
  clear fe fb
  simp only [ndf, smf, snf, eVf] at ff
  refine ⟨fhT0, ⟨nx0, nx1, (_root_.Go.Sx.E.i (eVf x0 x1 Y1 nx0 nx1 y2 Ax0 Ax1_0 Ax1_1 Ax1_2 Ax1_3) f45), Ax0, Ax1_0, Ax1_1, Ax1_2, Ax1_3, (by kernel_rfl), hB, ?_⟩, ?_⟩
  ·
    simp only [fJ0]
    refine ⟨?_, ?_, trivial⟩
    all_goals (try simp only [ndf, smf, snf, eVf])
    all_goals omega
  simp only [fmu, Env.app, setAll, List.map_cons, List.map_nil, List.set, ndf, smf, snf, eVf]
  omega
def fE0_w2 : List (E × Rng) := [(f43, (2, 2))]
def fQ0_w2 : List (E × Bool) := [(f44, true)]
noncomputable def fH0_w2 : Hyp := { fh0.H with e := fE0_w2 ++ fh0.H.e, b := fQ0_w2 ++ fh0.H.b }
set_option maxHeartbeats 40000000 in
theorem fsg0_w2 : (segL Try.prog G Gh fD fhs [] 3000 0 5 { fh0 with H := fH0_w2 }).map LT.bare = some (.jump 0 fT0 ⟨[(2, f45)], [], []⟩) := by kernel_rfl
theorem fvc0_w2 (x0 : Ext) (x1 : Ext) (Y1 : Nat → Ext) (nx0 nx1 y2 : Int) (Ax0 Ax1_0 Ax1_1 Ax1_2 Ax1_3 : Nat → Int) (hB : fBase x0 x1 Y1 nx0 nx1 Ax0 Ax1_0 Ax1_1 Ax1_2 Ax1_3) (hJ : fJ0 nx0 nx1 y2 Ax0 Ax1_0 Ax1_1 Ax1_2 Ax1_3) (hH : Hyp.ok fH0_w2 (eVf x0 x1 Y1 nx0 nx1 y2 Ax0 Ax1_0 Ax1_1 Ax1_2 Ax1_3))  :
    LT.holds (eVf x0 x1 Y1 nx0 nx1 y2 Ax0 Ax1_0 Ax1_1 Ax1_2 Ax1_3) (fun v _ => retTrue (eVf x0 x1 Y1 nx0 nx1 y2 Ax0 Ax1_0 Ax1_1 Ax1_2 Ax1_3) v) (fun j' todo ρ' => (fhs[j']?.map (·.todo)) = some todo ∧ fInv x0 x1 Y1 j' ρ' ∧ fmu j' ρ' < fmu 0 (eVf x0 x1 Y1 nx0 nx1 y2 Ax0 Ax1_0 Ax1_1 Ax1_2 Ax1_3)) (.jump 0 fT0 ⟨[(2, f45)], [], []⟩) := by
  simp only [LT.holds, retTrue]
  have hB3 := hB
  have hJ3 := hJ
  simp only [fBase] at hB3
  obtain ⟨b0, b1, c0, c1, c2, c3, c4, en0, en1, ea0, ea1, ea2, ea3, ea4, hs, hx0, _⟩ := hB3
  simp only [fJ0] at hJ3
  obtain ⟨l2, i1, _⟩ := hJ3
  have fe : ∀ p ∈ fE0_w2, inR p.2 (p.1.i (eVf x0 x1 Y1 nx0 nx1 y2 Ax0 Ax1_0 Ax1_1 Ax1_2 Ax1_3)) := fun p hp => hH.e p (List.mem_append_left _ hp)
  have fb : ∀ p ∈ fQ0_w2, p.1.b (eVf x0 x1 Y1 nx0 nx1 y2 Ax0 Ax1_0 Ax1_1 Ax1_2 Ax1_3) = p.2 := fun p hp => hH.b p (List.mem_append_left _ hp)
  simp only [fE0_w2, fQ0_w2, List.forall_mem_cons, inR] at fe fb
  have ff := And.intro fe fb
  clear fe fb
  simp only [ndf, smf, snf, eVf] at ff
  refine ⟨fhT0, ⟨nx0, nx1, (_root_.Go.Sx.E.i (eVf x0 x1 Y1 nx0 nx1 y2 Ax0 Ax1_0 Ax1_1 Ax1_2 Ax1_3) f45), Ax0, Ax1_0, Ax1_1, Ax1_2, Ax1_3, (by kernel_rfl), hB, ?_⟩, ?_⟩
  ·
    simp only [fJ0]
    refine ⟨?_, ?_, trivial⟩
    all_goals (try simp only [ndf, smf, snf, eVf])
    all_goals omega
  simp only [fmu, Env.app, setAll, List.map_cons, List.map_nil, List.set, ndf, smf, snf, eVf]
  omega
def fE0_w3 : List (E × Rng) := [(f43, (3, 3))]
def fQ0_w3 : List (E × Bool) := [(f44, true)]
noncomputable def fH0_w3 : Hyp := { fh0.H with e := fE0_w3 ++ fh0.H.e, b := fQ0_w3 ++ fh0.H.b }
set_option maxHeartbeats 40000000 in
theorem fsg0_w3 : (segL Try.prog G Gh fD fhs [] 3000 0 5 { fh0 with H := fH0_w3 }).map LT.bare = some (.jump 0 fT0 ⟨[(2, f45)], [], []⟩) := by kernel_rfl
theorem fvc0_w3 (x0 : Ext) (x1 : Ext) (Y1 : Nat → Ext) (nx0 nx1 y2 : Int) (Ax0 Ax1_0 Ax1_1 Ax1_2 Ax1_3 : Nat → Int) (hB : fBase x0 x1 Y1 nx0 nx1 Ax0 Ax1_0 Ax1_1 Ax1_2 Ax1_3) (hJ : fJ0 nx0 nx1 y2 Ax0 Ax1_0 Ax1_1 Ax1_2 Ax1_3) (hH : Hyp.ok fH0_w3 (eVf x0 x1 Y1 nx0 nx1 y2 Ax0 Ax1_0 Ax1_1 Ax1_2 Ax1_3))  :
    LT.holds (eVf x0 x1 Y1 nx0 nx1 y2 Ax0 Ax1_0 Ax1_1 Ax1_2 Ax1_3) (fun v _ => retTrue (eVf x0 x1 Y1 nx0 nx1 y2 Ax0 Ax1_0 Ax1_1 Ax1_2 Ax1_3) v) (fun j' todo ρ' => (fhs[j']?.map (·.todo)) = some todo ∧ fInv x0 x1 Y1 j' ρ' ∧ fmu j' ρ' < fmu 0 (eVf x0 x1 Y1 nx0 nx1 y2 Ax0 Ax1_0 Ax1_1 Ax1_2 Ax1_3)) (.jump 0 fT0 ⟨[(2, f45)], [], []⟩) := by
  simp only [LT.holds, retTrue]
  have hB3 := hB
  have hJ3 := hJ
  simp only [fBase] at hB3
  obtain ⟨b0, b1, c0, c1, c2, c3, c4, en0, en1, ea0, ea1, ea2, ea3, ea4, hs, hx0, _⟩ := hB3
  simp only [fJ0] at hJ3
  obtain ⟨l2, i1, _⟩ := hJ3
  have fe : ∀ p ∈ fE0_w3, inR p.2 (p.1.i (eVf x0 x1 Y1 nx0 nx1 y2 Ax0 Ax1_0 Ax1_1 Ax1_2 Ax1_3)) := fun p hp => hH.e p (List.mem_append_left _ hp)
  have fb : ∀ p ∈ fQ0_w3, p.1.b (eVf x0 x1 Y1 nx0 nx1 y2 Ax0 Ax1_0 Ax1_1 Ax1_2 Ax1_3) = p.2 := fun p hp => hH.b p (List.mem_append_left _ hp)
  simp only [fE0_w3, fQ0_w3, List.forall_mem_cons, inR] at fe fb
  have ff := And.intro fe fb
  clear fe fb
  simp only [ndf, smf, snf, eVf] at ff
  refine ⟨fhT0, ⟨nx0, nx1, (_root_.Go.Sx.E.i (eVf x0 x1 Y1 nx0 nx1 y2 Ax0 Ax1_0 Ax1_1 Ax1_2 Ax1_3) f45), Ax0, Ax1_0, Ax1_1, Ax1_2, Ax1_3, (by kernel_rfl), hB, ?_⟩, ?_⟩
  ·
    simp only [fJ0]
    refine ⟨?_, ?_, trivial⟩
    all_goals (try simp only [ndf, smf, snf, eVf])
    all_goals omega
  simp only [fmu, Env.app, setAll, List.map_cons, List.map_nil, List.set, ndf, smf, snf, eVf]
  omega
def fE0_w4 : List (E × Rng) := [(f43, (4, 4))]
def fQ0_w4 : List (E × Bool) := [(f44, true)]
noncomputable def fH0_w4 : Hyp := { fh0.H with e := fE0_w4 ++ fh0.H.e, b := fQ0_w4 ++ fh0.H.b }
set_option maxHeartbeats 40000000 in
theorem fsg0_w4 : (segL Try.prog G Gh fD fhs [] 3000 0 5 { fh0 with H := fH0_w4 }).map LT.bare = some (.jump 0 fT0 ⟨[(2, f45)], [], []⟩) := by kernel_rfl
theorem fvc0_w4 (x0 : Ext) (x1 : Ext) (Y1 : Nat → Ext) (nx0 nx1 y2 : Int) (Ax0 Ax1_0 Ax1_1 Ax1_2 Ax1_3 : Nat → Int) (hB : fBase x0 x1 Y1 nx0 nx1 Ax0 Ax1_0 Ax1_1 Ax1_2 Ax1_3) (hJ : fJ0 nx0 nx1 y2 Ax0 Ax1_0 Ax1_1 Ax1_2 Ax1_3) (hH : Hyp.ok fH0_w4 (eVf x0 x1 Y1 nx0 nx1 y2 Ax0 Ax1_0 Ax1_1 Ax1_2 Ax1_3))  :
    LT.holds (eVf x0 x1 Y1 nx0 nx1 y2 Ax0 Ax1_0 Ax1_1 Ax1_2 Ax1_3) (fun v _ => retTrue (eVf x0 x1 Y1 nx0 nx1 y2 Ax0 Ax1_0 Ax1_1 Ax1_2 Ax1_3) v) (fun j' todo ρ' => (fhs[j']?.map (·.todo)) = some todo ∧ fInv x0 x1 Y1 j' ρ' ∧ fmu j' ρ' < fmu 0 (eVf x0 x1 Y1 nx0 nx1 y2 Ax0 Ax1_0 Ax1_1 Ax1_2 Ax1_3)) (.jump 0 fT0 ⟨[(2, f45)], [], []⟩) := by
  simp only [LT.holds, retTrue]
  have hB3 := hB
  have hJ3 := hJ
  simp only [fBase] at hB3
  obtain ⟨b0, b1, c0, c1, c2, c3, c4, en0, en1, ea0, ea1, ea2, ea3, ea4, hs, hx0, _⟩ := hB3
  simp only [fJ0] at hJ3
  obtain ⟨l2, i1, _⟩ := hJ3
  have fe : ∀ p ∈ fE0_w4, inR p.2 (p.1.i (eVf x0 x1 Y1 nx0 nx1 y2 Ax0 Ax1_0 Ax1_1 Ax1_2 Ax1_3)) := fun p hp => hH.e p (List.mem_append_left _ hp)
  have fb : ∀ p ∈ fQ0_w4, p.1.b (eVf x0 x1 Y1 nx0 nx1 y2 Ax0 Ax1_0 Ax1_1 Ax1_2 Ax1_3) = p.2 := fun p hp => hH.b p (List.mem_append_left _ hp)
  simp only [fE0_w4, fQ0_w4, List.forall_mem_cons, inR] at fe fb
  have ff := And.intro fe fb
  clear fe fb
  simp only [ndf, smf, snf, eVf] at ff
  refine ⟨fhT0, ⟨nx0, nx1, (_root_.Go.Sx.E.i (eVf x0 x1 Y1 nx0 nx1 y2 Ax0 Ax1_0 Ax1_1 Ax1_2 Ax1_3) f45), Ax0, Ax1_0, Ax1_1, Ax1_2, Ax1_3, (by kernel_rfl), hB, ?_⟩, ?_⟩
  ·
    simp only [fJ0]
    refine ⟨?_, ?_, trivial⟩
    all_goals (try simp only [ndf, smf, snf, eVf])
    all_goals omega
  simp only [fmu, Env.app, setAll, List.map_cons, List.map_nil, List.set, ndf, smf, snf, eVf]
  omega
def fE0_w5 : List (E × Rng) := [(f43, (5, 5))]
def fQ0_w5 : List (E × Bool) := [(f44, true)]
noncomputable def fH0_w5 : Hyp := { fh0.H with e := fE0_w5 ++ fh0.H.e, b := fQ0_w5 ++ fh0.H.b }
set_option maxHeartbeats 40000000 in
theorem fsg0_w5 : (segL Try.prog G Gh fD fhs [] 3000 0 5 { fh0 with H := fH0_w5 }).map LT.bare = some (.jump 0 fT0 ⟨[(2, f45)], [], []⟩) := by kernel_rfl
theorem fvc0_w5 (x0 : Ext) (x1 : Ext) (Y1 : Nat → Ext) (nx0 nx1 y2 : Int) (Ax0 Ax1_0 Ax1_1 Ax1_2 Ax1_3 : Nat → Int) (hB : fBase x0 x1 Y1 nx0 nx1 Ax0 Ax1_0 Ax1_1 Ax1_2 Ax1_3) (hJ : fJ0 nx0 nx1 y2 Ax0 Ax1_0 Ax1_1 Ax1_2 Ax1_3) (hH : Hyp.ok fH0_w5 (eVf x0 x1 Y1 nx0 nx1 y2 Ax0 Ax1_0 Ax1_1 Ax1_2 Ax1_3))  :
    LT.holds (eVf x0 x1 Y1 nx0 nx1 y2 Ax0 Ax1_0 Ax1_1 Ax1_2 Ax1_3) (fun v _ => retTrue (eVf x0 x1 Y1 nx0 nx1 y2 Ax0 Ax1_0 Ax1_1 Ax1_2 Ax1_3) v) (fun j' todo ρ' => (fhs[j']?.map (·.todo)) = some todo ∧ fInv x0 x1 Y1 j' ρ' ∧ fmu j' ρ' < fmu 0 (eVf x0 x1 Y1 nx0 nx1 y2 Ax0 Ax1_0 Ax1_1 Ax1_2 Ax1_3)) (.jump 0 fT0 ⟨[(2, f45)], [], []⟩) := by
  simp only [LT.holds, retTrue]
  have hB3 := hB
  have hJ3 := hJ
  simp only [fBase] at hB3
  obtain ⟨b0, b1, c0, c1, c2, c3, c4, en0, en1, ea0, ea1, ea2, ea3, ea4, hs, hx0, _⟩ := hB3
  simp only [fJ0] at hJ3
  obtain ⟨l2, i1, _⟩ := hJ3
  have fe : ∀ p ∈ fE0_w5, inR p.2 (p.1.i (eVf x0 x1 Y1 nx0 nx1 y2 Ax0 Ax1_0 Ax1_1 Ax1_2 Ax1_3)) := fun p hp => hH.e p (List.mem_append_left _ hp)
  have fb : ∀ p ∈ fQ0_w5, p.1.b (eVf x0 x1 Y1 nx0 nx1 y2 Ax0 Ax1_0 Ax1_1 Ax1_2 Ax1_3) = p.2 := fun p hp => hH.b p (List.mem_append_left _ hp)
  simp only [fE0_w5, fQ0_w5, List.forall_mem_cons, inR] at fe fb
  have ff := And.intro fe fb
  clear fe fb
  simp only [ndf, smf, snf, eVf] at ff
  refine ⟨fhT0, ⟨nx0, nx1, (_root_.Go.Sx.E.i (eVf x0 x1 Y1 nx0 nx1 y2 Ax0 Ax1_0 Ax1_1 Ax1_2 Ax1_3) f45), Ax0, Ax1_0, Ax1_1, Ax1_2, Ax1_3, (by kernel_rfl), hB, ?_⟩, ?_⟩
  ·
    simp only [fJ0]
    refine ⟨?_, ?_, trivial⟩
    all_goals (try simp only [ndf, smf, snf, eVf])
    all_goals omega
  simp only [fmu, Env.app, setAll, List.map_cons, List.map_nil, List.set, ndf, smf, snf, eVf]
  omega
def fE0_w6 : List (E × Rng) := [(f43, (6, 6))]
def fQ0_w6 : List (E × Bool) := [(f44, true)]
noncomputable def fH0_w6 : Hyp := { fh0.H with e := fE0_w6 ++ fh0.H.e, b := fQ0_w6 ++ fh0.H.b }
set_option maxHeartbeats 40000000 in
theorem fsg0_w6 : (segL Try.prog G Gh fD fhs [] 3000 0 5 { fh0 with H := fH0_w6 }).map LT.bare = some (.jump 0 fT0 ⟨[(2, f45)], [], []⟩) := by kernel_rfl
theorem fvc0_w6 (x0 : Ext) (x1 : Ext) (Y1 : Nat → Ext) (nx0 nx1 y2 : Int) (Ax0 Ax1_0 Ax1_1 Ax1_2 Ax1_3 : Nat → Int) (hB : fBase x0 x1 Y1 nx0 nx1 Ax0 Ax1_0 Ax1_1 Ax1_2 Ax1_3) (hJ : fJ0 nx0 nx1 y2 Ax0 Ax1_0 Ax1_1 Ax1_2 Ax1_3) (hH : Hyp.ok fH0_w6 (eVf x0 x1 Y1 nx0 nx1 y2 Ax0 Ax1_0 Ax1_1 Ax1_2 Ax1_3))  :
    LT.holds (eVf x0 x1 Y1 nx0 nx1 y2 Ax0 Ax1_0 Ax1_1 Ax1_2 Ax1_3) (fun v _ => retTrue (eVf x0 x1 Y1 nx0 nx1 y2 Ax0 Ax1_0 Ax1_1 Ax1_2 Ax1_3) v) (fun j' todo ρ' => (fhs[j']?.map (·.todo)) = some todo ∧ fInv x0 x1 Y1 j' ρ' ∧ fmu j' ρ' < fmu 0 (eVf x0 x1 Y1 nx0 nx1 y2 Ax0 Ax1_0 Ax1_1 Ax1_2 Ax1_3)) (.jump 0 fT0 ⟨[(2, f45)], [], []⟩) := by
  simp only [LT.holds, retTrue]
  have hB3 := hB
  have hJ3 := hJ
  simp only [fBase] at hB3
  obtain ⟨b0, b1, c0, c1, c2, c3, c4, en0, en1, ea0, ea1, ea2, ea3, ea4, hs, hx0, _⟩ := hB3
  simp only [fJ0] at hJ3
  obtain ⟨l2, i1, _⟩ := hJ3
  have fe : ∀ p ∈ fE0_w6, inR p.2 (p.1.i (eVf x0 x1 Y1 nx0 nx1 y2 Ax0 Ax1_0 Ax1_1 Ax1_2 Ax1_3)) := fun p hp => hH.e p (List.mem_append_left _ hp)
  have fb : ∀ p ∈ fQ0_w6, p.1.b (eVf x0 x1 Y1 nx0 nx1 y2 Ax0 Ax1_0 Ax1_1 Ax1_2 Ax1_3) = p.2 := fun p hp => hH.b p (List.mem_append_left _ hp)
  simp only [fE0_w6, fQ0_w6, List.forall_mem_cons, inR] at fe fb
  have ff := And.intro fe fb
  clear fe fb
  simp only [ndf, smf, snf, eVf] at ff
  refine ⟨fhT0, ⟨nx0, nx1, (_root_.Go.Sx.E.i (eVf x0 x1 Y1 nx0 nx1 y2 Ax0 Ax1_0 Ax1_1 Ax1_2 Ax1_3) f45), Ax0, Ax1_0, Ax1_1, Ax1_2, Ax1_3, (by kernel_rfl), hB, ?_⟩, ?_⟩
  ·
    simp only [fJ0]
    refine ⟨?_, ?_, trivial⟩
    all_goals (try simp only [ndf, smf, snf, eVf])
    all_goals omega
  simp only [fmu, Env.app, setAll, List.map_cons, List.map_nil, List.set, ndf, smf, snf, eVf]
  omega
def fE0_w7 : List (E × Rng) := [(f43, (7, 9223372036854775807))]
def fQ0_w7 : List (E × Bool) := [(f44, true)]
noncomputable def fH0_w7 : Hyp := { fh0.H with e := fE0_w7 ++ fh0.H.e, b := fQ0_w7 ++ fh0.H.b }
set_option maxHeartbeats 40000000 in
theorem fsg0_w7 : (segL Try.prog G Gh fD fhs [] 3000 0 5 { fh0 with H := fH0_w7 }).map LT.bare = some (.jump 0 fT0 ⟨[(2, f45)], [], []⟩) := by kernel_rfl
theorem fvc0_w7 (x0 : Ext) (x1 : Ext) (Y1 : Nat → Ext) (nx0 nx1 y2 : Int) (Ax0 Ax1_0 Ax1_1 Ax1_2 Ax1_3 : Nat → Int) (hB : fBase x0 x1 Y1 nx0 nx1 Ax0 Ax1_0 Ax1_1 Ax1_2 Ax1_3) (hJ : fJ0 nx0 nx1 y2 Ax0 Ax1_0 Ax1_1 Ax1_2 Ax1_3) (hH : Hyp.ok fH0_w7 (eVf x0 x1 Y1 nx0 nx1 y2 Ax0 Ax1_0 Ax1_1 Ax1_2 Ax1_3))  :
    LT.holds (eVf x0 x1 Y1 nx0 nx1 y2 Ax0 Ax1_0 Ax1_1 Ax1_2 Ax1_3) (fun v _ => retTrue (eVf x0 x1 Y1 nx0 nx1 y2 Ax0 Ax1_0 Ax1_1 Ax1_2 Ax1_3) v) (fun j' todo ρ' => (fhs[j']?.map (·.todo)) = some todo ∧ fInv x0 x1 Y1 j' ρ' ∧ fmu j' ρ' < fmu 0 (eVf x0 x1 Y1 nx0 nx1 y2 Ax0 Ax1_0 Ax1_1 Ax1_2 Ax1_3)) (.jump 0 fT0 ⟨[(2, f45)], [], []⟩) := by
  simp only [LT.holds, retTrue]
  have hB3 := hB
  have hJ3 := hJ
  simp only [fBase] at hB3
  obtain ⟨b0, b1, c0, c1, c2, c3, c4, en0, en1, ea0, ea1, ea2, ea3, ea4, hs, hx0, _⟩ := hB3
  simp only [fJ0] at hJ3
  obtain ⟨l2, i1, _⟩ := hJ3
  have fe : ∀ p ∈ fE0_w7, inR p.2 (p.1.i (eVf x0 x1 Y1 nx0 nx1 y2 Ax0 Ax1_0 Ax1_1 Ax1_2 Ax1_3)) := fun p hp => hH.e p (List.mem_append_left _ hp)
  have fb : ∀ p ∈ fQ0_w7, p.1.b (eVf x0 x1 Y1 nx0 nx1 y2 Ax0 Ax1_0 Ax1_1 Ax1_2 Ax1_3) = p.2 := fun p hp => hH.b p (List.mem_append_left _ hp)
  simp only [fE0_w7, fQ0_w7, List.forall_mem_cons, inR] at fe fb
  have ff := And.intro fe fb
  clear fe fb
  simp only [ndf, smf, snf, eVf] at ff
  refine ⟨fhT0, ⟨nx0, nx1, (_root_.Go.Sx.E.i (eVf x0 x1 Y1 nx0 nx1 y2 Ax0 Ax1_0 Ax1_1 Ax1_2 Ax1_3) f45), Ax0, Ax1_0, Ax1_1, Ax1_2, Ax1_3, (by kernel_rfl), hB, ?_⟩, ?_⟩
  ·
    simp only [fJ0]
    refine ⟨?_, ?_, trivial⟩
    all_goals (try simp only [ndf, smf, snf, eVf])
    all_goals omega
  simp only [fmu, Env.app, setAll, List.map_cons, List.map_nil, List.set, ndf, smf, snf, eVf]
  omega
def fE0_wm : List (E × Rng) := [(f43, ((-9223372036854775808), (-1)))]
def fQ0_wm : List (E × Bool) := [(f44, true)]
noncomputable def fH0_wm : Hyp := { fh0.H with e := fE0_wm ++ fh0.H.e, b := fQ0_wm ++ fh0.H.b }
set_option maxHeartbeats 40000000 in
theorem fsg0_wm : (segL Try.prog G Gh fD fhs [] 3000 0 5 { fh0 with H := fH0_wm }).map LT.bare = some (.jump 0 fT0 ⟨[(2, f45)], [], []⟩) := by kernel_rfl
theorem fvc0_wm (x0 : Ext) (x1 : Ext) (Y1 : Nat → Ext) (nx0 nx1 y2 : Int) (Ax0 Ax1_0 Ax1_1 Ax1_2 Ax1_3 : Nat → Int) (hB : fBase x0 x1 Y1 nx0 nx1 Ax0 Ax1_0 Ax1_1 Ax1_2 Ax1_3) (hJ : fJ0 nx0 nx1 y2 Ax0 Ax1_0 Ax1_1 Ax1_2 Ax1_3) (hH : Hyp.ok fH0_wm (eVf x0 x1 Y1 nx0 nx1 y2 Ax0 Ax1_0 Ax1_1 Ax1_2 Ax1_3))  :
    LT.holds (eVf x0 x1 Y1 nx0 nx1 y2 Ax0 Ax1_0 Ax1_1 Ax1_2 Ax1_3) (fun v _ => retTrue (eVf x0 x1 Y1 nx0 nx1 y2 Ax0 Ax1_0 Ax1_1 Ax1_2 Ax1_3) v) (fun j' todo ρ' => (fhs[j']?.map (·.todo)) = some todo ∧ fInv x0 x1 Y1 j' ρ' ∧ fmu j' ρ' < fmu 0 (eVf x0 x1 Y1 nx0 nx1 y2 Ax0 Ax1_0 Ax1_1 Ax1_2 Ax1_3)) (.jump 0 fT0 ⟨[(2, f45)], [], []⟩) := by
  simp only [LT.holds, retTrue]
  have hB3 := hB
  have hJ3 := hJ
  simp only [fBase] at hB3
  obtain ⟨b0, b1, c0, c1, c2, c3, c4, en0, en1, ea0, ea1, ea2, ea3, ea4, hs, hx0, _⟩ := hB3
  simp only [fJ0] at hJ3
  obtain ⟨l2, i1, _⟩ := hJ3
  have fe : ∀ p ∈ fE0_wm, inR p.2 (p.1.i (eVf x0 x1 Y1 nx0 nx1 y2 Ax0 Ax1_0 Ax1_1 Ax1_2 Ax1_3)) := fun p hp => hH.e p (List.mem_append_left _ hp)
  have fb : ∀ p ∈ fQ0_wm, p.1.b (eVf x0 x1 Y1 nx0 nx1 y2 Ax0 Ax1_0 Ax1_1 Ax1_2 Ax1_3) = p.2 := fun p hp => hH.b p (List.mem_append_left _ hp)
  simp only [fE0_wm, fQ0_wm, List.forall_mem_cons, inR] at fe fb
  have ff := And.intro fe fb
  clear fe fb
  simp only [ndf, smf, snf, eVf] at ff
  refine ⟨fhT0, ⟨nx0, nx1, (_root_.Go.Sx.E.i (eVf x0 x1 Y1 nx0 nx1 y2 Ax0 Ax1_0 Ax1_1 Ax1_2 Ax1_3) f45), Ax0, Ax1_0, Ax1_1, Ax1_2, Ax1_3, (by kernel_rfl), hB, ?_⟩, ?_⟩
  ·
    simp only [fJ0]
    refine ⟨?_, ?_, trivial⟩
    all_goals (try simp only [ndf, smf, snf, eVf])
    all_goals omega
  simp only [fmu, Env.app, setAll, List.map_cons, List.map_nil, List.set, ndf, smf, snf, eVf]
  omega
def fE0_x : List (E × Rng) := []
def fQ0_x : List (E × Bool) := [(f44, false)]
noncomputable def fH0_x : Hyp := { fh0.H with e := fE0_x ++ fh0.H.e, b := fQ0_x ++ fh0.H.b }
set_option maxHeartbeats 40000000 in
theorem fsg0_x : (segL Try.prog G Gh fD fhs [] 3000 0 5 { fh0 with H := fH0_x }).map LT.bare = some (.ret (.s (.bool (.blit true))) []) := by kernel_rfl
theorem fvc0_x (x0 : Ext) (x1 : Ext) (Y1 : Nat → Ext) (nx0 nx1 y2 : Int) (Ax0 Ax1_0 Ax1_1 Ax1_2 Ax1_3 : Nat → Int) (hB : fBase x0 x1 Y1 nx0 nx1 Ax0 Ax1_0 Ax1_1 Ax1_2 Ax1_3) (hJ : fJ0 nx0 nx1 y2 Ax0 Ax1_0 Ax1_1 Ax1_2 Ax1_3) (hH : Hyp.ok fH0_x (eVf x0 x1 Y1 nx0 nx1 y2 Ax0 Ax1_0 Ax1_1 Ax1_2 Ax1_3))  :
    LT.holds (eVf x0 x1 Y1 nx0 nx1 y2 Ax0 Ax1_0 Ax1_1 Ax1_2 Ax1_3) (fun v _ => retTrue (eVf x0 x1 Y1 nx0 nx1 y2 Ax0 Ax1_0 Ax1_1 Ax1_2 Ax1_3) v) (fun j' todo ρ' => (fhs[j']?.map (·.todo)) = some todo ∧ fInv x0 x1 Y1 j' ρ' ∧ fmu j' ρ' < fmu 0 (eVf x0 x1 Y1 nx0 nx1 y2 Ax0 Ax1_0 Ax1_1 Ax1_2 Ax1_3)) (.ret (.s (.bool (.blit true))) []) := by
  simp only [LT.holds, retTrue]
  have hB3 := hB
  have hJ3 := hJ
  simp only [fBase] at hB3
  obtain ⟨b0, b1, c0, c1, c2, c3, c4, en0, en1, ea0, ea1, ea2, ea3, ea4, hs, hx0, _⟩ := hB3
  simp only [fJ0] at hJ3
  obtain ⟨l2, i1, _⟩ := hJ3
  have fe : ∀ p ∈ fE0_x, inR p.2 (p.1.i (eVf x0 x1 Y1 nx0 nx1 y2 Ax0 Ax1_0 Ax1_1 Ax1_2 Ax1_3)) := fun p hp => hH.e p (List.mem_append_left _ hp)
  have fb : ∀ p ∈ fQ0_x, p.1.b (eVf x0 x1 Y1 nx0 nx1 y2 Ax0 Ax1_0 Ax1_1 Ax1_2 Ax1_3) = p.2 := fun p hp => hH.b p (List.mem_append_left _ hp)
  simp only [fE0_x, fQ0_x, List.forall_mem_cons, inR] at fe fb
  have ff := And.intro fe fb
  clear fe fb
  simp only [ndf, smf, snf, eVf] at ff
  rfl
theorem fcalls (x0 : Ext) (x1 : Ext) (Y1 : Nat → Ext) (hex0 : ((x0.n : Int)) = 13) (w : World) (g0 : XFit x0 w [some .u8]) (g1 : PFit x1 Y1 w) :
    Calls Try.prog 5 #[x0.v, x1.v] w fun r w' => r = .returned (.bool true) ∧ Below w.heap.size w w' := by
  have hx0 : SV.conc (⟨[(x0.n : Int), (x1.n : Int), 0], [], [xArr x0 1 0, xArr x1 3 0, xArr x1 3 1, nLen Y1, nArr Y1], [], Iv (fun i j => match i, j with | 0, 0 => x0 | 1, 0 => x1 | 2, j => Y1 j | _, _ => Ext.none)⟩ : Env) Loc.id (.s (.xslc 0 (.lit 0) (.lit 0) (.lit 13))) = x0.v := conc_ext g0 rfl hex0.symm
  have hx1 : SV.conc (⟨[(x0.n : Int), (x1.n : Int), 0], [], [xArr x0 1 0, xArr x1 3 0, xArr x1 3 1, nLen Y1, nArr Y1], [], Iv (fun i j => match i, j with | 0, 0 => x0 | 1, 0 => x1 | 2, j => Y1 j | _, _ => Ext.none)⟩ : Env) Loc.id (.s (.xslc 1 (.lit 0) (.lit 0) (.v 1))) = x1.v := conc_extP g1 rfl rfl
  have hargs : (fLs.map (SV.conc (⟨[(x0.n : Int), (x1.n : Int), 0], [], [xArr x0 1 0, xArr x1 3 0, xArr x1 3 1, nLen Y1, nArr Y1], [], Iv (fun i j => match i, j with | 0, 0 => x0 | 1, 0 => x1 | 2, j => Y1 j | _, _ => Ext.none)⟩ : Env) Loc.id)).toArray = #[x0.v, x1.v] := by
    refine congrArg List.toArray ?_
    exact (cons_eq hx0 (cons_eq hx1 rfl))
  rw [← hargs]
  have hok : Hyp.ok fHy (⟨[(x0.n : Int), (x1.n : Int), 0], [], [xArr x0 1 0, xArr x1 3 0, xArr x1 3 1, nLen Y1, nArr Y1], [], Iv (fun i j => match i, j with | 0, 0 => x0 | 1, 0 => x1 | 2, j => Y1 j | _, _ => Ext.none)⟩ : Env) := by
    refine ⟨?_, ?_, ?_, (fun p hp is bs xs => by simp only [fHy, List.mem_cons, List.not_mem_nil, or_false] at hp; subst hp; exact sumF_rng _ _), ?_, by simp [fHy]⟩
    · intro p hp
      simp only [fHy, List.mem_cons, List.not_mem_nil, or_false] at hp
      rcases hp with rfl | rfl
      · exact xi_ok g0 rfl hex0.symm rfl
      · exact (xi_okP (n := .v 1) g1 rfl (fun _ => rfl) rfl rfl rfl rfl rfl)
    · intro p hp
      simp only [fHy, List.mem_cons, List.not_mem_nil, or_false] at hp
      rcases hp with rfl | rfl | rfl
      · exact (by have hx := hex0; first | exact ⟨Int.le_of_eq hx.symm, Int.le_of_eq hx⟩ | exact hx)
      · exact xlen_rng g0
      · exact plen_rng g1
    · intro p hp
      simp only [fHy, List.mem_cons, List.not_mem_nil, or_false] at hp
      rcases hp with rfl | rfl | rfl | rfl | rfl
      · exact xArr_rng g0
      · exact pnum_rng g1.1 0 (by decide)
      · exact pnum_rng g1.1 1 (by decide)
      · exact nLen_rng g1
      · exact nArr_rng g1.1
    · simp [fHy]
  refine law_loops3 (u := 0) (u0 := 0) (D := fD) (hs := fhs) (ρ := (⟨[(x0.n : Int), (x1.n : Int), 0], [], [xArr x0 1 0, xArr x1 3 0, xArr x1 3 1, nLen Y1, nArr Y1], [], Iv (fun i j => match i, j with | 0, 0 => x0 | 1, 0 => x1 | 2, j => Y1 j | _, _ => Ext.none)⟩ : Env)) (G_ok _) (by kernel_rfl) rfl (fInv x0 x1 Y1 ) fmu fst rfl ⟨rfl, rfl, rfl⟩ hok (fvcS x0 x1 Y1 ((x0.n : Int)) ((x1.n : Int)) (xArr x0 1 0) (xArr x1 3 0) (xArr x1 3 1) (nLen Y1) (nArr Y1) ⟨xlen_rng g0, plen_rng g1, xArr_rng g0, pnum_rng g1.1 0 (by decide), pnum_rng g1.1 1 (by decide), nLen_rng g1, nArr_rng g1.1, rfl, rfl, rfl, rfl, rfl, rfl, rfl, g1.sum, hex0, trivial⟩) ?_ w (fun i j => by rcases i with _ | _ | _ | i <;> rcases j with _ | j <;> first | exact Ext.none_ok _ | exact g0.ok | exact g1.ok | exact (g1.row _).ok)
  intro j h ρ hj hI hz hInv
  rcases j with _ | j
  · simp only [fhs, List.getElem?_cons_zero, List.getElem?_cons_succ, Option.some.injEq] at hj; subst hj
    obtain ⟨nx0, nx1, y2, Ax0, Ax1_0, Ax1_1, Ax1_2, Ax1_3, rfl, hB, hJ⟩ := hInv
    have hok2 : Hyp.ok fh0.H (⟨[nx0, nx1, y2], [], [Ax0, Ax1_0, Ax1_1, Ax1_2, Ax1_3], [], Iv (fun i j => match i, j with | 0, 0 => x0 | 1, 0 => x1 | 2, j => Y1 j | _, _ => Ext.none)⟩ : Env) := by
      have hB2 := hB; have hJ2 := hJ
      simp only [fBase] at hB2; simp only [fJ0] at hJ2
      obtain ⟨hb0, hb1, hb2, hb3, hb4, hb5, hb6, hn0, hn1, ha0_0, ha1_0, ha1_1, ha1_2, ha1_3, hsum1, hex0, _⟩ := hB2
      obtain ⟨hl0, hx, _⟩ := hJ2
      refine ⟨?_, ?_, ?_, (fun p hp is bs xs => by simp only [fh0, List.mem_cons, List.not_mem_nil, or_false] at hp; subst hp; exact sumF_rng _ _), ?_, by simp [fh0]⟩
      · intro p hp
        simp only [fh0, List.mem_cons, List.not_mem_nil, or_false] at hp
        rcases hp with rfl | rfl
        · exact xi_ok g0 rfl (Eq.trans hex0.symm hn0) ha0_0
        · exact (xi_okP (n := .v 1) g1 rfl (fun _ => rfl) hn1 ha1_0 ha1_1 ha1_2 ha1_3)
      · intro p hp
        simp only [fh0, List.mem_cons, List.not_mem_nil, or_false] at hp
        rcases hp with rfl | rfl | rfl | rfl
        · exact (by have hx := hex0; first | exact ⟨Int.le_of_eq hx.symm, Int.le_of_eq hx⟩ | exact hx)
        · exact hb0
        · exact hb1
        · exact hl0
      · intro p hp
        simp only [fh0, List.mem_cons, List.not_mem_nil, or_false] at hp
        rcases hp with rfl | rfl | rfl | rfl | rfl
        · exact hb2
        · exact hb3
        · exact hb4
        · exact hb5
        · exact hb6
      · simp [fh0]
    have hB3 := hB
    have hJ3 := hJ
    simp only [fBase] at hB3
    obtain ⟨b0, b1, c0, c1, c2, c3, c4, en0, en1, ea0, ea1, ea2, ea3, ea4, hs, hx0, _⟩ := hB3
    simp only [fJ0] at hJ3
    obtain ⟨l2, i1, _⟩ := hJ3
    have dw := c1 y2.toNat
    rcases (show y2 < nx1 ∨ ¬ y2 < nx1 by omega) with g | g
    · rcases (show (Ax1_0 y2.toNat = 0) ∨ (Ax1_0 y2.toNat = 1) ∨ (Ax1_0 y2.toNat = 2) ∨ (Ax1_0 y2.toNat = 3) ∨ (Ax1_0 y2.toNat = 4) ∨ (Ax1_0 y2.toNat = 5) ∨ (Ax1_0 y2.toNat = 6) ∨ (7 ≤ Ax1_0 y2.toNat ∧ Ax1_0 y2.toNat ≤ 9223372036854775807) ∨ (-9223372036854775808 ≤ Ax1_0 y2.toNat ∧ Ax1_0 y2.toNat ≤ -1) by omega) with hw | hw | hw | hw | hw | hw | hw | hw | hw
      · exact (fun h => ⟨_, h, LT.of_bare fsg0_w0 (fvc0_w0 x0 x1 Y1 nx0 nx1 y2 Ax0 Ax1_0 Ax1_1 Ax1_2 Ax1_3 hB hJ h)⟩) (Hyp.more hok2 _ _
         (fun p hp => by
          simp only [fE0_w0, fQ0_w0, List.mem_cons, List.not_mem_nil, or_false] at hp
          rcases hp with rfl
          all_goals (simp only [inR, ndf, smf, snf, eVf]; omega))
         (fun p hp => by
          simp only [fE0_w0, fQ0_w0, List.mem_cons, List.not_mem_nil, or_false] at hp
          rcases hp with rfl
          all_goals (simp only [ndf, smf, snf, eVf]; omega)) : Hyp.ok fH0_w0 _)
      · exact (fun h => ⟨_, h, LT.of_bare fsg0_w1 (fvc0_w1 x0 x1 Y1 nx0 nx1 y2 Ax0 Ax1_0 Ax1_1 Ax1_2 Ax1_3 hB hJ h)⟩) (Hyp.more hok2 _ _
         (fun p hp => by
          simp only [fE0_w1, fQ0_w1, List.mem_cons, List.not_mem_nil, or_false] at hp
          rcases hp with rfl
          all_goals (simp only [inR, ndf, smf, snf, eVf]; omega))
         (fun p hp => by
          simp only [fE0_w1, fQ0_w1, List.mem_cons, List.not_mem_nil, or_false] at hp
          rcases hp with rfl
          all_goals (simp only [ndf, smf, snf, eVf]; omega)) : Hyp.ok fH0_w1 _)
      · exact (fun h => ⟨_, h, LT.of_bare fsg0_w2 (fvc0_w2 x0 x1 Y1 nx0 nx1 y2 Ax0 Ax1_0 Ax1_1 Ax1_2 Ax1_3 hB hJ h)⟩) (Hyp.more hok2 _ _
         (fun p hp => by
          simp only [fE0_w2, fQ0_w2, List.mem_cons, List.not_mem_nil, or_false] at hp
          rcases hp with rfl
          all_goals (simp only [inR, ndf, smf, snf, eVf]; omega))
         (fun p hp => by
          simp only [fE0_w2, fQ0_w2, List.mem_cons, List.not_mem_nil, or_false] at hp
          rcases hp with rfl
          all_goals (simp only [ndf, smf, snf, eVf]; omega)) : Hyp.ok fH0_w2 _)
      · exact (fun h => ⟨_, h, LT.of_bare fsg0_w3 (fvc0_w3 x0 x1 Y1 nx0 nx1 y2 Ax0 Ax1_0 Ax1_1 Ax1_2 Ax1_3 hB hJ h)⟩) (Hyp.more hok2 _ _
         (fun p hp => by
          simp only [fE0_w3, fQ0_w3, List.mem_cons, List.not_mem_nil, or_false] at hp
          rcases hp with rfl
          all_goals (simp only [inR, ndf, smf, snf, eVf]; omega))
         (fun p hp => by
          simp only [fE0_w3, fQ0_w3, List.mem_cons, List.not_mem_nil, or_false] at hp
          rcases hp with rfl
          all_goals (simp only [ndf, smf, snf, eVf]; omega)) : Hyp.ok fH0_w3 _)
      · exact (fun h => ⟨_, h, LT.of_bare fsg0_w4 (fvc0_w4 x0 x1 Y1 nx0 nx1 y2 Ax0 Ax1_0 Ax1_1 Ax1_2 Ax1_3 hB hJ h)⟩) (Hyp.more hok2 _ _
         (fun p hp => by
          simp only [fE0_w4, fQ0_w4, List.mem_cons, List.not_mem_nil, or_false] at hp
          rcases hp with rfl
          all_goals (simp only [inR, ndf, smf, snf, eVf]; omega))
         (fun p hp => by
          simp only [fE0_w4, fQ0_w4, List.mem_cons, List.not_mem_nil, or_false] at hp
          rcases hp with rfl
          all_goals (simp only [ndf, smf, snf, eVf]; omega)) : Hyp.ok fH0_w4 _)
      · exact (fun h => ⟨_, h, LT.of_bare fsg0_w5 (fvc0_w5 x0 x1 Y1 nx0 nx1 y2 Ax0 Ax1_0 Ax1_1 Ax1_2 Ax1_3 hB hJ h)⟩) (Hyp.more hok2 _ _
         (fun p hp => by
          simp only [fE0_w5, fQ0_w5, List.mem_cons, List.not_mem_nil, or_false] at hp
          rcases hp with rfl
          all_goals (simp only [inR, ndf, smf, snf, eVf]; omega))
         (fun p hp => by
          simp only [fE0_w5, fQ0_w5, List.mem_cons, List.not_mem_nil, or_false] at hp
          rcases hp with rfl
          all_goals (simp only [ndf, smf, snf, eVf]; omega)) : Hyp.ok fH0_w5 _)
      · exact (fun h => ⟨_, h, LT.of_bare fsg0_w6 (fvc0_w6 x0 x1 Y1 nx0 nx1 y2 Ax0 Ax1_0 Ax1_1 Ax1_2 Ax1_3 hB hJ h)⟩) (Hyp.more hok2 _ _
         (fun p hp => by
          simp only [fE0_w6, fQ0_w6, List.mem_cons, List.not_mem_nil, or_false] at hp
          rcases hp with rfl
          all_goals (simp only [inR, ndf, smf, snf, eVf]; omega))
         (fun p hp => by
          simp only [fE0_w6, fQ0_w6, List.mem_cons, List.not_mem_nil, or_false] at hp
          rcases hp with rfl
          all_goals (simp only [ndf, smf, snf, eVf]; omega)) : Hyp.ok fH0_w6 _)
      · exact (fun h => ⟨_, h, LT.of_bare fsg0_w7 (fvc0_w7 x0 x1 Y1 nx0 nx1 y2 Ax0 Ax1_0 Ax1_1 Ax1_2 Ax1_3 hB hJ h)⟩) (Hyp.more hok2 _ _
         (fun p hp => by
          simp only [fE0_w7, fQ0_w7, List.mem_cons, List.not_mem_nil, or_false] at hp
          rcases hp with rfl
          all_goals (simp only [inR, ndf, smf, snf, eVf]; omega))
         (fun p hp => by
          simp only [fE0_w7, fQ0_w7, List.mem_cons, List.not_mem_nil, or_false] at hp
          rcases hp with rfl
          all_goals (simp only [ndf, smf, snf, eVf]; omega)) : Hyp.ok fH0_w7 _)
      · exact (fun h => ⟨_, h, LT.of_bare fsg0_wm (fvc0_wm x0 x1 Y1 nx0 nx1 y2 Ax0 Ax1_0 Ax1_1 Ax1_2 Ax1_3 hB hJ h)⟩) (Hyp.more hok2 _ _
         (fun p hp => by
          simp only [fE0_wm, fQ0_wm, List.mem_cons, List.not_mem_nil, or_false] at hp
          rcases hp with rfl
          all_goals (simp only [inR, ndf, smf, snf, eVf]; omega))
         (fun p hp => by
          simp only [fE0_wm, fQ0_wm, List.mem_cons, List.not_mem_nil, or_false] at hp
          rcases hp with rfl
          all_goals (simp only [ndf, smf, snf, eVf]; omega)) : Hyp.ok fH0_wm _)
    · exact (fun h => ⟨_, h, LT.of_bare fsg0_x (fvc0_x x0 x1 Y1 nx0 nx1 y2 Ax0 Ax1_0 Ax1_1 Ax1_2 Ax1_3 hB hJ h)⟩) (Hyp.more hok2 _ _
       (fun p hp => by cases hp)
       (fun p hp => by
        simp only [fE0_x, fQ0_x, List.mem_cons, List.not_mem_nil, or_false] at hp
        rcases hp with rfl
        all_goals (simp only [ndf, smf, snf, eVf]; omega)) : Hyp.ok fH0_x _)
  · simp [fhs] at hj
end Go.Proofs.Ytflamojcdfmimaa.SaveReads
