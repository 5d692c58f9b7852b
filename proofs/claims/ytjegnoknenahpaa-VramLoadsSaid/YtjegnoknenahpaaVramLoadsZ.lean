/- An argument, and how one is opened: for of the law VramLoads, which returns true for every input. A state that is handed in is taken just if it can be; else the memories have not changed; it is saved as the same bytes. No condition. -/
import Derived.Test.YtjegnoknenahpaaVramLoads0
import Derived.Test.YtjegnoknenahpaaRows
namespace Go.Proofs.Ytjegnoknenahpaa.VramLoads
open Go.Sx Go.ChangeShapes Go.WideShapes Go.ChangeAt Go.RowKit
set_option linter.unusedVariables false
set_option linter.unusedSimpArgs false
set_option maxRecDepth 100000
theorem mapM_const {α β : Type} {f : α → Option β} {c : β} : ∀ (l : List α), (∀ x ∈ l, f x = some c) → l.mapM f = some (List.replicate l.length c)
  | [], _ => rfl
  | x :: l, h => by
    rw [List.mapM_cons, h x (.head _), mapM_const l (fun y hy => h y (.tail _ hy))]
    rfl
section
variable {H : Type} {enc : TypeId × Value → H} {P : Program} {w : World} {base : Nat} {spare : Nat → Bool} {held : Bool}
theorem trod_int {e : TypeId} {k : IntKind} {f : Nat} (hu : P.underlying e = some (.int k)) : DataW.trod enc P w base spare held (f + 1) e [.int k 0] = some (.lit (.int k 0), []) := by
  simp only [DataW.trod, hu]
  rw [if_pos ⟨trivial, by cases k <;> rfl⟩]
theorem trod_bool {e : TypeId} {f : Nat} (hu : P.underlying e = some .bool) : DataW.trod enc P w base spare held (f + 1) e [.bool false] = some (.lit (.bool false), []) := by
  simp only [DataW.trod, hu]
theorem trod_arr {t e : TypeId} {n : Nat} {k : IntKind} {f : Nat} (ht : P.underlying t = some (.array n e)) (hc : P.cellsOf t = n) (he : P.underlying e = some (.int k)) (h1 : P.cellsOf e = 1) :
    DataW.trod enc P w base spare held (f + 2) t (List.replicate n (.int k 0)) = some (.agg (List.replicate n (.lit (.int k 0))), []) := by
  have hf : ∀ i ∈ List.range n, DataW.trod enc P w base spare held (f + 1) e (((List.replicate n (Value.int k 0)).drop (i * P.cellsOf e)).take (P.cellsOf e)) = some (.lit (.int k 0), []) := by
    intro i hi
    have := List.mem_range.1 hi
    rw [h1, Nat.mul_one, List.drop_replicate, List.take_replicate, show min 1 (n - i) = 1 by omega]
    exact trod_int he
  have hm := mapM_const _ hf
  unfold DataW.trod
  rw [ht]
  dsimp only
  rw [if_pos (by simp [hc]), hm]
  simp [List.map_replicate]
theorem trod_str {t : TypeId} {fs : Array Field} {f : Nat} {cs : List Value} {xs : List (DataW H × List MemPlace)} (ht : P.underlying t = some (.struct fs)) (hl : cs.length = P.cellsOf t)
    (hx : fs.toList.mapM (fun g => DataW.trod enc P w base spare held f g.type ((cs.drop g.offset).take (P.cellsOf g.type))) = some xs) :
    DataW.trod enc P w base spare held (f + 1) t cs = some (.agg (xs.map (·.1)), xs.flatMap (·.2)) := by
  unfold DataW.trod
  rw [ht]
  dsimp only
  rw [if_pos hl, hx]
  rfl
theorem weights_lits (e : TypeId) (k : IntKind) : ∀ n, DataW.weightsAll P e (List.replicate n (DataW.lit (H := H) (.int k 0))) = []
  | 0 => by simp [DataW.weightsAll]
  | n + 1 => by rw [List.replicate_succ, DataW.weightsAll, weights_lits e k n]; simp [DataW.weights]
end
/-- cells and their types: so many of each -/
def zTs (L : List (Nat × TypeId × Value)) : List TypeId := L.flatMap fun p => List.replicate p.1 p.2.1
def zCs (L : List (Nat × TypeId × Value)) : List Value := L.flatMap fun p => List.replicate p.1 p.2.2
theorem z_len (L : List (Nat × TypeId × Value)) : (zTs L).length = (zCs L).length := by
  induction L with
  | nil => rfl
  | cons p L ih => simp only [zTs, zCs, List.flatMap_cons, List.length_append, List.length_replicate] at *; omega
theorem z_at {ok : TypeId → Value → Prop} : ∀ (L : List (Nat × TypeId × Value)), (∀ p ∈ L, ok p.2.1 p.2.2) → ∀ (i : Nat) (v : Value), (zCs L)[i]? = some v → ∃ u, (zTs L)[i]? = some u ∧ ok u v
  | [], _, i, v, h => by simp [zCs] at h
  | p :: L, hL, i, v, h => by
    have e1 : zCs (p :: L) = List.replicate p.1 p.2.2 ++ zCs L := rfl
    have e2 : zTs (p :: L) = List.replicate p.1 p.2.1 ++ zTs L := rfl
    rw [e1] at h
    rw [e2]
    by_cases hi : i < p.1
    · rw [List.getElem?_append_left (by simpa using hi)] at h ⊢
      rw [List.getElem?_replicate, if_pos hi, Option.some.injEq] at h
      subst h
      exact ⟨p.2.1, by rw [List.getElem?_replicate, if_pos hi], hL p (.head _)⟩
    · rw [List.getElem?_append_right (by simpa using hi)] at h ⊢
      rw [List.length_replicate] at h ⊢
      exact z_at L (fun q hq => hL q (.tail _ hq)) _ v h
theorem ct_leaf {P : Program} {d : Nat} {t : TypeId} {T : TypeDesc} (hu : P.underlying t = some T) (h1 : ∀ fs, T ≠ .struct fs) (h2 : ∀ n e, T ≠ .array n e) : P.cellTypes (d + 1) t = some [t] := by
  rw [Program.cellTypes, hu]
  cases T <;> simp_all
theorem ct_arr {P : Program} {d n : Nat} {t e : TypeId} (hu : P.underlying t = some (.array n e)) (he : P.cellTypes d e = some [e]) : P.cellTypes (d + 1) t = some (List.replicate n e) := by
  rw [Program.cellTypes]
  simp only [hu, he, Option.map_some]
  congr 1
  clear hu
  induction n with
  | zero => rfl
  | succ n ih => rw [List.replicate_succ, List.flatten_cons, ih, List.replicate_succ]; rfl
theorem ct_str {P : Program} {d : Nat} {t : TypeId} {fs : Array Field} {xs : List (List TypeId)} (hu : P.underlying t = some (.struct fs)) (hx : fs.toList.mapM (fun f => P.cellTypes d f.type) = some xs) : P.cellTypes (d + 1) t = some xs.flatten := by
  rw [Program.cellTypes]
  simp only [hu, hx, Option.map_some]
def zL : List (Nat × TypeId × Value) := [(32768, 22, .int .u16 0), (544, 5, .int .u8 0), (256, 22, .int .u16 0), (1, 3, .int .i64 0), (1, 4, .bool false), (1, 3, .int .i64 0), (1, 5, .int .u8 0), (1, 5, .int .u8 0), (1, 3, .int .i64 0), (1, 22, .int .u16 0), (1, 3, .int .i64 0), (1, 5, .int .u8 0)]
def zTl : List Value := [.int .i64 0, .bool false, .int .i64 0, .int .u8 0, .int .u8 0, .int .i64 0, .int .u16 0, .int .i64 0, .int .u8 0]
def zA : List Value := List.replicate 32768 (.int .u16 0)
def zB : List Value := List.replicate 544 (.int .u8 0)
def zC : List Value := List.replicate 256 (.int .u16 0)
def zV : List Value := zA ++ (zB ++ (zC ++ []))
def zAll : List Value := zV ++ zTl
theorem zV_len : zV.length = 33568 := by simp only [zV, zA, zB, zC, List.length_append, List.length_replicate, List.length_nil]
theorem zCs_eq : zCs zL = zAll := by
  simp only [zCs, zL, List.flatMap_cons, List.flatMap_nil, zAll, zV, zA, zB, zC, zTl, List.append_assoc, List.append_nil, ]
  rfl
theorem zc36 : Try.prog.cellsOf 36 = 32768 := by kernel_rfl
theorem zc37 : Try.prog.cellsOf 37 = 544 := by kernel_rfl
theorem zc38 : Try.prog.cellsOf 38 = 256 := by kernel_rfl
theorem zc40 : Try.prog.cellsOf 40 = 33568 := by kernel_rfl
theorem zc43 : Try.prog.cellsOf 43 = 33577 := by kernel_rfl
theorem zc3 : Try.prog.cellsOf 3 = 1 := by kernel_rfl
theorem zc4 : Try.prog.cellsOf 4 = 1 := by kernel_rfl
theorem zc5 : Try.prog.cellsOf 5 = 1 := by kernel_rfl
theorem zc22 : Try.prog.cellsOf 22 = 1 := by kernel_rfl
theorem zA_len : zA.length = 32768 := by rw [zA, List.length_replicate]
theorem zB_len : zB.length = 544 := by rw [zB, List.length_replicate]
theorem zC_len : zC.length = 256 := by rw [zC, List.length_replicate]
theorem zAll_take : zAll.take 33568 = zV := by rw [zAll]; exact List.take_left' zV_len
theorem zAll_len : zAll.length = 33577 := by rw [zAll, List.length_append, zV_len]; rfl
theorem seg_at {A B C : List Value} {o n : Nat} (hA : A.length = o) (hB : B.length = n) : ((A ++ (B ++ C)).drop o).take n = B := by
  subst hA; subst hB
  rw [List.drop_left, List.take_left]
theorem seg_tl {V T : List Value} {l j : Nat} (hV : V.length = l) : (V ++ T).drop (l + j) = T.drop j := by
  subst hV
  rw [← List.drop_drop, List.drop_left]
theorem zctv {d : Nat} {r1 r2 r3 : List TypeId} (h1 : Try.prog.cellTypes d 36 = some r1) (h2 : Try.prog.cellTypes d 37 = some r2) (h3 : Try.prog.cellTypes d 38 = some r3) : Try.prog.cellTypes (d + 1) 40 = some [r1, r2, r3].flatten :=
  ct_str Try.underlying40 (by simp [h1, h2, h3])
theorem zctm {d : Nat} {r : List TypeId} (h : Try.prog.cellTypes d 40 = some r) (h3 : Try.prog.cellTypes d 3 = some [3]) (h4 : Try.prog.cellTypes d 4 = some [4]) (h5 : Try.prog.cellTypes d 5 = some [5]) (h22 : Try.prog.cellTypes d 22 = some [22]) : Try.prog.cellTypes (d + 1) 43 = some [r, [3], [4], [3], [5], [5], [3], [22], [3], [5]].flatten :=
  ct_str Try.underlying43 (by simp [h, h3, h4, h5, h22])
theorem zl3 (d : Nat) : Try.prog.cellTypes (d + 1) 3 = some [3] := ct_leaf Try.underlying3 (fun _ h => by cases h) (fun _ _ h => by cases h)
theorem zl4 (d : Nat) : Try.prog.cellTypes (d + 1) 4 = some [4] := ct_leaf Try.underlying4 (fun _ h => by cases h) (fun _ _ h => by cases h)
theorem zl5 (d : Nat) : Try.prog.cellTypes (d + 1) 5 = some [5] := ct_leaf Try.underlying5 (fun _ h => by cases h) (fun _ _ h => by cases h)
theorem zl22 (d : Nat) : Try.prog.cellTypes (d + 1) 22 = some [22] := ct_leaf Try.underlying22 (fun _ h => by cases h) (fun _ _ h => by cases h)
theorem zT (j : Nat) : zAll.drop (33568 + j) = zTl.drop j := seg_tl (V := zV) (T := zTl) (l := 33568) (j := j) zV_len
theorem zct : Try.prog.cellTypes Try.prog.depth 43 = some (zTs zL) := by
  rw [show Try.prog.depth = 496 + 4 from by kernel_rfl]
  rw [zctm (zctv (ct_arr Try.underlying36 (zl22 496)) (ct_arr Try.underlying37 (zl5 496)) (ct_arr Try.underlying38 (zl22 496))) (zl3 498) (zl4 498) (zl5 498) (zl22 498)]
  simp only [zTs, zL, List.flatMap_cons, List.flatMap_nil, List.flatten_cons, List.flatten_nil, List.append_assoc, List.append_nil]
  rfl
section
variable {H : Type} {enc : TypeId × Value → H} {w : World} {base : Nat} {spare : Nat → Bool} {held : Bool}
theorem ztv {f : Nat} {cs : List Value} {x1 x2 x3 : DataW H × List MemPlace} (hl : cs.length = Try.prog.cellsOf 40)
    (h1 : DataW.trod enc Try.prog w base spare held f 36 ((cs.drop 0).take (Try.prog.cellsOf 36)) = some x1) (h2 : DataW.trod enc Try.prog w base spare held f 37 ((cs.drop 32768).take (Try.prog.cellsOf 37)) = some x2) (h3 : DataW.trod enc Try.prog w base spare held f 38 ((cs.drop 33312).take (Try.prog.cellsOf 38)) = some x3) :
    DataW.trod enc Try.prog w base spare held (f + 1) 40 cs = some (.agg [x1.1, x2.1, x3.1], x1.2 ++ (x2.2 ++ x3.2)) := by
  rw [List.drop_zero] at h1
  have := trod_str (enc := enc) (w := w) (base := base) (spare := spare) (held := held) (f := f) (cs := cs) (xs := [x1, x2, x3]) Try.underlying40 hl (by simp [h1, h2, h3])
  simpa using this
theorem ztm {f : Nat} {cs : List Value} {x0 x1 x2 x3 x4 x5 x6 x7 x8 x9 : DataW H × List MemPlace} (hl : cs.length = Try.prog.cellsOf 43)
    (h0 : DataW.trod enc Try.prog w base spare held f 40 ((cs.drop 0).take (Try.prog.cellsOf 40)) = some x0) (h1 : DataW.trod enc Try.prog w base spare held f 3 ((cs.drop 33568).take (Try.prog.cellsOf 3)) = some x1) (h2 : DataW.trod enc Try.prog w base spare held f 4 ((cs.drop 33569).take (Try.prog.cellsOf 4)) = some x2) (h3 : DataW.trod enc Try.prog w base spare held f 3 ((cs.drop 33570).take (Try.prog.cellsOf 3)) = some x3) (h4 : DataW.trod enc Try.prog w base spare held f 5 ((cs.drop 33571).take (Try.prog.cellsOf 5)) = some x4) (h5 : DataW.trod enc Try.prog w base spare held f 5 ((cs.drop 33572).take (Try.prog.cellsOf 5)) = some x5) (h6 : DataW.trod enc Try.prog w base spare held f 3 ((cs.drop 33573).take (Try.prog.cellsOf 3)) = some x6) (h7 : DataW.trod enc Try.prog w base spare held f 22 ((cs.drop 33574).take (Try.prog.cellsOf 22)) = some x7) (h8 : DataW.trod enc Try.prog w base spare held f 3 ((cs.drop 33575).take (Try.prog.cellsOf 3)) = some x8) (h9 : DataW.trod enc Try.prog w base spare held f 5 ((cs.drop 33576).take (Try.prog.cellsOf 5)) = some x9) :
    DataW.trod enc Try.prog w base spare held (f + 1) 43 cs = some (.agg [x0.1, x1.1, x2.1, x3.1, x4.1, x5.1, x6.1, x7.1, x8.1, x9.1], [x0, x1, x2, x3, x4, x5, x6, x7, x8, x9].flatMap (·.2)) := by
  rw [List.drop_zero] at h0
  have := trod_str (enc := enc) (w := w) (base := base) (spare := spare) (held := held) (f := f) (cs := cs) (xs := [x0, x1, x2, x3, x4, x5, x6, x7, x8, x9]) Try.underlying43 hl (by simp [h0, h1, h2, h3, h4, h5, h6, h7, h8, h9])
  simpa using this
def zD1 : DataW H := .agg [.agg (List.replicate 32768 (.lit (.int .u16 0))), .agg (List.replicate 544 (.lit (.int .u8 0))), .agg (List.replicate 256 (.lit (.int .u16 0)))]
def zD : DataW H := .agg [zD1, .lit (.int .i64 0), .lit (.bool false), .lit (.int .i64 0), .lit (.int .u8 0), .lit (.int .u8 0), .lit (.int .i64 0), .lit (.int .u16 0), .lit (.int .i64 0), .lit (.int .u8 0)]
theorem zV_A : (zV.drop 0).take 32768 = zA := seg_at (A := []) (B := zA) (C := zB ++ (zC ++ [])) rfl zA_len
theorem zV_B : (zV.drop 32768).take 544 = zB := seg_at (A := zA) (B := zB) (C := zC ++ []) zA_len zB_len
theorem zV_C : (zV.drop 33312).take 256 = zC := by
  rw [show zV = (zA ++ zB) ++ (zC ++ []) from (List.append_assoc zA zB (zC ++ [])).symm]
  exact seg_at (A := zA ++ zB) (B := zC) (C := []) (by rw [List.length_append, zA_len, zB_len]) zC_len
theorem zt1 : DataW.trod enc Try.prog w base spare held 3 40 zV = some (zD1, []) := by
  have h1 : DataW.trod enc Try.prog w base spare held 2 36 ((zV.drop 0).take (Try.prog.cellsOf 36)) = some (.agg (List.replicate 32768 (.lit (.int .u16 0))), []) := by
    rw [zc36, zV_A]; exact trod_arr Try.underlying36 zc36 Try.underlying22 zc22
  have h2 : DataW.trod enc Try.prog w base spare held 2 37 ((zV.drop 32768).take (Try.prog.cellsOf 37)) = some (.agg (List.replicate 544 (.lit (.int .u8 0))), []) := by
    rw [zc37, zV_B]; exact trod_arr Try.underlying37 zc37 Try.underlying5 zc5
  have h3 : DataW.trod enc Try.prog w base spare held 2 38 ((zV.drop 33312).take (Try.prog.cellsOf 38)) = some (.agg (List.replicate 256 (.lit (.int .u16 0))), []) := by
    rw [zc38, zV_C]; exact trod_arr Try.underlying38 zc38 Try.underlying22 zc22
  exact ztv (by rw [zV_len, zc40]) h1 h2 h3
theorem zt : DataW.trod enc Try.prog w base spare held 4 43 zAll = some (zD, []) := by
  have h0 : DataW.trod enc Try.prog w base spare held 3 40 ((zAll.drop 0).take (Try.prog.cellsOf 40)) = some (zD1, []) := by
    rw [zc40, List.drop_zero, zAll_take]; exact zt1
  have h1 : DataW.trod enc Try.prog w base spare held 3 3 ((zAll.drop 33568).take (Try.prog.cellsOf 3)) = some (.lit (.int .i64 0), []) := by
    rw [zc3, show zAll.drop 33568 = zTl.drop 0 from zT 0]
    exact trod_int Try.underlying3
  have h2 : DataW.trod enc Try.prog w base spare held 3 4 ((zAll.drop 33569).take (Try.prog.cellsOf 4)) = some (.lit (.bool false), []) := by
    rw [zc4, show zAll.drop 33569 = zTl.drop 1 from zT 1]
    exact trod_bool Try.underlying4
  have h3 : DataW.trod enc Try.prog w base spare held 3 3 ((zAll.drop 33570).take (Try.prog.cellsOf 3)) = some (.lit (.int .i64 0), []) := by
    rw [zc3, show zAll.drop 33570 = zTl.drop 2 from zT 2]
    exact trod_int Try.underlying3
  have h4 : DataW.trod enc Try.prog w base spare held 3 5 ((zAll.drop 33571).take (Try.prog.cellsOf 5)) = some (.lit (.int .u8 0), []) := by
    rw [zc5, show zAll.drop 33571 = zTl.drop 3 from zT 3]
    exact trod_int Try.underlying5
  have h5 : DataW.trod enc Try.prog w base spare held 3 5 ((zAll.drop 33572).take (Try.prog.cellsOf 5)) = some (.lit (.int .u8 0), []) := by
    rw [zc5, show zAll.drop 33572 = zTl.drop 4 from zT 4]
    exact trod_int Try.underlying5
  have h6 : DataW.trod enc Try.prog w base spare held 3 3 ((zAll.drop 33573).take (Try.prog.cellsOf 3)) = some (.lit (.int .i64 0), []) := by
    rw [zc3, show zAll.drop 33573 = zTl.drop 5 from zT 5]
    exact trod_int Try.underlying3
  have h7 : DataW.trod enc Try.prog w base spare held 3 22 ((zAll.drop 33574).take (Try.prog.cellsOf 22)) = some (.lit (.int .u16 0), []) := by
    rw [zc22, show zAll.drop 33574 = zTl.drop 6 from zT 6]
    exact trod_int Try.underlying22
  have h8 : DataW.trod enc Try.prog w base spare held 3 3 ((zAll.drop 33575).take (Try.prog.cellsOf 3)) = some (.lit (.int .i64 0), []) := by
    rw [zc3, show zAll.drop 33575 = zTl.drop 7 from zT 7]
    exact trod_int Try.underlying3
  have h9 : DataW.trod enc Try.prog w base spare held 3 5 ((zAll.drop 33576).take (Try.prog.cellsOf 5)) = some (.lit (.int .u8 0), []) := by
    rw [zc5, show zAll.drop 33576 = zTl.drop 8 from zT 8]
    exact trod_int Try.underlying5
  exact ztm (by rw [zAll_len, zc43]) h0 h1 h2 h3 h4 h5 h6 h7 h8 h9
theorem zw {l1 l2 l3 : List (DataW H)} (h1 : DataW.weightsAll Try.prog 22 l1 = []) (h2 : DataW.weightsAll Try.prog 5 l2 = []) (h3 : DataW.weightsAll Try.prog 22 l3 = []) : DataW.weightsEach Try.prog [43, 3] [.agg [.agg [.agg l1, .agg l2, .agg l3], .lit (.int .i64 0), .lit (.bool false), .lit (.int .i64 0), .lit (.int .u8 0), .lit (.int .u8 0), .lit (.int .i64 0), .lit (.int .u16 0), .lit (.int .i64 0), .lit (.int .u8 0)], .lit (.int .i64 0)] = [] := by
  simp [DataW.weightsEach, DataW.weights, Try.underlying43, Try.underlying40, Try.underlying36, Try.underlying37, Try.underlying38, h1, h2, h3]
theorem zwhole : DataW.Whole enc Try.prog [43, 3] [] false w [.agg zAll.toArray, .int .i64 0] [zD, .lit (.int .i64 0)] [] [] :=
  ⟨[], [], ⟨[], [], ⟨4, by
    show DataW.trod enc Try.prog w 0 _ true 4 43 (Value.agg zAll.toArray).cells.toList = _
    rw [show (Value.agg zAll.toArray).cells.toList = zAll from by simp [Value.cells]]
    exact zt⟩, ⟨[], [], ⟨1, trod_int Try.underlying3⟩, rfl, rfl⟩, rfl⟩, rfl, rfl, (fun _ _ hp => nomatch hp), (fun h => nomatch h)⟩
end
theorem zok (w : World) (base : Nat) : Input.okWide Try.prog w .any base 6 ⟨#[], #[.agg zAll.toArray, .int .i64 0], []⟩ := by
  refine ⟨by simp, by simp, by kernel_rfl, Try.f6, Try.func6, by kernel_rfl, by kernel_rfl, by kernel_rfl, by kernel_rfl, fun j t v hj hv => ?_⟩
  rw [← Array.getElem?_toList, Try.params6] at hj
  rcases j with _ | _ | j
  · simp only [List.getElem?_toArray, List.getElem?_cons_zero, Option.some.injEq] at hj hv
    subst hj; subst hv
    unfold Value.okWide
    rw [Try.underlying43]
    refine ⟨_, rfl, by rw [List.size_toArray, zAll_len, zc43], _, zct, ⟨1, by rw [List.size_toArray, ← zCs_eq, z_len, Nat.one_mul]⟩, fun i v h => ?_⟩
    rw [List.getElem?_toArray, ← zCs_eq] at h
    have hlt : i < (zTs zL).length := by rw [z_len]; exact (List.getElem?_eq_some_iff.1 h).1
    rw [Nat.mod_eq_of_lt hlt]
    refine z_at zL (ok := fun u v => Cell.okWide Try.prog w .any base u v) (fun p hp => ?_) i v h
    simp only [zL, List.mem_cons, List.not_mem_nil, or_false] at hp
    rcases hp with rfl | rfl | rfl | rfl | rfl | rfl | rfl | rfl | rfl | rfl | rfl | rfl <;> exact Cell.okWide_of_okWideB (by kernel_rfl)
  · simp only [List.getElem?_toArray, List.getElem?_cons_zero, List.getElem?_cons_succ, Option.some.injEq] at hj hv
    subst hj; subst hv
    exact Value.okWide_of_okWideB (by kernel_rfl)
  · simp at hj
theorem kz_int {t : TypeId} {k : IntKind} {d : Nat} (hu : Try.prog.underlying t = some (.int k)) : kindAt Try.prog (d + 1) t 0 = some (some k) := by
  rw [kindAt, hu]; simp
theorem kz_arr {t e : TypeId} {n i : Nat} {k : IntKind} {d : Nat} (ht : Try.prog.underlying t = some (.array n e)) (he : Try.prog.underlying e = some (.int k)) (h1 : Try.prog.cellsOf e = 1) (hi : i < n) : kindAt Try.prog (d + 2) t i = some (some k) := by
  rw [kindAt, ht]
  simp only [h1]
  rw [if_neg (by omega), Nat.mod_one]
  exact kz_int he
theorem kz43 {d i : Nat} (h : i < 33568) : kindAt Try.prog (d + 1) 43 i = kindAt Try.prog d 40 i := by
  rw [kindAt, Try.underlying43]
  simp [zc40, h]
theorem kz40a {d i : Nat} (h : i < 32768) : kindAt Try.prog (d + 1) 40 i = kindAt Try.prog d 36 i := by
  rw [kindAt, Try.underlying40]
  simp [zc36, h]
theorem kz40b {d i : Nat} (h : 32768 ≤ i ∧ i < 33312) : kindAt Try.prog (d + 1) 40 i = kindAt Try.prog d 37 (i - 32768) := by
  rw [kindAt, Try.underlying40]
  simp [zc36, zc37, show ¬ i < 32768 by omega, h.1, h.2]
theorem kz40c {d i : Nat} (h : 33312 ≤ i ∧ i < 33568) : kindAt Try.prog (d + 1) 40 i = kindAt Try.prog d 38 (i - 33312) := by
  rw [kindAt, Try.underlying40]
  simp [zc36, zc37, zc38, show ¬ i < 32768 by omega, show ¬ i < 33312 by omega, h.1, h.2]
theorem kzp : pcKinds Pc0 = List.replicate 32768 (some .u16) ++ (List.replicate 544 (some .u8) ++ (List.replicate 256 (some .u16) ++ [some .i64, none, some .i64, some .u8, some .u8, some .i64, some .u16, some .i64, some .u8])) := rfl
theorem kz (i : Nat) (h : i < 33577) : kindAt Try.prog 8 43 i = (pcKinds Pc0)[i]? := by
  rw [kzp]
  by_cases h1 : i < 32768
  · rw [List.getElem?_append_left (by rw [List.length_replicate]; exact h1), List.getElem?_replicate, if_pos h1, kz43 (by omega), kz40a h1]
    exact kz_arr Try.underlying36 Try.underlying22 zc22 h1
  rw [List.getElem?_append_right (by rw [List.length_replicate]; omega), List.length_replicate]
  by_cases h2 : i < 33312
  · rw [List.getElem?_append_left (by rw [List.length_replicate]; omega), List.getElem?_replicate, if_pos (by omega), kz43 (by omega), kz40b ⟨by omega, h2⟩]
    exact kz_arr Try.underlying37 Try.underlying5 zc5 (by omega)
  rw [List.getElem?_append_right (by rw [List.length_replicate]; omega), List.length_replicate]
  by_cases h3 : i < 33568
  · rw [List.getElem?_append_left (by rw [List.length_replicate]; omega), List.getElem?_replicate, if_pos (by omega), kz43 h3, kz40c ⟨by omega, h3⟩]
    exact kz_arr Try.underlying38 Try.underlying22 zc22 (by omega)
  rw [List.getElem?_append_right (by rw [List.length_replicate]; omega), List.length_replicate]
  rcases (show i = 33568 ∨ i = 33569 ∨ i = 33570 ∨ i = 33571 ∨ i = 33572 ∨ i = 33573 ∨ i = 33574 ∨ i = 33575 ∨ i = 33576 by omega) with rfl | rfl | rfl | rfl | rfl | rfl | rfl | rfl | rfl
  all_goals kernel_rfl
theorem open_pcz {H : Type} {enc : TypeId × Value → H} {w W : World} {base b0 : Nat} {spare : Nat → Bool} {held : Bool} {r : Reach} {v : Value} {d : DataW H} {p : List MemPlace}
    (hv : Value.okWide Try.prog W r b0 43 v) (hd : DataW.Trod enc Try.prog w base spare held 43 v d p) : ∃ cs : List Value, v = .agg cs.toArray ∧ cs.length = pcTotal Pc0 ∧ PcFit cs 0 Pc0 := by
  obtain ⟨cs, rfl, hcs, _⟩ : ∃ cs, v = .agg cs ∧ cs.size = Try.prog.cellsOf 43 ∧ Row.okWide Try.prog W r b0 43 cs := by
    unfold Value.okWide at hv
    rw [Try.underlying43] at hv; exact hv
  refine ⟨cs.toList, by simp, by rw [Array.length_toList, hcs, zc43]; rfl, fun j k hj => ?_⟩
  obtain ⟨fuel, hf⟩ := hd
  have hlt : j < 33577 := by
    have := (List.getElem?_eq_some_iff.1 hj).1
    rw [pcKinds_len] at this
    exact this
  have h1 := kz j hlt
  rw [hj] at h1
  have := kind_ok 8 43 j k fuel _ _ h1 hf
  simpa [Value.cells] using this
def zi : Input := ⟨#[], #[.agg zAll.toArray, .int .i64 0], []⟩
theorem zhv (os : Os) : (World.plainHolding Try.prog os zi).variablesB Try.prog = true := by kernel_rfl
theorem zhr (os : Os) : ((World.plainHolding Try.prog os zi).heap.toList.drop Try.prog.globals.size).take ((begin Try.prog (fun _ _ => 0) default).world.heap.size - Try.prog.globals.size) = (begin Try.prog (fun _ _ => 0) default).world.heap.toList.drop Try.prog.globals.size := by kernel_rfl
theorem zws {H : Type} : (DataW.weightsEach Try.prog (Try.f6.params.toList ++ (OpenSpec.ofChange Rows.vramLoadsSpec).bare.plain.varTypes Try.prog) ([zD, .lit (.int .i64 0)] ++ ([] : List (DataW H)))).all (· ≤ reachBytes) = true := by
  rw [Try.params6, show (OpenSpec.ofChange Rows.vramLoadsSpec).bare.plain.varTypes Try.prog = [] from by kernel_rfl, List.append_nil, List.append_nil, show DataW.weightsEach Try.prog [43, 3] [zD, .lit (.int .i64 0)] = ([] : List Nat) from zw (H := H) (weights_lits 22 .u16 32768) (weights_lits 5 .u8 544) (weights_lits 22 .u16 256)]
  rfl
theorem zwit {H : Type} (enc : TypeId × Value → H) (os : Os) : ∃ (w : World) (tape : Tape) (i : Input), w.os = os ∧ (w.forCall tape i).Shaped Try.prog ∧ i.vars = [] ∧ Input.okWide Try.prog (w.forCall tape i) .any w.heap.size 6 i ∧
    Rows.vramLoadsSpec.pre6 enc Try.prog Try.f6 Rows.vramLoadsRow.domain false (w.forCall tape i).memory i.args ∧ ({ modest := false } : Assume).holds Try.prog (lone (Frame.enter Try.prog 6 i.args .normal) [] (w.forCall tape i)) :=
  ⟨World.holding Try.prog os zi, fun _ _ => 0, ⟨#[], zi.args, []⟩, rfl, World.shaped_of_B (zhv os) (zhr os), rfl, zok _ _,
    ⟨⟨[zD, .lit (.int .i64 0)], [], [], by rw [Try.params6]; exact zwhole, rfl⟩, by kernel_rfl, [zD, .lit (.int .i64 0)], [], [], by rw [Try.params6]; exact zwhole, zws⟩, by
    simp only [Assume.holds]
    exact ⟨by simp, by simp, fun _ => Modest.zero, by simp, by simp⟩⟩
end Go.Proofs.Ytjegnoknenahpaa.VramLoads
