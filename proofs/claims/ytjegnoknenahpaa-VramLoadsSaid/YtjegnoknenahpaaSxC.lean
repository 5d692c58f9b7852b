/- A run of a program by symbols, proved sound, third part: the frame of a law, arguments, loops, rows that came in. It imports no program. -/
import Derived.Test.YtjegnoknenahpaaSxH
set_option linter.unusedVariables false
set_option linter.unusedSimpArgs false
namespace Go.Sx
theorem ite_tt (p : Prop) [Decidable p] (x y : Bool) : ((if p then x else y) = true) = ((p → x = true) ∧ (¬ p → y = true)) := by
 by_cases h : p <;> simp [h]
theorem ite_ff (p : Prop) [Decidable p] (x y : Bool) : ((if p then x else y) = false) = ((p → x = false) ∧ (¬ p → y = false)) := by
 by_cases h : p <;> simp [h]
theorem iff_tt (x y : Bool) : ((x == y) = true) = ((x = true) ↔ (y = true)) := by cases x <;> cases y <;> simp
theorem iff_ff (x y : Bool) : ((x == y) = false) = ¬ ((x = true) ↔ (y = true)) := by cases x <;> cases y <;> simp
section
variable {H : Type} {enc : TypeId × Value → H} {P : Program}
theorem trodAll_below (hl : laidOutB P = true) {W W' : World} (hb : RowKit.Below W.heap.size W W') : ∀ {ts : List TypeId} {vs : List Value} {ds : List (DataW H)} {ps : List MemPlace},
 (∀ t ∈ ts, P.readableRec t = true ∧ t < P.types.size) → DataW.TrodAll enc P W 0 (fun _ => true) true ts vs ds ps → (∀ x ∈ ps, x.block < W.heap.size) →
 DataW.TrodAll enc P W' 0 (fun b => decide (b < W.heap.size)) true ts vs ds ps := by
 intro ts
 induction ts with
 | nil =>
   intro vs ds ps _ h _
   cases vs <;> cases ds <;> simp [DataW.TrodAll] at h ⊢
   exact h
 | cons t ts ih =>
   intro vs ds ps hr h hlt
   obtain ⟨v, vs', d, ds', p, q, rfl, rfl, rfl, h1, h2⟩ := ChangeShapes.trodAll_cons h
   refine ⟨p, q, RowKit.Below.trod hl (hr t (.head _)).1 (hr t (.head _)).2 h1 hb (fun x hx => hlt x (by simp [hx])), ih (fun u hu => hr u (.tail _ hu)) h2 (fun x hx => hlt x (by simp [hx])), rfl⟩
theorem law_post {f : Func} {s : ChangeSpec} {tb : TypeId} (hl : laidOutB P = true) (hr0 : (f.params.toList.all fun t => P.readableRec t && decide (t < P.types.size)) = true)
 (hvars : s.vars = []) (hres : f.resultTypes = #[tb]) (hb : P.underlying tb = some .bool)
 {W W' : World} {args : Array Value} {ds gs : List (DataW H)} {before : List MemPlace} (hs : s.fn H (ds ++ gs) = { results := [.lit (.bool true)], args := ds })
 (hW : DataW.Whole enc P f.params.toList s.vars false W args.toList ds gs before) (hB : RowKit.Below W.heap.size W W') : s.post enc P f false true false false W args (.bool true) W' := by
 have hr : ∀ t ∈ f.params.toList, P.readableRec t = true ∧ t < P.types.size := fun t ht => by
  have := List.all_eq_true.1 hr0 t ht
  simpa using this
 have hlt := hW.lt
 obtain ⟨p, q, h1, h2, rfl, hz, hn⟩ := id hW
 refine ⟨ds, gs, p ++ q, [], p, [], hW, ?_, ?_, ?_, hB.frame _, fun h => by cases h⟩
 ·rw [hs, hres]
  exact ⟨[], [], RowKit.shut_bool hb true, rfl, rfl⟩
 ·rw [hs]
  exact trodAll_below hl hB hr h1 (fun x hx => hlt x (by simp [hx]))
 ·rw [hs, hvars]
  simp [DataW.TrodVars]
end
def kindAt (P : Program) : Nat → TypeId → Nat → Option (Option IntKind)
 | 0, _, _ => none
 | d + 1, t, i => match P.underlying t with
   | some (.int k) => if i = 0 then some (some k) else none
   | some .bool => if i = 0 then some none else none
   | some (.struct fs) => match fs.toList.find? (fun f => f.offset ≤ i && i < f.offset + P.cellsOf f.type) with
     | some f => kindAt P d f.type (i - f.offset)
     | none => none
   | some (.array n e) => if P.cellsOf e = 0 ∨ n * P.cellsOf e ≤ i then none else kindAt P d e (i % P.cellsOf e)
   | _ => none
def Fit : Option IntKind → Value → Prop
 | some k, v => ∃ z, v = .int k z ∧ inR (krng k) z
 | none, v => ∃ b, v = .bool b
theorem wf_inR {k : IntKind} {z : Int} (h : (Lit.int k z).wf = true) : inR (krng k) z := by
 cases k <;> simp [Lit.wf, IntKind.min, IntKind.max, IntKind.signed, IntKind.bits] at h <;> simp [inR, krng, kmin, kmax] <;> omega
section
variable {H : Type} {enc : TypeId × Value → H} {P : Program} {w : World} {base : Nat} {spare : Nat → Bool} {held : Bool}
theorem kind_ok : ∀ (d : Nat) (t : TypeId) (i : Nat) (k : Option IntKind) (fuel : Nat) (cs : List Value) (x : DataW H × List MemPlace), kindAt P d t i = some k →
 DataW.trod enc P w base spare held fuel t cs = some x → ∃ v, cs[i]? = some v ∧ Fit k v := by
 intro d
 induction d with
 | zero => intro t i k fuel cs x h; simp [kindAt] at h
 | succ d ih =>
   intro t i k fuel cs x h hx
   unfold kindAt at h
   split at h
   ·rename_i kd hu
    split at h
    ·rename_i hi; subst hi
     simp only [Option.some.injEq] at h; subst h
     obtain ⟨a, e0, _, wa⟩ := DataW.trod_int hu hx
     subst e0
     exact ⟨_, rfl, a, rfl, wf_inR wa⟩
    ·cases h
   ·rename_i hu
    split at h
    ·rename_i hi; subst hi
     simp only [Option.some.injEq] at h; subst h
     obtain ⟨b, e0, _⟩ := DataW.trod_bool hu hx
     subst e0
     exact ⟨_, rfl, b, rfl⟩
    ·cases h
   ·rename_i fs hu
    split at h
    ·rename_i f hf
     have h1 := List.find?_some hf
     have h2 := List.mem_of_find?_eq_some hf
     simp only [Bool.and_eq_true, decide_eq_true_eq] at h1
     obtain ⟨q, hq⟩ := List.mem_iff_getElem?.1 h2
     obtain ⟨xs, m, _, _, hlen, hxs, hall⟩ := DataW.trod_struct hu hx
     have hq' : fs[q]? = some f := by rw [← Array.getElem?_toList]; exact hq
     have hqlt : q < fs.size := by
      rw [Array.getElem?_eq_some_iff] at hq'; exact hq'.1
     have := hall q f hq'
     rw [List.getElem?_eq_getElem (by omega)] at this
     obtain ⟨v, hv, hk⟩ := ih f.type (i - f.offset) k m _ _ h this
     refine ⟨v, ?_, hk⟩
     rw [List.getElem?_take, List.getElem?_drop] at hv
     split at hv
     ·rw [← hv]; congr 1; omega
     ·cases hv
    ·cases h
   ·rename_i n e hu
    split at h
    ·cases h
    ·rename_i hc
     obtain ⟨xs, m, _, _, hlen, hxs, hall⟩ := DataW.trod_array hu hx
     have hs : 0 < P.cellsOf e := by omega
     have hq : i / P.cellsOf e < n := by
      rw [Nat.div_lt_iff_lt_mul hs]; omega
     have := hall _ hq
     rw [List.getElem?_eq_getElem (by omega)] at this
     obtain ⟨v, hv, hk⟩ := ih e (i % P.cellsOf e) k m _ _ h this
     refine ⟨v, ?_, hk⟩
     rw [List.getElem?_take, List.getElem?_drop] at hv
     split at hv
     ·rw [← hv]; congr 1
      have := Nat.div_add_mod i (P.cellsOf e)
      rw [Nat.mul_comm] at this; omega
     ·cases hv
   ·cases h
end
inductive Pc where
 | arr (k : IntKind) (n : Nat)
 | num (k : IntKind)
 | bit
 deriving DecidableEq, Repr
def Pc.len : Pc → Nat
 | .arr _ n => n
 | _ => 1
def pcTotal : List Pc → Nat
 | [] => 0
 | p :: l => p.len + pcTotal l
def pcKinds : List Pc → List (Option IntKind)
 | [] => []
 | .arr k n :: l => List.replicate n (some k) ++ pcKinds l
 | .num k :: l => some k :: pcKinds l
 | .bit :: l => none :: pcKinds l
def intV : Value → Int
 | .int _ z => z
 | _ => 0
def boolV : Value → Bool
 | .bool b => b
 | _ => false
def arrOf (cs : List Value) (lo n : Nat) : Nat → Int := fun i => if i < n then intV (cs.getD (lo + i) Go.undef) else 0
def pcA (cs : List Value) : Nat → List Pc → List (Nat → Int)
 | _, [] => []
 | lo, .arr _ n :: l => arrOf cs lo n :: pcA cs (lo + n) l
 | lo, .num _ :: l => pcA cs (lo + 1) l
 | lo, .bit :: l => pcA cs (lo + 1) l
def pcI (cs : List Value) : Nat → List Pc → List Int
 | _, [] => []
 | lo, .arr _ n :: l => pcI cs (lo + n) l
 | lo, .num _ :: l => intV (cs.getD lo Go.undef) :: pcI cs (lo + 1) l
 | lo, .bit :: l => pcI cs (lo + 1) l
def pcB (cs : List Value) : Nat → List Pc → List Bool
 | _, [] => []
 | lo, .arr _ n :: l => pcB cs (lo + n) l
 | lo, .num _ :: l => pcB cs (lo + 1) l
 | lo, .bit :: l => boolV (cs.getD lo Go.undef) :: pcB cs (lo + 1) l
def pcSegs : (ia ib ii : Nat) → List Pc → List Seg
 | _, _, _, [] => []
 | ia, ib, ii, .arr k n :: l => .run k (.lit n) (.av ia) 0 :: pcSegs (ia + 1) ib ii l
 | ia, ib, ii, .num k :: l => .one (.int k (.v ii)) :: pcSegs ia ib (ii + 1) l
 | ia, ib, ii, .bit :: l => .one (.bool (.bv ib)) :: pcSegs ia (ib + 1) ii l
def PcFit (cs : List Value) (lo : Nat) (l : List Pc) : Prop := ∀ j k, (pcKinds l)[j]? = some k → ∃ v, cs[lo + j]? = some v ∧ Fit k v
theorem pcKinds_len (l : List Pc) : (pcKinds l).length = pcTotal l := by
 induction l with
 | nil => rfl
 | cons p l ih => cases p <;> simp [pcKinds, pcTotal, Pc.len, ih] <;> omega
theorem PcFit.tail {cs : List Value} {lo : Nat} {p : Pc} {l : List Pc} (h : PcFit cs lo (p :: l)) : PcFit cs (lo + p.len) l := by
 intro j k hj
 have h1 : (pcKinds (p :: l))[p.len + j]? = some k := by
  cases p with
  | arr kd n => simp only [pcKinds, Pc.len]; rw [List.getElem?_append_right (by simp)]; simpa using hj
  | num kd => simp only [pcKinds, Pc.len]; rw [Nat.add_comm, List.getElem?_cons_succ]; exact hj
  | bit => simp only [pcKinds, Pc.len]; rw [Nat.add_comm, List.getElem?_cons_succ]; exact hj
 have := h (p.len + j) k h1
 rwa [← Nat.add_assoc] at this
theorem arrOf_rng {cs : List Value} {lo n : Nat} {k : IntKind} {l : List Pc} (h : PcFit cs lo (.arr k n :: l)) (i : Nat) : inR (krng k) (arrOf cs lo n i) := by
 unfold arrOf
 split
 ·rename_i hi
  obtain ⟨v, hv, z, rfl, hz⟩ := h i (some k) (by simp only [pcKinds]; rw [List.getElem?_append_left (by simpa using hi)]; simp [hi])
  simpa [List.getD_eq_getElem?_getD, hv, intV] using hz
 ·cases k <;> simp [inR, krng, kmin, kmax]
theorem num_rng {cs : List Value} {lo : Nat} {k : IntKind} {l : List Pc} (h : PcFit cs lo (.num k :: l)) : inR (krng k) (intV (cs.getD lo Go.undef)) := by
 obtain ⟨v, hv, z, rfl, hz⟩ := h 0 (some k) rfl
 simp only [Nat.add_zero] at hv
 simpa [List.getD_eq_getElem?_getD, hv, intV] using hz
theorem pc_cells {ρ : Env} {ι : Loc} {cs : List Value} : ∀ (l : List Pc) (lo ia ib ii : Nat), PcFit cs lo l →
 (∀ j, j < (pcA cs lo l).length → ρ.a[ia + j]? = (pcA cs lo l)[j]?) → (∀ j, j < (pcB cs lo l).length → ρ.b[ib + j]? = (pcB cs lo l)[j]?) → (∀ j, j < (pcI cs lo l).length → ρ.i[ii + j]? = (pcI cs lo l)[j]?) →
 cellsOf ρ ι (pcSegs ia ib ii l) = (cs.drop lo).take (pcTotal l) := by
 intro l
 induction l with
 | nil => intro lo ia ib ii _ _ _ _; simp [pcSegs, pcTotal, cellsOf]
 | cons p l ih =>
   intro lo ia ib ii h ha hb hi
   have ht := h.tail
   cases p with
   | arr k n =>
     simp only [pcSegs, pcTotal, Pc.len, pcA, pcB, pcI] at *
     have h0 := ha 0 (by simp)
     rw [cells_cons, ih (lo + n) (ia + 1) ib ii ht (fun j hj => by have := ha (j + 1) (by simp; omega); simpa [Nat.add_assoc, Nat.add_comm 1 j] using this) hb hi]
     simp only [Nat.add_zero, List.getElem?_cons_zero] at h0
     apply List.ext_getElem?
     intro j
     by_cases hj : j < n
     ·rw [List.getElem?_append_left (by rw [run_len, i_lit]; simpa using hj), run_at _ _ _ _ _ (by rw [i_lit]; simpa using hj), List.getElem?_take, if_pos (by omega), List.getElem?_drop]
      obtain ⟨v, hv, z, rfl, hz⟩ := h j (some k) (by simp only [pcKinds]; rw [List.getElem?_append_left (by simpa using hj)]; simp [hj])
      rw [hv, a_av, List.getD_eq_getElem?_getD, h0]
      simp [arrOf, hj, List.getD_eq_getElem?_getD, hv, intV]
     ·rw [List.getElem?_append_right (by rw [run_len, i_lit]; simp; omega), run_len, i_lit, List.getElem?_take, List.getElem?_take, List.getElem?_drop, List.getElem?_drop]
      simp only [Int.toNat_natCast]
      by_cases hj2 : j - n < pcTotal l
      ·rw [if_pos hj2, if_pos (by omega)]; congr 1; omega
      ·rw [if_neg hj2, if_neg (by omega)]
   | num k =>
     simp only [pcSegs, pcTotal, Pc.len, pcA, pcB, pcI] at *
     have h0 := hi 0 (by simp)
     rw [cells_cons, ih (lo + 1) ia ib (ii + 1) ht ha hb (fun j hj => by have := hi (j + 1) (by simp; omega); simpa [Nat.add_assoc, Nat.add_comm 1 j] using this)]
     simp only [Nat.add_zero, List.getElem?_cons_zero] at h0
     obtain ⟨v, hv, z, rfl, hz⟩ := h 0 (some k) rfl
     simp only [Nat.add_zero] at hv
     have hd : cs.drop lo = .int k z :: cs.drop (lo + 1) := by
      rw [List.drop_eq_getElem?_toList_append, hv]; rfl
     rw [hd, Nat.add_comm 1, List.take_succ_cons, cells_one, List.singleton_append]
     congr 1
     simp [S.conc, i_v, List.getD_eq_getElem?_getD, h0, hv, intV]
   | bit =>
     simp only [pcSegs, pcTotal, Pc.len, pcA, pcB, pcI] at *
     have h0 := hb 0 (by simp)
     rw [cells_cons, ih (lo + 1) ia (ib + 1) ii ht ha (fun j hj => by have := hb (j + 1) (by simp; omega); simpa [Nat.add_assoc, Nat.add_comm 1 j] using this) hi]
     simp only [Nat.add_zero, List.getElem?_cons_zero] at h0
     obtain ⟨v, hv, b, rfl⟩ := h 0 none rfl
     simp only [Nat.add_zero] at hv
     have hd : cs.drop lo = .bool b :: cs.drop (lo + 1) := by
      rw [List.drop_eq_getElem?_toList_append, hv]; rfl
     rw [hd, Nat.add_comm 1, List.take_succ_cons, cells_one, List.singleton_append]
     congr 1
     simp [S.conc, b_bv, List.getD_eq_getElem?_getD, h0, hv, boolV]
theorem open_pc {H : Type} {enc : TypeId × Value → H} {P : Program} {w W : World} {base b0 : Nat} {spare : Nat → Bool} {held : Bool} {r : Reach} {t : TypeId} {v : Value} {d : DataW H} {p : List MemPlace} (pcs : List Pc) (dep : Nat)
 (hagg : aggT P t = some true) (hk : (List.range (pcTotal pcs)).all (fun i => decide (kindAt P dep t i = (pcKinds pcs)[i]?)) = true) (hsz : P.cellsOf t = pcTotal pcs)
 (hv : Value.okWide P W r b0 t v) (hd : DataW.Trod enc P w base spare held t v d p) : ∃ cs : List Value, v = .agg cs.toArray ∧ cs.length = pcTotal pcs ∧ PcFit cs 0 pcs := by
 obtain ⟨cs, rfl, hcs, _⟩ : ∃ cs, v = .agg cs ∧ cs.size = P.cellsOf t ∧ Row.okWide P W r b0 t cs := by
  unfold Value.okWide at hv
  unfold aggT at hagg
  split at hagg
  ·rename_i hu; rw [hu] at hv; exact hv
  ·rename_i hu; rw [hu] at hv; exact hv
  ·cases hagg
  ·cases hagg
 refine ⟨cs.toList, by simp, by simp [hcs, hsz], fun j k hj => ?_⟩
 obtain ⟨fuel, hf⟩ := hd
 have hlt : j < pcTotal pcs := by
  have := (List.getElem?_eq_some_iff.1 hj).1
  rwa [pcKinds_len] at this
 have h1 := List.all_eq_true.1 hk j (List.mem_range.2 hlt)
 rw [decide_eq_true_eq, hj] at h1
 have := kind_ok dep t j k fuel _ _ h1 hf
 simpa [Value.cells] using this
structure Sg where
 i : List (Nat × E)
 b : List (Nat × E)
 a : List (Nat × E)
 deriving DecidableEq, Repr
def setAll {α : Type} (l : List α) : List (Nat × α) → List α
 | [] => l
 | (k, z) :: r => (setAll l r).set k z
def Env.app (σ : Sg) (ρ : Env) : Env :=
 { ρ with i := setAll ρ.i (σ.i.map fun p => (p.1, p.2.i ρ)), b := setAll ρ.b (σ.b.map fun p => (p.1, p.2.b ρ)), a := setAll ρ.a (σ.a.map fun p => (p.1, p.2.a ρ)) }
def keyIn (l : List (Nat × E)) (k : Nat) : Option E := (l.find? (fun p => p.1 == k)).map (·.2)
def fx (σ : Sg) : E → Bool
 | .v k => (keyIn σ.i k).isNone
 | .bv k => (keyIn σ.b k).isNone
 | .av k => (keyIn σ.a k).isNone
 | .lit _ | .blit _ | .tab _ | .nil => true
 | .add a b | .sub a b | .mul a b | .div a b | .mod a b | .tdiv a b | .tmod a b | .bits _ _ a b | .sel a b | .lt a b | .le a b | .eq a b | .and a b | .or a b | .iff a b | .cons a b => fx σ a && fx σ b
 | .pow2 a | .wrap _ a | .not a | .app _ a => fx σ a
 | .ite a b c | .upd a b c => fx σ a && fx σ b && fx σ c
 | .blt a b c d e => fx σ a && fx σ b && fx σ c && fx σ d && fx σ e
 | .aeq _ a b c _ _ => fx σ a && fx σ b && fx σ c
section
variable {α : Type}
theorem setAll_len (l : List α) : ∀ r, (setAll l r).length = l.length
 | [] => rfl
 | (k, z) :: r => by simp [setAll, setAll_len l r]
theorem setAll_get (l : List α) : ∀ (r : List (Nat × α)) (k : Nat), k < l.length → (setAll l r)[k]? = match r.find? (fun p => p.1 == k) with | some p => some p.2 | none => l[k]?
 | [], k, h => rfl
 | (j, z) :: r, k, h => by
   simp only [setAll, List.getElem?_set, setAll_len]
   by_cases hj : j = k
   ·subst hj; simp [h]
   ·rw [if_neg hj, setAll_get l r k h]
    have : (j == k) = false := by simpa using hj
    simp [List.find?_cons, this]
theorem setAll_none (l : List α) : ∀ (r : List (Nat × α)) (k : Nat), r.find? (fun p => p.1 == k) = none → (setAll l r)[k]? = l[k]?
 | [], k, _ => rfl
 | (j, z) :: r, k, h => by
   rw [List.find?_cons] at h
   split at h
   ·cases h
   ·rename_i hj
    simp only [setAll, List.getElem?_set]
    rw [if_neg (by simpa using hj)]
    exact setAll_none l r k h
end
section
variable {ρ : Env} {σ : Sg}
theorem find_map {β : Type} (f : E → β) (l : List (Nat × E)) (k : Nat) : (l.map fun p => (p.1, f p.2)).find? (fun p => p.1 == k) = (keyIn l k).map fun e => (k, f e) := by
 unfold keyIn
 induction l with
 | nil => rfl
 | cons p l ih =>
   simp only [List.map_cons, List.find?_cons]
   by_cases hp : (p.1 == k) = true
   ·have : p.1 = k := by simpa using hp
    simp [hp, this]
   ·simp only [Bool.not_eq_true] at hp
    simp only [hp]
    exact ih
theorem fx_den : ∀ (e : E), fx σ e = true → den (ρ.app σ) e = den ρ e := by
 intro e
 induction e with
 | v k =>
   intro h
   simp only [fx, Option.isNone_iff_eq_none] at h
   simp only [den, Env.app, List.getD_eq_getElem?_getD]
   rw [setAll_none _ _ _ (by rw [find_map (fun e => e.i ρ), h]; rfl)]
 | bv k =>
   intro h
   simp only [fx, Option.isNone_iff_eq_none] at h
   simp only [den, Env.app, List.getD_eq_getElem?_getD]
   rw [setAll_none _ _ _ (by rw [find_map (fun e => e.b ρ), h]; rfl)]
 | av k =>
   intro h
   simp only [fx, Option.isNone_iff_eq_none] at h
   simp only [den, Env.app, List.getD_eq_getElem?_getD]
   rw [setAll_none _ _ _ (by rw [find_map (fun e => e.a ρ), h]; rfl)]
 | lit _ => intro _; rfl
 | blit _ => intro _; rfl
 | tab _ => intro _; rfl
 | nil => intro _; rfl
 | pow2 a ih => intro h; simp only [fx] at h; simp only [den, ih h]
 | wrap k a ih => intro h; simp only [fx] at h; simp only [den, ih h]
 | not a ih => intro h; simp only [fx] at h; simp only [den, ih h]
 | app f a ih => intro h; simp only [fx] at h; simp only [den, ih h]; rfl
 | ite a b c iha ihb ihc => intro h; simp only [fx, Bool.and_eq_true] at h; simp only [den, iha h.1.1, ihb h.1.2, ihc h.2]
 | upd a b c iha ihb ihc => intro h; simp only [fx, Bool.and_eq_true] at h; simp only [den, iha h.1.1, ihb h.1.2, ihc h.2]
 | blt a b c d e iha ihb ihc ihd ihe => intro h; simp only [fx, Bool.and_eq_true] at h; simp only [den, iha h.1.1.1.1, ihb h.1.1.1.2, ihc h.1.1.2, ihd h.1.2, ihe h.2]
 | aeq bit a b c o q iha ihb ihc => intro h; simp only [fx, Bool.and_eq_true] at h; simp only [den, iha h.1.1, ihb h.1.2, ihc h.2]
 | bits o k a b iha ihb => intro h; simp only [fx, Bool.and_eq_true] at h; simp only [den, iha h.1, ihb h.2]
 | _ a b iha ihb => intro h; simp only [fx, Bool.and_eq_true] at h; simp only [den, iha h.1, ihb h.2]
def agI (σ : Sg) (p e : E) : Bool := match p with
 | .v k => match keyIn σ.i k with
   | some x => x == e
   | none => e == .v k
 | p => fx σ p && p == e
def agB (σ : Sg) (p e : E) : Bool := match p with
 | .bv k => match keyIn σ.b k with
   | some x => x == e
   | none => e == .bv k
 | p => fx σ p && p == e
def agA (σ : Sg) (p e : E) : Bool := match p with
 | .av k => match keyIn σ.a k with
   | some x => x == e
   | none => e == .av k
 | p => fx σ p && p == e
def sgFit (σ : Sg) (ni nb na : Nat) : Bool := σ.i.all (fun p => p.1 < ni) && σ.b.all (fun p => p.1 < nb) && σ.a.all (fun p => p.1 < na)
structure Sized (ρ : Env) (ni nb na : Nat) : Prop where
 i : ρ.i.length = ni
 b : ρ.b.length = nb
 a : ρ.a.length = na
theorem Sized.app {ni nb na : Nat} (h : Sized ρ ni nb na) : Sized (ρ.app σ) ni nb na :=
 ⟨by simp [Env.app, setAll_len, h.i], by simp [Env.app, setAll_len, h.b], by simp [Env.app, setAll_len, h.a]⟩
theorem keyIn_lt {l : List (Nat × E)} {n k : Nat} {e : E} (h : l.all (fun p => p.1 < n) = true) (hk : keyIn l k = some e) : k < n := by
 unfold keyIn at hk
 simp only [Option.map_eq_some_iff] at hk
 obtain ⟨p, hp, _⟩ := hk
 have h1 := List.find?_some hp
 have h2 := List.mem_of_find?_eq_some hp
 have h3 := List.all_eq_true.1 h p h2
 simp only [beq_iff_eq] at h1
 simp only [decide_eq_true_eq] at h3
 omega
variable {ni nb na : Nat}
theorem agI_ok (hz : Sized ρ ni nb na) (hs : sgFit σ ni nb na = true) {p e : E} (h : agI σ p e = true) : p.i (ρ.app σ) = e.i ρ := by
 simp only [sgFit, Bool.and_eq_true] at hs
 unfold agI at h
 split at h
 ·rename_i k
  split at h
  ·rename_i x hk
   simp only [beq_iff_eq] at h; subst h
   have hlt := keyIn_lt hs.1.1 hk
   simp only [i_v, Env.app, List.getD_eq_getElem?_getD]
   rw [setAll_get _ _ _ (by rw [hz.i]; exact hlt), find_map (fun e => e.i ρ), hk]; rfl
  ·rename_i hk
   simp only [beq_iff_eq] at h; subst h
   have := fx_den (ρ := ρ) (σ := σ) (.v k) (by simp [fx, hk])
   simp only [E.i, this]
 ·simp only [Bool.and_eq_true, beq_iff_eq] at h
  obtain ⟨h1, rfl⟩ := h
  simp only [E.i, fx_den _ h1]
theorem agB_ok (hz : Sized ρ ni nb na) (hs : sgFit σ ni nb na = true) {p e : E} (h : agB σ p e = true) : p.b (ρ.app σ) = e.b ρ := by
 simp only [sgFit, Bool.and_eq_true] at hs
 unfold agB at h
 split at h
 ·rename_i k
  split at h
  ·rename_i x hk
   simp only [beq_iff_eq] at h; subst h
   have hlt := keyIn_lt hs.1.2 hk
   simp only [b_bv, Env.app, List.getD_eq_getElem?_getD]
   rw [setAll_get _ _ _ (by rw [hz.b]; exact hlt), find_map (fun e => e.b ρ), hk]; rfl
  ·rename_i hk
   simp only [beq_iff_eq] at h; subst h
   have := fx_den (ρ := ρ) (σ := σ) (.bv k) (by simp [fx, hk])
   simp only [E.b, this]
 ·simp only [Bool.and_eq_true, beq_iff_eq] at h
  obtain ⟨h1, rfl⟩ := h
  simp only [E.b, fx_den _ h1]
theorem agA_ok (hz : Sized ρ ni nb na) (hs : sgFit σ ni nb na = true) {p e : E} (h : agA σ p e = true) : p.a (ρ.app σ) = e.a ρ := by
 simp only [sgFit, Bool.and_eq_true] at hs
 unfold agA at h
 split at h
 ·rename_i k
  split at h
  ·rename_i x hk
   simp only [beq_iff_eq] at h; subst h
   have hlt := keyIn_lt hs.2 hk
   simp only [a_av, Env.app, List.getD_eq_getElem?_getD]
   rw [setAll_get _ _ _ (by rw [hz.a]; exact hlt), find_map (fun e => e.a ρ), hk]; rfl
  ·rename_i hk
   simp only [beq_iff_eq] at h; subst h
   have := fx_den (ρ := ρ) (σ := σ) (.av k) (by simp [fx, hk])
   simp only [E.a, this]
 ·simp only [Bool.and_eq_true, beq_iff_eq] at h
  obtain ⟨h1, rfl⟩ := h
  simp only [E.a, fx_den _ h1]
def agCaps (σ : Sg) (π : List Nat) : List (Nat × E) → List (Nat × E) → Bool
 | [], [] => true
 | p :: l, q :: r => decide (π[p.1]? = some q.1) && agI σ p.2 q.2 && agCaps σ π l r
 | _, _ => false
def agS (σ : Sg) (π : List Nat) : S → S → Bool
 | .int k x, .int j y => decide (k = j) && agI σ x y
 | .bool x, .bool y => agB σ x y
 | .nil, .nil | .nilSlc, .nilSlc | .nilFn, .nilFn | .undef, .undef | .nilIface, .nilIface => true
 | .ptr b o, .ptr c q => decide (π[b]? = some c) && agI σ o q
 | .slc b o l (.kn c), .slc b' o' l' (.kn c') => decide (π[b]? = some b') && agI σ o o' && agI σ l l' && agI σ c c'
 | .slc b o l (.op c), .slc b' o' l' (.op c') => decide (π[b]? = some b') && agI σ o o' && agI σ l l' && agI σ c c'
 | .xslc i j o l, .xslc i' j' o' l' => decide (i = i') && agI σ j j' && agI σ o o' && agI σ l l'
 | .xptr i j k f, .xptr i' j' k' f' => decide (i = i') && agI σ j j' && agI σ k k' && decide (f = f')
 | .str l, .str l' => decide (l = l')
 | .fn f l, .fn g r => decide (f = g) && agCaps σ π l r
 | .val n, .val m => decide (n = m)
 | .ifc t k x, .ifc t' k' x' => decide (t = t') && decide (k = k') && agI σ x x'
 | .xtl i j o l, .xtl i' j' o' l' => decide (i = i') && agI σ j j' && agI σ o o' && agI σ l l'
 | _, _ => false
def agXF (σ : Sg) : List XF → List XF → Bool
 | [], [] => true
 | f :: l, g :: r => decide (f.1 = g.1) && agA σ f.2 g.2 && agXF σ l r
 | _, _ => false
def agSeg (σ : Sg) (π : List Nat) : Seg → Seg → Bool
 | .one x, .one y => agS σ π x y
 | .run k n A o, .run k' n' A' o' => decide (k = k') && agI σ n n' && agA σ A A' && decide (o = o')
 | .rows n fs o, .rows n' fs' o' => agI σ n n' && agXF σ fs fs' && decide (o = o')
 | _, _ => false
def agSegs (σ : Sg) (π : List Nat) : List Seg → List Seg → Bool
 | [], [] => true
 | p :: l, q :: r => agSeg σ π p q && agSegs σ π l r
 | _, _ => false
def agTup (σ : Sg) (π : List Nat) : List (Bool × List Seg) → List (Bool × List Seg) → Bool
 | [], [] => true
 | p :: l, q :: r => (p.1 == q.1) && agSegs σ π p.2 q.2 && agTup σ π l r
 | _, _ => false
def agV (σ : Sg) (π : List Nat) : SV → SV → Bool
 | .s x, .s y => agS σ π x y
 | .agg l, .agg r => agSegs σ π l r
 | .tup l, .tup r => agTup σ π l r
 | _, _ => false
def agFr (σ : Sg) (π : List Nat) (fr : Fr) (head : Fr) : Bool := head.all fun f => decide (f.g = []) && match look fr f.t with
 | some ([], y) => agV σ π f.x y
 | _ => false
def agBlks (σ : Sg) (π : List Nat) (m : Mem) : Mem → List Nat → Bool
 | [], [] => true
 | B :: l, p :: r => (match m[p]? with | some C => B.dead || (!C.dead && decide (B.ty = C.ty) && (!B.wr || C.wr) && decide (B.grow = C.grow) && agSegs σ π B.segs C.segs) | none => false) && agBlks σ π m l r
 | _, _ => false
def agMem (σ : Sg) (K : Nat) (π : List Nat) (m head : Mem) : Bool :=
 decide π.Nodup && decide (π.take K = List.range K) && π.all (fun b => decide (b < m.length)) && agBlks σ π m head π
section
variable {π : List Nat} {ι : Loc} {vs : List Value}
variable (hz : Sized ρ ni nb na) (hs : sgFit σ ni nb na = true)
include hz hs
theorem addr_ag {b c : Nat} {o q : E} (hb : π[b]? = some c) (ho : agI σ o q = true) : addr (ρ.app σ) (piv π ι) b o = addr ρ ι c q := by
 simp only [addr, piv_at hb, agI_ok hz hs ho]
theorem agCaps_ok : ∀ {l r : List (Nat × E)}, agCaps σ π l r = true → (l.map fun p => Value.pointer (some (addr (ρ.app σ) (piv π ι) p.1 p.2))) = r.map fun p => Value.pointer (some (addr ρ ι p.1 p.2))
 | [], [], _ => rfl
 | p :: l, q :: r, h => by
   simp only [agCaps, Bool.and_eq_true, decide_eq_true_eq] at h
   simp only [List.map_cons, addr_ag hz hs h.1.1 h.1.2, agCaps_ok h.2]
 | [], _ :: _, h => by simp [agCaps] at h
 | _ :: _, [], h => by simp [agCaps] at h
theorem agS_ok {x y : S} (h : agS σ π x y = true) : x.conc (ρ.app σ) (piv π ι) = y.conc ρ ι := by
 unfold agS at h
 split at h
 ·simp only [Bool.and_eq_true, decide_eq_true_eq] at h
  simp only [S.conc, h.1, agI_ok hz hs h.2]
 ·simp only [S.conc, agB_ok hz hs h]
 ·rfl
 ·rfl
 ·rfl
 ·rfl
 ·rfl
 ·simp only [Bool.and_eq_true, decide_eq_true_eq] at h
  simp only [S.conc, addr_ag hz hs h.1 h.2]
 ·simp only [Bool.and_eq_true, decide_eq_true_eq] at h
  simp only [S.conc, addr_ag hz hs h.1.1.1 h.1.1.2, agI_ok hz hs h.1.2, agI_ok hz hs h.2]
 ·simp only [Bool.and_eq_true, decide_eq_true_eq] at h
  simp only [S.conc, addr_ag hz hs h.1.1.1 h.1.1.2, agI_ok hz hs h.1.2, agI_ok hz hs h.2, (piv_all h.1.1.1).1, (piv_all h.1.1.1).2]
 ·simp only [Bool.and_eq_true, decide_eq_true_eq] at h
  simp only [S.conc, h.1.1.1, agI_ok hz hs h.1.1.2, agI_ok hz hs h.1.2, agI_ok hz hs h.2]; rfl
 ·simp only [Bool.and_eq_true, decide_eq_true_eq] at h
  simp only [S.conc, h.1.1.1, agI_ok hz hs h.1.1.2, agI_ok hz hs h.1.2, h.2]; rfl
 ·simp only [decide_eq_true_eq] at h
  simp only [S.conc, h]
 ·simp only [Bool.and_eq_true, decide_eq_true_eq] at h
  simp only [S.conc, h.1, agCaps_ok hz hs h.2]
 ·simp only [decide_eq_true_eq] at h
  simp only [S.conc, h, Env.app]
 ·simp only [Bool.and_eq_true, decide_eq_true_eq] at h
  simp only [S.conc, h.1.1, h.1.2, agI_ok hz hs h.2]
 ·simp only [Bool.and_eq_true, decide_eq_true_eq] at h
  simp only [S.conc, h.1.1.1, agI_ok hz hs h.1.1.2, agI_ok hz hs h.1.2, agI_ok hz hs h.2]; rfl
 ·cases h
theorem agXF_ok : ∀ {l r : List XF}, agXF σ l r = true → ∀ k, (l.map fun f => XF.conc (ρ.app σ) f k) = r.map fun f => XF.conc ρ f k
 | [], [], _, k => rfl
 | f :: l, g :: r, h, k => by
   simp only [agXF, Bool.and_eq_true, decide_eq_true_eq] at h
   have e : XF.conc (ρ.app σ) f k = XF.conc ρ g k := by simp only [XF.conc, h.1.1, agA_ok hz hs h.1.2]
   rw [List.map_cons, List.map_cons, e, agXF_ok h.2 k]
 | [], _ :: _, h, k => by simp [agXF] at h
 | _ :: _, [], h, k => by simp [agXF] at h
theorem agSeg_ok {x y : Seg} (h : agSeg σ π x y = true) : x.cells (ρ.app σ) (piv π ι) = y.cells ρ ι := by
 unfold agSeg at h
 split at h
 ·simp only [Seg.cells, agS_ok hz hs h]
 ·simp only [Bool.and_eq_true, decide_eq_true_eq] at h
  obtain ⟨⟨⟨rfl, h1⟩, h2⟩, rfl⟩ := h
  simp only [Seg.cells, agI_ok hz hs h1, agA_ok hz hs h2]
 ·simp only [Bool.and_eq_true, decide_eq_true_eq] at h
  obtain ⟨⟨h1, h2⟩, rfl⟩ := h
  simp only [Seg.cells, agI_ok hz hs h1, agXF_ok hz hs h2]
 ·cases h
theorem agSegs_ok : ∀ {l r : List Seg}, agSegs σ π l r = true → cellsOf (ρ.app σ) (piv π ι) l = cellsOf ρ ι r
 | [], [], _ => rfl
 | p :: l, q :: r, h => by
   simp only [agSegs, Bool.and_eq_true] at h
   rw [cells_cons, cells_cons, agSeg_ok hz hs h.1, agSegs_ok h.2]
 | [], _ :: _, h => by simp [agSegs] at h
 | _ :: _, [], h => by simp [agSegs] at h
theorem agTup_ok : ∀ {l r : List (Bool × List Seg)}, agTup σ π l r = true → SV.conc (ρ.app σ) (piv π ι) (.tup l) = SV.conc ρ ι (.tup r)
 | [], [], _ => rfl
 | p :: l, q :: r, h => by
   simp only [agTup, Bool.and_eq_true, beq_iff_eq] at h
   have := agTup_ok h.2
   simp only [SV.conc, Value.tuple.injEq, List.map_cons] at this ⊢
   rw [agSegs_ok hz hs h.1.2, h.1.1]
   congr 2
   simpa using this
 | [], _ :: _, h => by simp [agTup] at h
 | _ :: _, [], h => by simp [agTup] at h
theorem agV_ok {x y : SV} (h : agV σ π x y = true) : x.conc (ρ.app σ) (piv π ι) = y.conc ρ ι := by
 unfold agV at h
 split at h
 ·exact agS_ok hz hs h
 ·simp only [SV.conc, agSegs_ok hz hs h]
 ·exact agTup_ok hz hs h
 ·cases h
theorem agFr_ok {n : Nat} {a : Act} {fr head : Fr} (h : agFr σ π fr head = true) (hf : FRep ρ ι n fr a) : FRep (ρ.app σ) (piv π ι) n head a := by
 refine hf.sub fun t g' x' hl => ?_
 have key : ∀ (l : Fr), (∀ f ∈ l, f ∈ head) → look l t = some (g', x') → ∃ f ∈ head, f.t = t ∧ f.g = g' ∧ f.x = x' := by
  intro l
  induction l with
  | nil => intro _ h; simp [look_nil] at h
  | cons f l ih =>
    intro hm h
    simp only [look_nil, look_cons] at h
    split at h
    ·rename_i ht
     split at h
     ·cases h
     ·simp only [Option.some.injEq, Prod.mk.injEq] at h
      exact ⟨f, hm f (.head _), ht, h.1, h.2⟩
    ·exact ih (fun f' hf' => hm f' (.tail _ hf')) h
 obtain ⟨f, hf', rfl, rfl, rfl⟩ := key head (fun _ h => h) hl
 have h1 := List.all_eq_true.1 h f hf'
 simp only [Bool.and_eq_true, decide_eq_true_eq] at h1
 refine ⟨h1.1, ?_⟩
 have h2 := h1.2
 split at h2
 ·rename_i y hy
  exact ⟨y, hy, (agV_ok hz hs h2).symm⟩
 ·cases h2
theorem agBlks_ok {m : Mem} : ∀ {l : Mem} {r : List Nat}, agBlks σ π m l r = true → l.length = r.length ∧ ∀ (i : Nat) (B : Blk), l[i]? = some B → ∃ (p : Nat) (C : Blk), r[i]? = some p ∧ m[p]? = some C ∧ (B.dead = false → C.dead = false ∧ B.ty = C.ty ∧ (B.wr = true → C.wr = true) ∧ B.grow = C.grow ∧ cellsOf (ρ.app σ) (piv π ι) B.segs = cellsOf ρ ι C.segs)
 | [], [], _ => ⟨rfl, fun i B h => by simp at h⟩
 | B :: l, p :: r, h => by
   simp only [agBlks, Bool.and_eq_true] at h
   obtain ⟨h1, h2⟩ := agBlks_ok h.2
   refine ⟨by simp [h1], fun i D hD => ?_⟩
   cases i with
   | zero =>
     simp only [List.getElem?_cons_zero, Option.some.injEq] at hD; subst hD
     have h3 := h.1
     split at h3
     ·rename_i C hC
      refine ⟨p, C, rfl, hC, fun hd => ?_⟩
      rw [hd, Bool.false_or] at h3
      simp only [Bool.and_eq_true, decide_eq_true_eq, Bool.or_eq_true, Bool.not_eq_true'] at h3
      obtain ⟨⟨⟨⟨a1, a2⟩, a3⟩, a4⟩, a5⟩ := h3
      exact ⟨a1, a2, fun hw => by rcases a3 with h | h; (rw [hw] at h; cases h); exact h, a4, agSegs_ok hz hs a5⟩
     ·cases h3
   | succ i => simpa using h2 i D (by simpa using hD)
 | [], _ :: _, h => by simp [agBlks] at h
 | _ :: _, [], h => by simp [agBlks] at h
theorem agMem_ok {β : Base} {w : World} {K : Nat} {m head : Mem} (hK : β.k ≤ K) (hKh : K ≤ head.length) (h : agMem σ K π m head = true) (hm : MRep ρ β ι m w) : MRep (ρ.app σ) β (piv π ι) head w := by
 simp only [agMem, Bool.and_eq_true, decide_eq_true_eq] at h
 obtain ⟨⟨⟨hnd, hid⟩, hlt⟩, hb⟩ := h
 obtain ⟨hlen, hblk⟩ := agBlks_ok (ι := ι) hz hs hb
 have hlt : ∀ b ∈ π, b < m.length := fun b hb => by simpa using List.all_eq_true.1 hlt b hb
 have at_ : ∀ i, i < head.length → ∃ p, π[i]? = some p ∧ p < m.length := fun i hi => by
  have hi' : i < π.length := by omega
  exact ⟨π[i], List.getElem?_eq_getElem hi', hlt _ (List.getElem_mem hi')⟩
 have id_ : ∀ i, i < K → π[i]? = some i := fun i hi => by
  have := congrArg (fun l => l[i]?) hid
  simp only [List.getElem?_take, if_pos hi, List.getElem?_range hi] at this
  exact this
 have back : ∀ i j p, π[i]? = some p → π[j]? = some p → i = j := fun i j p hi hj => by
  have hi' := (List.getElem?_eq_some_iff.1 hi)
  have hj' := (List.getElem?_eq_some_iff.1 hj)
  exact (List.getElem_inj hnd).1 (hi'.2.trans hj'.2.symm)
 refine ⟨fun i j B D hB hD hBd hDd hBn hDn he => ?_, fun i B hB hBd hBn => ?_, fun i B hB hBd hBn => ?_, fun i hi => ?_, by omega, fun i h1 h2 => ?_, hm.size, fun b hb hi => ?_, hm.os, hm.tape, hm.output, hm.xt, fun i j a n c hv h0 k hk => ?_⟩
 ·obtain ⟨p, C, hp, hC, h1⟩ := hblk i B hB
  obtain ⟨q, F, hq, hF, h2⟩ := hblk j D hD
  rw [piv_at hp, piv_at hq] at he
  rw [(piv_all hp).2] at hBn
  rw [(piv_all hq).2] at hDn
  have := hm.inj _ _ C F hC hF (h1 hBd).1 (h2 hDd).1 hBn hDn he
  subst this
  exact back i j p hp hq
 ·obtain ⟨p, C, hp, hC, h1⟩ := hblk i B hB
  obtain ⟨hCd, ht, hw, hg, hc⟩ := h1 hBd
  rw [(piv_all hp).2] at hBn
  obtain ⟨fz, rest, k1, k2, k3, k4⟩ := hm.blk p C hC hCd hBn
  rw [(piv_all hp).1, piv_at hp, hc, ht, hg]
  exact ⟨fz, rest, k1, fun h => k2 (hw h), k3, k4⟩
 ·obtain ⟨p, C, hp, hC, h1⟩ := hblk i B hB
  obtain ⟨hCd, ht, hw, hg, hc⟩ := h1 hBd
  rw [(piv_all hp).2] at hBn
  rw [hg, hc]; exact hm.nils p C hC hCd hBn
 ·have := id_ i (by omega)
  rw [piv_at this, (piv_all this).1, (piv_all this).2]; exact hm.agr i hi
 ·obtain ⟨p, hp, hp'⟩ := at_ i h2
  rw [piv_at hp]
  rcases hm.new p (by
   by_cases hc : p < K
   ·have := back i p p hp (id_ p hc)
    omega
   ·omega) hp' with hn | ⟨j, hj, hn⟩
  ·exact .inl hn
  ·exact .inr ⟨j, hj, by rw [piv_at (id_ j (by omega))]; exact hn⟩
 ·refine hm.old b hb fun i hi' he => ?_
  by_cases hc : i ∈ π
  ·obtain ⟨j, hj, hj'⟩ := List.getElem_of_mem hc
   exact hi j (by omega) (by rw [piv_at (List.getElem?_eq_some_iff.2 ⟨hj, hj'⟩)]; exact he)
  ·by_cases hk : i < β.k
   ·exact hc (List.mem_of_getElem? (id_ i (by omega)))
   ·rcases hm.new i (by omega) hi' with hn | ⟨j, hj, hn⟩
    ·omega
    ·exact hi j (by omega) (by rw [piv_at (id_ j (by omega)), ← hn]; exact he)
 ·obtain ⟨p, hp, hp'⟩ := at_ k hk
  rw [piv_at hp]; exact hm.xd i j a n c hv h0 p hp'
end
end
structure Head where
 key : Nat
 todo : List Item
 H : Hyp
 fr : Fr
 m : Mem
structure Dim where
 ni : Nat
 nb : Nat
 na : Nat
 ui : Nat
 ub : Nat
 ua : Nat
 K : Nat
structure So where
 s : Sg
 p : List (Nat × Nat)
def So.i (D : Dim) (o : So) : E → E → So
 | .v k, e => if D.ui ≤ k && (keyIn o.s.i k).isNone then { o with s := { o.s with i := (k, e) :: o.s.i } } else o
 | _, _ => o
def So.b (D : Dim) (o : So) : E → E → So
 | .bv k, e => if D.ub ≤ k && (keyIn o.s.b k).isNone then { o with s := { o.s with b := (k, e) :: o.s.b } } else o
 | _, _ => o
def So.a (D : Dim) (o : So) : E → E → So
 | .av k, e => if D.ua ≤ k && (keyIn o.s.a k).isNone then { o with s := { o.s with a := (k, e) :: o.s.a } } else o
 | _, _ => o
def So.at (o : So) (b c : Nat) : So := if o.p.any (fun q => q.1 == b) then o else { o with p := (b, c) :: o.p }
def So.caps (D : Dim) : So → List (Nat × E) → List (Nat × E) → So
 | o, p :: l, q :: r => So.caps D ((o.at p.1 q.1).i D p.2 q.2) l r
 | o, _, _ => o
def So.x (D : Dim) (o : So) : S → S → So
 | .int _ x, .int _ y => o.i D x y
 | .bool x, .bool y => o.b D x y
 | .ptr b x, .ptr c y => (o.at b c).i D x y
 | .slc b x l (.kn c), .slc b' x' l' (.kn c') => (((o.at b b').i D x x').i D l l').i D c c'
 | .slc b x l (.op c), .slc b' x' l' (.op c') => (((o.at b b').i D x x').i D l l').i D c c'
 | .xslc _ j x l, .xslc _ j' x' l' => ((o.i D j j').i D x x').i D l l'
 | .xptr _ j k _, .xptr _ j' k' _ => (o.i D j j').i D k k'
 | .fn _ l, .fn _ r => o.caps D l r
 | .ifc _ _ x, .ifc _ _ y => o.i D x y
 | _, _ => o
def So.seg (D : Dim) (o : So) : Seg → Seg → So
 | .one x, .one y => o.x D x y
 | .run _ n A _, .run _ n' A' _ => (o.i D n n').a D A A'
 | .rows n fs _, .rows n' fs' _ => (fs.zip fs').foldl (fun o p => o.a D p.1.2 p.2.2) (o.i D n n')
 | _, _ => o
def So.segs (D : Dim) : So → List Seg → List Seg → So
 | o, p :: l, q :: r => So.segs D (o.seg D p q) l r
 | o, _, _ => o
def So.tup (D : Dim) : So → List (Bool × List Seg) → List (Bool × List Seg) → So
 | o, p :: l, q :: r => So.tup D (o.segs D p.2 q.2) l r
 | o, _, _ => o
def So.v (D : Dim) (o : So) : SV → SV → So
 | .s x, .s y => o.x D x y
 | .agg l, .agg r => o.segs D l r
 | .tup l, .tup r => o.tup D l r
 | _, _ => o
def So.fr (D : Dim) (fr : Fr) : So → Fr → So
 | o, f :: l => So.fr D fr (match look fr f.t with | some (_, y) => o.v D f.x y | none => o) l
 | o, [] => o
def So.pi (o : So) (b : Nat) : Nat := match o.p.find? (fun q => q.1 == b) with | some q => q.2 | none => b
def So.mem (D : Dim) (m : Mem) : Nat → So → Mem → So
 | b, o, B :: l => So.mem D m (b + 1) (match m[o.pi b]? with | some C => o.segs D B.segs C.segs | none => o) l
 | _, o, [] => o
def solve (D : Dim) (fr : Fr) (m : Mem) (h : Head) : So :=
 So.mem D m 0 (So.mem D m 0 (So.fr D fr ⟨⟨[], [], []⟩, (List.range D.K).map fun i => (i, i)⟩ h.fr) h.m) h.m
inductive LT where
 | ret (v : SV) (m : Mem)
 | jump (j : Nat) (todo : List Item) (σ : Sg)
 | need (c : E) (t : LT)
 | ite (c : E) (t e : LT)
def headAt (hs : List Head) (todo : List Item) : Option Nat := match todo with
 | .code c :: _ => hs.findIdx? (fun h => h.key == key c)
 | _ => none
def fitH (D : Dim) (fr : Fr) (m : Mem) (h : Head) : Option Sg :=
 let o := solve D fr m h
 let π := (List.range h.m.length).map o.pi
 if agFr o.s π fr h.fr && agMem o.s D.K π m h.m && sgFit o.s D.ni D.nb D.na && decide (D.K ≤ h.m.length) then some o.s else none
def fitR (D : Dim) (H : Hyp) (fr : Fr) (m : Mem) (h : Head) : Option Sg := match fitH D fr m h with
 | some s => some s
 | none => fitH D fr (m.map (recast1 H)) h
def headFit (D : Dim) (k : Nat) (H : Hyp) (fr : Fr) (m : Mem) : Nat → List Head → Option (Nat × Sg)
 | _, [] => none
 | j, h :: r => cond (Nat.beq h.key k) (match fitR D H fr m h with
   | some s => some (j, s)
   | none => headFit D k H fr m (j + 1) r) (headFit D k H fr m (j + 1) r)
theorem headFit_some {D : Dim} {k : Nat} {H : Hyp} {fr : Fr} {m : Mem} : ∀ {hs : List Head} {j i : Nat} {s : Sg}, headFit D k H fr m j hs = some (i, s) → j ≤ i ∧ ∃ h, hs[i - j]? = some h ∧ fitR D H fr m h = some s
 | [], j, i, s, h => by cases h
 | x :: r, j, i, s, h => by
   have rec_ : headFit D k H fr m (j + 1) r = some (i, s) → j ≤ i ∧ ∃ h, (x :: r)[i - j]? = some h ∧ fitR D H fr m h = some s := fun h => by
    obtain ⟨h1, y, h2, h3⟩ := headFit_some h
    refine ⟨by omega, y, ?_, h3⟩
    rw [show i - j = (i - (j + 1)) + 1 by omega, List.getElem?_cons_succ]; exact h2
   unfold headFit at h
   cases hb : Nat.beq x.key k with
   | false => rw [hb] at h; exact rec_ h
   | true =>
     rw [hb] at h
     simp only [cond_true] at h
     split at h
     ·rename_i s' hs'
      simp only [Option.some.injEq, Prod.mk.injEq] at h
      obtain ⟨rfl, rfl⟩ := h
      exact ⟨Nat.le_refl _, x, by simp, hs'⟩
     ·exact rec_ h
def close (D : Dim) (hs : List Head) : Tree → Option LT
 | .ret v m => some (.ret v m)
 | .stop todo H fr m => match todo with
   | .code c :: _ => (match headFit D (key c) H fr m 0 hs with
     | some (j, s) => some (.jump j todo s)
     | none => none)
   | _ => none
 | .need c t => (close D hs t).map (.need c)
 | .ite c t e => match close D hs t, close D hs e with
   | some x, some y => some (.ite c x y)
   | _, _ => none
 | _ => none
def LT.holds (ρ : Env) (ret : SV → Mem → Prop) (jump : Nat → List Item → Env → Prop) : LT → Prop
 | .ret v m => ret v m
 | .jump j todo σ => jump j todo (ρ.app σ)
 | .need c t => c.b ρ = true ∧ (c.b ρ = true → t.holds ρ ret jump)
 | .ite c t e => (c.b ρ = true → t.holds ρ ret jump) ∧ (c.b ρ = false → e.holds ρ ret jump)
theorem LT.holds_imp {ρ : Env} {r r' : SV → Mem → Prop} {g g' : Nat → List Item → Env → Prop} (hr : ∀ v m, r v m → r' v m) (hg : ∀ j t e, g j t e → g' j t e) : ∀ {t : LT}, t.holds ρ r g → t.holds ρ r' g'
 | .ret _ _, h => hr _ _ h
 | .jump _ _ _, h => hg _ _ _ h
 | .need _ _, h => ⟨h.1, fun hc => LT.holds_imp hr hg (h.2 hc)⟩
 | .ite _ _ _, h => ⟨fun hc => LT.holds_imp hr hg (h.1 hc), fun hc => LT.holds_imp hr hg (h.2 hc)⟩
section
variable {P : Program} {f : FuncId} {fn : Func} {R : Ending → World → Prop} {ρ : Env} {β : Base} {n : Nat} {D : Dim} {hs : List Head} {Γ : Ctx} {I : Interp}
def GoesAt (P : Program) (f : FuncId) (R : Ending → World → Prop) (β : Base) (n : Nat) (h : Head) (ρ : Env) : Prop :=
 ∀ ι a w, FRep ρ ι n h.fr a → MRep ρ β ι h.m w → Goes P f R h.todo a w
theorem close_ok (hK : β.k ≤ D.K) (hz : Sized ρ D.ni D.nb D.na) : ∀ {t : Tree} {lt : LT}, close D hs t = some lt →
 lt.holds ρ (fun v m => ∀ ι w, MRep ρ β ι m w → R (endV ρ ι v) w) (fun j todo ρ' => ∃ h, hs[j]? = some h ∧ todo = h.todo ∧ GoesAt P f R β n h ρ') → t.holds P f R ρ β n [] := by
 intro t
 induction t with
 | ret v m =>
   intro lt h hl
   simp only [close, Option.some.injEq] at h; subst h
   exact hl
 | stop todo H fr m =>
   intro lt h hl
   simp only [close] at h
   split at h
   ·rename_i c0 r0
    split at h
    ·rename_i j s hj
     obtain ⟨_, hd, hhd, hfit⟩ := headFit_some hj
     rw [Nat.sub_zero] at hhd
     simp only [Option.some.injEq] at h; subst h
     obtain ⟨h', hh', ht, hg⟩ := hl
     rw [hhd] at hh'
     simp only [Option.some.injEq] at hh'; subst hh'
     have hg2 : ∀ ι a w, FRep (ρ.app s) ι n hd.fr a → MRep (ρ.app s) β ι hd.m w → Goes P f R (.code c0 :: r0) a w := fun ι a w h1 h2 => by rw [ht]; exact hg ι a w h1 h2
     have fit : ∀ m1, fitH D fr m1 hd = some s → ∀ ι a w, FRep ρ ι n fr a → MRep ρ β ι m1 w → Goes P f R (.code c0 :: r0) a w := by
      intro m1 hfit ι a w hf hm
      unfold fitH at hfit
      simp only at hfit
      split at hfit
      ·rename_i hc
       simp only [Bool.and_eq_true, decide_eq_true_eq] at hc
       simp only [Option.some.injEq] at hfit; subst hfit
       exact hg2 _ a w (agFr_ok hz hc.1.2 hc.1.1.1 hf) (agMem_ok hz hc.1.2 hK hc.2 hc.1.1.2 hm)
      ·cases hfit
     intro hH ι a w hf hm
     unfold fitR at hfit
     split at hfit
     ·rename_i s' hs'
      simp only [Option.some.injEq] at hfit; subst hfit
      exact fit m hs' ι a w hf hm
     ·exact fit _ hfit ι a w hf (hm.recast hH)
    ·cases h
   ·cases h
 | need c t ih =>
   intro lt h hl
   simp only [close, Option.map_eq_some_iff] at h
   obtain ⟨x, hx, rfl⟩ := h
   exact ⟨hl.1, fun hc => ih hx (hl.2 hc)⟩
 | ite c t e iht ihe =>
   intro lt h hl
   simp only [close] at h
   split at h
   ·rename_i x y hx hy
    simp only [Option.some.injEq] at h; subst h
    exact ⟨fun hc => iht hx (hl.1 hc), fun hc => ihe hy (hl.2 hc)⟩
   ·cases h
 | again => intro lt h; simp [close] at h
 | fail => intro lt h; simp [close] at h
theorem floyd {hc' : HintCtx} (hΓ : CtxOK P I Γ) (hP : P.follows .mixedOrders = true) (hfn : P.funcs[f]? = some fn) (hK : β.k ≤ D.K) {k u : Nat} {cut : List Nat} {Inv : Nat → Env → Prop} {μ : Nat → Env → Nat}
 (hseg : ∀ j h ρ, hs[j]? = some h → ρ.I = I → Sized ρ D.ni D.nb D.na → Inv j ρ → ∃ H', Hyp.ok H' ρ ∧ ∃ lt, close D hs (run P Γ hc' fn n cut k u none h.todo H' h.fr h.m) = some lt ∧
   lt.holds ρ (fun v m => ∀ ι w, MRep ρ β ι m w → R (endV ρ ι v) w) (fun j' todo ρ' => (∃ h', hs[j']? = some h' ∧ todo = h'.todo) ∧ Inv j' ρ' ∧ μ j' ρ' < μ j ρ)) :
 ∀ N j h ρ, μ j ρ < N → hs[j]? = some h → ρ.I = I → Sized ρ D.ni D.nb D.na → Inv j ρ → GoesAt P f R β n h ρ := by
 intro N
 induction N with
 | zero => intro j h ρ hN; omega
 | succ N ih =>
   intro j h ρ hN hj hI hz hInv ι a w hf hm
   obtain ⟨H', hH, lt, hcl, hl⟩ := hseg j h ρ hj hI hz hInv
   have := run_ok (R := R) (bs := []) (cut := cut) hΓ hI hP hfn k u none h.todo H' h.fr h.m ι a w (close_ok (R := R) (n := n) hK hz hcl ?_) (fun _ hb => by cases hb) hH hf hm
   ·simpa using this
   ·have key : ∀ (t : LT), t.holds ρ (fun v m => ∀ ι w, MRep ρ β ι m w → R (endV ρ ι v) w) (fun j' todo ρ' => (∃ h', hs[j']? = some h' ∧ todo = h'.todo) ∧ Inv j' ρ' ∧ μ j' ρ' < μ j ρ) →
     t.holds ρ (fun v m => ∀ ι w, MRep ρ β ι m w → R (endV ρ ι v) w) (fun j todo ρ' => ∃ h, hs[j]? = some h ∧ todo = h.todo ∧ GoesAt P f R β n h ρ') := by
     intro t
     induction t with
     | ret v m => exact fun h => h
     | jump j' todo σ =>
       intro h
       obtain ⟨⟨h', hh, ht⟩, h2, h3⟩ := h
       exact ⟨h', hh, ht, ih j' h' _ (by omega) hh (by simpa [Env.app] using hI) hz.app h2⟩
     | need c t ih => exact fun h => ⟨h.1, fun hc => ih (h.2 hc)⟩
     | ite c t e i1 i2 => exact fun h => ⟨fun hc => i1 (h.1 hc), fun hc => i2 (h.2 hc)⟩
    exact key lt hl
theorem floyd_calls {hc' : HintCtx} (hΓ : CtxOK P I Γ) (hP : P.follows .mixedOrders = true) (hfn : P.funcs[f]? = some fn) (hK : β.k ≤ D.K) {c : Code} (hc : fn.body = some c) {k u u0 : Nat} {cut : List Nat} {Inv : Nat → Env → Prop} (μ : Nat → Env → Nat)
 {H : Hyp} {l : List SV} {m : Mem} {ι : Loc} {w : World} {lt : LT} (hl : l.length ≤ fn.ntmps)
 (hrun : close D hs (run P Γ hc' fn fn.ntmps cut k u0 none [.code c] H (frameOf l) m) = some lt)
 (hI : ρ.I = I) (hz : Sized ρ D.ni D.nb D.na) (hH : H.ok ρ) (hm : MRep ρ β ι m w)
 (hlt : lt.holds ρ (fun v m => ∀ ι w, MRep ρ β ι m w → R (endV ρ ι v) w) (fun j' todo ρ' => (∃ h', hs[j']? = some h' ∧ todo = h'.todo) ∧ Inv j' ρ'))
 (hseg : ∀ j h ρ, hs[j]? = some h → ρ.I = I → Sized ρ D.ni D.nb D.na → Inv j ρ → ∃ H', Hyp.ok H' ρ ∧ ∃ lt, close D hs (run P Γ hc' fn fn.ntmps cut k u none h.todo H' h.fr h.m) = some lt ∧
   lt.holds ρ (fun v m => ∀ ι w, MRep ρ β ι m w → R (endV ρ ι v) w) (fun j' todo ρ' => (∃ h', hs[j']? = some h' ∧ todo = h'.todo) ∧ Inv j' ρ' ∧ μ j' ρ' < μ j ρ)) :
 Calls P f (l.map (SV.conc ρ ι)).toArray w R := by
 refine run_calls hΓ hI hP hfn hc hl (close_ok (n := fn.ntmps) hK hz hrun ?_) hH hm
 have key : ∀ (t : LT), t.holds ρ (fun v m => ∀ ι w, MRep ρ β ι m w → R (endV ρ ι v) w) (fun j' todo ρ' => (∃ h', hs[j']? = some h' ∧ todo = h'.todo) ∧ Inv j' ρ') →
  t.holds ρ (fun v m => ∀ ι w, MRep ρ β ι m w → R (endV ρ ι v) w) (fun j todo ρ' => ∃ h, hs[j]? = some h ∧ todo = h.todo ∧ GoesAt P f R β fn.ntmps h ρ') := by
  intro t
  induction t with
  | ret v m => exact fun h => h
  | jump j' todo σ =>
    intro h
    obtain ⟨⟨h', hh, ht⟩, h2⟩ := h
    exact ⟨h', hh, ht, floyd hΓ hP hfn hK hseg _ j' h' _ (Nat.lt_succ_self _) hh (by simpa [Env.app] using hI) hz.app h2⟩
  | need c t ih => exact fun h => ⟨h.1, fun hc => ih (h.2 hc)⟩
  | ite c t e i1 i2 => exact fun h => ⟨fun hc => i1 (h.1 hc), fun hc => i2 (h.2 hc)⟩
 exact key lt hlt
end
def startL (P : Program) (Γ : Ctx) (hc' : HintCtx) (D : Dim) (hs : List Head) (cut : List Nat) (k u : Nat) (f : FuncId) (H : Hyp) (l : List SV) (m : Mem) : Option LT := match P.funcs[f]? with
 | some fn => match fn.body with
   | some c => if l.length ≤ fn.ntmps then close D hs (run P Γ hc' fn fn.ntmps cut k u none [.code c] H (frameOf l) m) else none
   | none => none
 | none => none
def segL (P : Program) (Γ : Ctx) (hc' : HintCtx) (D : Dim) (hs : List Head) (cut : List Nat) (k u : Nat) (f : FuncId) (h : Head) : Option LT := match P.funcs[f]? with
 | some fn => close D hs (run P Γ hc' fn fn.ntmps cut k u none h.todo h.H h.fr h.m)
 | none => none
def seekT (K : Nat) : Nat → List Item → Option (List Item)
 | 0, _ => none
 | n + 1, todo => match todo with
   | .code (.seq x y) :: r => cond (cutSeq [K] x) (some (.code x :: .code y :: r)) (seekT K n (.code x :: .code y :: r))
   | .code (.loop c) :: r => cond (Nat.beq (key c) K) (some (.code c :: .inLoop c :: r)) (match seekT K n (.code c :: .inLoop c :: r) with
     | some t => some t
     | none => seekT K n r)
   | .code (.cond _ x y) :: r => (match seekT K n (.code x :: r) with
     | some t => some t
     | none => seekT K n (.code y :: r))
   | .code (.block id c) :: r => seekT K n (.code c :: .inBlock id :: r)
   | .code (.scope c) :: r => seekT K n (.code c :: .inScope c :: r)
   | .code .ret :: _ => none
   | .code (.exit id) :: r => (match exitTo id r with
     | some r' => seekT K n r'
     | none => none)
   | _ :: r => seekT K n r
   | [] => none
def seekS (P : Program) (f : FuncId) (K : Nat) : List Item := match P.funcs[f]? with
 | some fn => match fn.body with
   | some c => (seekT K 4000 [.code c]).getD []
   | none => []
 | none => []
section
variable {P : Program} {f : FuncId} {ρ : Env} {D : Dim} {hs : List Head} {Γ : Ctx} {I : Interp}
theorem MRep.below0 {w w' : World} {ι ι' : Loc} {m : Mem} (h : MRep ρ ⟨w, 0, ι⟩ ι' m w') : RowKit.Below w.heap.size w w' :=
 ⟨h.os, h.tape, h.output, h.size, fun k hk => h.old k hk fun i hi he => by
   rcases h.new i (Nat.zero_le _) hi with h1 | ⟨j, hj, _⟩
   ·simp only at h1; omega
   ·exact absurd hj (Nat.not_lt_zero _)⟩
theorem calls_loops3 {β : Base} {R : Ending → World → Prop} {hc' : HintCtx} (hΓ : CtxOK P I Γ) (hP : P.follows .mixedOrders = true) (hK : β.k ≤ D.K) {k u u0 : Nat} {cut : List Nat} (Inv : Nat → Env → Prop) (μ : Nat → Env → Nat) (ret : Env → SV → Mem → Prop)
 {H : Hyp} {l : List SV} {m : Mem} {ι : Loc} {w : World} {lt : LT}
 (hret : ∀ ρ v m, ρ.I = I → ret ρ v m → ∀ ι w, MRep ρ β ι m w → R (endV ρ ι v) w)
 (hrun : startL P Γ hc' D hs cut k u0 f H l m = some lt) (hm : MRep ρ β ι m w)
 (hI : ρ.I = I) (hz : Sized ρ D.ni D.nb D.na) (hH : H.ok ρ) (hlt : lt.holds ρ (ret ρ) (fun j' todo ρ' => (hs[j']?.map (·.todo)) = some todo ∧ Inv j' ρ'))
 (hseg : ∀ j h ρ, hs[j]? = some h → ρ.I = I → Sized ρ D.ni D.nb D.na → Inv j ρ → ∃ H', Hyp.ok H' ρ ∧ ∃ lt, segL P Γ hc' D hs cut k u f { h with H := H' } = some lt ∧
   lt.holds ρ (ret ρ) (fun j' todo ρ' => (hs[j']?.map (·.todo)) = some todo ∧ Inv j' ρ' ∧ μ j' ρ' < μ j ρ)) :
 Calls P f (l.map (SV.conc ρ ι)).toArray w R := by
 unfold startL at hrun
 split at hrun
 ·rename_i fn hfn
  split at hrun
  ·rename_i c hc
   split at hrun
   ·rename_i hl
    have conv : ∀ {todo : List Item} {j : Nat}, (hs[j]?.map (·.todo)) = some todo → ∃ h', hs[j]? = some h' ∧ todo = h'.todo := by
     intro todo j h
     simp only [Option.map_eq_some_iff] at h
     obtain ⟨h', h1, h2⟩ := h
     exact ⟨h', h1, h2.symm⟩
    refine floyd_calls (u := u) hΓ hP hfn hK hc μ hl hrun hI hz hH hm (LT.holds_imp (hret ρ · · hI) (fun j todo ρ' h => ⟨conv h.1, h.2⟩) hlt) fun j h ρ' hj hI' hz' hInv => ?_
    obtain ⟨H', h1, lt', h2, h3⟩ := hseg j h ρ' hj hI' hz' hInv
    refine ⟨H', h1, lt', ?_, LT.holds_imp (hret ρ' · · hI') (fun j todo ρ' h => ⟨conv h.1, h.2⟩) h3⟩
    simpa only [segL, hfn] using h2
   ·cases hrun
  ·cases hrun
 ·cases hrun
theorem calls_loops2 {β : Base} {R : Ending → World → Prop} {hc' : HintCtx} (hΓ : CtxOK P I Γ) (hP : P.follows .mixedOrders = true) (hK : β.k ≤ D.K) {k u u0 : Nat} {cut : List Nat} (Inv : Nat → Env → Prop) (μ : Nat → Env → Nat) (ret : Env → SV → Mem → Prop)
 {H : Hyp} {l : List SV} {m : Mem} {ι : Loc} {w : World} {lt : LT}
 (hret : ∀ ρ v m, ρ.I = I → ret ρ v m → ∀ ι w, MRep ρ β ι m w → R (endV ρ ι v) w)
 (hrun : startL P Γ hc' D hs cut k u0 f H l m = some lt) (hm : MRep ρ β ι m w)
 (hI : ρ.I = I) (hz : Sized ρ D.ni D.nb D.na) (hH : H.ok ρ) (hlt : lt.holds ρ (ret ρ) (fun j' todo ρ' => (hs[j']?.map (·.todo)) = some todo ∧ Inv j' ρ'))
 (hseg : ∀ j h ρ, hs[j]? = some h → ρ.I = I → Sized ρ D.ni D.nb D.na → Inv j ρ → h.H.ok ρ ∧ ∃ lt, segL P Γ hc' D hs cut k u f h = some lt ∧
   lt.holds ρ (ret ρ) (fun j' todo ρ' => (hs[j']?.map (·.todo)) = some todo ∧ Inv j' ρ' ∧ μ j' ρ' < μ j ρ)) :
 Calls P f (l.map (SV.conc ρ ι)).toArray w R :=
 calls_loops3 (u := u) hΓ hP hK Inv μ ret hret hrun hm hI hz hH hlt fun j h ρ hj hI' hz' hInv => by
  obtain ⟨h1, lt', h2, h3⟩ := hseg j h ρ hj hI' hz' hInv
  exact ⟨h.H, h1, lt', h2, h3⟩
theorem calls_loops {β : Base} {R : Ending → World → Prop} {hc' : HintCtx} (hΓ : CtxOK P I Γ) (hP : P.follows .mixedOrders = true) (hK : β.k ≤ D.K) {k u : Nat} {cut : List Nat} (Inv : Nat → Env → Prop) (μ : Nat → Env → Nat) (ret : Env → SV → Mem → Prop)
 {H : Hyp} {l : List SV} {m : Mem} {ι : Loc} {w : World} {lt : LT}
 (hret : ∀ ρ v m, ρ.I = I → ret ρ v m → ∀ ι w, MRep ρ β ι m w → R (endV ρ ι v) w)
 (hrun : startL P Γ hc' D hs cut k u f H l m = some lt) (hm : MRep ρ β ι m w)
 (hI : ρ.I = I) (hz : Sized ρ D.ni D.nb D.na) (hH : H.ok ρ) (hlt : lt.holds ρ (ret ρ) (fun j' todo ρ' => (hs[j']?.map (·.todo)) = some todo ∧ Inv j' ρ'))
 (hseg : ∀ j h ρ, hs[j]? = some h → ρ.I = I → Sized ρ D.ni D.nb D.na → Inv j ρ → h.H.ok ρ ∧ ∃ lt, segL P Γ hc' D hs cut k u f h = some lt ∧
   lt.holds ρ (ret ρ) (fun j' todo ρ' => (hs[j']?.map (·.todo)) = some todo ∧ Inv j' ρ' ∧ μ j' ρ' < μ j ρ)) :
 Calls P f (l.map (SV.conc ρ ι)).toArray w R :=
 calls_loops2 (u := u) (u0 := u) hΓ hP hK Inv μ ret hret hrun hm hI hz hH hlt hseg
end
def inB (r : Option Rng) (lo hi : Int) : Bool := match r with | some (a, b) => decide (lo ≤ a) && decide (b ≤ hi) | none => false
structure XFit (x : Ext) (w : World) (ks : List (Option IntKind)) : Prop where
 ok : x.ok w
 sz : x.sz = ks.length
 fit : ∀ k f kd, k < x.n → ks[f]? = some kd → Fit kd (x.cell (k * ks.length + f))
 len : x.n ≤ maxLen
def xArr (x : Ext) (s f : Nat) : Nat → Int := fun k => if k < x.n then numV (x.cell (k * s + f)) else 0
section
variable {H : Type} {enc : TypeId × Value → H} {P : Program} {w : World} {base : Nat} {spare : Nat → Bool} {held : Bool}
end
theorem cons_eq {α : Type} {a b : α} {l r : List α} (h : a = b) (h' : l = r) : a :: l = b :: r := by rw [h, h']
theorem conc_ext {ρ : Env} {ι : Loc} {i : Nat} {n : E} {x : Ext} {w : World} {ks : List (Option IntKind)} (g : XFit x w ks) (h1 : ρ.I.xs i 0 = x) (h2 : n.i ρ = x.n) : SV.conc ρ ι (.s (.xslc i (.lit 0) (.lit 0) n)) = x.v := by
 obtain ⟨b, c, e1, _⟩ := g.ok.ok
 simp only [SV.conc, S.conc, i_lit, Int.toNat_zero, h1, h2, Int.toNat_natCast, Ext.sub, e1, Nat.zero_mul, Nat.sub_zero]
 congr 1
 cases b <;> simp [Addr.add]
theorem xi_ok {ρ : Env} {i a : Nat} {n : E} {x : Ext} {w : World} {k : IntKind} (hx : XFit x w [some k]) (h1 : ρ.I.xs i 0 = x) (h2 : n.i ρ = x.n) (h3 : (ρ.a.getD a fun _ => 0) = xArr x 1 0) : XI.ok ρ i ⟨n, [(some k, .av a)], []⟩ := by
 refine ⟨by simp only [h2]; omega, by simp only [h1, h2]; omega, by rw [h1, hx.sz]; rfl, by simp [XI.w], fun q hq f d hf => ?_, fun _ _ q p hp => (by simp at hp), fun p hp => (by cases hp)⟩
 simp only [h2] at hq
 have hq : q < x.n := by omega
 cases f with
 | zero =>
   simp only [List.getElem?_cons_zero, Option.some.injEq] at hf; subst hf
   obtain ⟨z, hz, _⟩ := hx.fit q 0 _ hq rfl
   simp only [List.length_singleton, Nat.mul_one, Nat.add_zero] at hz
   simp only [XI.w, List.length_singleton, List.length_nil, Nat.mul_one, Nat.add_zero, h1, hz, XF.conc, a_av, h3, xArr, if_pos hq, numV]
 | succ f => simp at hf
theorem xArr_rng {x : Ext} {w : World} {k : IntKind} (hx : XFit x w [some k]) (j : Nat) : inR (krng k) (xArr x 1 0 j) := by
 unfold xArr
 split
 ·rename_i h
  obtain ⟨z, hz, hr⟩ := hx.fit j 0 _ h rfl
  simp only [List.length_singleton, Nat.mul_one, Nat.add_zero] at hz
  simp only [Nat.mul_one, Nat.add_zero, hz, numV]; exact hr
 ·cases k <;> simp [inR, krng, kmin, kmax]
theorem xlen_rng {x : Ext} {w : World} {ks : List (Option IntKind)} (hx : XFit x w ks) : inR (0, 9223372036854775807) (x.n : Int) := by
 have := hx.len
 unfold maxLen at this
 simp only [inR]; omega
structure PFit0 (x : Ext) (ys : Nat → Ext) (w : World) : Prop where
 ok : x.ok w
 sz : x.sz = 3
 num : ∀ k f, k < x.n → f < 2 → Fit (some .i64) (x.cell (k * 3 + f))
 nest : ∀ k, k < x.n → x.cell (k * 3 + 2) = (ys k).v
 row : ∀ k, XFit (ys k) w [some .u8]
section
variable {H : Type} {enc : TypeId × Value → H} {P : Program} {w : World} {base : Nat} {spare : Nat → Bool} {held : Bool}
end
theorem MRep.join {ρ ρ' : Env} {β : Base} {ι ι0 ι' : Loc} {m : Mem} {w w' : World} {B B' : Blk} (hm : MRep ρ β ι m w) (h' : MRep ρ' ⟨w, 0, ι0⟩ ι' [B'] w') (hs : m.all (fun B => B.segs.all (Seg.sc m.length)) = true) (hs' : B.segs.all (Seg.sc m.length) = true)
 (hc : cellsOf ρ ι B.segs = cellsOf ρ' ι' B'.segs) (hB : B.ty = B'.ty ∧ B.wr = B'.wr ∧ B.grow = none ∧ B'.grow = none ∧ B.dead = false ∧ B'.dead = false) : MRep ρ β (updL ι m.length (ι' 0) 0 false) (m ++ [B]) w' := by
 obtain ⟨e1, e2, e3, e4, e5, e6⟩ := hB
 have hnil : ι'.nil 0 = false := by
  cases h : ι'.nil 0 with
  | false => rfl
  | true => have := (h'.nils 0 B' rfl e6 h).1; rw [e4] at this; cases this
 have hge : w.heap.size ≤ ι' 0 := (h'.new 0 (Nat.zero_le _) (by simp)).resolve_right (fun ⟨j, hj, _⟩ => absurd hj (Nat.not_lt_zero _))
 refine hm.push B (ι' 0) 0 false hs hs' (fun b hb => h'.old b hb fun i hi => ?_) h'.size h'.os h'.tape h'.output hge (fun _ _ => ?_) (fun _ h => by cases h)
 ·have : i = 0 := by simpa using hi
  subst this; omega
 ·obtain ⟨fz, rest, h1, h2, h3, h4⟩ := h'.blk 0 B' rfl e6 hnil
  rw [h4 e4, List.append_nil] at h1
  refine ⟨fz, [], by rw [hc, e1, List.append_nil]; exact h1, by rw [e2]; exact h2, ?_, fun _ => rfl⟩
  intro sz h
  rw [e3] at h; cases h
def subN (l l' : List (Nat × Rng)) : Bool := l.all fun p => l'.any fun q => decide (q.1 = p.1) && decide (p.2.1 ≤ q.2.1 ∧ q.2.2 ≤ p.2.2)
theorem subN_ok {l l' : List (Nat × Rng)} {T : Nat → Int → Prop} (h : subN l l' = true) (hl : ∀ p ∈ l', ∀ z, T p.1 z → inR p.2 z) : ∀ p ∈ l, ∀ z, T p.1 z → inR p.2 z := fun p hp z hz => by
 have h1 := List.all_eq_true.1 h p hp
 obtain ⟨q, hq, h2⟩ := List.any_eq_true.1 h1
 simp only [Bool.and_eq_true, decide_eq_true_eq] at h2
 have h3 := hl q hq z (by rw [h2.1]; exact hz)
 simp only [inR] at h3 ⊢
 exact ⟨Int.le_trans h2.2.1 h3.1, Int.le_trans h3.2 h2.2.2⟩
def orS (s t : Spec) : Spec := fun H l m => match s H l m with
 | some r => some r
 | none => t H l m
theorem orS_ok {P : Program} {I : Interp} {f : FuncId} {s t : Spec} (hs : SpecOK P I f s) (ht : SpecOK P I f t) : SpecOK P I f (orS s t) := by
 constructor
 intro H l m nd v om h
 unfold orS at h
 split at h
 ·rename_i r hr
  simp only [Option.some.injEq] at h; subst h
  exact hs.ok H l m nd v om hr
 ·exact ht.ok H l m nd v om h
section
variable {ρ : Env} {β : Base} {ι : Loc} {m m0 : Mem} {w w' : World} {π : List Nat}
theorem pick_back {π : List Nat} (h : π.Nodup) : ∀ i j p : Nat, π[i]? = some p → π[j]? = some p → i = j := fun i j p hi hj => by
 have hi' := (List.getElem?_eq_some_iff.1 hi)
 have hj' := (List.getElem?_eq_some_iff.1 hj)
 exact (List.getElem_inj h).1 (hi'.2.trans hj'.2.symm)
end
def vidF (n : Int) (A : Nat → Int) (md : Int) (j : Nat) : Int := if 0 < n then (A ((j : Int) % n).toNat + (j : Int) / n) % md else 0
def mFill (b : Int) (j : Nat) : Int := (((j : Int) + (j : Int) / 128) % 256 * b) % 256
def mCode (C : Nat → Int) (j : Nat) : Int := if j % 3 = 0 then C (j / 3) % 256 else if j % 3 = 1 then C (j / 3) / 256 % 256 else C (j / 3) / 65536 % 256
def mNum (N : Nat → Int) (j : Nat) : Int := if j % 2 = 0 then N ((j - 6144) / 2) % 256 else N ((j - 6144) / 2) / 256
def mAt (n : Nat) (C : Nat → Int) (k : Nat) (N : Nat → Int) (b : Int) (j : Nat) : Int :=
 if 6144 ≤ j ∧ j < 6144 + 2 * k then mNum N j else if j < 3 * n then mCode C j else if j < 8192 then mFill b j else 0
def ramF (o : Int) (A : Nat → Int) : Nat → Nat → Int
 | 0, _ => 0
 | n + 1, j => if j = ((o + n) % 256).toNat then A n else ramF o A n j
def rowB (A : Nat → Int) (j : Nat) : Int := if j % 2 = 0 then A (j / 2) % 256 else A (j / 2) / 256 % 256
def Ifa : Nat → List Int → List Bool → List (Nat → Int) → Nat → Int
 | 0, is, _, xs => vidF (is.getD 0 0) (xs.getD 1 fun _ => 0) 65536
 | 1, is, _, xs => vidF (is.getD 0 0) (xs.getD 1 fun _ => 0) 256
 | 2, is, _, xs => vidF (is.getD 0 0) (xs.getD 1 fun _ => 0) 32768
 | 20, is, _, xs => fun j => mAt (min (is.getD 0 0).toNat 2048) (xs.getD 1 fun _ => 0) (min (is.getD 2 0).toNat 1024) (xs.getD 3 fun _ => 0) (is.getD 4 0) j % 256
 | 21, is, _, xs => fun j => ramF (is.getD 0 0) (xs.getD 2 fun _ => 0) (is.getD 1 0).toNat j % 65536
 | 50, _, _, xs => rowB (xs.getD 0 fun _ => 0)
 | _, _, _, _ => fun _ => 0
def sumF (n : Nat) (A : Nat → Int) : Int := (List.range n).foldl (fun s j => (s * 31 + A j + 7) % 4294967296) 1
theorem sumF_succ (n : Nat) (A : Nat → Int) : sumF (n + 1) A = (sumF n A * 31 + A n + 7) % 4294967296 := by
 unfold sumF; rw [List.range_succ, List.foldl_append]; rfl
theorem sumF_congr {A B : Nat → Int} : ∀ (n : Nat), (∀ j, j < n → A j = B j) → sumF n A = sumF n B
 | 0, _ => rfl
 | n + 1, h => by rw [sumF_succ, sumF_succ, sumF_congr n (fun j hj => h j (by omega)), h n (by omega)]
theorem sumF_rng (n : Nat) (A : Nat → Int) : 0 ≤ sumF n A ∧ sumF n A ≤ 4294967295 := by
 cases n with
 | zero => simp [sumF]
 | succ n => rw [sumF_succ]; omega
def sgV (k q p c : Int) : Int :=
 if k = 1 then (bitsInt .or .u16 q p)
 else if k = 2 then (bitsInt .and .u16 q p)
 else if k = 3 then (bitsInt .xor .u16 q p)
 else if k = 4 then ((q - p) % 65536)
 else if k = 5 then ((q + p) % 65536)
 else if k = 6 then (((q - p) - c) % 65536)
 else if k = 7 then (((q + p) + c) % 65536)
 else if k = 8 then ((q + 65535) % 65536)
 else if k = 9 then ((q + 1) % 65536)
 else if k = 10 then (65535 - q)
 else if k = 11 then ((q / 2) + ((q / 32768) * 32768))
 else if k = 12 then (((q % 32768) * 2) + c)
 else if k = 13 then (((q % 16384) * 4) + 3)
 else if k = 14 then (((q % 4096) * 16) + 15)
 else if k = 15 then (((q % 256) * 256) + (q / 256))
 else q
def sgF (w k q p c : Int) : Int :=
 if k = 1 then (((if ((bitsInt .or .u16 q p) ≤ 32767) then 0 else 1) + (if (if (w ≤ 31) then (32768 ≤ (bitsInt .or .u16 q p)) else (¬ (((w / 2) % 2) = 0))) then 2 else 0)) + (if ((bitsInt .or .u16 q p) = 0) then 8 else 0))
 else if k = 2 then (((if ((bitsInt .and .u16 q p) ≤ 32767) then 0 else 1) + (if (if (w ≤ 31) then (32768 ≤ (bitsInt .and .u16 q p)) else (¬ (((w / 2) % 2) = 0))) then 2 else 0)) + (if ((bitsInt .and .u16 q p) = 0) then 8 else 0))
 else if k = 3 then (((if ((bitsInt .xor .u16 q p) ≤ 32767) then 0 else 1) + (if (if (w ≤ 31) then (32768 ≤ (bitsInt .xor .u16 q p)) else (¬ (((w / 2) % 2) = 0))) then 2 else 0)) + (if ((bitsInt .xor .u16 q p) = 0) then 8 else 0))
 else if k = 4 then ((((((((q - p) / 32768) % 2) + (if (if (w ≤ 31) then (¬ ((((q - p) / 32768) % 2) = 0)) else (¬ (((w / 2) % 2) = 0))) then 2 else 0)) + (if (q < p) then 4 else 0)) + (if (((q - p) % 65536) = 0) then 8 else 0)) + (if ((32768 ≤ ((if (q ≤ 32767) then q else (q + (-65536))) - (if (p ≤ 32767) then p else (p + (-65536))))) ∨ (((if (q ≤ 32767) then q else (q + (-65536))) - (if (p ≤ 32767) then p else (p + (-65536)))) ≤ (-32769))) then 16 else 0)) + (if (if ((32768 ≤ ((if (q ≤ 32767) then q else (q + (-65536))) - (if (p ≤ 32767) then p else (p + (-65536))))) ∨ (((if (q ≤ 32767) then q else (q + (-65536))) - (if (p ≤ 32767) then p else (p + (-65536)))) ≤ (-32769))) then (w ≤ 31) else (32 ≤ w)) then 32 else 0))
 else if k = 5 then ((((((((q + p) / 32768) % 2) + (if (if (w ≤ 31) then (¬ ((((q + p) / 32768) % 2) = 0)) else (¬ (((w / 2) % 2) = 0))) then 2 else 0)) + (if ((q + p) ≤ 65535) then 0 else 4)) + (if (((q + p) % 65536) = 0) then 8 else 0)) + (if ((32768 ≤ ((if (q ≤ 32767) then q else (q + (-65536))) + (if (p ≤ 32767) then p else (p + (-65536))))) ∨ (((if (q ≤ 32767) then q else (q + (-65536))) + (if (p ≤ 32767) then p else (p + (-65536)))) ≤ (-32769))) then 16 else 0)) + (if (if ((32768 ≤ ((if (q ≤ 32767) then q else (q + (-65536))) + (if (p ≤ 32767) then p else (p + (-65536))))) ∨ (((if (q ≤ 32767) then q else (q + (-65536))) + (if (p ≤ 32767) then p else (p + (-65536)))) ≤ (-32769))) then (w ≤ 31) else (32 ≤ w)) then 32 else 0))
 else if k = 6 then (((((((((q - p) - c) / 32768) % 2) + (if (if (w ≤ 31) then (¬ (((((q - p) - c) / 32768) % 2) = 0)) else (¬ (((w / 2) % 2) = 0))) then 2 else 0)) + (if (q < (p + c)) then 4 else 0)) + (if ((((q - p) - c) % 65536) = 0) then 8 else 0)) + (if ((32768 ≤ ((if (q ≤ 32767) then q else (q + (-65536))) - (if (p ≤ 32767) then p else (p + (-65536))))) ∨ (((if (q ≤ 32767) then q else (q + (-65536))) - (if (p ≤ 32767) then p else (p + (-65536)))) ≤ (-32769))) then 16 else 0)) + (if (if ((32768 ≤ ((if (q ≤ 32767) then q else (q + (-65536))) - (if (p ≤ 32767) then p else (p + (-65536))))) ∨ (((if (q ≤ 32767) then q else (q + (-65536))) - (if (p ≤ 32767) then p else (p + (-65536)))) ≤ (-32769))) then (w ≤ 31) else (32 ≤ w)) then 32 else 0))
 else if k = 7 then (((((((((q + p) + c) / 32768) % 2) + (if (if (w ≤ 31) then (¬ (((((q + p) + c) / 32768) % 2) = 0)) else (¬ (((w / 2) % 2) = 0))) then 2 else 0)) + (if (((q + p) + c) ≤ 65535) then 0 else 4)) + (if ((((q + p) + c) % 65536) = 0) then 8 else 0)) + (if ((32768 ≤ ((if (q ≤ 32767) then q else (q + (-65536))) + (if (p ≤ 32767) then p else (p + (-65536))))) ∨ (((if (q ≤ 32767) then q else (q + (-65536))) + (if (p ≤ 32767) then p else (p + (-65536)))) ≤ (-32769))) then 16 else 0)) + (if (if ((32768 ≤ ((if (q ≤ 32767) then q else (q + (-65536))) + (if (p ≤ 32767) then p else (p + (-65536))))) ∨ (((if (q ≤ 32767) then q else (q + (-65536))) + (if (p ≤ 32767) then p else (p + (-65536)))) ≤ (-32769))) then (w ≤ 31) else (32 ≤ w)) then 32 else 0))
 else if k = 8 then (((((((((q + 32767) / 32768) + 1) % 2) + (if (if (w ≤ 31) then (¬ (((((q + 32767) / 32768) + 1) % 2) = 0)) else (¬ (((w / 2) % 2) = 0))) then 2 else 0)) + (if (q ≤ 0) then 4 else 0)) + (if (((q + 65535) % 65536) = 0) then 8 else 0)) + (if (((if (q ≤ 32767) then q else (q + (-65536))) + (-1)) ≤ (-32769)) then 16 else 0)) + (if (if (((if (q ≤ 32767) then q else (q + (-65536))) + (-1)) ≤ (-32769)) then (w ≤ 31) else (32 ≤ w)) then 32 else 0))
 else if k = 9 then ((((((((q + 1) / 32768) % 2) + (if (if (w ≤ 31) then (¬ ((((q + 1) / 32768) % 2) = 0)) else (¬ (((w / 2) % 2) = 0))) then 2 else 0)) + (if ((q + 1) ≤ 65535) then 0 else 4)) + (if (((q + 1) % 65536) = 0) then 8 else 0)) + (if ((32768 ≤ ((if (q ≤ 32767) then q else (q + (-65536))) + 1)) ∨ (((if (q ≤ 32767) then q else (q + (-65536))) + 1) ≤ (-32769))) then 16 else 0)) + (if (if ((32768 ≤ ((if (q ≤ 32767) then q else (q + (-65536))) + 1)) ∨ (((if (q ≤ 32767) then q else (q + (-65536))) + 1) ≤ (-32769))) then (w ≤ 31) else (32 ≤ w)) then 32 else 0))
 else if k = 10 then (((if ((65535 - q) ≤ 32767) then 0 else 1) + (if (if (w ≤ 31) then (32768 ≤ (65535 - q)) else (¬ (((w / 2) % 2) = 0))) then 2 else 0)) + (if ((65535 - q) = 0) then 8 else 0))
 else if k = 11 then ((((if (((q / 2) + ((q / 32768) * 32768)) ≤ 32767) then 0 else 1) + (if (if (w ≤ 31) then (32768 ≤ ((q / 2) + ((q / 32768) * 32768))) else (¬ (((w / 2) % 2) = 0))) then 2 else 0)) + (if ((q % 2) = 0) then 0 else 4)) + (if (((q / 2) + ((q / 32768) * 32768)) = 0) then 8 else 0))
 else if k = 12 then ((((if ((((q % 32768) * 2) + c) ≤ 32767) then 0 else 1) + (if (if (w ≤ 31) then (32768 ≤ (((q % 32768) * 2) + c)) else (¬ (((w / 2) % 2) = 0))) then 2 else 0)) + (if (q ≤ 32767) then 0 else 4)) + (if ((((q % 32768) * 2) + c) = 0) then 8 else 0))
 else if k = 13 then ((if ((((q % 16384) * 4) + 3) ≤ 32767) then 0 else 1) + (if (if (w ≤ 31) then (32768 ≤ (((q % 16384) * 4) + 3)) else (¬ (((w / 2) % 2) = 0))) then 2 else 0))
 else if k = 14 then ((if ((((q % 4096) * 16) + 15) ≤ 32767) then 0 else 1) + (if (if (w ≤ 31) then (32768 ≤ (((q % 4096) * 16) + 15)) else (¬ (((w / 2) % 2) = 0))) then 2 else 0))
 else if k = 15 then (((if ((((q % 256) * 256) + (q / 256)) ≤ 32767) then 0 else 1) + (if (if (w ≤ 31) then (32768 ≤ (((q % 256) * 256) + (q / 256))) else (¬ (((w / 2) % 2) = 0))) then 2 else 0)) + (if ((((q % 256) * 256) + (q / 256)) = 0) then 8 else 0))
 else w
def tm1 (p : Int) (o : Bool) (T : Int) (s : Int × Int × Int) : Int × Int × Int :=
 if (s.1 + 1) % p = 0 ∧ o = true then (if (s.2.1 + 1) % 256 = T then ((s.1 + 1) % p, 0, (s.2.2 + 1) % 16) else ((s.1 + 1) % p, (s.2.1 + 1) % 256, s.2.2)) else ((s.1 + 1) % p, s.2.1, s.2.2)
def tmN (p : Int) (o : Bool) (T : Int) : Nat → Int × Int × Int → Int × Int × Int
 | 0, s => s
 | n + 1, s => tm1 p o T (tmN p o T n s)
def perT (k : Nat) : Int := if k = 2 then 16 else 128
def tmv (k : Nat) (is : List Int) (bs : List Bool) : Int × Int × Int := tmN (perT k) (bs.getD 5 false) (is.getD 1 0) (is.getD 0 0).toNat (is.getD 2 0, is.getD 3 0, is.getD 4 0)
def setB (x b o : Int) : Int := (x - x / b % 2 * b + o * b) % 65536
def Ifi : Nat → List Int → List Bool → List (Nat → Int) → Int
 | 10, is, _, xs => sumF (is.getD 0 0).toNat (xs.getD 1 fun _ => 0)
 | 30, is, bs, _ => (tmv 0 is bs).1
 | 31, is, bs, _ => (tmv 1 is bs).1
 | 32, is, bs, _ => (tmv 2 is bs).1
 | 33, is, bs, _ => (tmv 0 is bs).2.1
 | 34, is, bs, _ => (tmv 1 is bs).2.1
 | 35, is, bs, _ => (tmv 2 is bs).2.1
 | 36, is, bs, _ => (tmv 0 is bs).2.2
 | 37, is, bs, _ => (tmv 1 is bs).2.2
 | 38, is, bs, _ => (tmv 2 is bs).2.2
 | 40, is, _, _ => sgV (is.getD 0 0) (is.getD 1 0) (is.getD 2 0) (is.getD 3 0) % 65536
 | 41, is, _, _ => sgF (is.getD 0 0) (is.getD 1 0) (is.getD 2 0) (is.getD 3 0) (is.getD 4 0) % 64
 | 43, is, _, _ => setB (is.getD 0 0) (is.getD 1 0) (is.getD 2 0)
 | _, _, _, _ => 0
def belowF (n : Nat) (z : Int) (A : Nat → Int) : Bool := (List.range n).all fun j => decide (A j < z)
def Ifb : Nat → List Int → List Bool → List (Nat → Int) → Bool
 | 60, is, _, xs => belowF (is.getD 0 0).toNat (is.getD 1 0) (xs.getD 2 fun _ => 0)
 | _, _, _, _ => false
def Iv (xs : Nat → Nat → Ext) : Interp := ⟨Ifi, Ifb, Ifa, xs⟩
section
variable {ρ : Env} {β : Base} {ι : Loc} {m : Mem} {w : World} {H : Hyp} {P : Program} {I : Interp}
end
structure XS where
 ph : Ph
 todo : List Item
 H : Hyp
 fr : Fr
 m : Mem
def capOK (H : Hyp) (m : Mem) : SV → Bool
 | .s .nilSlc => true
 | .s (.slc b off len (.kn c)) => leH H len c
 | .s (.slc b off len (.op k)) => match m[b]? with
   | some B => decide (B.grow = some 1 ∧ off = k) && atLeast H 0 k && (match rowLen H 1 B.segs with | some q => leA H off len q | none => false)
   | none => false
 | .s (.xslc i (.lit 0) off len) => match lookX H.x i with
   | some x => atLeast H 0 off && leH H (mkAdd off len) x.n
   | none => false
 | .s (.xslc i j off len) => match lookNs H.x i with
   | some (L, _) => atLeast H 0 j && atLeast H 0 off && leH H (mkAdd off len) (mkSel H L j)
   | none => false
 | .s (.xtl _ _ _ _) => true
 | _ => false
def arrIn (H : Hyp) (k : IntKind) : E → Bool
 | .av n => match lookN H.a n with | some (p, q) => decide (kmin k ≤ p ∧ q ≤ kmax k) | none => false
 | .app f _ => match lookN H.fa f with | some (p, q) => decide (kmin k ≤ p ∧ q ≤ kmax k) | none => false
 | .tab l => decide (kmin k ≤ 0 ∧ 0 ≤ kmax k) && l.all fun z => decide (kmin k ≤ z ∧ z ≤ kmax k)
 | .upd A _ x => arrIn H k A && within H k x
 | .blt A _ _ B _ => arrIn H k A && arrIn H k B
 | .ite _ A B => arrIn H k A && arrIn H k B
 | _ => false
def rngSegs (H : Hyp) (k : IntKind) (l : List Seg) : Bool := l.all fun
 | .one (.int _ x) => within H k x
 | .run _ _ A _ => arrIn H k A
 | _ => false
def rowK (H : Hyp) (m : Mem) (k : IntKind) (x : SV) : Option (List Seg × E) := match rowV H m 1 x with
 | some (L, q) => if kindSegs k L && rngSegs H k L && capOK H m x && atMost H maxLen q then some (L, q) else none
 | none => none
section
variable {ρ : Env} {ι : Loc} {H : Hyp} {P : Program} {w : World} {β : Base} {m : Mem} {fr : Fr} {n : Nat} {a : Act}
theorem arrIn_ok (hH : H.ok ρ) {k : IntKind} : ∀ {A : E}, arrIn H k A = true → ∀ j, inR (krng k) (A.a ρ j) := by
 have w_ : ∀ {x : E}, within H k x = true → inR (krng k) (x.i ρ) := fun {x} h => by
  unfold within at h
  split at h
  ·rename_i p q hr
   have := rng_ok hH _ _ hr
   simp only [Bool.and_eq_true, decide_eq_true_eq] at h
   simp only [inR, krng] at this ⊢; omega
  ·cases h
 intro A
 induction A with
 | av n =>
   intro h j
   simp only [arrIn] at h
   split at h
   ·rename_i p q hl
    simp only [decide_eq_true_eq] at h
    have := hH.a _ (lookN_mem hl) j
    simp only [inR, krng] at this ⊢
    rw [a_av]
    exact ⟨Int.le_trans h.1 this.1, Int.le_trans this.2 h.2⟩
   ·cases h
 | app f x =>
   intro h j
   simp only [arrIn] at h
   split at h
   ·rename_i p q hl
    simp only [decide_eq_true_eq] at h
    have := hH.fa _ (lookN_mem hl) (den ρ x).is (den ρ x).bs (den ρ x).xs j
    simp only [inR, krng] at this ⊢
    rw [a_app]; omega
   ·cases h
 | tab l =>
   intro h j
   simp only [arrIn, Bool.and_eq_true, decide_eq_true_eq, List.all_eq_true] at h
   rw [a_tab]
   simp only [inR, krng]
   cases hj : l[j]? with
   | none => simp only [List.getD_eq_getElem?_getD, hj, Option.getD_none]; exact h.1
   | some z => simp only [List.getD_eq_getElem?_getD, hj, Option.getD_some]; exact h.2 z (List.mem_of_getElem? hj)
 | upd A i x ih _ _ =>
   intro h j
   simp only [arrIn, Bool.and_eq_true] at h
   rw [a_upd]
   simp only
   split
   ·exact w_ h.2
   ·exact ih h.1 j
 | blt A i n B q ih _ _ ih2 _ =>
   intro h j
   simp only [arrIn, Bool.and_eq_true] at h
   rw [a_blt]
   simp only
   split
   ·exact ih2 h.2 _
   ·exact ih h.1 j
 | ite c A B _ ih ih2 =>
   intro h j
   simp only [arrIn, Bool.and_eq_true] at h
   rw [a_ite]
   split
   ·exact ih h.1 j
   ·exact ih2 h.2 j
 | _ => intro h; simp [arrIn] at h
theorem rngSegs_ok (hH : H.ok ρ) {k : IntKind} : ∀ {l : List Seg}, kindSegs k l = true → rngSegs H k l = true → ∀ v ∈ cellsOf ρ ι l, ∃ z, v = .int k z ∧ inR (krng k) z
 | [], _, _, v, hv => by simp [cellsOf] at hv
 | x :: l, h, hr, v, hv => by
   simp only [kindSegs, rngSegs, List.all_cons, Bool.and_eq_true] at h hr
   rw [cells_cons, List.mem_append] at hv
   rcases hv with hv | hv
   ·cases x with
    | one s =>
      cases s <;> simp only [Bool.false_eq_true, decide_eq_true_eq, false_and] at h
      rename_i k' e
      obtain ⟨rfl, _⟩ := h
      simp only [Seg.cells, List.mem_singleton] at hv
      refine ⟨_, hv, ?_⟩
      have h1 := hr.1
      simp only at h1
      unfold within at h1
      split at h1
      ·rename_i p q hrr
       have := rng_ok hH _ _ hrr
       simp only [Bool.and_eq_true, decide_eq_true_eq] at h1
       simp only [inR, krng] at this ⊢; omega
      ·cases h1
    | run k' nn A o =>
      simp only [decide_eq_true_eq] at h
      obtain ⟨rfl, _⟩ := h
      simp only [Seg.cells, List.mem_map] at hv
      obtain ⟨j, _, rfl⟩ := hv
      exact ⟨_, rfl, arrIn_ok hH hr.1 _⟩
    | rows _ _ _ => simp at h
   ·exact rngSegs_ok hH (l := l) h.2 hr.2 v hv
theorem rowK_ok (hH : H.ok ρ) (hm : MRep ρ β ι m w) {k : IntKind} {x : SV} {L : List Seg} {q : E} (h : rowK H m k x = some (L, q)) :
 0 ≤ q.i ρ ∧ (cellsOf ρ ι L).length = (q.i ρ).toNat ∧ ∃ X : Ext, XFit X w [some k] ∧ x.conc ρ ι = X.v ∧ (X.n : Int) = q.i ρ ∧ ∀ j, X.cell j = ((cellsOf ρ ι L)[j]?).getD Go.undef := by
 unfold rowK at h
 split at h
 ·rename_i L' q' hr
  split at h
  ·rename_i hc
   simp only [Bool.and_eq_true] at hc
   obtain ⟨⟨⟨hk, hrg⟩, hcap⟩, hmx⟩ := hc
   simp only [Option.some.injEq, Prod.mk.injEq] at h; obtain ⟨rfl, rfl⟩ := h
   obtain ⟨hq0, hlen, base, C, hxc, hcell⟩ := rowV_ok (ι := ι) hH hm (Nat.one_pos) hr
   rw [Nat.mul_one] at hlen
   have hmx := atMost_ok hH hmx
   have hC : (q'.i ρ).toNat ≤ C ∧ (base = none → (q'.i ρ).toNat = 0 ∧ C = 0) ∧ ∀ ad, base = some ad → 0 < (q'.i ρ).toNat → ad.block < w.heap.size := by
    have blk : ∀ ad, base = some ad → 0 < (q'.i ρ).toNat → ad.block < w.heap.size := by
     intro ad hb hp
     obtain ⟨ad', hb', hcl⟩ := hcell hp
     rw [hb] at hb'; simp only [Option.some.injEq] at hb'; subst hb'
     have h0 : 0 < (cellsOf ρ ι L').length := by omega
     have := hcl 0 _ (List.getElem?_eq_getElem h0)
     rw [Addr.add_zero'] at this
     unfold World.cell? at this
     split at this
     ·rename_i hh; exact (Array.getElem?_eq_some_iff.1 hh).1
     ·cases this
    refine ⟨?_, ?_, blk⟩
    ·unfold capOK at hcap
     split at hcap
     ·simp only [rowV, Option.some.injEq, Prod.mk.injEq] at hr; obtain ⟨_, rfl⟩ := hr; rw [i_lit]; simp
     ·rename_i b off len c
      have hle := leH_ok hH hcap
      simp only [SV.conc, S.conc, Value.slice.injEq] at hxc
      obtain ⟨_, h1, h2⟩ := hxc
      omega
     ·rename_i b off len kk
      split at hcap
      ·rename_i B hB
       simp only [Bool.and_eq_true, decide_eq_true_eq] at hcap
       obtain ⟨⟨⟨hg, rfl⟩, hk0⟩, hcap⟩ := hcap
       have hk0 := atLeast_ok hH hk0
       split at hcap
       ·rename_i qq hqq
        have hle := leA_ok hH hcap
        obtain ⟨hqq0, hql⟩ := rowLen_ok (ι := ι) hH hqq
        have hd : B.dead = false := by
         simp only [rowV, hB] at hr
         split at hr
         ·cases hr
         ·rename_i hd; simpa using hd
        simp only [SV.conc, S.conc] at hxc
        split at hxc
        ·rename_i hnl
         simp only [Value.slice.injEq] at hxc
         omega
        ·rename_i hnl
         simp only [Value.slice.injEq] at hxc
         obtain ⟨_, h1, h2⟩ := hxc
         cases hnil : ι.nil b with
         | true =>
           have := (hm.nils b B hB hd hnil).2
           rw [this] at hql
           simp only [List.length_nil, Nat.mul_one] at hql
           rw [hnil] at hnl
           omega
         | false =>
           obtain ⟨fz, rest, _, _, k3, _⟩ := hm.blk b B hB hd hnil
           have k3 := (k3 1 hg).1
           rw [List.length_append, hql] at k3
           omega
       ·cases hcap
      ·cases hcap
     ·rename_i i off len
      split at hcap
      ·rename_i xi hx
       simp only [Bool.and_eq_true] at hcap
       obtain ⟨ho, hcap⟩ := hcap
       have ho := atLeast_ok hH ho
       have hle := leH_ok hH hcap
       rw [mkAdd_i] at hle
       have hX := hH.x _ (lookX_mem hx)
       obtain ⟨b, c, hv, hnc, hb0, _⟩ := (hm.xnow i 0).ok
       have hn : (ρ.I.xs i 0).n = (xi.n.i ρ).toNat := hX.n
       simp only [SV.conc, S.conc, Ext.sub, i_lit, Int.toNat_zero, hv, Value.slice.injEq] at hxc
       obtain ⟨_, h1, h2⟩ := hxc
       omega
      ·cases hcap
     ·rename_i i j off len _
      split at hcap
      ·rename_i L' A' hx
       simp only [Bool.and_eq_true] at hcap
       obtain ⟨⟨hj, ho⟩, hcap⟩ := hcap
       have hj := atLeast_ok hH hj
       have ho := atLeast_ok hH ho
       have hle := leH_ok hH hcap
       rw [mkAdd_i, mkSel_i hH] at hle
       obtain ⟨⟨i0, xi⟩, hq, hp⟩ := lookNs_mem hx
       obtain ⟨r0, rn, rs, rc⟩ := (hH.x _ hq).row _ hp (j.i ρ).toNat
       simp only at r0 rn rs rc
       obtain ⟨b, c, hv, hnc, hb0, _⟩ := (hm.xnow i (j.i ρ).toNat).ok
       simp only [SV.conc, S.conc, Ext.sub, hv, Value.slice.injEq] at hxc
       obtain ⟨_, h1, h2⟩ := hxc
       omega
      ·cases hcap
     ·rename_i i j o off
      obtain ⟨b, c, hv, hnc, hb0, _⟩ := (hm.xnow i (j.i ρ).toNat).ok
      simp only [SV.conc, S.conc, Ext.tl, hv, Value.slice.injEq] at hxc
      omega
     ·cases hcap
    ·intro hb
     subst hb
     have hz : (q'.i ρ).toNat = 0 := by
      rcases Nat.eq_zero_or_pos (q'.i ρ).toNat with h | h
      ·exact h
      ·obtain ⟨ad, h1, _⟩ := hcell h; cases h1
     refine ⟨hz, ?_⟩
     unfold capOK at hcap
     split at hcap
     ·simp only [SV.conc, S.conc, Value.slice.injEq] at hxc; exact hxc.2.2.symm
     ·simp only [SV.conc, S.conc, Value.slice.injEq, reduceCtorEq, false_and] at hxc
     ·simp only [SV.conc, S.conc] at hxc
      split at hxc
      ·simp only [Value.slice.injEq] at hxc; exact hxc.2.2.symm
      ·simp only [Value.slice.injEq, reduceCtorEq, false_and] at hxc
     ·rename_i i off len
      obtain ⟨b, c, hv, hnc, hb0, _⟩ := (hm.xnow i 0).ok
      simp only [SV.conc, S.conc, Ext.sub, i_lit, Int.toNat_zero, hv, Value.slice.injEq] at hxc
      obtain ⟨h0, h1, h2⟩ := hxc
      cases b with
      | none => have := (hb0 rfl).2; omega
      | some ad => simp at h0
     ·rename_i i j off len _
      obtain ⟨b, c, hv, hnc, hb0, _⟩ := (hm.xnow i (j.i ρ).toNat).ok
      simp only [SV.conc, S.conc, Ext.sub, hv, Value.slice.injEq] at hxc
      obtain ⟨h0, h1, h2⟩ := hxc
      cases b with
      | none => have := (hb0 rfl).2; omega
      | some ad => simp at h0
     ·rename_i i j o off
      obtain ⟨b, c, hv, hnc, hb0, _⟩ := (hm.xnow i (j.i ρ).toNat).ok
      simp only [SV.conc, S.conc, Ext.tl, hv, Value.slice.injEq] at hxc
      obtain ⟨h0, h1, h2⟩ := hxc
      cases b with
      | none => have := (hb0 rfl).2; omega
      | some ad => simp at h0
     ·cases hcap
   refine ⟨hq0, hlen, ⟨x.conc ρ ι, (q'.i ρ).toNat, 1, fun j => ((cellsOf ρ ι L')[j]?).getD Go.undef⟩, ⟨⟨base, C, hxc, hC.1, hC.2.1, fun ad hb j hj => ?_⟩, rfl, fun j f kd hj hf => ?_, by show (q'.i ρ).toNat ≤ maxLen; omega⟩, rfl, by show ((q'.i ρ).toNat : Int) = q'.i ρ; omega, fun j => rfl⟩
   ·have hj : j < (q'.i ρ).toNat := by simpa using hj
    obtain ⟨ad', hb', hcl⟩ := hcell (by omega)
    rw [hb] at hb'; simp only [Option.some.injEq] at hb'; subst hb'
    refine ⟨hC.2.2 ad hb (by omega), ?_⟩
    have hjl : j < (cellsOf ρ ι L').length := by omega
    rw [hcl j _ (List.getElem?_eq_getElem hjl)]
    simp [List.getElem?_eq_getElem hjl]
   ·have hjl : j < (cellsOf ρ ι L').length := by
     have hj : j < (q'.i ρ).toNat := hj
     omega
    obtain ⟨z, hz, hzr⟩ := rngSegs_ok hH hk hrg _ (List.getElem_mem hjl)
    cases f with
    | zero =>
      simp only [List.getElem?_cons_zero, Option.some.injEq] at hf; subst hf
      exact ⟨z, by simp [List.getElem?_eq_getElem hjl, hz], hzr⟩
    | succ f => simp at hf
  ·cases h
 ·cases h
end
def arrU (H : Hyp) (q : E) (l : List Seg) : Option E := match q with
 | .lit z => if z ≤ 64 then (match unroll l with
    | some xs => arrE H (xs.map Seg.one)
    | none => arrE H l) else arrE H l
 | _ => arrE H l
theorem arrU_ok {ρ : Env} {ι : Loc} {H : Hyp} (hH : H.ok ρ) {q : E} {l : List Seg} {A : E} (h : arrU H q l = some A) : ∀ j, j < (cellsOf ρ ι l).length → A.a ρ j = numV (((cellsOf ρ ι l)[j]?).getD Go.undef) := by
 have key : ∀ xs : List S, cellsOf ρ ι (xs.map Seg.one) = xs.map (S.conc ρ ι) := by
  intro xs
  induction xs with
  | nil => rfl
  | cons x xs ih => rw [List.map_cons, cells_cons, cells_one, ih]; rfl
 unfold arrU at h
 split at h
 ·split at h
  ·split at h
   ·rename_i xs hx
    intro j hj
    have := arrE_ok (ι := ι) hH h j
    rw [key xs, ← unroll_ok hx] at this
    exact this hj
   ·exact arrE_ok hH h
  ·exact arrE_ok hH h
 ·exact arrE_ok hH h
def SumOK (P : Program) (F : FuncId) : Prop := ∀ (x : Ext) (w : World), XFit x w [some .u8] → Calls P F #[x.v] w fun e w' => e = .returned (.int .u32 (sumF x.n (xArr x 1 0))) ∧ RowKit.Below w.heap.size w w'
def sumE (q A : E) : E := .app 10 (.cons q (.cons A .nil))
def small (q : E) : Bool := match q with
 | .lit z => decide (z ≤ 12)
 | _ => false
def specSum : Spec := fun H l m => match l with
 | [x] => match rowK H m .u8 x with
   | some (L, q) => if small q then none else match arrU H q L with
     | some A => some ([], .s (.int .u32 (sumE q A)), none)
     | none => none
   | none => none
 | _ => none
def specSumR : Spec := fun H l m => match l with
 | [x] => match rowK H m .u8 x with
   | some (L, q) => match arrE H L with
     | some A => some ([], .s (.int .u32 (sumE q A)), none)
     | none => none
   | none => none
 | _ => none
def BytesOK (P : Program) (F : FuncId) : Prop := ∀ (x y : Ext) (w : World), XFit x w [some .u8] → XFit y w [some .u8] →
 Calls P F #[x.v, y.v] w fun e w' => e = .returned (.bool (decide (x.n = y.n ∧ ∀ j, j < x.n → xArr x 1 0 j = xArr y 1 0 j))) ∧ RowKit.Below w.heap.size w w'
def cmpS (H : Hyp) : Nat → List Seg → List Seg → Option E
 | 0, _, _ => none
 | k + 1, l, r => match l, r with
   | [], [] => some (.blit true)
   | .one (.int _ x) :: l, .one (.int _ y) :: r => (cmpS H k l r).map (mkAnd (mkEq H x y))
   | .run _ n A o :: l, .run _ n' A' o' :: r => if n = n' then (cmpS H k l r).map (mkAnd (if A = A' ∧ o = o' then .blit true else .aeq false n A A' o o')) else (match n, n' with
     | .lit z, .lit z' => if 0 < z ∧ 0 < z' then
        (if z < z' then (cmpS H k l (.run .u8 (.lit (z' - z)) A' (o' + z.toNat) :: r)).map (mkAnd (if A = A' ∧ o = o' then .blit true else .aeq false (.lit z) A A' o o'))
         else (cmpS H k (.run .u8 (.lit (z - z')) A (o + z'.toNat) :: l) r).map (mkAnd (if A = A' ∧ o = o' then .blit true else .aeq false (.lit z') A A' o o'))) else none
     | _, _ => none)
   | .one (.int _ x) :: l, .run _ (.lit n) A o :: r => if 0 < n then (cmpS H k l (.run .u8 (.lit (n - 1)) A (o + 1) :: r)).map (mkAnd (mkEq H x (mkSel H A (.lit o)))) else cmpS H k (.one (.int .u8 x) :: l) r
   | .run _ (.lit n) A o :: l, .one (.int _ x) :: r => if 0 < n then (cmpS H k (.run .u8 (.lit (n - 1)) A (o + 1) :: l) r).map (mkAnd (mkEq H (mkSel H A (.lit o)) x)) else cmpS H k l (.one (.int .u8 x) :: r)
   | .run _ (.lit n) _ _ :: l, [] => if n ≤ 0 then cmpS H k l [] else none
   | [], .run _ (.lit n) _ _ :: r => if n ≤ 0 then cmpS H k [] r else none
   | _, _ => none
def bytesE (H : Hyp) (L L' : List Seg) (q q' : E) : Option E := match mkEq H q q' with
 | .blit false => some (.blit false)
 | _ => if L = L' then some (.blit true) else cmpS H 100000 L L'
def specBytes : Spec := fun H l m => match l with
 | [x, y] => match rowK H m .u8 x, rowK H m .u8 y with
   | some (L, q), some (L', q') => (bytesE H L L' q q').map fun c => ([], .s (.bool c), none)
   | _, _ => none
 | _ => none
def CopyOK (P : Program) (F : FuncId) (ty : TypeId) : Prop := ∀ (x : Ext) (w : World), XFit x w [some .u8] → x.n ≤ 67108864 →
 Calls P F #[x.v] w fun e w' => ∃ (ρ' : Env) (ι' : Loc) (B' : Blk), e = .returned (.slice (some ⟨ι'.pos 0, 0, none⟩) x.n x.n) ∧ MRep ρ' ⟨w, 0, Loc.id⟩ ι' [B'] w' ∧ B'.ty = ty ∧ B'.wr = true ∧ B'.grow = none ∧ B'.dead = false ∧
  cellsOf ρ' ι' B'.segs = (List.range x.n).map fun j => Value.int .u8 (xArr x 1 0 j)
def litG (H : Hyp) : Seg → Seg
 | .run k n A o => .run k (litR H n) A o
 | s => s
def litS (H : Hyp) (L : List Seg) : List Seg := L.map (litG H)
theorem litS_ok {H : Hyp} {ρ : Env} {ι : Loc} (hH : H.ok ρ) : ∀ L : List Seg, cellsOf ρ ι (litS H L) = cellsOf ρ ι L
 | [] => rfl
 | s :: L => by
   rw [show litS H (s :: L) = litG H s :: litS H L from rfl, cells_cons, cells_cons, litS_ok hH L]
   congr 1
   cases s <;> simp only [litG, Seg.cells, litR_i hH]
theorem litS_sc {H : Hyp} {n : Nat} : ∀ {L : List Seg}, L.all (Seg.sc n) = true → (litS H L).all (Seg.sc n) = true
 | [], _ => rfl
 | s :: L, h => by
   simp only [List.all_cons, Bool.and_eq_true] at h
   rw [show litS H (s :: L) = litG H s :: litS H L from rfl, List.all_cons, litS_sc h.2, Bool.and_true]
   cases s <;> first | exact h.1 | rfl
def specCopy (ty : TypeId) : Spec := fun H l m => match l with
 | [x] => match rowK H m .u8 x with
   | some (L, q) => if atMost H 67108864 q && m.all (fun B => B.segs.all (Seg.sc m.length)) then some ([], .s (.slc m.length (.lit 0) (litR H q) (.kn (litR H q))), some (m ++ [⟨ty, litS H L, true, none, false⟩])) else none
   | none => none
 | _ => none
section
variable {ρ : Env} {β : Base} {ι : Loc} {m : Mem} {w : World} {H : Hyp} {P : Program} {I : Interp}
theorem rowK_off (hH : H.ok ρ) {k : IntKind} {b : Nat} {off len : E} {cap : Cap} {L : List Seg} {q : E} (hr : rowK H m k (.s (.slc b off len cap)) = some (L, q)) (hl : 0 < len.i ρ) : 0 ≤ off.i ρ := by
 unfold rowK at hr
 split at hr
 ·rename_i L' q' hv
  simp only [rowV] at hv
  split at hv
  ·split at hv
   ·cases hv
   ·split at hv
    ·split at hv
     ·rename_i hc; rw [i_lit]; exact hc.1
     ·cases hv
    ·split at hv
     ·rename_i hc; exact rowD_off hc
     ·simp only [if_true, Option.map_eq_some_iff, Prod.mk.injEq] at hv
      obtain ⟨l, h1, _⟩ := hv
      have := cutRun_neg hH (off := off) (len := len) _ _ _ h1
      omega
  ·cases hv
 ·cases hr
theorem xArr_of {X : Ext} {L : List Seg} (h : ∀ j, X.cell j = ((cellsOf ρ ι L)[j]?).getD Go.undef) {j : Nat} (hj : j < X.n) : xArr X 1 0 j = numV (((cellsOf ρ ι L)[j]?).getD Go.undef) := by
 simp only [xArr, if_pos hj, Nat.mul_one, Nat.add_zero, h]
theorem specSum_ok {F : FuncId} (hv : SumOK P F) (hfi : I.fi = Ifi) : SpecOK P I F specSum := by
 constructor
 intro H l m nd v om h ρ β ι w hI hH hn hm
 unfold specSum at h
 split at h
 ·rename_i x
  split at h
  ·rename_i L q hr
   split at h
   ·cases h
   ·split at h
    ·rename_i A hA
     simp only [Option.some.injEq, Prod.mk.injEq] at h
     obtain ⟨rfl, rfl, rfl⟩ := h
     obtain ⟨hq0, hlen, X, hX, hv1, hn1, hc1⟩ := rowK_ok (ι := ι) hH hm hr
     have hargs : ([x].map (SV.conc ρ ι)).toArray = #[X.v] := by simp [hv1]
     rw [hargs]
     refine (hv X w hX).mono fun e w' ⟨h1, h2⟩ => ⟨?_, hm.below h2⟩
     rw [h1, endV_of rfl]
     have hXn : X.n = (q.i ρ).toNat := by omega
     have e1 : (sumE q A).i ρ = sumF X.n (xArr X 1 0) := by
      unfold sumE
      rw [i_app, is_cons, is_cons, is_nil, bs_cons, bs_cons, bs_nil, as_cons, as_cons, as_nil, hI, hfi]
      simp only [Ifi, List.getD_cons_zero, List.getD_cons_succ, hXn]
      refine sumF_congr _ fun j hj => ?_
      rw [arrU_ok (ι := ι) hH hA j (by omega), xArr_of hc1 (by omega)]
     simp only [SV.conc, S.conc, e1]
    ·cases h
  ·cases h
 ·cases h
theorem specSumR_ok {F : FuncId} (hv : SumOK P F) (hfi : I.fi = Ifi) : SpecOK P I F specSumR := by
 constructor
 intro H l m nd v om h ρ β ι w hI hH hn hm
 unfold specSumR at h
 split at h
 ·rename_i x
  split at h
  ·rename_i L q hr
   split at h
   ·rename_i A hA
    simp only [Option.some.injEq, Prod.mk.injEq] at h
    obtain ⟨rfl, rfl, rfl⟩ := h
    obtain ⟨hq0, hlen, X, hX, hv1, hn1, hc1⟩ := rowK_ok (ι := ι) hH hm hr
    have hargs : ([x].map (SV.conc ρ ι)).toArray = #[X.v] := by simp [hv1]
    rw [hargs]
    refine (hv X w hX).mono fun e w' ⟨h1, h2⟩ => ⟨?_, hm.below h2⟩
    rw [h1, endV_of rfl]
    have hXn : X.n = (q.i ρ).toNat := by omega
    have e1 : (sumE q A).i ρ = sumF X.n (xArr X 1 0) := by
     unfold sumE
     rw [i_app, is_cons, is_cons, is_nil, bs_cons, bs_cons, bs_nil, as_cons, as_cons, as_nil, hI, hfi]
     simp only [Ifi, List.getD_cons_zero, List.getD_cons_succ, hXn]
     refine sumF_congr _ fun j hj => ?_
     rw [arrE_ok (ι := ι) hH hA j (by omega), xArr_of hc1 (by omega)]
    simp only [SV.conc, S.conc, e1]
   ·cases h
  ·cases h
 ·cases h
theorem run_one {k : IntKind} {z : Int} {A : E} {o : Nat} {r : List Seg} (hz : 0 < z) : cellsOf ρ ι (.run k (.lit z) A o :: r) = .int k (A.a ρ o) :: cellsOf ρ ι (.run k (.lit (z - 1)) A (o + 1) :: r) := by
 rw [cells_cons, cells_cons]
 simp only [Seg.cells, i_lit]
 obtain ⟨p, hp⟩ : ∃ p : Nat, z.toNat = p + 1 := ⟨z.toNat - 1, by omega⟩
 have hp' : (z - 1).toNat = p := by omega
 rw [hp, hp', List.range_succ_eq_map, List.map_cons, List.map_map, List.cons_append, Nat.add_zero]
 congr 2
 apply List.map_congr_left
 intro j _
 simp only [Function.comp, Nat.succ_eq_add_one]
 congr 2; omega
theorem run_cut {k : IntKind} {z y : Int} {A : E} {o : Nat} {r : List Seg} (hz : 0 ≤ y) (hy : y ≤ z) : cellsOf ρ ι (.run k (.lit z) A o :: r) = cellsOf ρ ι [.run k (.lit y) A o] ++ cellsOf ρ ι (.run k (.lit (z - y)) A (o + y.toNat) :: r) := by
 rw [cells_cons, cells_cons (.run k (.lit (z - y)) A (o + y.toNat)), ← List.append_assoc]
 congr 1
 simp only [cellsOf, List.flatMap_cons, List.flatMap_nil, List.append_nil, Seg.cells, i_lit]
 apply List.ext_getElem?
 intro j
 by_cases hj : j < y.toNat
 ·rw [List.getElem?_append_left (by simpa using hj), List.getElem?_map, List.getElem?_map, List.getElem?_range hj, List.getElem?_range (by omega)]
 ·rw [List.getElem?_append_right (by simp; omega), List.getElem?_map, List.getElem?_map]
  simp only [List.length_map, List.length_range]
  by_cases hj2 : j < z.toNat
  ·rw [List.getElem?_range hj2, List.getElem?_range (by omega)]
   simp only [Option.map_some]
   congr 3; omega
  ·rw [List.getElem?_eq_none (by simp; omega), List.getElem?_eq_none (by simp; omega)]; rfl
def nums (l : List Value) : List Int := l.map numV
theorem nums_append (a b : List Value) : nums (a ++ b) = nums a ++ nums b := List.map_append
theorem aeq_nums {n A A' : E} {o o' : Nat} {k k' : IntKind} : (E.aeq false n A A' o o').b ρ = true ↔ nums (cellsOf ρ ι [.run k n A o]) = nums (cellsOf ρ ι [.run k' n A' o']) := by
 rw [b_aeq]
 simp only [Bool.false_eq_true, if_false, nums, cellsOf, List.flatMap_cons, List.flatMap_nil, List.append_nil, Seg.cells, List.map_map, List.all_eq_true, List.mem_range, beq_iff_eq]
 constructor
 ·intro h; exact List.map_congr_left fun j hj => h j (List.mem_range.1 hj)
 ·intro h j hj
  have := congrArg (fun l => l[j]?) h
  simpa [List.getElem?_range hj, numV] using this
theorem part_nums {n A A' : E} {o o' : Nat} {k k' : IntKind} : (if A = A' ∧ o = o' then E.blit true else .aeq false n A A' o o').b ρ = true ↔ nums (cellsOf ρ ι [.run k n A o]) = nums (cellsOf ρ ι [.run k' n A' o']) := by
 split
 ·rename_i h; obtain ⟨rfl, rfl⟩ := h
  rw [b_blit]
  simp [nums, cellsOf, Seg.cells, Function.comp_def, numV]
 ·exact aeq_nums
theorem cells_kind {k k' : IntKind} {n A : E} {o : Nat} {r : List Seg} : nums (cellsOf ρ ι (.run k n A o :: r)) = nums (cellsOf ρ ι (.run k' n A o :: r)) := by
 rw [cells_cons, cells_cons, nums_append, nums_append]
 congr 1
 simp [nums, Seg.cells, Function.comp_def, numV]
theorem cells_kind1 {k k' : IntKind} {x : E} {r : List Seg} : nums (cellsOf ρ ι (.one (.int k x) :: r)) = nums (cellsOf ρ ι (.one (.int k' x) :: r)) := by
 rw [cells_cons, cells_cons, nums_append, nums_append]; rfl
theorem app_iff {a b c d : List Int} (h : a.length = c.length) : (a ++ b = c ++ d) ↔ (a = c ∧ b = d) := ⟨fun e => List.append_inj e h, fun ⟨e1, e2⟩ => by rw [e1, e2]⟩
theorem cmpS_ok (hH : H.ok ρ) : ∀ (k : Nat) (l r : List Seg) (c : E), cmpS H k l r = some c → (c.b ρ = true ↔ nums (cellsOf ρ ι l) = nums (cellsOf ρ ι r)) := by
 intro k
 induction k with
 | zero => intro l r c h; simp [cmpS] at h
 | succ k ih =>
   intro l r c h
   have one_ : ∀ (k' : IntKind) (x : E) (l : List Seg), nums (cellsOf ρ ι (.one (.int k' x) :: l)) = x.i ρ :: nums (cellsOf ρ ι l) := fun k' x l => by rw [cells_cons]; rfl
   have run_ : ∀ (k' : IntKind) (n A : E) (o : Nat) (l : List Seg), nums (cellsOf ρ ι (.run k' n A o :: l)) = nums (cellsOf ρ ι [.run k' n A o]) ++ nums (cellsOf ρ ι l) := fun k' n A o l => by
    rw [← nums_append, ← cells_append]; rfl
   have len_ : ∀ (k1 k2 : IntKind) (n A A' : E) (o o' : Nat), (nums (cellsOf ρ ι [.run k1 n A o])).length = (nums (cellsOf ρ ι [.run k2 n A' o'])).length := fun k1 k2 n A A' o o' => by simp [nums, cellsOf, Seg.cells]
   unfold cmpS at h
   split at h
   ·simp only [Option.some.injEq] at h; subst h; simp [b_blit]
   ·rename_i _ x l _ y r
    simp only [Option.map_eq_some_iff] at h
    obtain ⟨c', hc, rfl⟩ := h
    rw [mkAnd_b, Bool.and_eq_true, ih _ _ _ hc, mkEq_b hH, one_, one_, List.cons.injEq, decide_eq_true_eq]
   ·rename_i k1 n A o l k2 n' A' o' r
    split at h
    ·rename_i hn; subst hn
     simp only [Option.map_eq_some_iff] at h
     obtain ⟨c', hc, rfl⟩ := h
     rw [mkAnd_b, Bool.and_eq_true, ih _ _ _ hc, run_ k1, run_ k2, app_iff (len_ _ _ _ _ _ _ _), part_nums]
    ·split at h
     ·rename_i z z' _
      split at h
      ·rename_i hz
       split at h
       ·rename_i hlt
        simp only [Option.map_eq_some_iff] at h
        obtain ⟨c', hc, rfl⟩ := h
        rw [mkAnd_b, Bool.and_eq_true, ih _ _ _ hc, run_ k1, run_cut (k := k2) (show 0 ≤ z by omega) (show z ≤ z' by omega), nums_append, app_iff (len_ _ _ _ _ _ _ _), part_nums (ι := ι) (k := k1) (k' := k2), cells_kind (ρ := ρ) (ι := ι) (k := .u8) (k' := k2) (n := .lit (z' - z)) (A := A') (o := o' + z.toNat) (r := r)]
       ·rename_i hlt
        simp only [Option.map_eq_some_iff] at h
        obtain ⟨c', hc, rfl⟩ := h
        rw [mkAnd_b, Bool.and_eq_true, ih _ _ _ hc, run_ k2, run_cut (k := k1) (show 0 ≤ z' by omega) (show z' ≤ z by omega), nums_append, app_iff (len_ _ _ _ _ _ _ _), part_nums (ι := ι) (k := k1) (k' := k2), cells_kind (ρ := ρ) (ι := ι) (k := .u8) (k' := k1) (n := .lit (z - z')) (A := A) (o := o + z'.toNat) (r := l)]
      ·cases h
     ·cases h
   ·rename_i _ x l k2 n A o r
    split at h
    ·rename_i hn
     simp only [Option.map_eq_some_iff] at h
     obtain ⟨c', hc, rfl⟩ := h
     rw [mkAnd_b, Bool.and_eq_true, ih _ _ _ hc, mkEq_b hH, mkSel_i hH, i_lit, Int.toNat_natCast, one_, run_one hn]
     show _ ↔ _ = A.a ρ o :: nums (cellsOf ρ ι (.run k2 (.lit (n - 1)) A (o + 1) :: r))
     rw [List.cons.injEq, decide_eq_true_eq, cells_kind (k := .u8) (k' := k2)]
    ·rename_i hn
     rw [ih _ _ _ h, cells_kind1 (k := .u8)]
     have : nums (cellsOf ρ ι (.run k2 (.lit n) A o :: r)) = nums (cellsOf ρ ι r) := by
      rw [run_ k2]; simp [nums, cellsOf, Seg.cells, i_lit, show n.toNat = 0 by omega]
     rw [this]
   ·rename_i k1 n A o l _ x r
    split at h
    ·rename_i hn
     simp only [Option.map_eq_some_iff] at h
     obtain ⟨c', hc, rfl⟩ := h
     rw [mkAnd_b, Bool.and_eq_true, ih _ _ _ hc, mkEq_b hH, mkSel_i hH, i_lit, Int.toNat_natCast, one_, run_one hn]
     show _ ↔ A.a ρ o :: nums (cellsOf ρ ι (.run k1 (.lit (n - 1)) A (o + 1) :: l)) = _
     rw [List.cons.injEq, decide_eq_true_eq, cells_kind (k := .u8) (k' := k1)]
    ·rename_i hn
     rw [ih _ _ _ h, cells_kind1 (k := .u8)]
     have : nums (cellsOf ρ ι (.run k1 (.lit n) A o :: l)) = nums (cellsOf ρ ι l) := by
      rw [run_ k1]; simp [nums, cellsOf, Seg.cells, i_lit, show n.toNat = 0 by omega]
     rw [this]
   ·rename_i k1 n A o l
    split at h
    ·rename_i hn
     rw [ih _ _ _ h]
     have : nums (cellsOf ρ ι (.run k1 (.lit n) A o :: l)) = nums (cellsOf ρ ι l) := by
      rw [run_ k1]; simp [nums, cellsOf, Seg.cells, i_lit, show n.toNat = 0 by omega]
     rw [this]
    ·cases h
   ·rename_i k1 n A o r
    split at h
    ·rename_i hn
     rw [ih _ _ _ h]
     have : nums (cellsOf ρ ι (.run k1 (.lit n) A o :: r)) = nums (cellsOf ρ ι r) := by
      rw [run_ k1]; simp [nums, cellsOf, Seg.cells, i_lit, show n.toNat = 0 by omega]
     rw [this]
    ·cases h
   ·cases h
theorem specBytes_ok {F : FuncId} (hv : BytesOK P F) : SpecOK P I F specBytes := by
 constructor
 intro H l m nd v om h ρ β ι w hI hH hn hm
 unfold specBytes at h
 split at h
 ·rename_i x y
  split at h
  ·rename_i L q L' q' hr hr'
   simp only [Option.map_eq_some_iff, Prod.mk.injEq] at h
   obtain ⟨c, hc, rfl, rfl, rfl⟩ := h
   obtain ⟨hq0, hlen, X, hX, hv1, hn1, hc1⟩ := rowK_ok (ι := ι) hH hm hr
   obtain ⟨hq0', hlen', Y, hY, hv2, hn2, hc2⟩ := rowK_ok (ι := ι) hH hm hr'
   have hargs : ([x, y].map (SV.conc ρ ι)).toArray = #[X.v, Y.v] := by simp [hv1, hv2]
   rw [hargs]
   refine (hv X Y w hX hY).mono fun e w' ⟨h1, h2⟩ => ⟨?_, hm.below h2⟩
   rw [h1, endV_of rfl]
   have key : (X.n = Y.n ∧ ∀ j, j < X.n → xArr X 1 0 j = xArr Y 1 0 j) ↔ nums (cellsOf ρ ι L) = nums (cellsOf ρ ι L') := by
    have eX : ∀ j, j < X.n → (nums (cellsOf ρ ι L))[j]? = some (xArr X 1 0 j) := fun j hj => by
     have : j < (cellsOf ρ ι L).length := by omega
     rw [xArr_of hc1 hj]
     simp [nums, List.getElem?_eq_getElem this]
    have eY : ∀ j, j < Y.n → (nums (cellsOf ρ ι L'))[j]? = some (xArr Y 1 0 j) := fun j hj => by
     have : j < (cellsOf ρ ι L').length := by omega
     rw [xArr_of hc2 hj]
     simp [nums, List.getElem?_eq_getElem this]
    constructor
    ·rintro ⟨g1, g2⟩
     apply List.ext_getElem?
     intro j
     by_cases hj : j < X.n
     ·rw [eX j hj, eY j (by omega), g2 j hj]
     ·rw [List.getElem?_eq_none (by simp [nums]; omega), List.getElem?_eq_none (by simp [nums]; omega)]
    ·intro g
     have gl := congrArg List.length g
     simp only [nums, List.length_map] at gl
     refine ⟨by omega, fun j hj => ?_⟩
     have := eX j hj
     rw [g, eY j (by omega)] at this
     simpa using this.symm
   have hb : c.b ρ = true ↔ (X.n = Y.n ∧ ∀ j, j < X.n → xArr X 1 0 j = xArr Y 1 0 j) := by
    unfold bytesE at hc
    split at hc
    ·rename_i he
     simp only [Option.some.injEq] at hc; subst hc
     have := mkEq_b hH q q'
     rw [he, b_blit] at this
     rw [b_blit]
     simp only [Bool.false_eq_true, false_iff, not_and]
     intro g
     have : ¬ q.i ρ = q'.i ρ := by simpa using this
     omega
    ·split at hc
     ·rename_i hL; subst hL
      simp only [Option.some.injEq] at hc; subst hc
      rw [key, b_blit]; simp
     ·rw [key, cmpS_ok hH _ _ _ _ hc]
   simp only [SV.conc, S.conc]
   have : decide (X.n = Y.n ∧ ∀ j, j < X.n → xArr X 1 0 j = xArr Y 1 0 j) = c.b ρ := by
    cases hcb : c.b ρ
    ·rw [decide_eq_false_iff_not]; intro g; rw [hb.2 g] at hcb; cases hcb
    ·rw [decide_eq_true_eq]; exact hb.1 hcb
   rw [this]
  ·cases h
 ·cases h
theorem specCopy_ok {F : FuncId} {ty : TypeId} (hv : CopyOK P F ty) : SpecOK P I F (specCopy ty) := by
 constructor
 intro H l m nd v om h ρ β ι w hI hH hn hm
 unfold specCopy at h
 split at h
 ·rename_i x
  split at h
  ·rename_i L q hr
   split at h
   ·rename_i hc
    simp only [Bool.and_eq_true] at hc
    have hqm := atMost_ok hH hc.1
    simp only [Option.some.injEq, Prod.mk.injEq] at h
    obtain ⟨rfl, rfl, rfl⟩ := h
    obtain ⟨hq0, hlen, X, hX, hv1, hn1, hc1⟩ := rowK_ok (ι := ι) hH hm hr
    have hargs : ([x].map (SV.conc ρ ι)).toArray = #[X.v] := by simp [hv1]
    rw [hargs]
    refine (hv X w hX (by omega)).mono fun e w' ⟨ρ', ι', B', he, hm', t1, t2, t3, t4, hcells⟩ => ?_
    have hXn : X.n = (q.i ρ).toNat := by omega
    have hsc : L.all (Seg.sc m.length) = true := by
     unfold rowK at hr
     split at hr
     ·rename_i hv'
      split at hr
      ·simp only [Option.some.injEq, Prod.mk.injEq] at hr; obtain ⟨rfl, rfl⟩ := hr
       exact rowV_sc hv' hc.2
      ·cases hr
     ·cases hr
    refine ⟨updL ι m.length (ι'.pos 0) 0 false, updL_lt _ _ _ _ _, ?_, ?_⟩
    ·rw [he, endV_of rfl]
     simp only [SV.conc, S.conc, addr, i_lit, litR_i hH, updL, if_true, hXn]
     rfl
    ·refine hm.join hm' hc.2 (litS_sc hsc) ?_ ⟨t1.symm, t2.symm, rfl, t3, rfl, t4⟩
     rw [hcells, litS_ok hH]
     apply List.ext_getElem?
     intro j
     rw [List.getElem?_map]
     by_cases hj : j < X.n
     ·rw [List.getElem?_range hj, Option.map_some]
      have hjl : j < (cellsOf ρ ι L).length := by omega
      obtain ⟨z, hz, _⟩ := hX.fit j 0 _ hj rfl
      simp only [List.length_singleton, Nat.mul_one, Nat.add_zero] at hz
      have h9 := hc1 j
      rw [hz, List.getElem?_eq_getElem hjl, Option.getD_some] at h9
      rw [xArr_of hc1 hj, List.getElem?_eq_getElem hjl, Option.getD_some, ← h9]
      rfl
     ·rw [List.getElem?_eq_none (show (cellsOf ρ ι L).length ≤ j by omega), List.getElem?_eq_none (by simp; omega)]; rfl
   ·cases h
  ·cases h
 ·cases h
end
structure Sb where
 i : List E
 b : List E
 a : List E
def Sb.env (σ : Sb) (ρ : Env) : Env := ⟨σ.i.map (·.i ρ), σ.b.map (·.b ρ), σ.a.map (·.a ρ), ρ.vs, ρ.I⟩
def wsI : E → Bool
 | .v _ | .lit _ | .add _ _ | .sub _ _ | .mul _ _ | .div _ _ | .mod _ _ | .tdiv _ _ | .tmod _ _ | .pow2 _ | .wrap _ _ | .bits _ _ _ _ | .sel _ _ => true
 | .ite _ a b => wsI a && wsI b
 | _ => false
def wsB : E → Bool
 | .bv _ | .blit _ | .lt _ _ | .le _ _ | .eq _ _ | .not _ | .and _ _ | .or _ _ | .iff _ _ | .aeq _ _ _ _ _ _ => true
 | .ite _ a b => wsB a && wsB b
 | _ => false
def wsA : E → Bool
 | .av _ | .upd _ _ _ | .blt _ _ _ _ _ | .tab _ => true
 | .ite _ a b => wsA a && wsA b
 | _ => false
def coI (e : E) : E := if wsI e then e else .add e (.lit 0)
def coB (e : E) : E := if wsB e then e else .and e (.blit true)
def coA (e : E) : E := if wsA e then e else .upd e (.lit 0) (.sel e (.lit 0))
def fin0 (s : Nat) (r : E) : E := match s with | 0 => r | 1 => .blit false | 2 => .tab [] | _ => coI r
def fin1 (s : Nat) (r : E) : E := match s with | 0 => .lit 0 | 1 => r | 2 => .tab [] | _ => coB r
def fin2 (s : Nat) (r : E) : E := match s with | 0 => .lit 0 | 1 => .blit false | 2 => r | _ => coA r
def sb (H : Hyp) (σ : Sb) : E → Nat → E
 | .v n, s => fin0 s (σ.i.getD n (.lit 0))
 | .bv n, s => fin1 s (σ.b.getD n (.blit false))
 | .av n, s => fin2 s (σ.a.getD n (.tab []))
 | .lit z, s => fin0 s (.lit z)
 | .blit z, s => fin1 s (.blit z)
 | .add a b, s => fin0 s (mkAdd (sb H σ a 0) (sb H σ b 0))
 | .sub a b, s => fin0 s (mkSub (sb H σ a 0) (sb H σ b 0))
 | .mul a b, s => fin0 s (mkMul (sb H σ a 0) (sb H σ b 0))
 | .div a b, s => fin0 s (mkDivR H (sb H σ a 0) (sb H σ b 0))
 | .mod a b, s => fin0 s (mkMod H (sb H σ a 0) (sb H σ b 0))
 | .tdiv a b, s => fin0 s (.tdiv (sb H σ a 0) (sb H σ b 0))
 | .tmod a b, s => fin0 s (.tmod (sb H σ a 0) (sb H σ b 0))
 | .pow2 a, s => fin0 s (mkPow2 (sb H σ a 0))
 | .wrap k a, s => fin0 s (mkWrap H k (sb H σ a 0))
 | .bits o k a b, s => fin0 s (mkBits H o k (sb H σ a 0) (sb H σ b 0))
 | .ite c a b, s => match s with
   | 0 => mkIte (sb H σ c 1) (sb H σ a 0) (sb H σ b 0)
   | 1 => mkIte (sb H σ c 1) (sb H σ a 1) (sb H σ b 1)
   | 2 => mkIteA (sb H σ c 1) (sb H σ a 2) (sb H σ b 2)
   | _ => .ite (sb H σ c 1) (sb H σ a 3) (sb H σ b 3)
 | .sel A i, s => fin0 s (pickI H (mkSel H (sb H σ A 2) (sb H σ i 0)))
 | .lt a b, s => fin1 s (mkLt H (sb H σ a 0) (sb H σ b 0))
 | .le a b, s => fin1 s (mkLe H (sb H σ a 0) (sb H σ b 0))
 | .eq a b, s => fin1 s (mkEq H (sb H σ a 0) (sb H σ b 0))
 | .not a, s => fin1 s (mkNot (sb H σ a 1))
 | .and a b, s => fin1 s (mkAnd (sb H σ a 1) (sb H σ b 1))
 | .or a b, s => fin1 s (mkOr (sb H σ a 1) (sb H σ b 1))
 | .iff a b, s => fin1 s (mkIff (sb H σ a 1) (sb H σ b 1))
 | .upd A i x, s => fin2 s (mkUpd (sb H σ A 2) (sb H σ i 0) (pickI H (sb H σ x 0)))
 | .blt A i n B j, s => fin2 s (.blt (sb H σ A 2) (sb H σ i 0) (sb H σ n 0) (sb H σ B 2) (sb H σ j 0))
 | .aeq bit n A B o q, s => fin1 s (.aeq bit (sb H σ n 0) (sb H σ A 2) (sb H σ B 2) o q)
 | .tab l, s => fin2 s (.tab l)
 | .app f x, _ => .app f (sb H σ x 3)
 | .nil, s => match s with | 0 => .lit 0 | 1 => .blit false | 2 => .tab [] | _ => .nil
 | .cons a r, s => match s with | 0 => .lit 0 | 1 => .blit false | 2 => .tab [] | _ => .cons (sb H σ a 3) (sb H σ r 3)
section
variable {ρ : Env} {H : Hyp} {σ : Sb}
theorem wsI_ok : ∀ e : E, wsI e = true → den ρ e = .ofI (e.i ρ)
 | .v _, _ | .lit _, _ | .add _ _, _ | .sub _ _, _ | .mul _ _, _ | .div _ _, _ | .mod _ _, _ | .tdiv _ _, _ | .tmod _ _, _ | .pow2 _, _ | .wrap _ _, _ | .bits _ _ _ _, _ | .sel _ _, _ => rfl
 | .ite c a b, h => by
   simp only [wsI, Bool.and_eq_true] at h
   have h1 := wsI_ok a h.1
   have h2 := wsI_ok b h.2
   simp only [E.i, den]
   cases (den ρ c).b
   ·simp only [Bool.false_eq_true, if_false]; exact h2
   ·simp only [if_true]; exact h1
theorem wsB_ok : ∀ e : E, wsB e = true → den ρ e = .ofB (e.b ρ)
 | .bv _, _ | .blit _, _ | .lt _ _, _ | .le _ _, _ | .eq _ _, _ | .not _, _ | .and _ _, _ | .or _ _, _ | .iff _ _, _ | .aeq _ _ _ _ _ _, _ => rfl
 | .ite c a b, h => by
   simp only [wsB, Bool.and_eq_true] at h
   have h1 := wsB_ok a h.1
   have h2 := wsB_ok b h.2
   simp only [E.b, den]
   cases (den ρ c).b
   ·simp only [Bool.false_eq_true, if_false]; exact h2
   ·simp only [if_true]; exact h1
theorem wsA_ok : ∀ e : E, wsA e = true → den ρ e = .ofA (e.a ρ)
 | .av _, _ | .upd _ _ _, _ | .blt _ _ _ _ _, _ | .tab _, _ => rfl
 | .ite c a b, h => by
   simp only [wsA, Bool.and_eq_true] at h
   have h1 := wsA_ok a h.1
   have h2 := wsA_ok b h.2
   simp only [E.a, den]
   cases (den ρ c).b
   ·simp only [Bool.false_eq_true, if_false]; exact h2
   ·simp only [if_true]; exact h1
theorem coI_ok (e : E) : den ρ (coI e) = .ofI (e.i ρ) := by
 unfold coI
 split
 ·rename_i h; exact wsI_ok e h
 ·simp only [den, E.i, D.ofI, Int.add_zero]
theorem coB_ok (e : E) : den ρ (coB e) = .ofB (e.b ρ) := by
 unfold coB
 split
 ·rename_i h; exact wsB_ok e h
 ·simp only [den, E.b, D.ofB, Bool.and_true]
theorem coA_ok (e : E) : den ρ (coA e) = .ofA (e.a ρ) := by
 unfold coA
 split
 ·rename_i h; exact wsA_ok e h
 ·simp only [den, E.a, D.ofA, D.ofI]
  congr 1; funext j
  by_cases h : j = Int.toNat 0
  ·exact (if_pos h).trans (by rw [h])
  ·exact if_neg h
def Sok (s : Nat) (ρ ρ' : Env) (e r : E) : Prop := match s with
 | 0 => r.i ρ = e.i ρ' | 1 => r.b ρ = e.b ρ' | 2 => r.a ρ = e.a ρ' | _ => den ρ r = den ρ' e
theorem fin0_ok {ρ' : Env} {e r : E} {z : Int} (s : Nat) (he : den ρ' e = .ofI z) (hr : r.i ρ = z) : Sok s ρ ρ' e (fin0 s r) := by
 match s with
 | 0 => simp only [Sok, fin0, E.i] at *; rw [he, hr]; rfl
 | 1 => simp only [Sok, fin0, E.b] at *; rw [he]; rfl
 | 2 => simp only [Sok, fin0, E.a] at *; rw [he]; rfl
 | s + 3 => simp only [Sok, fin0]; rw [he, coI_ok, hr]
theorem fin1_ok {ρ' : Env} {e r : E} {z : Bool} (s : Nat) (he : den ρ' e = .ofB z) (hr : r.b ρ = z) : Sok s ρ ρ' e (fin1 s r) := by
 match s with
 | 0 => simp only [Sok, fin1, E.i] at *; rw [he]; rfl
 | 1 => simp only [Sok, fin1, E.b] at *; rw [he, hr]; rfl
 | 2 => simp only [Sok, fin1, E.a] at *; rw [he]; rfl
 | s + 3 => simp only [Sok, fin1]; rw [he, coB_ok, hr]
theorem fin2_ok {ρ' : Env} {e r : E} {z : Nat → Int} (s : Nat) (he : den ρ' e = .ofA z) (hr : r.a ρ = z) : Sok s ρ ρ' e (fin2 s r) := by
 match s with
 | 0 => simp only [Sok, fin2, E.i] at *; rw [he]; rfl
 | 1 => simp only [Sok, fin2, E.b] at *; rw [he]; rfl
 | 2 => simp only [Sok, fin2, E.a] at *; rw [he, hr]; rfl
 | s + 3 => simp only [Sok, fin2]; rw [he, coA_ok, hr]
theorem getD_map' {α β : Type} (f : α → β) (d : α) : ∀ (l : List α) (n : Nat), (l.map f).getD n (f d) = f (l.getD n d)
 | [], n => by simp
 | a :: l, 0 => by simp
 | a :: l, n + 1 => by simp
theorem sb_ok (hH : H.ok ρ) : ∀ (e : E) (s : Nat), Sok s ρ (σ.env ρ) e (sb H σ e s)
 | .v n, s => fin0_ok s rfl (by simp only [Sb.env]; exact (getD_map' (fun e : E => e.i ρ) (.lit 0) σ.i n).symm)
 | .bv n, s => fin1_ok s rfl (by simp only [Sb.env]; exact (getD_map' (fun e : E => e.b ρ) (.blit false) σ.b n).symm)
 | .av n, s => fin2_ok s rfl (by simp only [Sb.env]; exact (getD_map' (fun e : E => e.a ρ) (.tab []) σ.a n).symm)
 | .lit z, s => fin0_ok s rfl rfl
 | .blit z, s => fin1_ok s rfl rfl
 | .add a b, s => fin0_ok s rfl (by rw [mkAdd_i]; exact congr (congrArg _ (sb_ok hH a 0)) (sb_ok hH b 0))
 | .sub a b, s => fin0_ok s rfl (by rw [mkSub_i]; exact congr (congrArg _ (sb_ok hH a 0)) (sb_ok hH b 0))
 | .mul a b, s => fin0_ok s rfl (by rw [mkMul_i]; exact congr (congrArg _ (sb_ok hH a 0)) (sb_ok hH b 0))
 | .div a b, s => fin0_ok s rfl (by rw [mkDivR_i hH]; exact congr (congrArg _ (sb_ok hH a 0)) (sb_ok hH b 0))
 | .mod a b, s => fin0_ok s rfl (by rw [mkMod_i hH]; exact congr (congrArg _ (sb_ok hH a 0)) (sb_ok hH b 0))
 | .tdiv a b, s => fin0_ok s rfl (by rw [i_tdiv]; exact congr (congrArg _ (sb_ok hH a 0)) (sb_ok hH b 0))
 | .tmod a b, s => fin0_ok s rfl (by rw [i_tmod]; exact congr (congrArg _ (sb_ok hH a 0)) (sb_ok hH b 0))
 | .pow2 a, s => fin0_ok s rfl (by rw [mkPow2_i]; exact congrArg (fun z : Int => (2 : Int) ^ z.toNat) (sb_ok hH a 0))
 | .wrap k a, s => fin0_ok s rfl (by rw [mkWrap_i hH]; exact congrArg k.wrap (sb_ok hH a 0))
 | .bits o k a b, s => fin0_ok s rfl (by rw [mkBits_i hH]; exact congr (congrArg _ (sb_ok hH a 0)) (sb_ok hH b 0))
 | .ite c a b, s => by
   have hc : (sb H σ c 1).b ρ = c.b (σ.env ρ) := sb_ok hH c 1
   match s with
   | 0 =>
     have h1 : (sb H σ a 0).i ρ = a.i (σ.env ρ) := sb_ok hH a 0
     have h2 : (sb H σ b 0).i ρ = b.i (σ.env ρ) := sb_ok hH b 0
     show (mkIte _ _ _).i ρ = (E.ite c a b).i _
     rw [mkIte_i, i_ite, hc, h1, h2]
   | 1 =>
     have h1 : (sb H σ a 1).b ρ = a.b (σ.env ρ) := sb_ok hH a 1
     have h2 : (sb H σ b 1).b ρ = b.b (σ.env ρ) := sb_ok hH b 1
     show (mkIte _ _ _).b ρ = (E.ite c a b).b _
     rw [mkIte_b, b_ite, hc, h1, h2]
   | 2 =>
     have h1 : (sb H σ a 2).a ρ = a.a (σ.env ρ) := sb_ok hH a 2
     have h2 : (sb H σ b 2).a ρ = b.a (σ.env ρ) := sb_ok hH b 2
     show (mkIteA _ _ _).a ρ = (E.ite c a b).a _
     rw [mkIteA_a, a_ite, hc, h1, h2]
   | s + 3 =>
     have h1 : den ρ (sb H σ a 3) = den (σ.env ρ) a := sb_ok hH a 3
     have h2 : den ρ (sb H σ b 3) = den (σ.env ρ) b := sb_ok hH b 3
     show den ρ (.ite _ _ _) = den _ (.ite c a b)
     simp only [den, h1, h2]
     rw [show (den ρ (sb H σ c 1)).b = (den (σ.env ρ) c).b from hc]
 | .sel A i, s => fin0_ok s rfl (by
    have h1 : (sb H σ A 2).a ρ = A.a (σ.env ρ) := sb_ok hH A 2
    have h2 : (sb H σ i 0).i ρ = i.i (σ.env ρ) := sb_ok hH i 0
    rw [pickI_i hH, mkSel_i hH, h1, h2]; rfl)
 | .lt a b, s => fin1_ok s rfl (by
    have h1 : (sb H σ a 0).i ρ = a.i (σ.env ρ) := sb_ok hH a 0
    have h2 : (sb H σ b 0).i ρ = b.i (σ.env ρ) := sb_ok hH b 0
    rw [mkLt_b hH, h1, h2]; rfl)
 | .le a b, s => fin1_ok s rfl (by
    have h1 : (sb H σ a 0).i ρ = a.i (σ.env ρ) := sb_ok hH a 0
    have h2 : (sb H σ b 0).i ρ = b.i (σ.env ρ) := sb_ok hH b 0
    rw [mkLe_b hH, h1, h2]; rfl)
 | .eq a b, s => fin1_ok s rfl (by
    have h1 : (sb H σ a 0).i ρ = a.i (σ.env ρ) := sb_ok hH a 0
    have h2 : (sb H σ b 0).i ρ = b.i (σ.env ρ) := sb_ok hH b 0
    rw [mkEq_b hH, h1, h2]; rfl)
 | .not a, s => fin1_ok s rfl (by rw [mkNot_b]; exact congrArg _ (sb_ok hH a 1))
 | .and a b, s => fin1_ok s rfl (by rw [mkAnd_b]; exact congr (congrArg _ (sb_ok hH a 1)) (sb_ok hH b 1))
 | .or a b, s => fin1_ok s rfl (by rw [mkOr_b]; exact congr (congrArg _ (sb_ok hH a 1)) (sb_ok hH b 1))
 | .iff a b, s => fin1_ok s rfl (by rw [mkIff_b]; exact congr (congrArg _ (sb_ok hH a 1)) (sb_ok hH b 1))
 | .upd A i x, s => fin2_ok s rfl (by
    have h1 : (sb H σ A 2).a ρ = A.a (σ.env ρ) := sb_ok hH A 2
    have h2 : (sb H σ i 0).i ρ = i.i (σ.env ρ) := sb_ok hH i 0
    have h3 : (sb H σ x 0).i ρ = x.i (σ.env ρ) := sb_ok hH x 0
    rw [mkUpd_a, pickI_i hH, h1, h2, h3]; rfl)
 | .blt A i n B j, s => fin2_ok s rfl (by
    have h1 : (sb H σ A 2).a ρ = A.a (σ.env ρ) := sb_ok hH A 2
    have h2 : (sb H σ i 0).i ρ = i.i (σ.env ρ) := sb_ok hH i 0
    have h3 : (sb H σ n 0).i ρ = n.i (σ.env ρ) := sb_ok hH n 0
    have h4 : (sb H σ B 2).a ρ = B.a (σ.env ρ) := sb_ok hH B 2
    have h5 : (sb H σ j 0).i ρ = j.i (σ.env ρ) := sb_ok hH j 0
    rw [a_blt, h1, h2, h3, h4, h5]; rfl)
 | .aeq bit n A B o q, s => fin1_ok s rfl (by
    have h1 : (sb H σ A 2).a ρ = A.a (σ.env ρ) := sb_ok hH A 2
    have h3 : (sb H σ n 0).i ρ = n.i (σ.env ρ) := sb_ok hH n 0
    have h4 : (sb H σ B 2).a ρ = B.a (σ.env ρ) := sb_ok hH B 2
    rw [b_aeq, h1, h3, h4]; rfl)
 | .tab l, s => fin2_ok s rfl rfl
 | .app f x, s => by
   have h1 : den ρ (sb H σ x 3) = den (σ.env ρ) x := sb_ok hH x 3
   have hd : den ρ (.app f (sb H σ x 3)) = den (σ.env ρ) (.app f x) := by simp only [den, h1]; rfl
   match s with
   | 0 => exact congrArg D.i hd
   | 1 => exact congrArg D.b hd
   | 2 => exact congrArg D.a hd
   | s + 3 => exact hd
 | .nil, s => match s with | 0 => rfl | 1 => rfl | 2 => rfl | s + 3 => rfl
 | .cons a r, s => by
   have h1 : den ρ (sb H σ a 3) = den (σ.env ρ) a := sb_ok hH a 3
   have h2 : den ρ (sb H σ r 3) = den (σ.env ρ) r := sb_ok hH r 3
   match s with
   | 0 => rfl
   | 1 => rfl
   | 2 => rfl
   | s + 3 =>
     show den ρ (.cons _ _) = den _ (.cons a r)
     simp only [den, h1, h2]
end
def sbC (H : Hyp) (σ : Sb) : Cap → Cap
 | .kn e => .kn (sb H σ e 0)
 | .op e => .op (sb H σ e 0)
 | .tl o k z => .tl (sb H σ o 0) (sb H σ k 0) z
def sbS (H : Hyp) (σ : Sb) : S → S
 | .int k e => .int k (sb H σ e 0)
 | .bool e => .bool (sb H σ e 1)
 | .ptr b o => .ptr b (sb H σ o 0)
 | .slc b o l c => .slc b (sb H σ o 0) (sb H σ l 0) (sbC H σ c)
 | .xslc i j o l => .xslc i (sb H σ j 0) (sb H σ o 0) (sb H σ l 0)
 | .xptr i j k f => .xptr i (sb H σ j 0) (sb H σ k 0) f
 | .fn f l => .fn f (l.map fun p => (p.1, sb H σ p.2 0))
 | .ifc t k e => .ifc t k (sb H σ e 0)
 | .xtl i j o off => .xtl i (sb H σ j 0) (sb H σ o 0) (sb H σ off 0)
 | .strE l => .strE (l.map fun e => sb H σ e 0)
 | x => x
def sbX (H : Hyp) (σ : Sb) (f : XF) : XF := (f.1, sb H σ f.2 2)
def sbG (H : Hyp) (σ : Sb) : Seg → Seg
 | .one x => .one (sbS H σ x)
 | .run k n A o => .run k (sb H σ n 0) (sb H σ A 2) o
 | .rows n fs o => .rows (sb H σ n 0) (fs.map (sbX H σ)) o
def sbV (H : Hyp) (σ : Sb) : SV → SV
 | .s x => .s (sbS H σ x)
 | .agg l => .agg (l.map (sbG H σ))
 | .tup l => .tup (l.map fun p => (p.1, p.2.map (sbG H σ)))
 | .junk => .junk
section
variable {ρ : Env} {H : Hyp} {σ : Sb} {ι : Loc}
theorem sbI (hH : H.ok ρ) (e : E) : (sb H σ e 0).i ρ = e.i (σ.env ρ) := sb_ok hH e 0
theorem sbB (hH : H.ok ρ) (e : E) : (sb H σ e 1).b ρ = e.b (σ.env ρ) := sb_ok hH e 1
theorem sbA (hH : H.ok ρ) (e : E) : (sb H σ e 2).a ρ = e.a (σ.env ρ) := sb_ok hH e 2
theorem sbS_ok (hH : H.ok ρ) : ∀ x : S, (sbS H σ x).conc ρ ι = x.conc (σ.env ρ) ι
 | .int k e => by simp only [sbS, S.conc, sbI hH]
 | .bool e => by simp only [sbS, S.conc, sbB hH]
 | .ptr b o => by simp only [sbS, S.conc, addr, sbI hH]
 | .slc b o l (.kn c) => by simp only [sbS, sbC, S.conc, addr, sbI hH]
 | .slc b o l (.op c) => by simp only [sbS, sbC, S.conc, addr, sbI hH]
 | .slc b o l (.tl _ _ _) => by simp only [sbS, sbC, S.conc, addr, sbI hH]
 | .xslc i j o l => by simp only [sbS, S.conc, sbI hH]; rfl
 | .xptr i j k f => by simp only [sbS, S.conc, sbI hH]; rfl
 | .fn f l => by
   simp only [sbS, S.conc, List.map_map, Function.comp_def, addr, sbI hH]
 | .ifc t k e => by simp only [sbS, S.conc, sbI hH]
 | .xtl i j o off => by simp only [sbS, S.conc, sbI hH]; rfl
 | .strE l => by simp only [sbS, S.conc, List.map_map, Function.comp_def, sbI hH]
 | .nil | .nilIface | .nilSlc | .str _ | .nilFn | .val _ | .undef => rfl
theorem sbX_ok (hH : H.ok ρ) (f : XF) (j : Nat) : XF.conc ρ (sbX H σ f) j = XF.conc (σ.env ρ) f j := by
 obtain ⟨k, e⟩ := f
 cases k <;> simp only [sbX, XF.conc, sbA hH]
theorem sbG_ok (hH : H.ok ρ) : ∀ x : Seg, (sbG H σ x).cells ρ ι = x.cells (σ.env ρ) ι
 | .one x => by simp only [sbG, Seg.cells, sbS_ok hH]
 | .run k n A o => by simp only [sbG, Seg.cells, sbI hH, sbA hH]
 | .rows n fs o => by simp only [sbG, Seg.cells, sbI hH, List.map_map, Function.comp_def, sbX_ok hH]
theorem sbGs_ok (hH : H.ok ρ) : ∀ l : List Seg, cellsOf ρ ι (l.map (sbG H σ)) = cellsOf (σ.env ρ) ι l
 | [] => rfl
 | x :: l => by rw [List.map_cons, cells_cons, cells_cons, sbG_ok hH, sbGs_ok hH l]
theorem sbV_ok (hH : H.ok ρ) : ∀ x : SV, (sbV H σ x).conc ρ ι = x.conc (σ.env ρ) ι
 | .s x => sbS_ok hH x
 | .agg l => by simp only [sbV, SV.conc, sbGs_ok hH]
 | .tup l => by simp only [sbV, SV.conc, List.map_map, Function.comp_def, sbGs_ok hH]
 | .junk => rfl
end
structure PickG (ρ ρ' : Env) (ι : Loc) (π : List Nat) (m m0 : Mem) : Prop where
 nodup : π.Nodup
 len : π.length = m0.length
 at_ : ∀ (j : Nat) (B : Blk), m0[j]? = some B → ∃ (p : Nat) (C : Blk), π[j]? = some p ∧ m[p]? = some C ∧ B.dead = false ∧ C.dead = false ∧ B.ty = C.ty ∧ B.wr = C.wr ∧ B.grow = C.grow ∧ cellsOf ρ' (piv π ι) B.segs = cellsOf ρ ι C.segs
 nn : ∀ p ∈ π, ι.nil p = false
section
variable {ρ ρ' : Env} {β : Base} {ι ι1 : Loc} {m m0 m1 : Mem} {w w' : World} {π : List Nat}
theorem MRep.pickG (h : PickG ρ ρ' ι π m m0) (hI : ρ'.I = ρ.I) (hm : MRep ρ β ι m w) : MRep ρ' ⟨w, m0.length, piv π ι⟩ (piv π ι) m0 w := by
 have hblk := h.at_
 refine ⟨fun i j B D hB hD hBd hDd hBn hDn he => ?_, fun i B hB hBd hBn => ?_, fun i B hB hBd hBn => ?_, Loc.agree.refl _ _, Nat.le_refl _, fun i h1 h2 => absurd h2 (Nat.not_lt.2 h1), Nat.le_refl _, fun _ _ _ => rfl, rfl, rfl, rfl, by rw [hI]; exact hm.xnow, fun i j a n c hv h0 k hk => ?_⟩
 ·obtain ⟨p, C, hp, hC, _, c1, _, _, _, _⟩ := hblk i B hB
  obtain ⟨q, F, hq, hF, _, f1, _, _, _, _⟩ := hblk j D hD
  rw [piv_at hp, piv_at hq] at he
  rw [(piv_all hp).2] at hBn
  rw [(piv_all hq).2] at hDn
  have := hm.inj _ _ C F hC hF c1 f1 hBn hDn he
  subst this
  exact pick_back h.nodup i j p hp hq
 ·obtain ⟨p, C, hp, hC, _, c1, ht, hw, hg, hc⟩ := hblk i B hB
  rw [(piv_all hp).2] at hBn
  obtain ⟨fz, rest, k1, k2, k3, k4⟩ := hm.blk p C hC c1 hBn
  rw [(piv_all hp).1, piv_at hp, hc, ht, hw, hg]
  exact ⟨fz, rest, k1, k2, k3, k4⟩
 ·obtain ⟨p, C, hp, hC, _, c1, ht, hw, hg, hc⟩ := hblk i B hB
  rw [(piv_all hp).2] at hBn
  rw [hg, hc]; exact hm.nils p C hC c1 hBn
 ·obtain ⟨p, C, hp, hC, _⟩ := hblk k m0[k] (List.getElem?_eq_getElem hk)
  rw [hI] at hv h0
  rw [piv_at hp]; exact hm.xd i j a n c hv h0 p (List.getElem?_eq_some_iff.1 hC).1
def locAfter (ι : Loc) (K n0 : Nat) (ι1 : Loc) : Loc := ⟨fun i => if i < K then ι.pos i else ι1.pos (n0 + (i - K)), fun i => if i < K then ι.cap i else ι1.cap (n0 + (i - K)), fun i => if i < K then ι.nil i else ι1.nil (n0 + (i - K))⟩
theorem locAfter_lo (K n0 : Nat) (ι1 : Loc) : Loc.agree K ι (locAfter ι K n0 ι1) := fun i h => by simp [locAfter, h]
def piAfter (π : List Nat) (K n1 : Nat) : List Nat := π ++ (List.range (n1 - π.length)).map (K + ·)
structure SpliceG (ρ ρ' : Env) (ι2 : Loc) (π : List Nat) (m m1 m' : Mem) : Prop where
 len : m'.length = m.length + (m1.length - π.length)
 le : π.length ≤ m1.length
 other : ∀ i, i < m.length → i ∉ π → m'[i]? = m[i]?
 at_ : ∀ (j : Nat) (B : Blk), m1[j]? = some B → ∃ (p : Nat) (C : Blk), (piAfter π m.length m1.length)[j]? = some p ∧ m'[p]? = some C ∧ B.dead = C.dead ∧ B.ty = C.ty ∧ B.wr = C.wr ∧ B.grow = C.grow ∧ cellsOf ρ' (piv (piAfter π m.length m1.length) ι2) B.segs = cellsOf ρ ι2 C.segs
theorem piAfter_lo {K n1 j p : Nat} (h : π[j]? = some p) : (piAfter π K n1)[j]? = some p := by
 have hj := (List.getElem?_eq_some_iff.1 h).1
 unfold piAfter
 rw [List.getElem?_append_left hj]; exact h
theorem piAfter_hi {K n1 q : Nat} (h : π.length + q < n1) : (piAfter π K n1)[π.length + q]? = some (K + q) := by
 unfold piAfter
 rw [List.getElem?_append_right (by omega), List.getElem?_map, List.getElem?_range (by omega)]
 simp
theorem MRep.spliceG {m' : Mem} (h : PickG ρ ρ' ι π m m0) (hI : ρ'.I = ρ.I) (hm : MRep ρ β ι m w) (h' : MRep ρ' ⟨w, m0.length, piv π ι⟩ ι1 m1 w') (hs : SpliceG ρ ρ' (locAfter ι m.length m0.length ι1) π m m1 m')
 (hsc : m.all (fun B => B.segs.all (Seg.sc m.length)) = true) (hsc1 : m1.all (fun B => B.segs.all (Seg.sc m1.length)) = true) : MRep ρ β (locAfter ι m.length m0.length ι1) m' w' := by
 have hlo := locAfter_lo (ι := ι) m.length m0.length ι1
 have hlen := h.len
 have hle := hs.le
 have hml := hs.len
 -- the picked blocks
 have at0 : ∀ j, j < π.length → ∃ p C, π[j]? = some p ∧ p < m.length ∧ m[p]? = some C ∧ C.dead = false ∧ ι.nil p = false := fun j hj => by
  obtain ⟨p, C, hp, hC, _, c1, _⟩ := h.at_ j _ (List.getElem?_eq_getElem (by omega))
  exact ⟨p, C, hp, (List.getElem?_eq_some_iff.1 hC).1, hC, c1, h.nn p (List.mem_of_getElem? hp)⟩
 have lo1 : ∀ j p, π[j]? = some p → ι1.pos j = ι.pos p ∧ ι1.cap j = ι.cap p ∧ ι1.nil j = ι.nil p := fun j p hp => by
  have hj : j < m0.length := by have := (List.getElem?_eq_some_iff.1 hp).1; omega
  have := h'.agr j hj
  exact ⟨this.1.trans (piv_at hp), this.2.1.trans (piv_all hp).1, this.2.2.trans (piv_all hp).2⟩
 have hi2 : ∀ q, (locAfter ι m.length m0.length ι1).pos (m.length + q) = ι1.pos (π.length + q) ∧ (locAfter ι m.length m0.length ι1).cap (m.length + q) = ι1.cap (π.length + q) ∧ (locAfter ι m.length m0.length ι1).nil (m.length + q) = ι1.nil (π.length + q) := fun q => by
  have : ¬ m.length + q < m.length := by omega
  rw [hlen]
  refine ⟨?_, ?_, ?_⟩ <;> simp only [locAfter, if_neg this, Nat.add_sub_cancel_left]
 -- where the call's blocks lie now
 have loc1 : ∀ j p, j < m1.length → (piAfter π m.length m1.length)[j]? = some p → ι1.pos j = (locAfter ι m.length m0.length ι1).pos p ∧ ι1.cap j = (locAfter ι m.length m0.length ι1).cap p ∧ ι1.nil j = (locAfter ι m.length m0.length ι1).nil p := fun j p hj hp => by
  by_cases hc : j < π.length
  ·obtain ⟨p', C, hp', hlt, _⟩ := at0 j hc
   rw [piAfter_lo hp', Option.some.injEq] at hp; subst hp
   have a := lo1 j p' hp'
   have b := hlo p' hlt
   exact ⟨a.1.trans b.1, a.2.1.trans b.2.1, a.2.2.trans b.2.2⟩
  ·obtain ⟨q, rfl⟩ : ∃ q, j = π.length + q := ⟨j - π.length, by omega⟩
   rw [piAfter_hi hj, Option.some.injEq] at hp; subst hp
   exact ⟨(hi2 q).1.symm, (hi2 q).2.1.symm, (hi2 q).2.2.symm⟩
 have has : ∀ j, j < m1.length → ∃ p, (piAfter π m.length m1.length)[j]? = some p := fun j hj => by
  obtain ⟨p, C, hp, _⟩ := hs.at_ j _ (List.getElem?_eq_getElem hj)
  exact ⟨p, hp⟩
 have agree1 : Loc.agree m1.length ι1 (piv (piAfter π m.length m1.length) (locAfter ι m.length m0.length ι1)) := fun j hj => by
  obtain ⟨p, hp⟩ := has j hj
  have := loc1 j p hj hp
  exact ⟨this.1.trans (piv_at hp).symm, this.2.1.trans (piv_all hp).1.symm, this.2.2.trans (piv_all hp).2.symm⟩
 -- each block is either another's or the call's
 have cls : ∀ (i : Nat) (C : Blk), m'[i]? = some C → (i < m.length ∧ i ∉ π ∧ m[i]? = some C) ∨ (∃ (j : Nat) (B : Blk), (piAfter π m.length m1.length)[j]? = some i ∧ j < m1.length ∧ m1[j]? = some B ∧ B.dead = C.dead ∧ B.ty = C.ty ∧ B.wr = C.wr ∧ B.grow = C.grow ∧ cellsOf ρ' ι1 B.segs = cellsOf ρ (locAfter ι m.length m0.length ι1) C.segs) := fun i C hC => by
  have fin : ∀ j, j < m1.length → (piAfter π m.length m1.length)[j]? = some i → ∃ (j : Nat) (B : Blk), (piAfter π m.length m1.length)[j]? = some i ∧ j < m1.length ∧ m1[j]? = some B ∧ B.dead = C.dead ∧ B.ty = C.ty ∧ B.wr = C.wr ∧ B.grow = C.grow ∧ cellsOf ρ' ι1 B.segs = cellsOf ρ (locAfter ι m.length m0.length ι1) C.segs := fun j hj hp => by
   obtain ⟨p, C', hp', hC', e1, e2, e3, e4, e5⟩ := hs.at_ j _ (List.getElem?_eq_getElem hj)
   rw [hp, Option.some.injEq] at hp'; subst hp'
   rw [hC, Option.some.injEq] at hC'; subst hC'
   refine ⟨j, _, hp, hj, List.getElem?_eq_getElem hj, e1, e2, e3, e4, ?_⟩
   rw [← e5]
   exact cellsOf_congr agree1 (List.all_eq_true.1 hsc1 _ (List.getElem_mem hj))
  by_cases hi : i < m.length
  ·by_cases hp : i ∈ π
   ·obtain ⟨j, hj⟩ := List.getElem?_of_mem hp
    exact .inr (fin j (by have := (List.getElem?_eq_some_iff.1 hj).1; omega) (piAfter_lo hj))
   ·exact .inl ⟨hi, hp, by rw [← hs.other i hi hp]; exact hC⟩
  ·obtain ⟨q, rfl⟩ : ∃ q, i = m.length + q := ⟨i - m.length, by omega⟩
   have hlt := (List.getElem?_eq_some_iff.1 hC).1
   exact .inr (fin (π.length + q) (by omega) (piAfter_hi (by omega)))
 -- another's block lies where none of the call's lies
 have apart : ∀ (i : Nat) (C : Blk), i < m.length → i ∉ π → m[i]? = some C → C.dead = false → ι.nil i = false → ∀ j, j < m1.length → ι1 j ≠ ι i := fun i C hi hp hC hd hn j hj he => by
  have key : ∀ a p D, π[a]? = some p → m[p]? = some D → D.dead = false → ι.nil p = false → ι p ≠ ι i := fun a p D ha hD hDd hDn he => by
   have := hm.inj p i D C hD hC hDd hd hDn hn he
   subst this
   exact hp (List.mem_of_getElem? ha)
  by_cases hc : j < π.length
  ·obtain ⟨p, D, hp', _, hD, hDd, hDn⟩ := at0 j hc
   exact key j p D hp' hD hDd hDn ((lo1 j p hp').1.symm.trans he)
  ·rcases h'.new j (by show m0.length ≤ j; omega) hj with hn' | ⟨a, ha, hn'⟩
   ·obtain ⟨fz, rest, k1, _⟩ := hm.blk i C hC hd hn
    have hlt := (Array.getElem?_eq_some_iff.1 k1).1
    have hn'' : w.heap.size ≤ ι1 j := hn'
    omega
   ·have ha' : a < π.length := by rw [hlen]; exact ha
    obtain ⟨p, D, hp', _, hD, hDd, hDn⟩ := at0 a ha'
    refine key a p D hp' hD hDd hDn ?_
    rw [← (lo1 a p hp').1]; exact hn'.symm.trans he
 refine ⟨fun i j C D hC hD hCd hDd hCn hDn he => ?_, fun i C hC hCd hCn => ?_, fun i C hC hCd hCn => ?_, (hlo.mono hm.len).symm.trans hm.agr, by rw [hml]; have := hm.len; omega, fun i h1 h2 => ?_, Nat.le_trans hm.size h'.size, fun b hb hi => ?_, h'.os.trans hm.os, h'.tape.trans hm.tape, h'.output.trans hm.output, hm.xt, fun i j a n c hv h0 k hk => ?_⟩
 ·rcases cls i C hC with ⟨hi, hip, hC2⟩ | ⟨p, B, hp, hpl, hB, e1, _⟩ <;> rcases cls j D hD with ⟨hj, hjp, hD2⟩ | ⟨q, F, hq, hql, hF, f1, _⟩
  ·rw [← (hlo i hi).1, ← (hlo j hj).1] at he
   rw [← (hlo i hi).2.2] at hCn
   rw [← (hlo j hj).2.2] at hDn
   exact hm.inj i j C D hC2 hD2 hCd hDd hCn hDn he
  ·rw [← (hlo i hi).1, ← (loc1 q j hql hq).1] at he
   rw [← (hlo i hi).2.2] at hCn
   exact absurd he.symm (apart i C hi hip hC2 hCd hCn q hql)
  ·rw [← (hlo j hj).1, ← (loc1 p i hpl hp).1] at he
   rw [← (hlo j hj).2.2] at hDn
   exact absurd he (apart j D hj hjp hD2 hDd hDn p hpl)
  ·rw [← (loc1 p i hpl hp).1, ← (loc1 q j hql hq).1] at he
   rw [← (loc1 p i hpl hp).2.2] at hCn
   rw [← (loc1 q j hql hq).2.2] at hDn
   have := h'.inj p q B F hB hF (e1.trans hCd) (f1.trans hDd) hCn hDn he
   subst this
   rw [hp, Option.some.injEq] at hq; exact hq
 ·rcases cls i C hC with ⟨hi, hip, hC2⟩ | ⟨p, B, hp, hpl, hB, e1, e2, e3, e4, e5⟩
  ·rw [← (hlo i hi).2.2] at hCn
   obtain ⟨fz, rest, k1, k2⟩ := hm.blk i C hC2 hCd hCn
   have hlt := (Array.getElem?_eq_some_iff.1 k1).1
   rw [← (hlo i hi).1, ← (hlo i hi).2.1, ← cellsOf_congr hlo (List.all_eq_true.1 hsc _ (List.mem_of_getElem? hC2))]
   refine ⟨fz, rest, ?_, k2⟩
   rw [h'.old (ι i) hlt (fun j hj => apart i C hi hip hC2 hCd hCn j hj)]; exact k1
  ·rw [← (loc1 p i hpl hp).2.2] at hCn
   obtain ⟨fz, rest, k1, k2, k3, k4⟩ := h'.blk p B hB (e1.trans hCd) hCn
   rw [← (loc1 p i hpl hp).1, ← (loc1 p i hpl hp).2.1, ← e5, ← e2, ← e3, ← e4]
   exact ⟨fz, rest, k1, k2, k3, k4⟩
 ·rcases cls i C hC with ⟨hi, hip, hC2⟩ | ⟨p, B, hp, hpl, hB, e1, e2, e3, e4, e5⟩
  ·rw [← (hlo i hi).2.2] at hCn
   rw [← cellsOf_congr hlo (List.all_eq_true.1 hsc _ (List.mem_of_getElem? hC2))]; exact hm.nils i C hC2 hCd hCn
  ·rw [← (loc1 p i hpl hp).2.2] at hCn
   rw [← e5, ← e4]; exact h'.nils p B hB (e1.trans hCd) hCn
 ·by_cases hc : i < m.length
  ·rw [← (hlo i hc).1]
   rcases hm.new i h1 hc with hn | ⟨j, hj, hn⟩
   ·exact .inl hn
   ·exact .inr ⟨j, hj, by rw [hn]; exact (hlo j (Nat.lt_of_lt_of_le hj hm.len)).1⟩
  ·obtain ⟨q, rfl⟩ : ∃ q, i = m.length + q := ⟨i - m.length, by omega⟩
   rw [(hi2 q).1]
   rcases h'.new (π.length + q) (by show m0.length ≤ _; omega) (by omega) with hn | ⟨a, ha, hn⟩
   ·exact .inl (Nat.le_trans hm.size hn)
   ·obtain ⟨p, D, hp', hlt, _⟩ := at0 a (by rw [hlen]; exact ha)
    have e : ι1.pos (π.length + q) = ι.pos p := hn.trans (lo1 a p hp').1
    rw [e]
    by_cases hpk : p < β.k
    ·exact .inr ⟨p, hpk, (hlo p hlt).1⟩
    ·rcases hm.new p (by omega) hlt with hn | ⟨j, hj, hn⟩
     ·exact .inl hn
     ·exact .inr ⟨j, hj, by rw [hn]; exact (hlo j (Nat.lt_of_lt_of_le hj hm.len)).1⟩
 ·rw [← hm.old b hb fun i hi' => by
   have := hi i (by rw [hml]; omega)
   rwa [← (hlo i hi').1] at this]
  refine h'.old b (Nat.lt_of_lt_of_le hb hm.size) fun j hj => ?_
  obtain ⟨p, hp⟩ := has j hj
  rw [(loc1 j p hj hp).1]
  obtain ⟨p', C', hp', hC', _⟩ := hs.at_ j _ (List.getElem?_eq_getElem hj)
  rw [hp, Option.some.injEq] at hp'; subst hp'
  exact hi p (List.getElem?_eq_some_iff.1 hC').1
 ·by_cases hc : k < m.length
  ·rw [← (hlo k hc).1]; exact hm.xd i j a n c hv h0 k hc
  ·obtain ⟨q, rfl⟩ : ∃ q, k = m.length + q := ⟨k - m.length, by omega⟩
   rw [(hi2 q).1]
   rw [← hI] at hv h0
   exact h'.xd i j a n c hv h0 _ (by omega)
end
def eqSegs (H : Hyp) : List Seg → List Seg → Bool
 | [], [] => true
 | l, [.run k n A 0] => decide (l = [.run k n A 0]) || (kindSegs k l && decide (rowLen H 1 l = some n) && decide (arrE H l = some A))
 | x :: l, y :: r => decide (x = y) && eqSegs H l r
 | _, _ => false
def arrIn2 (H : Hyp) (lo hi : Int) : E → Bool
 | .av n => inB (lookN H.a n) lo hi
 | .app f _ => inB (lookN H.fa f) lo hi
 | .upd A _ x => inB (rng H x) lo hi && arrIn2 H lo hi A
 | .blt A _ _ B _ => arrIn2 H lo hi A && arrIn2 H lo hi B
 | .ite _ A B => arrIn2 H lo hi A && arrIn2 H lo hi B
 | .tab l => decide (lo ≤ 0) && decide (0 ≤ hi) && l.all fun z => decide (lo ≤ z) && decide (z ≤ hi)
 | _ => false
def subHG (H0 H : Hyp) (σ : Sb) : Bool :=
 (H0.e.all fun p => inB (rng H (sb H σ p.1 0)) p.2.1 p.2.2) && (H0.a.all fun p => arrIn2 H p.2.1 p.2.2 (sb H σ (.av p.1) 2)) && subN H0.fi H.fi && subN H0.fa H.fa && H0.b.isEmpty && H0.x.isEmpty
def pickGB (H : Hyp) (σ : Sb) (π0 : List Nat) (m : Mem) : Mem → List Nat → Bool
 | [], [] => true
 | B :: l, p :: r => (match m[p]? with
   | some C => !B.dead && !C.dead && decide (B.ty = C.ty) && decide (B.wr = C.wr) && decide (B.grow = C.grow) && nonNil H C && eqSegs H C.segs ((B.segs.map (sbG H σ)).map (renSeg π0))
   | none => false) && pickGB H σ π0 m l r
 | _, _ => false
section
variable {ρ : Env} {β : Base} {ι ι1 : Loc} {m m0 m1 : Mem} {w w' : World} {π : List Nat} {H H0 : Hyp} {σ : Sb}
theorem eqSegs_ok (hH : H.ok ρ) : ∀ {l r : List Seg}, eqSegs H l r = true → cellsOf ρ ι r = cellsOf ρ ι l := by
 intro l r
 induction l, r using eqSegs.induct with
 | case1 => intro _; rfl
 | case2 l k n A =>
   intro h
   simp only [eqSegs, Bool.or_eq_true, Bool.and_eq_true, decide_eq_true_eq] at h
   rcases h with h | ⟨⟨h1, h2⟩, h3⟩
   ·rw [h]
   ·obtain ⟨hn, hl⟩ := rowLen_ok (ι := ι) hH h2
    have hA := arrE_ok (ι := ι) hH h3
    rw [Nat.mul_one] at hl
    simp only [cellsOf, List.flatMap_cons, List.flatMap_nil, List.append_nil, Seg.cells]
    apply List.ext_getElem?
    intro j
    rw [List.getElem?_map]
    by_cases hj : j < (n.i ρ).toNat
    ·rw [List.getElem?_range hj]
     have hj' : j < (cellsOf ρ ι l).length := by omega
     have hv := List.getElem?_eq_getElem hj'
     obtain ⟨z, hz⟩ := kindSegs_ok (ρ := ρ) (ι := ι) h1 _ (List.getElem_mem hj')
     have := hA j hj'
     rw [hv, hz] at this
     change _ = (cellsOf ρ ι l)[j]?
     rw [hv, hz]
     simp only [Option.map_some, Nat.zero_add, this, Option.getD_some, numV]
    ·rw [List.getElem?_eq_none (by simpa using hj), Option.map_none]
     exact (List.getElem?_eq_none (by change (cellsOf ρ ι l).length ≤ j; omega)).symm
 | case3 x l y r _ ih =>
   intro h
   simp only [eqSegs, Bool.and_eq_true, decide_eq_true_eq] at h
   obtain ⟨rfl, h2⟩ := h
   rw [cells_cons, cells_cons, ih h2]
 | case4 l r h1 h2 h3 =>
   intro h
   unfold eqSegs at h
   split at h <;> first | rfl | exact (h3 _ _ _ _ rfl rfl).elim | exact (h2 _ _ _ _ rfl rfl).elim | (exfalso; simp_all; done) | cases h
theorem inB_ok {r : Option Rng} {lo hi z : Int} (h : inB r lo hi = true) (hz : ∀ q, r = some q → inR q z) : lo ≤ z ∧ z ≤ hi := by
 unfold inB at h
 split at h
 ·rename_i a b
  have := hz _ rfl
  simp only [Bool.and_eq_true, decide_eq_true_eq] at h
  simp only [inR] at this; omega
 ·cases h
theorem arrIn2_ok (hH : H.ok ρ) {lo hi : Int} : ∀ (e : E), arrIn2 H lo hi e = true → ∀ j, lo ≤ e.a ρ j ∧ e.a ρ j ≤ hi
 | .av n, h, j => inB_ok h fun q hq => hH.a _ (lookN_mem hq) j
 | .app f x, h, j => by rw [a_app]; exact inB_ok h fun q hq => hH.fa _ (lookN_mem hq) _ _ _ _
 | .upd A i x, h, j => by
   simp only [arrIn2, Bool.and_eq_true] at h
   rw [a_upd]
   by_cases hj : j = (i.i ρ).toNat
   ·simp only [if_pos hj]; exact inB_ok h.1 fun q hq => rng_ok hH x q hq
   ·simp only [if_neg hj]; exact arrIn2_ok hH A h.2 j
 | .blt A i n B q, h, j => by
   simp only [arrIn2, Bool.and_eq_true] at h
   rw [a_blt]
   simp only
   split
   ·exact arrIn2_ok hH B h.2 _
   ·exact arrIn2_ok hH A h.1 j
 | .ite c A B, h, j => by
   simp only [arrIn2, Bool.and_eq_true] at h
   rw [a_ite]
   split
   ·exact arrIn2_ok hH A h.1 j
   ·exact arrIn2_ok hH B h.2 j
 | .tab l, h, j => by
   simp only [arrIn2, Bool.and_eq_true, decide_eq_true_eq, List.all_eq_true] at h
   rw [a_tab]
   simp only [List.getD_eq_getElem?_getD]
   cases hz : l[j]? with
   | none => simp only [Option.getD_none]; omega
   | some z =>
     have := h.2 z (List.mem_of_getElem? hz)
     simp only [Option.getD_some]; exact this
theorem subHG_ok (h : subHG H0 H σ = true) (hH : H.ok ρ) : H0.ok (σ.env ρ) := by
 simp only [subHG, Bool.and_eq_true, List.all_eq_true] at h
 obtain ⟨⟨⟨⟨⟨h1, h2⟩, h3⟩, h4⟩, h5⟩, h6⟩ := h
 refine ⟨fun p hp => ?_, fun p hp => ?_, fun p hp j => ?_, fun p hp is bs xs => ?_, fun p hp is bs xs j => ?_, fun p hp => ?_⟩
 ·rw [List.isEmpty_iff] at h6; rw [h6] at hp; cases hp
 ·have := inB_ok (h1 p hp) fun q hq => rng_ok hH _ q hq
  rw [sbI hH] at this; exact this
 ·have := arrIn2_ok hH _ (h2 p hp) j
  rw [sbA hH] at this; exact this
 ·exact subN_ok (T := fun n z => ∃ is bs xs, z = ρ.I.fi n is bs xs) h3 (fun p hp z hz => by obtain ⟨is, bs, xs, rfl⟩ := hz; exact hH.fi p hp is bs xs) p hp _ ⟨is, bs, xs, rfl⟩
 ·exact subN_ok (T := fun n z => ∃ is bs xs j, z = ρ.I.fa n is bs xs j) h4 (fun p hp z hz => by obtain ⟨is, bs, xs, j, rfl⟩ := hz; exact hH.fa p hp is bs xs j) p hp _ ⟨is, bs, xs, j, rfl⟩
 ·rw [List.isEmpty_iff] at h5; rw [h5] at hp; cases hp
end
def setAt : List Nat → Mem → Mem → Mem
 | p :: r, B :: l, m => setAt r l (m.set p B)
 | _, _, m => m
def subBlk (H : Hyp) (σ : Sb) (π2 : List Nat) (B : Blk) : Blk := { B with segs := ((B.segs.map (sbG H σ)).map (pickSeg H)).map (renSeg π2) }
def spliceM (H : Hyp) (σ : Sb) (π : List Nat) (m m1 : Mem) : Mem :=
 setAt π (m1.map (subBlk H σ (piAfter π m.length m1.length))) m ++ (m1.map (subBlk H σ (piAfter π m.length m1.length))).drop π.length
def scM (m : Mem) : Bool := m.all fun B => B.segs.all (Seg.sc m.length)
theorem pickSegs_ok {ρ : Env} {ι : Loc} {H : Hyp} (hH : H.ok ρ) (l : List Seg) : cellsOf ρ ι (l.map (pickSeg H)) = cellsOf ρ ι l := by
 unfold cellsOf
 rw [List.flatMap_map]
 congr 1; funext s
 cases s with
 | one x => simp only [pickSeg, Seg.cells, pickS_conc hH]
 | _ => rfl
def memoG (find : Hyp → List SV → Mem → Option (Sb × List Nat)) (H0 : Hyp) (l0 : List SV) (m0 : Mem) (nd0 : List E) (v0 : SV) (om : Option Mem) : Spec := fun H l m =>
 match find H l m with
 | none => none
 | some (σ, π) =>
   if decide π.Nodup && pickGB H σ π m m0 π && decide (l = l0.map fun x => renV π (sbV H σ x)) && subHG H0 H σ && scM m && scM (om.getD m0) && v0.sc (om.getD m0).length && decide (π.length ≤ (om.getD m0).length)
    && decide ((panOf v0).isSome = (panOf (renV (piAfter π m.length (om.getD m0).length) (sbV H σ v0))).isSome)
   then some (nd0.map (fun e => sb H σ e 1), renV (piAfter π m.length (om.getD m0).length) (sbV H σ v0), some (match om with | none => m | some m1 => spliceM H σ π m m1))
   else none
section
variable {ρ : Env} {β : Base} {ι ι1 : Loc} {m m0 m1 : Mem} {w w' : World} {π : List Nat} {H H0 : Hyp} {σ : Sb}
theorem setAt_len : ∀ (π : List Nat) (l m : Mem), (setAt π l m).length = m.length
 | [], _, _ => by simp [setAt]
 | _ :: _, [], _ => by simp [setAt]
 | p :: r, B :: l, m => by rw [setAt, setAt_len r l]; simp
theorem setAt_other {i : Nat} : ∀ (π : List Nat) (l m : Mem), i ∉ π → (setAt π l m)[i]? = m[i]?
 | [], _, _, _ => by simp [setAt]
 | _ :: _, [], _, _ => by simp [setAt]
 | p :: r, B :: l, m, h => by
   simp only [List.mem_cons, not_or] at h
   rw [setAt, setAt_other r l _ h.2, List.getElem?_set_ne (fun e => h.1 e.symm)]
theorem setAt_at {p : Nat} {B : Blk} : ∀ (π : List Nat) (l m : Mem) (j : Nat), π.Nodup → (∀ q ∈ π, q < m.length) → π[j]? = some p → l[j]? = some B → (setAt π l m)[p]? = some B
 | [], _, _, j, _, _, h, _ => by simp at h
 | _ :: _, [], _, j, _, _, _, h => by simp at h
 | q :: r, C :: l, m, 0, hn, hl, h, h' => by
   simp only [List.getElem?_cons_zero, Option.some.injEq] at h h'
   subst h; subst h'
   have hq := (List.nodup_cons.1 hn).1
   rw [setAt, setAt_other r l _ hq, List.getElem?_set_self (hl q (.head _))]
 | q :: r, C :: l, m, j + 1, hn, hl, h, h' => by
   simp only [List.getElem?_cons_succ] at h h'
   rw [setAt]
   exact setAt_at r l _ j (List.nodup_cons.1 hn).2 (fun x hx => by rw [List.length_set]; exact hl x (.tail _ hx)) h h'
theorem pickGB_ok (hH : H.ok ρ) (hm : MRep ρ β ι m w) : ∀ {l : Mem} {r : List Nat}, pickGB H σ π m l r = true → r.length = l.length ∧ (∀ (j : Nat) (B : Blk), l[j]? = some B → ∃ (p : Nat) (C : Blk), r[j]? = some p ∧ m[p]? = some C ∧ B.dead = false ∧ C.dead = false ∧ B.ty = C.ty ∧ B.wr = C.wr ∧ B.grow = C.grow ∧ cellsOf (σ.env ρ) (piv π ι) B.segs = cellsOf ρ ι C.segs) ∧ ∀ p ∈ r, ι.nil p = false
 | [], [], _ => ⟨rfl, fun j B h => by simp at h, fun p hp => by cases hp⟩
 | B :: l, p :: r, h => by
   simp only [pickGB, Bool.and_eq_true] at h
   obtain ⟨h1, h2, h2'⟩ := pickGB_ok hH hm h.2
   have h3 := h.1
   split at h3
   ·rename_i C hC
    simp only [Bool.and_eq_true, decide_eq_true_eq, Bool.not_eq_true'] at h3
    obtain ⟨⟨⟨⟨⟨⟨a1, a2⟩, a3⟩, a4⟩, a5⟩, a6⟩, a7⟩ := h3
    refine ⟨by simp [h1], fun j D hD => ?_, fun q hq => ?_⟩
    ·cases j with
     | zero =>
       simp only [List.getElem?_cons_zero, Option.some.injEq] at hD; subst hD
       refine ⟨p, C, rfl, hC, a1, a2, a3, a4, a5, ?_⟩
       rw [← eqSegs_ok hH a7, renSegs_ok, sbGs_ok hH]
     | succ j => simpa using h2 j D (by simpa using hD)
    ·rcases List.mem_cons.1 hq with rfl | hq
     ·exact nonNil_ok hH hm hC a2 a6
     ·exact h2' q hq
   ·cases h3
 | [], _ :: _, h => by simp [pickGB] at h
 | _ :: _, [], h => by simp [pickGB] at h
theorem endV_sub (hH : H.ok ρ) {v0 : SV} {π2 : List Nat} (h : (panOf v0).isSome = (panOf (renV π2 (sbV H σ v0))).isSome) : endV (σ.env ρ) (piv π2 ι) v0 = endV ρ ι (renV π2 (sbV H σ v0)) := by
 cases hp : panOf v0 with
 | some x =>
   obtain ⟨⟨t, k, e, rfl⟩, rfl⟩ := panOf_some hp
   have e1 : renV π2 (sbV H σ (panV (.ifc t k e))) = panV (.ifc t k (sb H σ e 0)) := rfl
   rw [e1]
   show Ending.panicked [panE ((S.ifc t k e).conc (σ.env ρ) (piv π2 ι))] = Ending.panicked [panE ((S.ifc t k (sb H σ e 0)).conc ρ ι)]
   simp only [S.conc, sbI hH]
 | none =>
   rw [hp] at h
   have hp2 : panOf (renV π2 (sbV H σ v0)) = none := by
    cases hq : panOf (renV π2 (sbV H σ v0)) with
    | none => rfl
    | some y => rw [hq] at h; cases h
   simp only [endV, hp, hp2]
   rw [renV_ok, sbV_ok hH]
theorem piv_agree {π : List Nat} {n1 : Nat} (hn : π.length = m0.length) (hlt : ∀ p ∈ π, p < m.length) : Loc.agree m0.length (piv π ι) (piv (piAfter π m.length m0.length) (locAfter ι m.length m0.length ι1)) := fun j hj => by
 have hj' : j < π.length := by omega
 have hp := List.getElem?_eq_getElem hj'
 have hq := piAfter_lo (K := m.length) (n1 := m0.length) hp
 have hl := locAfter_lo (ι := ι) m.length m0.length ι1 _ (hlt _ (List.getElem_mem hj'))
 exact ⟨(piv_at hp).trans (hl.1.trans (piv_at hq).symm), (piv_all hp).1.trans (hl.2.1.trans (piv_all hq).1.symm), (piv_all hp).2.trans (hl.2.2.trans (piv_all hq).2.symm)⟩
theorem memoG_ok0 {P : Program} {I : Interp} {f : FuncId} {find : Hyp → List SV → Mem → Option (Sb × List Nat)} {l0 : List SV} {nd0 : List E} {v0 : SV} {om : Option Mem}
 (hs : ∀ (σ : Sb) (π : List Nat) (H : Hyp) (l : List SV) (m : Mem), find H l m = some (σ, π) → ∀ (ρ : Env) (β : Base) (ι : Loc) (w : World), ρ.I = I → H0.ok (σ.env ρ) → allN (σ.env ρ) nd0 → MRep (σ.env ρ) β ι m0 w →
   Calls P f (l0.map (SV.conc (σ.env ρ) ι)).toArray w fun e w' => match om with
    | none => e = endV (σ.env ρ) ι v0 ∧ MRep (σ.env ρ) β ι m0 w'
    | some m' => ∃ ι', Loc.agree m0.length ι ι' ∧ e = endV (σ.env ρ) ι' v0 ∧ MRep (σ.env ρ) β ι' m' w') : SpecOK P I f (memoG find H0 l0 m0 nd0 v0 om) := by
 constructor
 intro H l m nd v om' h ρ β ι w hI hH hn hm
 unfold memoG at h
 split at h
 ·cases h
 ·rename_i σ π hfind
  split at h
  ·rename_i hc
   simp only [Bool.and_eq_true, decide_eq_true_eq] at hc
   obtain ⟨⟨⟨⟨⟨⟨⟨⟨c1, c2⟩, c3⟩, c4⟩, c5⟩, c6⟩, c7⟩, c8⟩, c9⟩ := hc
   simp only [Option.some.injEq, Prod.mk.injEq] at h
   obtain ⟨rfl, rfl, rfl⟩ := h
   obtain ⟨p1, p2, p3⟩ := pickGB_ok (ι := ι) hH hm c2
   have hP : PickG ρ (σ.env ρ) ι π m m0 := ⟨c1, p1, p2, p3⟩
   have hlt : ∀ p ∈ π, p < m.length := fun p hp => by
    obtain ⟨j, hj⟩ := List.getElem?_of_mem hp
    have hjl : j < m0.length := by have := (List.getElem?_eq_some_iff.1 hj).1; omega
    obtain ⟨p', C, hp', hC, _⟩ := p2 j _ (List.getElem?_eq_getElem hjl)
    rw [hj, Option.some.injEq] at hp'; subst hp'
    exact (List.getElem?_eq_some_iff.1 hC).1
   have hnd : allN (σ.env ρ) nd0 := fun e he => by
    have := hn _ (List.mem_map.2 ⟨e, he, rfl⟩)
    rw [sbB hH] at this; exact this
   have h1 := hs σ π H l m hfind ρ ⟨w, m0.length, piv π ι⟩ (piv π ι) w hI (subHG_ok c4 hH) hnd (hm.pickG hP rfl)
   have hargs : l.map (SV.conc ρ ι) = l0.map (SV.conc (σ.env ρ) (piv π ι)) := by
    rw [c3, List.map_map]
    refine List.map_congr_left fun x _ => ?_
    show SV.conc ρ ι (renV π (sbV H σ x)) = _
    rw [renV_ok, sbV_ok hH]
   rw [hargs]
   have fin : ∀ (m1 m' : Mem) (ι1 : Loc) (e : Ending) (w' : World), π.length ≤ m1.length → scM m1 = true → v0.sc m1.length = true → (panOf v0).isSome = (panOf (renV (piAfter π m.length m1.length) (sbV H σ v0))).isSome →
    e = endV (σ.env ρ) ι1 v0 → MRep (σ.env ρ) ⟨w, m0.length, piv π ι⟩ ι1 m1 w' → Loc.agree m0.length (piv π ι) ι1 → SpliceG ρ (σ.env ρ) (locAfter ι m.length m0.length ι1) π m m1 m' →
    ∃ ι', Loc.agree m.length ι ι' ∧ e = endV ρ ι' (renV (piAfter π m.length m1.length) (sbV H σ v0)) ∧ MRep ρ β ι' m' w' := fun m1 m' ι1 e w' d1 d2 d3 d4 d5 d6 d7 d8 => by
    refine ⟨locAfter ι m.length m0.length ι1, locAfter_lo _ _ _, ?_, hm.spliceG hP rfl d6 d8 c5 d2⟩
    rw [d5, ← endV_sub hH d4]
    refine endV_congr (k := m1.length) (fun j hj => ?_) d3
    by_cases hc : j < π.length
    ·have hp := List.getElem?_eq_getElem hc
     have hq := piAfter_lo (K := m.length) (n1 := m1.length) hp
     have hl := locAfter_lo (ι := ι) m.length m0.length ι1 _ (hlt _ (List.getElem_mem hc))
     have ha := d7 j (by omega)
     exact ⟨ha.1.symm.trans ((piv_at hp).trans (hl.1.trans (piv_at hq).symm)), ha.2.1.symm.trans ((piv_all hp).1.trans (hl.2.1.trans (piv_all hq).1.symm)), ha.2.2.symm.trans ((piv_all hp).2.trans (hl.2.2.trans (piv_all hq).2.symm))⟩
    ·obtain ⟨q, rfl⟩ : ∃ q, j = π.length + q := ⟨j - π.length, by omega⟩
     have hq := piAfter_hi (K := m.length) hj
     have hno : ¬ m.length + q < m.length := by omega
     refine ⟨?_, ?_, ?_⟩
     ·rw [piv_at hq]; simp only [locAfter, if_neg hno, Nat.add_sub_cancel_left, p1]
     ·rw [(piv_all hq).1]; simp only [locAfter, if_neg hno, Nat.add_sub_cancel_left, p1]
     ·rw [(piv_all hq).2]; simp only [locAfter, if_neg hno, Nat.add_sub_cancel_left, p1]
   refine h1.mono fun e w' h2 => ?_
   cases om with
   | none =>
     refine fin m0 m (piv π ι) e w' (by omega) c6 c7 c9 h2.1 h2.2 (Loc.agree.refl _ _) ⟨by omega, by omega, fun _ _ _ => rfl, fun j B hB => ?_⟩
     obtain ⟨p, C, hp, hC, a1, a2, a3, a4, a5, a6⟩ := p2 j B hB
     refine ⟨p, C, piAfter_lo hp, hC, a1.trans a2.symm, a3, a4, a5, ?_⟩
     rw [← cellsOf_congr (piv_agree (n1 := 0) p1 hlt) (List.all_eq_true.1 c6 _ (List.mem_of_getElem? hB)), a6]
     exact cellsOf_congr (locAfter_lo _ _ _) (List.all_eq_true.1 c5 _ (List.mem_of_getElem? hC))
   | some m1 =>
     obtain ⟨ι1, e1, e2, e3⟩ := h2
     refine fin m1 (spliceM H σ π m m1) ι1 e w' c8 c6 c7 c9 e2 e3 e1 ⟨?_, c8, fun i hi hp => ?_, fun j B hB => ?_⟩
     ·simp [spliceM, setAt_len]
     ·rw [spliceM, List.getElem?_append_left (by rw [setAt_len]; exact hi), setAt_other _ _ _ hp]
     ·have hj := (List.getElem?_eq_some_iff.1 hB).1
      have cells : cellsOf (σ.env ρ) (piv (piAfter π m.length m1.length) (locAfter ι m.length m0.length ι1)) B.segs = cellsOf ρ (locAfter ι m.length m0.length ι1) (subBlk H σ (piAfter π m.length m1.length) B).segs := by
       simp only [subBlk]; rw [renSegs_ok, pickSegs_ok hH, sbGs_ok hH]
      have hmap : (m1.map (subBlk H σ (piAfter π m.length m1.length)))[j]? = some (subBlk H σ (piAfter π m.length m1.length) B) := by rw [List.getElem?_map, hB]; rfl
      by_cases hc : j < π.length
      ·have hp := List.getElem?_eq_getElem hc
       refine ⟨_, subBlk H σ (piAfter π m.length m1.length) B, piAfter_lo hp, ?_, rfl, rfl, rfl, rfl, cells⟩
       rw [spliceM, List.getElem?_append_left (by rw [setAt_len]; exact hlt _ (List.getElem_mem hc))]
       exact setAt_at _ _ _ j c1 hlt hp hmap
      ·obtain ⟨q, rfl⟩ : ∃ q, j = π.length + q := ⟨j - π.length, by omega⟩
       refine ⟨_, subBlk H σ (piAfter π m.length m1.length) B, piAfter_hi hj, ?_, rfl, rfl, rfl, rfl, cells⟩
       rw [spliceM, List.getElem?_append_right (by rw [setAt_len]; omega), setAt_len, Nat.add_sub_cancel_left, List.getElem?_drop]
       exact hmap
  ·cases h
theorem memoG_ok {P : Program} {I : Interp} {f : FuncId} {s : Spec} {find : Hyp → List SV → Mem → Option (Sb × List Nat)} {l0 : List SV} {nd0 : List E} {v0 : SV} {om : Option Mem} (hs : SpecOK P I f s) (h0 : s H0 l0 m0 = some (nd0, v0, om)) : SpecOK P I f (memoG find H0 l0 m0 nd0 v0 om) :=
 memoG_ok0 fun σ _ _ _ _ _ ρ β ι w hI hH hn hm => hs.ok H0 l0 m0 nd0 v0 om h0 (σ.env ρ) β ι w hI hH hn hm
end
structure MS where
 i : List (Nat × E)
 b : List (Nat × E)
 a : List (Nat × E)
 π : List (Nat × Nat)
def assocD {α : Type} (l : List (Nat × α)) (n : Nat) (d : α) : α := match l with
 | [] => d
 | (k, x) :: r => cond (Nat.beq k n) x (assocD r n d)
def mE : E → E → MS → MS
 | .v n, e, s => { s with i := (n, e) :: s.i }
 | .bv n, e, s => { s with b := (n, e) :: s.b }
 | .av n, e, s => { s with a := (n, e) :: s.a }
 | .app _ p, .app _ e, s => mE p e s
 | .cons p q, .cons e f, s => mE q f (mE p e s)
 | .add p q, .add e f, s | .sub p q, .sub e f, s | .mul p q, .mul e f, s | .div p q, .div e f, s | .mod p q, .mod e f, s | .sel p q, .sel e f, s | .eq p q, .eq e f, s | .lt p q, .lt e f, s | .le p q, .le e f, s | .and p q, .and e f, s | .or p q, .or e f, s => mE q f (mE p e s)
 | .not p, .not e, s => mE p e s
 | .ite p q r, .ite e f g, s | .upd p q r, .upd e f g, s => mE r g (mE q f (mE p e s))
 | .blt p q r t u, .blt e f g h k, s => mE u k (mE t h (mE r g (mE q f (mE p e s))))
 | _, _, s => s
def mB (p b : Nat) (s : MS) : MS := if s.π.any (fun q => Nat.beq q.1 p) then s else { s with π := s.π ++ [(p, b)] }
def mS : S → S → MS → MS
 | .int _ p, .int _ e, s => mE p e s
 | .bool p, .bool e, s => mE p e s
 | .ptr b o, .ptr b' o', s => mE o o' (mB b b' s)
 | .slc b o l c, .slc b' o' l' c', s => mE o o' (mE l l' ((match c, c' with | .kn x, .kn y => mE x y | .op x, .op y => mE x y | .tl x y _, .tl x' y' _ => fun s => mE x x' (mE y y' s) | _, _ => id) (mB b b' s)))
 | .fn _ l, .fn _ l', s => (l.zip l').foldl (fun s p => mE p.1.2 p.2.2 (mB p.1.1 p.2.1 s)) s
 | .ifc _ _ p, .ifc _ _ e, s => mE p e s
 | _, _, s => s
def mSegs (H : Hyp) : List Seg → List Seg → MS → MS
 | [.run _ n A 0], l, s => match rowLen H 1 l, arrE H l with
   | some n', some A' => mE n n' (mE A A' s)
   | _, _ => s
 | .one p :: r, .one x :: l, s => mSegs H r l (mS p x s)
 | .run _ n A _ :: r, .run _ n' A' _ :: l, s => mSegs H r l (mE n n' (mE A A' s))
 | .rows n fs _ :: r, .rows n' fs' _ :: l, s => mSegs H r l (mE n n' ((fs.zip fs').foldl (fun s p => mE p.1.2 p.2.2 s) s))
 | _, _, s => s
def mV (H : Hyp) : SV → SV → MS → MS
 | .s p, .s x, s => mS p x s
 | .agg p, .agg x, s => mSegs H p x s
 | _, _, s => s
def mBlks (H : Hyp) (m0 m : Mem) : Nat → Nat → MS → MS
 | 0, _, s => s
 | k + 1, j, s => match s.π[j]? with
   | none => s
   | some (b0, b) => mBlks H m0 m k (j + 1) (match m0[b0]?, m[b]? with
     | some B, some C => mSegs H B.segs C.segs s
     | _, _ => s)
def findG (ni nb na : Nat) (l0 : List SV) (m0 : Mem) : Hyp → List SV → Mem → Option (Sb × List Nat) := fun H l m =>
 if decide (l.length = l0.length) then
  let s := mBlks H m0 m m0.length 0 ((l0.zip l).foldl (fun s p => mV H p.1 p.2 s) ⟨[], [], [], []⟩)
  some (⟨(List.range ni).map fun n => assocD s.i n (.lit 0), (List.range nb).map fun n => assocD s.b n (.blit false), (List.range na).map fun n => assocD s.a n (.tab [])⟩, (List.range m0.length).map fun b => assocD s.π b m.length)
 else none
section
variable {P : Program} {I : Interp} {f : FuncId} {s : Spec}
end
structure SpecAt (P : Program) (I : Interp) (f : FuncId) (ni nb na : Nat) (s : Spec) : Prop where
 ok : ∀ H l m nd v om, s H l m = some (nd, v, om) → ∀ (ρ : Env) (β : Base) (ι : Loc) (w : World), ρ.I = I → Sized ρ ni nb na → H.ok ρ → allN ρ nd → MRep ρ β ι m w →
  Calls P f (l.map (SV.conc ρ ι)).toArray w fun e w' => match om with
   | none => e = endV ρ ι v ∧ MRep ρ β ι m w'
   | some m' => ∃ ι', Loc.agree m.length ι ι' ∧ e = endV ρ ι' v ∧ MRep ρ β ι' m' w'
theorem SpecAt.of {P : Program} {I : Interp} {f : FuncId} {ni nb na : Nat} {s : Spec} (h : SpecOK P I f s) : SpecAt P I f ni nb na s :=
 ⟨fun H l m nd v om hs ρ β ι w hI _ hH hn hm => h.ok H l m nd v om hs ρ β ι w hI hH hn hm⟩
def SEq (ρ' ρ : Env) : S → S → Prop
 | .int k x, .int k' y => k = k' ∧ x.i ρ' = y.i ρ
 | .bool x, .bool y => x.b ρ' = y.b ρ
 | .ptr b o, .ptr b' o' => b = b' ∧ o.i ρ' = o'.i ρ
 | .slc b o l (.kn c), .slc b' o' l' (.kn c') => b = b' ∧ o.i ρ' = o'.i ρ ∧ l.i ρ' = l'.i ρ ∧ c.i ρ' = c'.i ρ
 | .slc b o l (.op c), .slc b' o' l' (.op c') => b = b' ∧ o.i ρ' = o'.i ρ ∧ l.i ρ' = l'.i ρ ∧ c.i ρ' = c'.i ρ
 | .xslc i j o l, .xslc i' j' o' l' => i = i' ∧ j.i ρ' = j'.i ρ ∧ o.i ρ' = o'.i ρ ∧ l.i ρ' = l'.i ρ
 | .nil, .nil | .nilIface, .nilIface | .nilSlc, .nilSlc | .nilFn, .nilFn | .undef, .undef => True
 | .str l, .str l' => l = l'
 | .fn f [], .fn f' [] => f = f'
 | .ifc t k x, .ifc t' k' y => t = t' ∧ k = k' ∧ x.i ρ' = y.i ρ
 | _, _ => False
def SegEq (ρ' ρ : Env) : Seg → Seg → Prop
 | .one x, .one y => SEq ρ' ρ x y
 | .run k n A o, .run k' n' A' o' => k = k' ∧ n.i ρ' = n'.i ρ ∧ ∀ j, j < (n'.i ρ).toNat → A.a ρ' (o + j) = A'.a ρ (o' + j)
 | _, _ => False
def SegsEq (ρ' ρ : Env) : List Seg → List Seg → Prop
 | [], [] => True
 | x :: l, y :: r => SegEq ρ' ρ x y ∧ SegsEq ρ' ρ l r
 | _, _ => False
def BlkEq (ρ' ρ : Env) (B C : Blk) : Prop := (B.ty = C.ty ∧ B.wr = C.wr ∧ B.grow = C.grow ∧ B.dead = C.dead) ∧ (C.dead = true ∨ SegsEq ρ' ρ B.segs C.segs)
def MemEq (ρ' ρ : Env) : Mem → Mem → Prop
 | [], [] => True
 | B :: l, C :: r => BlkEq ρ' ρ B C ∧ MemEq ρ' ρ l r
 | _, _ => False
def TupEq (ρ' ρ : Env) : List (Bool × List Seg) → List (Bool × List Seg) → Prop
 | [], [] => True
 | x :: l, y :: r => x.1 = y.1 ∧ SegsEq ρ' ρ x.2 y.2 ∧ TupEq ρ' ρ l r
 | _, _ => False
def VEq (ρ' ρ : Env) : SV → SV → Prop
 | .s x, .s y => SEq ρ' ρ x y
 | .agg l, .agg r => SegsEq ρ' ρ l r
 | .tup l, .tup r => TupEq ρ' ρ l r
 | _, _ => False
section
variable {ρ' ρ : Env} {ι : Loc}
theorem SEq.conc (hI : ρ'.I = ρ.I) {x y : S} (h : SEq ρ' ρ x y) : x.conc ρ' ι = y.conc ρ ι := by
 unfold SEq at h
 split at h
 ·obtain ⟨rfl, h⟩ := h; simp only [S.conc, h]
 ·simp only [S.conc, h]
 ·obtain ⟨rfl, h⟩ := h; simp only [S.conc, addr, h]
 ·obtain ⟨rfl, h1, h2, h3⟩ := h; simp only [S.conc, addr, h1, h2, h3]
 ·obtain ⟨rfl, h1, h2, h3⟩ := h; simp only [S.conc, addr, h1, h2, h3]
 ·obtain ⟨rfl, h1, h2, h3⟩ := h; simp only [S.conc, hI, h1, h2, h3]
 ·rfl
 ·rfl
 ·rfl
 ·rfl
 ·rfl
 ·subst h; rfl
 ·subst h; rfl
 ·obtain ⟨rfl, rfl, h⟩ := h; simp only [S.conc, h]
 ·cases h
theorem SegEq.cells (hI : ρ'.I = ρ.I) {x y : Seg} (h : SegEq ρ' ρ x y) : x.cells ρ' ι = y.cells ρ ι := by
 unfold SegEq at h
 split at h
 ·rw [cells_one, cells_one, h.conc hI]
 ·obtain ⟨rfl, hn, ha⟩ := h
  simp only [Seg.cells, hn]
  apply List.map_congr_left
  intro j hj
  rw [ha j (by simpa using hj)]
 ·cases h
theorem SegsEq.cells (hI : ρ'.I = ρ.I) : ∀ {l r : List Seg}, SegsEq ρ' ρ l r → cellsOf ρ' ι l = cellsOf ρ ι r
 | [], [], _ => rfl
 | [], _ :: _, h => by cases h
 | _ :: _, [], h => by cases h
 | x :: l, y :: r, h => by
   obtain ⟨h1, h2⟩ := h
   rw [cells_cons, cells_cons, h1.cells hI, SegsEq.cells hI h2]
theorem TupEq.conc (hI : ρ'.I = ρ.I) : ∀ {l r : List (Bool × List Seg)}, TupEq ρ' ρ l r → (l.map fun p => if p.1 then Value.agg (cellsOf ρ' ι p.2).toArray else ((cellsOf ρ' ι p.2)[0]?).getD Go.undef) = r.map fun p => if p.1 then Value.agg (cellsOf ρ ι p.2).toArray else ((cellsOf ρ ι p.2)[0]?).getD Go.undef
 | [], [], _ => rfl
 | [], _ :: _, h => by cases h
 | _ :: _, [], h => by cases h
 | x :: l, y :: r, h => by
   obtain ⟨h1, h2, h3⟩ := h
   rw [List.map_cons, List.map_cons, TupEq.conc hI h3, h1, h2.cells hI]
theorem VEq.conc (hI : ρ'.I = ρ.I) {x y : SV} (h : VEq ρ' ρ x y) : x.conc ρ' ι = y.conc ρ ι := by
 unfold VEq at h
 split at h
 ·exact h.conc hI
 ·simp only [SV.conc, h.cells (ι := ι) hI]
 ·simp only [SV.conc]; rw [h.conc hI]
 ·cases h
theorem MemEq.at : ∀ {m m' : Mem}, MemEq ρ' ρ m m' → m.length = m'.length ∧ ∀ (i : Nat) (C : Blk), m'[i]? = some C → ∃ B, m[i]? = some B ∧ BlkEq ρ' ρ B C
 | [], [], _ => ⟨rfl, fun i C h => by simp at h⟩
 | [], _ :: _, h => by cases h
 | _ :: _, [], h => by cases h
 | B :: l, C :: r, h => by
   obtain ⟨h1, h2⟩ := h
   obtain ⟨e1, e2⟩ := MemEq.at h2
   refine ⟨by simp [e1], fun i D hD => ?_⟩
   cases i with
   | zero => simp only [List.getElem?_cons_zero, Option.some.injEq] at hD; subst hD; exact ⟨B, rfl, h1⟩
   | succ i => simpa using e2 i D (by simpa using hD)
theorem MRep.recells (hI : ρ'.I = ρ.I) {β : Base} {w : World} {m m' : Mem} (h : MemEq ρ' ρ m m') (hm : MRep ρ' β ι m w) : MRep ρ β ι m' w := by
 obtain ⟨hl, hat⟩ := h.at
 refine ⟨fun i j C D hC hD hCd hDd hCn hDn hq => ?_, fun i C hC hCd hCn => ?_, fun i C hC hCd hCn => ?_, hm.agr, by rw [← hl]; exact hm.len, by rw [← hl]; exact hm.new, hm.size, by rw [← hl]; exact hm.old, hm.os, hm.tape, hm.output, by rw [← hI]; exact hm.xt, by rw [← hl, ← hI]; exact hm.xd⟩
 ·obtain ⟨B, hB, ⟨_, _, _, hd⟩, _⟩ := hat i C hC
  obtain ⟨B', hB', ⟨_, _, _, hd'⟩, _⟩ := hat j D hD
  exact hm.inj i j B B' hB hB' (by rw [hd]; exact hCd) (by rw [hd']; exact hDd) hCn hDn hq
 ·obtain ⟨B, hB, ⟨h1, h2, h3, hd⟩, hs⟩ := hat i C hC
  rcases hs with hs | hs
  ·rw [hCd] at hs; cases hs
  ·have := hm.blk i B hB (by rw [hd]; exact hCd) hCn
   rw [hs.cells hI, h1, h2, h3] at this; exact this
 ·obtain ⟨B, hB, ⟨h1, h2, h3, hd⟩, hs⟩ := hat i C hC
  rcases hs with hs | hs
  ·rw [hCd] at hs; cases hs
  ·have := hm.nils i B hB (by rw [hd]; exact hCd) hCn
   rw [hs.cells hI, h3] at this; exact this
end
noncomputable def exactS (H0 : Hyp) (l0 : List SV) (m0 : Mem) (nd : List E) (v : SV) (om : Option Mem) : Spec := fun H l m => @ite _ (H = H0 ∧ l = l0 ∧ m = m0) (Classical.propDecidable _) (some (nd, v, om)) none
theorem exactS_at (H0 : Hyp) (l0 : List SV) (m0 : Mem) (nd : List E) (v : SV) (om : Option Mem) : exactS H0 l0 m0 nd v om H0 l0 m0 = some (nd, v, om) := by
 unfold exactS; rw [if_pos ⟨rfl, rfl, rfl⟩]
theorem memoA_ok {P : Program} {I : Interp} {f : FuncId} {s : Spec} {ni nb na : Nat} {H0 : Hyp} {l0 : List SV} {m0 : Mem} {nd0 : List E} {v0 : SV} {om : Option Mem} (hs : SpecAt P I f ni nb na s) (h0 : s H0 l0 m0 = some (nd0, v0, om)) :
 SpecOK P I f (memoG (findG ni nb na l0 m0) H0 l0 m0 nd0 v0 om) :=
 memoG_ok0 fun σ π H l m hf ρ β ι w hI hH hn hm => by
  refine hs.ok H0 l0 m0 nd0 v0 om h0 (σ.env ρ) β ι w hI ?_ hH hn hm
  unfold findG at hf
  split at hf
  ·simp only [Option.some.injEq, Prod.mk.injEq] at hf
   obtain ⟨rfl, _⟩ := hf
   exact ⟨by simp [Sb.env], by simp [Sb.env], by simp [Sb.env]⟩
  ·cases hf
def RetOK (ρ' ρ : Env) (v : SV) (m : Mem) (v' : SV) (m' : Mem) : Prop := isPan v' = false ∧ VEq ρ' ρ v' v ∧ MemEq ρ' ρ m' m
theorem loopS_ok {P : Program} {I : Interp} {f : FuncId} {Γ : Ctx} {hc' : HintCtx} {D : Dim} {hs : List Head} {cut : List Nat} {k u u0 : Nat} {ni nb na : Nat} {H0 : Hyp} {l0 : List SV} {m0 : Mem} {nd : List E} {v : SV} {m1 : Mem} {lt : LT}
 (hΓ : CtxOK P I Γ) (hP : P.follows .mixedOrders = true) (hst : startL P Γ hc' D hs cut k u0 f H0 l0 m0 = some lt) (hK : m0.length ≤ D.K) (hpan : isPan v = false) (Inv : Env → Nat → Env → Prop) (μ : Nat → Env → Nat)
 (hmain : ∀ ρ : Env, ρ.I = I → Sized ρ ni nb na → H0.ok ρ → allN ρ nd → ∃ ρ1 : Env, ρ1.I = ρ.I ∧ Sized ρ1 D.ni D.nb D.na ∧ H0.ok ρ1 ∧ (∀ ι, l0.map (SV.conc ρ1 ι) = l0.map (SV.conc ρ ι)) ∧ MemEq ρ ρ1 m0 m0 ∧
   lt.holds ρ1 (fun v' m' => RetOK ρ1 ρ v m1 v' m') (fun j todo ρ' => (hs[j]?.map (·.todo)) = some todo ∧ Inv ρ j ρ') ∧
   ∀ j h ρ', hs[j]? = some h → ρ'.I = I → Sized ρ' D.ni D.nb D.na → Inv ρ j ρ' → ∃ H', Hyp.ok H' ρ' ∧ ∃ lt', segL P Γ hc' D hs cut k u f { h with H := H' } = some lt' ∧
    lt'.holds ρ' (fun v' m' => RetOK ρ' ρ v m1 v' m') (fun j' todo ρ'' => (hs[j']?.map (·.todo)) = some todo ∧ Inv ρ j' ρ'' ∧ μ j' ρ'' < μ j ρ')) :
 SpecAt P I f ni nb na (exactS H0 l0 m0 nd v (some m1)) := by
 constructor
 intro H l m nd' v' om' h ρ β ι w hI hz hH hn hm
 unfold exactS at h
 split at h
 ·rename_i hc
  obtain ⟨rfl, rfl, rfl⟩ := hc
  simp only [Option.some.injEq, Prod.mk.injEq] at h
  obtain ⟨rfl, rfl, rfl⟩ := h
  obtain ⟨ρ1, e1, z1, h1, a1, c1, hl1, hseg⟩ := hmain ρ hI hz hH hn
  have hm1 : MRep ρ1 ⟨w, m.length, ι⟩ ι m w := hm.now.recells (by rw [e1]) c1
  unfold startL at hst
  split at hst
  rotate_left
  ·cases hst
  rename_i fn hfn
  split at hst
  rotate_left
  ·cases hst
  rename_i c hcb
  split at hst
  rotate_left
  ·cases hst
  rename_i hlen
  rw [← a1]
  have td : ∀ {j : Nat} {todo : List Item}, (hs[j]?.map (·.todo)) = some todo → ∃ h, hs[j]? = some h ∧ todo = h.todo := fun {j todo} hq => by
   cases hj : hs[j]? with
   | none => rw [hj] at hq; cases hq
   | some h => rw [hj] at hq; simp only [Option.map_some, Option.some.injEq] at hq; exact ⟨h, rfl, hq.symm⟩
  refine floyd_calls (u := u) (β := ⟨w, m.length, ι⟩) (R := fun e w' => ∃ ι', Loc.agree m.length ι ι' ∧ e = endV ρ ι' v ∧ MRep ρ β ι' m1 w') (Inv := fun j ρ' => Inv ρ j ρ') hΓ hP hfn hK hcb μ hlen hst (e1.trans hI) z1 h1 hm1 ?_ ?_
  ·refine LT.holds_imp (fun v' m' hr => ?_) (fun j todo ρ' hq => ?_) hl1
   ·intro ι' w' hm'
    obtain ⟨p1, p2, p3⟩ := hr
    have h9 := hm'.recells e1 p3
    exact ⟨ι', h9.agr.symm, by rw [endV_of p1, endV_of hpan, p2.conc e1], hm.since h9⟩
   ·exact ⟨td hq.1, hq.2⟩
  ·intro j h ρ' hj hI' hz' hInv
   obtain ⟨H', hH', lt', hs', hl'⟩ := hseg j h ρ' hj hI' hz' hInv
   unfold segL at hs'
   rw [hfn] at hs'
   refine ⟨H', hH', lt', hs', ?_⟩
   refine LT.holds_imp (fun v' m' hr => ?_) (fun j' todo ρ'' hq => ?_) hl'
   ·intro ι' w' hm'
    obtain ⟨p1, p2, p3⟩ := hr
    have h9 := hm'.recells (hI'.trans hI.symm) p3
    exact ⟨ι', h9.agr.symm, by rw [endV_of p1, endV_of hpan, p2.conc (hI'.trans hI.symm)], hm.since h9⟩
   ·exact ⟨td hq.1, hq.2.1, hq.2.2⟩
 ·cases h
theorem len_succ {α : Type} {l : List α} {n : Nat} (h : l.length = n + 1) : ∃ a r, l = a :: r ∧ r.length = n := by
 cases l with
 | nil => simp at h
 | cons a r => exact ⟨a, r, rfl, by simpa using h⟩
theorem app50 {ρ : Env} (h : ρ.I.fa = Ifa) (A : E) : (E.app 50 (.cons A .nil)).a ρ = rowB (A.a ρ) := by
 rw [a_app, h]; rfl
theorem rowB_rng (A : Nat → Int) (j : Nat) : 0 ≤ rowB A j ∧ rowB A j ≤ 255 := by
 unfold rowB; split <;> omega
theorem rowB_word {A : Nat → Int} {k : Nat} (h : 0 ≤ A k ∧ A k ≤ 65535) : rowB A (2 * k) + rowB A (2 * k + 1) * 256 = A k := by
 unfold rowB
 rw [if_pos (by omega), if_neg (by omega), show 2 * k / 2 = k by omega, show (2 * k + 1) / 2 = k by omega]
 omega
theorem rowB_lo {A : Nat → Int} {k : Nat} : rowB A (2 * k) = A k % 256 := by
 unfold rowB; rw [if_pos (by omega), show 2 * k / 2 = k by omega]
theorem rowB_hi {A : Nat → Int} {k : Nat} (h : 0 ≤ A k ∧ A k ≤ 65535) : rowB A (2 * k + 1) = A k / 256 := by
 unfold rowB; rw [if_neg (by omega), show (2 * k + 1) / 2 = k by omega]; omega
theorem app60 {ρ : Env} (h : ρ.I.fb = Ifb) (n z A : E) : (E.app 60 (.cons n (.cons z (.cons A .nil)))).b ρ = belowF (n.i ρ).toNat (z.i ρ) (A.a ρ) := by
 rw [b_app, h]; rfl
theorem belowF_iff {n : Nat} {z : Int} {A : Nat → Int} : belowF n z A = true ↔ ∀ j, j < n → A j < z := by
 unfold belowF
 rw [List.all_eq_true]
 exact ⟨fun h j hj => of_decide_eq_true (h j (List.mem_range.2 hj)), fun h j hj => decide_eq_true (h j (List.mem_range.1 hj))⟩
theorem belowF_not {n : Nat} {z : Int} {A : Nat → Int} {j : Nat} (hj : j < n) (h : z ≤ A j) : belowF n z A = false := by
 cases hb : belowF n z A with
 | false => rfl
 | true => have := belowF_iff.1 hb j hj; omega
end Go.Sx
