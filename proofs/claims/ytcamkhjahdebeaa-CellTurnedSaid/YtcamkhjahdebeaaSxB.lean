/- A run of a program by symbols, proved sound, second part: operations that write, calls, regions, the code, ways that meet again. It imports no program. -/
import Derived.Test.YtcamkhjahdebeaaSxA
set_option linter.unusedVariables false
set_option linter.unusedSimpArgs false
namespace Go.Sx
/-! ### literals of structs, arrays, slices -/
def segsLen : List Seg → Option Nat
  | [] => some 0
  | .one _ :: l => (segsLen l).map (· + 1)
  | .run _ (.lit z) _ _ :: l => if 0 ≤ z then (segsLen l).map (· + z.toNat) else none
  | .rows (.lit z) fs _ :: l => if 0 ≤ z then (segsLen l).map (· + z.toNat * fs.length) else none
  | _ => none

/-- zeros in a row are one run -/
def pack : List Seg → List Seg
  | [] => []
  | .one (.int k (.lit 0)) :: l =>
    match pack l with
    | .run k' (.lit n) (.tab []) o :: r => if k = k' ∧ 0 ≤ n then .run k (.lit (n + 1)) (.tab []) o :: r else .run k (.lit 1) (.tab []) 0 :: .run k' (.lit n) (.tab []) o :: r
    | r => .run k (.lit 1) (.tab []) 0 :: r
  | x :: l => x :: pack l

/-! zero values, by their types: arrays of numbers are runs, arrays of structs of scalars are rows -/
def flatOnes : List Seg → Option (List XF)
  | [] => some []
  | .one (.int k (.lit _)) :: l => (flatOnes l).map ((some k, .tab []) :: ·)
  | .one (.bool (.blit _)) :: l => (flatOnes l).map ((none, .tab []) :: ·)
  | _ => none
def shapeF (sh : TypeId → Option (List Seg)) : List Field → Option (List Seg)
  | [] => some []
  | f :: l => match sh f.type, shapeF sh l with
    | some a, some b => some (a ++ b)
    | _, _ => none
def shapeT (P : Program) : Nat → TypeId → Option (List Seg)
  | 0, _ => none
  | d + 1, t => match P.underlying t with
    | some (.int k) => some [.one (.int k (.lit 0))]
    | some .bool => some [.one (.bool (.blit false))]
    | some (.pointer _) => some [.one .nil]
    | some (.slice _) => some [.one .nilSlc]
    | some (.func ..) => some [.one .nilFn]
    | some .string => some [.one (.str [])]
    | some (.interface _) => some [.one .nilIface]
    | some (.struct fs) => shapeF (shapeT P d) fs.toList
    | some (.array n e) => match shapeT P d e with
      | some [.one (.int k _)] => some [.run k (.lit n) (.tab []) 0]
      | some l => match flatOnes l with
        | some fs => if 2 ≤ fs.length ∧ 2 ≤ n then some [.rows (.lit n) fs 0] else some (List.replicate n l).flatten
        | none => if n ≤ 64 then some (List.replicate n l).flatten else none
      | none => none
    | _ => none
/-- what the cells of a shape are: some scalars, so many times -/
def planOf : List Seg → Option (List (Nat × List S))
  | [] => some []
  | .one x :: l => (planOf l).map ((1, [x]) :: ·)
  | .run k (.lit n) (.tab []) _ :: l => if 0 ≤ n then (planOf l).map ((n.toNat, [.int k (.lit 0)]) :: ·) else none
  | .rows (.lit n) fs _ :: l => if 0 ≤ n ∧ fs.all (fun f => decide (f.2 = .tab [])) = true then (planOf l).map ((n.toNat, fs.map fun f => match f.1 with | some k => .int k (.lit 0) | none => .bool (.blit false)) :: ·) else none
  | _ => none
def isS : S → Value → Bool
  | .int k (.lit 0), .int k' z => decide (k = k') && decide (z = 0)
  | .bool (.blit false), .bool b => !b
  | x, v => decide (ofScalar v = some x)
def zchk : List Value → List S → List S → Nat → List (Nat × List S) → Bool
  | [], cur, _, n, rest => cur.isEmpty && (n == 0 && rest.isEmpty)
  | v :: l, cur, full, n, rest => match cur with
    | x :: cur' => if isS x v then zchk l cur' full n rest else false
    | [] => match n with
      | n + 1 => match full with
        | x :: f => if isS x v then zchk l f (x :: f) n rest else false
        | [] => false
      | 0 => match rest with
        | (n + 1, x :: f) :: rest' => if isS x v then zchk l f (x :: f) n rest' else false
        | _ => false
def zeroT (P : Program) (t : TypeId) : Option SV :=
  match (P.info? t).bind (·.zero) with
  | some z => match z with
    | .agg cs => match shapeT P 12 t with
      | some sh => match planOf sh with
        | some pl => if zchk cs.toList [] [] 0 pl = true then some (.agg sh) else none
        | none => none
      | none => none
    | z => ofValue z
  | none => none

section
variable {ρ : Env} {ι : Loc} {P : Program} {w : World}
theorem segsLen_ok : ∀ {l : List Seg} {n : Nat}, segsLen l = some n → (cellsOf ρ ι l).length = n
  | [], n, h => by simp only [segsLen, Option.some.injEq] at h; subst h; rfl
  | .one x :: l, n, h => by
    simp only [segsLen, Option.map_eq_some_iff] at h
    obtain ⟨k, hk, rfl⟩ := h
    rw [cells_cons, cells_one, List.length_append, segsLen_ok hk]; simp; omega
  | .run kd e A o :: l, n, h => by
    cases e with
    | lit z =>
      simp only [segsLen] at h
      split at h
      · simp only [Option.map_eq_some_iff] at h
        obtain ⟨k, hk, rfl⟩ := h
        rw [cells_cons, List.length_append, run_len, i_lit, segsLen_ok hk]; omega
      · cases h
    | _ => simp [segsLen] at h
  | .rows e fs o :: l, n, h => by
    cases e with
    | lit z =>
      simp only [segsLen] at h
      split at h
      · simp only [Option.map_eq_some_iff] at h
        obtain ⟨k, hk, rfl⟩ := h
        rw [cells_cons, List.length_append, rows_len, i_lit, segsLen_ok hk]; omega
      · cases h
    | _ => simp [segsLen] at h
theorem conc_cells {x : S} (hx : ∀ n, x ≠ .val n) : (x.conc ρ ι).cells = #[x.conc ρ ι] := by
  cases x with
  | val n => exact absurd rfl (hx n)
  | slc b off len c => cases c <;> simp only [S.conc] <;> (try split) <;> rfl
  | xslc i j off len => simp only [S.conc, Ext.sub]; split <;> rfl
  | xptr i j k f => simp only [S.conc, Ext.ptr]; split <;> rfl
  | _ => rfl

theorem run_zero (k : IntKind) (n : Nat) (o : Nat) : (Seg.run k (.lit n) (.tab []) o).cells ρ ι = List.replicate n (.int k 0) := by
  simp only [Seg.cells, i_lit, Int.toNat_natCast, a_tab, List.getD_nil]
  rw [List.map_const']; simp
theorem pack_ok : ∀ (l : List Seg), cellsOf ρ ι (pack l) = cellsOf ρ ι l := by
  intro l
  induction l with
  | nil => rfl
  | cons x l ih =>
    unfold pack
    split
    · contradiction
    · rename_i k l' heq
      cases heq
      have one : (Seg.one (.int k (.lit 0))).cells ρ ι = (Seg.run k (.lit 1) (.tab []) 0).cells ρ ι := by
        have := run_zero (ρ := ρ) (ι := ι) k 1 0
        rw [show ((1 : Nat) : Int) = 1 from rfl] at this
        rw [this]; rfl
      split
      · rename_i k' n o r hp
        rw [cells_cons, ← ih, hp]
        split
        · rename_i hk
          obtain ⟨rfl, hn⟩ := hk
          obtain ⟨n, rfl⟩ := Int.eq_ofNat_of_zero_le hn
          rw [cells_cons, cells_cons, run_zero, show ((n : Int) + 1) = ((n + 1 : Nat) : Int) by omega, run_zero, one]
          have := run_zero (ρ := ρ) (ι := ι) k 1 0
          rw [show ((1 : Nat) : Int) = 1 from rfl] at this
          rw [this, ← List.append_assoc, List.replicate_append_replicate, Nat.add_comm]
        · rw [cells_cons, one]
      · rw [cells_cons, cells_cons, one, ih]
    · rename_i heq
      cases heq
      rw [cells_cons, cells_cons, ih]

def concL (ρ : Env) (ι : Loc) (l : List S) : List Value := l.map fun x => x.conc ρ ι
def planL (ρ : Env) (ι : Loc) (l : List (Nat × List S)) : List Value := l.flatMap fun p => (List.replicate p.1 (concL ρ ι p.2)).flatten
theorem isS_ok {x : S} {v : Value} (h : isS x v = true) : v = x.conc ρ ι := by
  unfold isS at h
  split at h
  · simp only [Bool.and_eq_true, decide_eq_true_eq] at h; obtain ⟨rfl, rfl⟩ := h; rfl
  · rename_i b; cases b <;> simp at h; rfl
  · exact ofScalar_ok (of_decide_eq_true h)
theorem zchk_ok : ∀ {l : List Value} {cur full : List S} {n : Nat} {rest : List (Nat × List S)}, zchk l cur full n rest = true →
    l = concL ρ ι cur ++ ((List.replicate n (concL ρ ι full)).flatten ++ planL ρ ι rest) := by
  intro l
  induction l with
  | nil =>
    intro cur full n rest h
    simp only [zchk, Bool.and_eq_true, List.isEmpty_iff, beq_iff_eq] at h
    obtain ⟨rfl, rfl, rfl⟩ := h; rfl
  | cons v l ih =>
    intro cur full n rest h
    unfold zchk at h
    cases cur with
    | cons x cur' =>
      simp only at h
      split at h
      · rename_i hx; rw [ih h, isS_ok (ρ := ρ) (ι := ι) hx]; simp [concL]
      · cases h
    | nil =>
      cases n with
      | succ n =>
        cases full with
        | nil => cases h
        | cons x f =>
          simp only at h
          split at h
          · rename_i hx
            rw [ih h, isS_ok (ρ := ρ) (ι := ι) hx]; simp [concL, List.replicate_succ]
          · cases h
      | zero =>
        simp only at h
        split at h
        · split at h
          · rename_i hx
            rw [ih h, isS_ok (ρ := ρ) (ι := ι) hx]; simp [concL, planL, List.replicate_succ]
          · cases h
        · cases h
theorem planOf_ok : ∀ {l : List Seg} {p : List (Nat × List S)}, planOf l = some p → planL ρ ι p = cellsOf ρ ι l := by
  intro l
  induction l with
  | nil => intro p h; simp only [planOf, Option.some.injEq] at h; subst h; rfl
  | cons s l ih =>
    intro p h
    unfold planOf at h
    split at h
    · contradiction
    · rename_i e1; cases e1
      simp only [Option.map_eq_some_iff] at h
      obtain ⟨q, hq, rfl⟩ := h
      rw [cells_cons, cells_one, ← ih hq]; simp [planL, concL]
    · rename_i e1; cases e1
      split at h
      · rename_i k n o hn
        simp only [Option.map_eq_some_iff] at h
        obtain ⟨q, hq, rfl⟩ := h
        obtain ⟨n, rfl⟩ := Int.eq_ofNat_of_zero_le hn
        rw [cells_cons, ← ih hq, run_zero]
        simp [planL, concL, S.conc, i_lit]
      · cases h
    · rename_i e1; cases e1
      split at h
      · rename_i n fs o hn
        simp only [Option.map_eq_some_iff] at h
        obtain ⟨q, hq, rfl⟩ := h
        rw [cells_cons, ← ih hq]
        have hc : ∀ j, (fs.map fun f => XF.conc ρ f j) = concL ρ ι (fs.map fun f => match f.1 with | some k => S.int k (.lit 0) | none => .bool (.blit false)) := by
          intro j
          rw [concL, List.map_map]
          refine List.map_congr_left fun f hf => ?_
          have h1 := List.all_eq_true.1 hn.2 f hf
          simp only [decide_eq_true_eq] at h1
          simp only [XF.conc, h1, a_tab, List.getD_nil, Function.comp]
          split <;> rename_i he <;> simp [he, S.conc, i_lit, b_blit]
        have hr : (Seg.rows (.lit n) fs o).cells ρ ι = (List.replicate n.toNat (concL ρ ι (fs.map fun f => match f.1 with | some k => S.int k (.lit 0) | none => .bool (.blit false)))).flatten := by
          simp only [Seg.cells, i_lit]
          rw [show (fun j => fs.map fun f => XF.conc ρ f (o + j)) = fun _ => concL ρ ι (fs.map fun f => match f.1 with | some k => S.int k (.lit 0) | none => .bool (.blit false)) from funext fun j => hc _]
          generalize concL ρ ι _ = L
          rw [List.flatMap_def, List.map_const']; simp
        rw [hr]; simp [planL]
      · cases h
    · cases h
theorem zeroT_ok {t : TypeId} {v : SV} (h : zeroT P t = some v) : (zeroValue t).run P w = .ok (v.conc ρ ι) w := by
  unfold zeroT at h
  split at h
  · rename_i z hz
    rw [Option.bind_eq_some_iff] at hz
    obtain ⟨i, hi, hz⟩ := hz
    have : (zeroValue t).run P w = .ok z w := by simp [zeroValue, typeInfo, hi, hz]
    rw [this]
    split at h
    · rename_i cs
      split at h
      · split at h
        · rename_i pl hpl
          split at h
          · rename_i hc
            simp only [Option.some.injEq] at h; subst h
            have := zchk_ok (ρ := ρ) (ι := ι) hc
            simp only [concL, List.map_nil, List.replicate_zero, List.flatten_nil, List.nil_append, planOf_ok hpl] at this
            simp only [SV.conc, ← this]
          · cases h
        · cases h
      · cases h
    · rw [ofValue_ok (ρ := ρ) (ι := ι) h]
  · cases h

end


/-- a row of cells, some of them written anew -/
def splice (segs : List Seg) (off n : Nat) (new : List Seg) : Option (List Seg) :=
  if segsLen new = some n then
    match takeSegs off segs, dropSegs (off + n) segs with
    | some a, some b => some (a ++ new ++ b)
    | _, _ => none
  else none
def cellsV : SV → Option (List Seg)
  | .s (.val _) => none
  | .s x => some [.one x]
  | .agg l => some l
  | _ => none
def qFill (place : Nat → Option (Nat × Nat)) : List Seg → List (Nat × SV) → Option (List Seg)
  | segs, [] => some segs
  | segs, (i, v) :: r => match place i, cellsV v with
    | some (off, n), some l => match splice segs off n l with
      | some s => qFill place s r
      | none => none
    | _, _ => none

def sizes (P : Program) : List Field → Option (List (Nat × Nat))
  | [] => some []
  | f :: l => match sizeT P f.type, sizes P l with
    | some n, some r => some ((f.offset, n) :: r)
    | _, _ => none
def qBuild (P : Program) (t : TypeId) (parts : List (Nat × SV)) : Option (List E × SV) :=
  match zeroT P t with
  | some (.agg z) => match P.underlying t with
    | some (.struct fs) => match sizes P fs.toList with
      | some ps => (qFill (ps[·]?) z parts).map fun l => ([], .agg l)
      | none => none
    | some (.array _ e) => match sizeT P e with
      | some n => (qFill (fun i => some (i * n, n)) z parts).map fun l => ([], .agg l)
      | none => none
    | _ => none
  | _ => none

section
variable {ρ : Env} {ι : Loc} {P : Program} {w : World}

theorem cellsV_ok {v : SV} {l : List Seg} (h : cellsV v = some l) : (v.conc ρ ι).cells = (cellsOf ρ ι l).toArray := by
  unfold cellsV at h
  split at h
  · cases h
  · rename_i x hx
    simp only [Option.some.injEq] at h; subst h
    show (S.conc ρ ι x).cells = _
    rw [conc_cells (fun n hn => hx n hn)]; simp [cellsOf, Seg.cells]
  · simp only [Option.some.injEq] at h; subst h; rfl
  · cases h

theorem fold_splice (off : Nat) : ∀ (l : List Value) (k : Nat) (cs : Array Value), off + k + l.length ≤ cs.size →
    ((l.zipIdx k).foldl (fun cs (p : Value × Nat) => cs.setIfInBounds (off + p.2) p.1) cs).toList = cs.toList.take (off + k) ++ l ++ cs.toList.drop (off + k + l.length)
  | [], k, cs, h => by simp
  | v :: l, k, cs, h => by
    simp only [List.length_cons] at h
    simp only [List.zipIdx_cons, List.foldl_cons]
    rw [fold_splice off l (k + 1) _ (by simp; omega)]
    apply List.ext_getElem?
    intro j
    simp only [Array.toList_setIfInBounds, List.getElem?_append, List.length_append, List.length_take, List.length_set, List.getElem?_take, List.getElem?_set, List.getElem?_drop, List.length_cons, Array.length_toList]
    by_cases h1 : j < off + k
    · rw [if_pos (by omega), if_pos (by omega), if_pos (by omega), if_neg (by omega), if_pos (by omega), if_pos (by omega), if_pos h1]
    · by_cases h2 : j = off + k
      · subst h2
        rw [if_pos (by omega), if_pos (by omega), if_pos (by omega), if_pos rfl, if_pos (by omega), if_pos (by omega), if_neg (by omega), show off + k - min (off + k) cs.size = 0 by omega]; rfl
      · by_cases h3 : j < off + k + 1 + l.length
        · rw [if_pos (by omega), if_neg (by omega), if_pos (by omega), if_neg (by omega), show j - min (off + k) cs.size = (j - min (off + (k + 1)) cs.size) + 1 by omega, List.getElem?_cons_succ]
        · rw [if_neg (by omega), if_neg (by omega), if_neg (by omega)]
          congr 1; omega

theorem qFill_ok {place : Nat → Option (Nat × Nat)} : ∀ {parts : List (Nat × SV)} {segs l : List Seg}, qFill place segs parts = some l →
    Instr.fill place (cellsOf ρ ι segs).toArray (parts.map fun p => (p.1, p.2.conc ρ ι)) = some (cellsOf ρ ι l).toArray
  | [], segs, l, h => by simp only [qFill, Option.some.injEq] at h; subst h; rfl
  | (i, v) :: r, segs, l, h => by
    simp only [qFill] at h
    split at h
    · rename_i off n l' hp hv
      split at h
      · rename_i s hs
        unfold splice at hs
        split at hs
        · rename_i hlen
          split at hs
          · rename_i a b ha hb
            simp only [Option.some.injEq] at hs; subst hs
            have e1 := takeSegs_ok (ρ := ρ) (ι := ι) _ _ _ ha
            have e2 := dropSegs_ok (ρ := ρ) (ι := ι) _ _ _ hb
            have e3 := segsLen_ok (ρ := ρ) (ι := ι) hlen
            have e4 := cellsV_ok (ρ := ρ) (ι := ι) hv
            have hf : ((v.conc ρ ι).cells.zipIdx.foldl (fun cs (p : Value × Nat) => cs.setIfInBounds (off + p.2) p.1) (cellsOf ρ ι segs).toArray) = (cellsOf ρ ι (a ++ l' ++ b)).toArray := by
              rw [e4, cells_append, cells_append, e1.1, e2.1]
              have := fold_splice off (cellsOf ρ ι l') 0 (cellsOf ρ ι segs).toArray (by simp; omega)
              simp only [Nat.add_zero] at this
              rw [e3] at this
              rw [← this]
              simp
            simp only [List.map_cons, Instr.fill, hp]
            have hsz : (v.conc ρ ι).cells.size = n := by rw [e4]; simpa using e3
            have hle : off + (v.conc ρ ι).cells.size ≤ (cellsOf ρ ι segs).toArray.size := by rw [hsz]; simpa using e2.2
            rw [if_neg (by simp [hsz]; rw [hsz] at hle; simpa using hle)]
            rw [show ((v.conc ρ ι).cells.zipIdx.foldl (fun cs x => match x with | (c, j) => cs.setIfInBounds (off + j) c) (cellsOf ρ ι segs).toArray) = _ from hf]
            exact qFill_ok h
          · cases hs
        · cases hs
      · cases h
    · cases h

theorem sizes_ok (w : World) : ∀ {l : List Field} {r : List (Nat × Nat)}, sizes P l = some r → (l.mapM fun f => do pure (f.offset, ← sizeOf f.type) : Sem (List (Nat × Nat))).run P w = .ok r w
  | [], r, h => by simp only [sizes, Option.some.injEq] at h; subst h; simp
  | f :: l, r, h => by
    simp only [sizes] at h
    split at h
    · rename_i n r' hn hr
      simp only [Option.some.injEq] at h; subst h
      have := sizes_ok w hr
      rw [List.mapM_cons]
      simp only [Sem.run_bind, sizeT_some hn, Result.andThen_ok, Sem.run_pure, this]
    · cases h

theorem qBuild_ok {t : TypeId} {parts : List (Nat × SV)} {nd : List E} {r : SV} (h : qBuild P t parts = some (nd, r)) :
    (Instr.build t (parts.map fun p => (p.1, p.2.conc ρ ι)).toArray).run P w = .ok (r.conc ρ ι) w := by
  unfold qBuild at h
  split at h
  · rename_i z hz
    have hzero := zeroT_ok (ρ := ρ) (ι := ι) (w := w) hz
    unfold Instr.build
    rw [Sem.run_bind, hzero, Result.andThen_ok]
    rw [show (SV.conc ρ ι (.agg z)).cells = (cellsOf ρ ι z).toArray from rfl]
    split at h
    · rename_i fs hu
      split at h
      · rename_i ps hps
        simp only [Option.map_eq_some_iff, Prod.mk.injEq] at h
        obtain ⟨l, hl, rfl, rfl⟩ := h
        rw [Sem.run_bind, run_underlying hu, Result.andThen_ok]
        have hm : (fs.mapM fun f => do pure (f.offset, ← sizeOf f.type) : Sem (Array (Nat × Nat))).run P w = .ok ps.toArray w := by
          have := sizes_ok w hps
          rw [Array.mapM_eq_mapM_toList, Sem.run_map, this]
          rfl
        have key := qFill_ok (ρ := ρ) (ι := ι) hl
        generalize (parts.map fun p => (p.1, p.2.conc ρ ι)) = pp at key ⊢
        simp only [Sem.run_bind, hm, Result.andThen_ok]
        simp [key, SV.conc]
      · cases h
    · rename_i n e hu
      split at h
      · rename_i k hk
        simp only [Option.map_eq_some_iff, Prod.mk.injEq] at h
        obtain ⟨l, hl, rfl, rfl⟩ := h
        rw [Sem.run_bind, run_underlying hu, Result.andThen_ok]
        have key := qFill_ok (ρ := ρ) (ι := ι) hl
        generalize (parts.map fun p => (p.1, p.2.conc ρ ι)) = pp at key ⊢
        simp [sizeT_some hk, key, SV.conc]
      · cases h
    · cases h
  · cases h

theorem range_mod {z : List Value} {k : Nat} (hz : z.length = k) : ∀ n, (List.range (n * k)).map (fun i => z[i % k]!) = (List.replicate n z).flatten := by
  intro n
  induction n with
  | zero => simp
  | succ n ih =>
    rw [Nat.succ_mul, List.range_add, List.map_append, ih, List.replicate_succ', List.flatten_append]
    congr 1
    simp only [List.map_map, List.flatten_cons, List.flatten_nil, List.append_nil]
    apply List.ext_getElem?
    intro j
    simp only [List.getElem?_map, Function.comp_def]
    by_cases hj : j < k
    · rw [List.getElem?_range hj]
      simp only [Option.map_some, Nat.mul_add_mod_self_right, Nat.mod_eq_of_lt hj]
      rw [List.getElem?_eq_getElem (by omega), getElem!_pos z j (by omega)]
    · rw [List.getElem?_eq_none (by simp; omega), List.getElem?_eq_none (by omega)]; rfl

theorem cells_flatten (l : List (List Seg)) : cellsOf ρ ι l.flatten = (l.map (cellsOf ρ ι)).flatten := by
  induction l with
  | nil => rfl
  | cons a l ih => rw [List.flatten_cons, cells_append, ih]; rfl
end

/-- known numbers in a row are a table -/
def litsOf (k : IntKind) : List Seg → Option (List Int)
  | [] => some []
  | .one (.int k' (.lit z)) :: l => if k' = k then (litsOf k l).map (z :: ·) else none
  | _ => none
def tabify (l : List Seg) : List Seg :=
  match l with
  | .one (.int k _) :: _ => match litsOf k l with
    | some zs => [.run k (.lit zs.length) (.tab zs) 0]
    | none => l
  | _ => l
def qRow (P : Program) (e : TypeId) (len n : Nat) (idx : List Nat) (vals : List SV) : Option (List Seg) :=
  match zeroT P e with
  | some z0 => match cellsV z0 with
    | some zs => if n ≠ 0 ∧ segsLen zs = some n ∧ len ≠ 0 then (qFill (fun i => some (i * n, n)) (List.replicate len zs).flatten (idx.zip vals)).map tabify else none
    | none => none
  | none => none

section
variable {ρ : Env} {ι : Loc} {P : Program} {w : World}
theorem litsOf_ok {k : IntKind} : ∀ {l : List Seg} {zs : List Int}, litsOf k l = some zs → cellsOf ρ ι l = zs.map fun z => .int k z
  | [], zs, h => by simp only [litsOf, Option.some.injEq] at h; subst h; rfl
  | x :: l, zs, h => by
    unfold litsOf at h
    split at h
    · contradiction
    · rename_i heq
      cases heq
      split at h
      · rename_i hk; subst hk
        simp only [Option.map_eq_some_iff] at h
        obtain ⟨r, hr, rfl⟩ := h
        rw [cells_cons, litsOf_ok hr]; rfl
      · cases h
    · cases h
theorem tabify_ok (l : List Seg) : cellsOf ρ ι (tabify l) = cellsOf ρ ι l := by
  unfold tabify
  split
  · split
    · rename_i zs hz
      rw [litsOf_ok (ρ := ρ) (ι := ι) hz]
      simp only [cellsOf, List.flatMap_cons, List.flatMap_nil, List.append_nil, Seg.cells, i_lit, a_tab, Int.toNat_natCast, Nat.zero_add]
      apply List.ext_getElem?
      intro j
      simp only [List.getElem?_map]
      by_cases hj : j < zs.length
      · rw [List.getElem?_range hj, List.getElem?_eq_getElem hj]
        simp [List.getD_eq_getElem?_getD, List.getElem?_eq_getElem hj]
      · rw [List.getElem?_eq_none (by simpa using hj), List.getElem?_eq_none (by omega)]; rfl
    · rfl
  · rfl
theorem qRow_ok {e : TypeId} {len n : Nat} {idx : List Nat} {vals : List SV} {l : List Seg} (h : qRow P e len n idx vals = some l) :
    len * n ≠ 0 ∧ ∃ z, (zeroValue e).run P w = .ok z w ∧ Instr.fill (fun i => some (i * n, n)) ((Array.range (len * n)).map (z.cells[· % z.cells.size]!)) (idx.zip (vals.map (SV.conc ρ ι))) = some (cellsOf ρ ι l).toArray := by
  unfold qRow at h
  split at h
  · rename_i z0 hz
    split at h
    · rename_i zs hzs
      split at h
      · rename_i hc
        simp only [Option.map_eq_some_iff] at h
        obtain ⟨l', hl', rfl⟩ := h
        refine ⟨Nat.mul_ne_zero hc.2.2 hc.1, z0.conc ρ ι, zeroT_ok hz, ?_⟩
        have e1 := cellsV_ok (ρ := ρ) (ι := ι) hzs
        have e2 := segsLen_ok (ρ := ρ) (ι := ι) hc.2.1
        have e3 : ((Array.range (len * n)).map ((z0.conc ρ ι).cells[· % (z0.conc ρ ι).cells.size]!)) = (cellsOf ρ ι (List.replicate len zs).flatten).toArray := by
          rw [e1, cells_flatten, List.map_replicate, ← range_mod e2]
          apply Array.ext'
          simp [e2]
        rw [e3, tabify_ok]
        have := qFill_ok (ρ := ρ) (ι := ι) hl'
        rw [← this]
        congr 1
        rw [List.zip_map_right]
        rfl
      · cases h
    · cases h
  · cases h
end

/-! ### structs and arrays compared -/
def mkAeq (bit : Bool) (n A B : E) (o q : Nat) : E := if A = B ∧ o = q then .blit true else .aeq bit n A B o q
def eqXF (n : E) (o q : Nat) : List XF → List XF → Option E
  | [], [] => some (.blit true)
  | f :: l, g :: r => if f.1 = g.1 then (eqXF n o q l r).map fun e => mkAnd (mkAeq f.1.isNone n f.2 g.2 o q) e else none
  | _, _ => none
/-- parts i, i + 1, .. of two rows of cells -/
def eqParts (eq : List Seg → List Seg → Option E) (sz : Nat) : Nat → List Seg → List Seg → Option E
  | 0, _, _ => some (.blit true)
  | k + 1, l, r => match takeSegs sz l, takeSegs sz r, dropSegs sz l, dropSegs sz r with
    | some a, some b, some l', some r' => match eq a b, eqParts eq sz k l' r' with
      | some e, some e' => some (mkAnd e e')
      | _, _ => none
    | _, _, _, _ => none
def eqFs (eq : TypeId → List Seg → List Seg → Option E) (P : Program) (l r : List Seg) : List Field → Option E
  | [] => some (.blit true)
  | f :: fs => if f.name = "_" then none else match sizeT P f.type, dropSegs f.offset l, dropSegs f.offset r with
    | some n, some l1, some r1 => match takeSegs n l1, takeSegs n r1 with
      | some a, some b => match eq f.type a b, eqFs eq P l r fs with
        | some e, some e' => some (mkAnd e e')
        | _, _ => none
      | _, _ => none
    | _, _, _ => none
/-- the fields of a struct of scalars, one cell each -/
def flatF (P : Program) : List Field → Nat → List XF → Bool
  | [], _, [] => true
  | g :: gs, i, f :: fs => decide (g.name ≠ "_") && decide (g.offset = i) && decide (aggT P g.type = some false) && (match P.underlying g.type, f.1 with | some (.int _), some _ => true | some .bool, none => true | _, _ => false) && flatF P gs (i + 1) fs
  | _, _, _ => false
/-- two values of a type, by their cells -/
def eqT (P : Program) (H : Hyp) : Nat → TypeId → List Seg → List Seg → Option E
  | 0, _, _, _ => none
  | d + 1, t, l, r => match P.underlying t with
    | some (.int _) => match l, r with
      | [.one (.int k a)], [.one (.int k' b)] => if k = k' then some (mkEq H a b) else none
      | _, _ => none
    | some .bool => match l, r with
      | [.one (.bool a)], [.one (.bool b)] => some (mkIff a b)
      | _, _ => none
    | some (.struct fs) => if P.stoodInHeld t then none else eqFs (eqT P H d) P l r fs.toList
    | some (.array n e) => match P.underlying e, l, r with
      | some (.int _), [.run k (.lit z) A o], [.run k' (.lit z') B q] => if k = k' ∧ z = n ∧ z' = n ∧ sizeT P e = some 1 ∧ d ≠ 0 then some (mkAeq false (.lit n) A B o q) else none
      | some (.struct gs), [.rows (.lit z) fs o], [.rows (.lit z') fs' q] =>
        if z = n ∧ z' = n ∧ sizeT P e = some fs.length ∧ 0 < fs.length ∧ P.stoodInHeld e = false ∧ flatF P gs.toList 0 fs = true ∧ 2 ≤ d then eqXF (.lit n) o q fs fs' else none
      | _, _, _ => match sizeT P e with
        | some sz => if n ≤ 64 ∧ aggT P e = some true then eqParts (eqT P H d e) sz n l r else none
        | none => none
    | _ => none
def eqElems (d : Nat) (e : TypeId) (sz : Nat) (xs ys : Array Value) : List Nat → Sem Bool
  | [] => pure true
  | i :: l => do
    let a ← part e xs (i * sz)
    let b ← part e ys (i * sz)
    let r ← Op.equalIn d e a b
    if (!r) = true then pure false else eqElems d e sz xs ys l
section
variable {P : Program} {w : World}
theorem run_equalIn_array (d : Nat) (t : TypeId) (xs ys : Array Value) {n sz : Nat} {e : TypeId} (ht : P.underlying t = some (.array n e)) (hs : sizeT P e = some sz) :
    (Op.equalIn (d + 1) t (.agg xs) (.agg ys)).run P w = (eqElems d e sz xs ys (List.range n)).run P w := by
  simp only [Op.equalIn, Sem.run_bind, run_underlying ht, Result.andThen_ok, sizeT_some hs]
  rw [Std.Legacy.Range.forIn_eq_forIn_range']
  have hr : List.range' [:n].start [:n].size [:n].step = List.range n := by simp [Std.Legacy.Range.size, List.range_eq_range']
  rw [hr]
  generalize List.range n = is
  induction is generalizing w with
  | nil => simp [eqElems]
  | cons i is ih =>
    simp only [List.forIn_cons, eqElems, Sem.run_bind, Sem.run_ite]
    generalize (part e xs (i * sz)).run P w = r1
    cases r1 with
    | ok a w1 =>
      simp only [Result.andThen_ok]
      generalize (part e ys (i * sz)).run P w1 = r2
      cases r2 with
      | ok b w2 =>
        simp only [Result.andThen_ok]
        generalize (Op.equalIn d e a b).run P w2 = r3
        cases r3 with
        | ok r w3 =>
          cases r
          · simp only [Result.andThen_ok, Bool.not_false, if_true, Sem.run_pure]
          · simp only [Result.andThen_ok, Bool.not_true, Bool.false_eq_true, if_false, Sem.run_pure]
            exact ih
        | halt x w3 => simp [Result.andThen]
      | halt x w2 => simp [Result.andThen]
    | halt x w1 => simp [Result.andThen]

variable {ρ : Env} {ι : Loc} {H : Hyp}
/-- the value of a type that some cells are -/
def valOf (P : Program) (ρ : Env) (ι : Loc) (t : TypeId) (l : List Seg) : Value := if aggT P t = some true then .agg (cellsOf ρ ι l).toArray else ((cellsOf ρ ι l)[0]?).getD Go.undef
theorem part_val {t : TypeId} {l l1 a : List Seg} {off n : Nat} {g : Bool} (hg : aggT P t = some g) (hs : sizeT P t = some n) (hd : dropSegs off l = some l1) (ht : takeSegs n l1 = some a) (h1 : g = false → (cellsOf ρ ι a) ≠ []) :
    (part t (cellsOf ρ ι l).toArray off).run P w = .ok (valOf P ρ ι t a) w := by
  have e1 := dropSegs_ok (ρ := ρ) (ι := ι) _ _ _ hd
  have e2 := takeSegs_ok (ρ := ρ) (ι := ι) _ _ _ ht
  unfold part valOf
  cases g with
  | true =>
    rw [Sem.run_bind, aggT_true hg, Result.andThen_ok, if_pos hg]
    simp only [if_true, Sem.run_bind, sizeT_some hs, Result.andThen_ok, Sem.run_pure]
    congr 2
    rw [e2.1, e1.1]
    apply Array.ext'
    simp [List.take_drop, Nat.add_comm]
  | false =>
    rw [Sem.run_bind, aggT_false hg, Result.andThen_ok]
    have hno : ¬ aggT P t = some true := by rw [hg]; simp
    rw [if_neg hno]
    simp only [Bool.false_eq_true, if_false]
    have hne := h1 rfl
    rw [e2.1, e1.1] at hne ⊢
    have hlen : 0 < ((cellsOf ρ ι l).drop off).length ∧ 0 < n := by
      constructor
      · rcases hc : (cellsOf ρ ι l).drop off with _ | ⟨v, r⟩
        · rw [hc] at hne; simp at hne
        · simp
      · rcases n with _ | n
        · simp at hne
        · omega
    have hoff : off < (cellsOf ρ ι l).length := by simp only [List.length_drop] at hlen; omega
    rw [List.getElem?_take, if_pos hlen.2, List.getElem?_drop, Nat.add_zero]
    simp [hoff]
/-- what is compared as scalars is there -/
theorem eqT_one {d : Nat} {t : TypeId} {l r : List Seg} {e : E} (h : eqT P H d t l r = some e) (hg : aggT P t = some false) : cellsOf ρ ι l ≠ [] ∧ cellsOf ρ ι r ≠ [] := by
  cases d with
  | zero => simp [eqT] at h
  | succ d =>
    unfold eqT at h
    unfold aggT at hg
    split at h
    · split at h
      · simp [cells_cons, cells_one]
      · cases h
    · split at h
      · simp [cells_cons, cells_one]
      · cases h
    · rename_i hu; rw [hu] at hg; cases hg
    · rename_i hu; rw [hu] at hg; cases hg
    · cases h
theorem aggT_some {t : TypeId} {n : Nat} (h : sizeT P t = some n) {d : Nat} {l r : List Seg} {e : E} (he : eqT P H d t l r = some e) : ∃ g, aggT P t = some g := by
  cases d with
  | zero => simp [eqT] at he
  | succ d =>
    unfold eqT at he
    unfold aggT
    split at he
    · rename_i hu; exact ⟨false, by rw [hu]⟩
    · rename_i hu; exact ⟨false, by rw [hu]⟩
    · rename_i hu; exact ⟨true, by rw [hu]⟩
    · rename_i hu; exact ⟨true, by rw [hu]⟩
    · cases he
theorem eqXF_ok {n : E} {o q : Nat} : ∀ {fs gs : List XF} {e : E}, eqXF n o q fs gs = some e → fs.length = gs.length ∧ (e.b ρ = true ↔ ∀ j, j < (n.i ρ).toNat → (fs.map fun f => XF.conc ρ f (o + j)) = gs.map fun g => XF.conc ρ g (q + j))
  | [], [], e, h => by simp only [eqXF, Option.some.injEq] at h; subst h; simp [b_blit]
  | [], _ :: _, e, h => by simp [eqXF] at h
  | _ :: _, [], e, h => by simp [eqXF] at h
  | f :: fs, g :: gs, e, h => by
    simp only [eqXF] at h
    split at h
    · rename_i hk
      simp only [Option.map_eq_some_iff] at h
      obtain ⟨e', he', rfl⟩ := h
      obtain ⟨h1, h2⟩ := eqXF_ok he'
      refine ⟨by simp [h1], ?_⟩
      have h3 : (mkAeq f.1.isNone n f.2 g.2 o q).b ρ = true ↔ ∀ j, j < (n.i ρ).toNat → XF.conc ρ f (o + j) = XF.conc ρ g (q + j) := by
        unfold mkAeq
        split
        · rename_i hc
          rw [b_blit]
          simp only [true_iff]
          intro j _
          simp only [XF.conc, hk, hc.1, hc.2]
        · rw [b_aeq, List.all_eq_true]
          simp only [List.mem_range]
          refine forall_congr' fun j => forall_congr' fun hj => ?_
          simp only [XF.conc, ← hk]
          cases hf : f.1 with
          | some k => simp
          | none =>
            simp only [Option.isNone_none, if_true, Value.bool.injEq]
            by_cases h1 : f.2.a ρ (o + j) = 0 <;> by_cases h2 : g.2.a ρ (q + j) = 0 <;> simp [h1, h2, bne, BEq.beq]
      rw [mkAnd_b, Bool.and_eq_true, h2, h3]
      constructor
      · rintro ⟨a, b⟩ j hj; rw [List.map_cons, List.map_cons, a j hj, b j hj]
      · intro a
        refine ⟨fun j hj => ?_, fun j hj => ?_⟩
        · have := a j hj; rw [List.map_cons, List.map_cons] at this; exact (List.cons.inj this).1
        · have := a j hj; rw [List.map_cons, List.map_cons] at this; exact (List.cons.inj this).2
    · cases h
/-- a row of comparisons -/
theorem elems_all {d sz : Nat} {e : TypeId} {xs ys : Array Value} {f : Nat → Bool} : ∀ (l : List Nat), (∀ i ∈ l, ∃ a b, (part e xs (i * sz)).run P w = .ok a w ∧ (part e ys (i * sz)).run P w = .ok b w ∧ (Op.equalIn d e a b).run P w = .ok (f i) w) →
    (eqElems d e sz xs ys l).run P w = .ok (l.all f) w
  | [], _ => rfl
  | i :: l, h => by
    obtain ⟨a, b, h1, h2, h3⟩ := h i (.head _)
    simp only [eqElems, Sem.run_bind, h1, h2, h3, Result.andThen_ok, List.all_cons]
    cases f i
    · simp
    · simp only [Bool.not_true, Bool.false_eq_true, if_false, Bool.true_and]
      exact elems_all l fun i hi => h i (.tail _ hi)
theorem flat_eq {D : Nat} {xs ys : List Value} : ∀ {gs : List Field} {i : Nat} {fs fs' : List XF} {a b : Nat}, flatF P gs i fs = true → fs.map (·.1) = fs'.map (·.1) → xs.drop i = (fs.map fun f => XF.conc ρ f a) → ys.drop i = (fs'.map fun f => XF.conc ρ f b) →
    ∃ t : Bool, (Op.eqFields (D + 1) xs.toArray ys.toArray gs).run P w = .ok t w ∧ (t = true ↔ xs.drop i = ys.drop i)
  | [], i, [], [], a, b, _, _, hx, hy => ⟨true, rfl, by rw [hx, hy]; simp⟩
  | [], i, [], _ :: _, a, b, _, h, _, _ => by simp at h
  | [], i, _ :: _, fs', a, b, h, _, _, _ => by simp [flatF] at h
  | g :: gs, i, [], fs', a, b, h, _, _, _ => by simp [flatF] at h
  | g :: gs, i, f :: fs, [], a, b, _, h, _, _ => by simp at h
  | g :: gs, i, f :: fs, f' :: fs', a, b, h, hk, hx, hy => by
    simp only [flatF, Bool.and_eq_true, decide_eq_true_eq] at h
    obtain ⟨⟨⟨⟨h1, h2⟩, h3⟩, h4⟩, h5⟩ := h
    simp only [List.map_cons, List.cons.injEq] at hk
    have hx1 : xs[i]? = some (XF.conc ρ f a) := by have := congrArg (fun l => l[0]?) hx; simpa using this
    have hy1 : ys[i]? = some (XF.conc ρ f' b) := by have := congrArg (fun l => l[0]?) hy; simpa using this
    have hx2 : xs.drop (i + 1) = fs.map fun f => XF.conc ρ f a := by have := congrArg List.tail hx; simpa [List.tail_drop] using this
    have hy2 : ys.drop (i + 1) = fs'.map fun f => XF.conc ρ f b := by have := congrArg List.tail hy; simpa [List.tail_drop] using this
    obtain ⟨t, ht, htt⟩ := flat_eq h5 hk.2 hx2 hy2
    have px : (part g.type xs.toArray g.offset).run P w = .ok (XF.conc ρ f a) w := by
      unfold part; rw [Sem.run_bind, aggT_false h3, Result.andThen_ok]; simp [h2, hx1]
    have py : (part g.type ys.toArray g.offset).run P w = .ok (XF.conc ρ f' b) w := by
      unfold part; rw [Sem.run_bind, aggT_false h3, Result.andThen_ok]; simp [h2, hy1]
    have hc : ∃ c : Bool, (Op.equalIn (D + 1) g.type (XF.conc ρ f a) (XF.conc ρ f' b)).run P w = .ok c w ∧ (c = true ↔ XF.conc ρ f a = XF.conc ρ f' b) := by
      split at h4
      · rename_i kk k hu hf
        have hf' : f'.1 = some k := by rw [← hk.1, hf]
        simp only [XF.conc, hf, hf']
        exact ⟨_, run_equalIn_int w D g.type _ _ _ _ hu, by simp⟩
      · rename_i hu hf
        have hf' : f'.1 = none := by rw [← hk.1, hf]
        simp only [XF.conc, hf, hf']
        exact ⟨_, run_equalIn_bool' w D g.type _ _ hu, by simp⟩
      · cases h4
    obtain ⟨c, hc1, hc2⟩ := hc
    refine ⟨c && t, ?_, ?_⟩
    · simp only [Op.eqFields, Sem.run_ite, Sem.run_bind]
      rw [if_pos h1, px, Result.andThen_ok, py, Result.andThen_ok, hc1, Result.andThen_ok]
      cases c
      · simp
      · simp only [Bool.not_true, Bool.false_eq_true, if_false, Bool.true_and]; exact ht
    · rw [Bool.and_eq_true, hc2, htt, hx2, hy2, hx, hy, List.map_cons, List.map_cons, List.cons.injEq]
theorem eqXF_kinds {n : E} {o q : Nat} : ∀ {fs gs : List XF} {e : E}, eqXF n o q fs gs = some e → fs.map (·.1) = gs.map (·.1)
  | [], [], e, h => rfl
  | [], _ :: _, e, h => by simp [eqXF] at h
  | _ :: _, [], e, h => by simp [eqXF] at h
  | f :: fs, g :: gs, e, h => by
    simp only [eqXF] at h
    split at h
    · rename_i hk
      simp only [Option.map_eq_some_iff] at h
      obtain ⟨e', he', rfl⟩ := h
      rw [List.map_cons, List.map_cons, hk, eqXF_kinds he']
    · cases h
theorem eqT_ok (hH : H.ok ρ) : ∀ (d : Nat) (t : TypeId) (l r : List Seg) (e : E), eqT P H d t l r = some e → ∀ D, d ≤ D → (Op.equalIn D t (valOf P ρ ι t l) (valOf P ρ ι t r)).run P w = .ok (e.b ρ) w := by
  intro d
  induction d with
  | zero => intro t l r e h; simp [eqT] at h
  | succ d ih =>
    intro t l r e h D hD
    obtain ⟨D, rfl⟩ : ∃ k, D = k + 1 := ⟨D - 1, by omega⟩
    have hD' : d ≤ D := by omega
    unfold eqT at h
    split at h
    · rename_i k hu
      have hv : ∀ l, valOf P ρ ι t l = ((cellsOf ρ ι l)[0]?).getD Go.undef := fun l => by unfold valOf; rw [if_neg (by unfold aggT; rw [hu]; simp)]
      split at h
      · split at h
        · rename_i ka a kb b hk
          subst hk
          simp only [Option.some.injEq] at h; subst h
          rw [hv, hv]
          simp only [cells_cons, cells_one, List.singleton_append, List.getElem?_cons_zero, Option.getD_some, S.conc]
          rw [run_equalIn_int w D t _ _ _ _ hu, mkEq_b hH]; rfl
        · cases h
      · cases h
    · rename_i hu
      have hv : ∀ l, valOf P ρ ι t l = ((cellsOf ρ ι l)[0]?).getD Go.undef := fun l => by unfold valOf; rw [if_neg (by unfold aggT; rw [hu]; simp)]
      split at h
      · simp only [Option.some.injEq] at h; subst h
        rw [hv, hv]
        simp only [cells_cons, cells_one, List.singleton_append, List.getElem?_cons_zero, Option.getD_some, S.conc]
        rw [run_equalIn_bool' w D t _ _ hu, mkIff_b]
      · cases h
    · rename_i fs hu
      have hv : ∀ l, valOf P ρ ι t l = .agg (cellsOf ρ ι l).toArray := fun l => by unfold valOf; rw [if_pos (by unfold aggT; rw [hu])]
      split at h
      · cases h
      · rename_i hst
        have hfo : P.fieldsOf t = fs := by unfold Program.fieldsOf; rw [hu]
        rw [hv, hv, run_equalIn_struct w D t _ _ (by rw [hfo]; exact hu) (by simpa using hst), hfo]
        generalize fs.toList = L at h
        clear hu hfo hv
        induction L generalizing e with
        | nil => simp only [eqFs, Option.some.injEq] at h; subst h; rfl
        | cons f L ihL =>
          simp only [eqFs] at h
          split at h
          · cases h
          · rename_i hname
            split at h
            · rename_i n l1 r1 hs hl1 hr1
              split at h
              · rename_i a b ha hb
                split at h
                · rename_i e1 e2 he1 he2
                  simp only [Option.some.injEq] at h; subst h
                  obtain ⟨g, hg⟩ := aggT_some hs he1
                  have ha0 : g = false → cellsOf ρ ι a ≠ [] ∧ cellsOf ρ ι b ≠ [] := fun hh => eqT_one he1 (by rw [hg, hh])
                  simp only [Op.eqFields, Sem.run_ite, Sem.run_bind]
                  rw [if_pos hname, part_val hg hs hl1 ha (fun hh => (ha0 hh).1), Result.andThen_ok, part_val hg hs hr1 hb (fun hh => (ha0 hh).2), Result.andThen_ok, ih _ _ _ _ he1 D hD', Result.andThen_ok, mkAnd_b]
                  cases e1.b ρ
                  · simp
                  · simp only [Bool.not_true, Bool.false_eq_true, if_false, Bool.true_and]
                    exact ihL _ he2
                · cases h
              · cases h
            · cases h
    · rename_i n e0 hu
      have hv : ∀ l, valOf P ρ ι t l = .agg (cellsOf ρ ι l).toArray := fun l => by unfold valOf; rw [if_pos (by unfold aggT; rw [hu])]
      rw [hv, hv]
      split at h
      · rename_i k0 k z A o k' z' B q hue
        split at h
        · rename_i hc
          obtain ⟨rfl, rfl, rfl, hs, hd0⟩ := hc
          simp only [Option.some.injEq] at h; subst h
          rw [run_equalIn_array D t _ _ hu hs]
          have hg : aggT P e0 = some false := by unfold aggT; rw [hue]
          obtain ⟨D', rfl⟩ : ∃ k, D = k + 1 := ⟨D - 1, by omega⟩
          have key : ∀ (A : E) (o i : Nat), i < n → (part e0 (cellsOf ρ ι [Seg.run k (.lit n) A o]).toArray (i * 1)).run P w = .ok (.int k (A.a ρ (o + i))) w := by
            intro A o i hi
            unfold part
            rw [Sem.run_bind, aggT_false hg, Result.andThen_ok]
            have : (cellsOf ρ ι [Seg.run k (.lit n) A o])[i]? = some (.int k (A.a ρ (o + i))) := by
              rw [cells_cons, List.getElem?_append_left (by rw [run_len, i_lit]; simpa using hi), run_at _ _ _ _ _ (by rw [i_lit]; simpa using hi)]
            simp only [Bool.false_eq_true, if_false, Nat.mul_one, List.getElem?_toArray, this, Sem.run_pure]
          rw [elems_all (f := fun i => A.a ρ (o + i) == B.a ρ (q + i)) _ (fun i hi => ⟨_, _, key A o i (by simpa using hi), key B q i (by simpa using hi), run_equalIn_int w D' e0 _ _ _ _ hue⟩)]
          congr 1
          unfold mkAeq
          split
          · rename_i hAB
            obtain ⟨rfl, rfl⟩ := hAB
            rw [b_blit, List.all_eq_true]; simp
          · rw [b_aeq, i_lit]; simp
        · cases h
      · rename_i gs z fs o z' fs' q hue
        split at h
        · rename_i hc
          obtain ⟨rfl, rfl, hs, hpos, hst, hfl, hd2⟩ := hc
          have hg : aggT P e0 = some true := by unfold aggT; rw [hue]
          rw [run_equalIn_array D t _ _ hu hs]
          obtain ⟨D', rfl⟩ : ∃ k, D = k + 1 + 1 := ⟨D - 2, by omega⟩
          have hkk := eqXF_kinds h
          obtain ⟨hll, hiff⟩ := eqXF_ok (ρ := ρ) h
          have key : ∀ (fs : List XF) (o i : Nat) (hl : 0 < fs.length) (hs : sizeT P e0 = some fs.length), i < n → (part e0 (cellsOf ρ ι [Seg.rows (.lit n) fs o]).toArray (i * fs.length)).run P w = .ok (.agg (fs.map fun f => XF.conc ρ f (o + i)).toArray) w := by
            intro fs o i hl hs hi
            unfold part
            rw [Sem.run_bind, aggT_true hg, Result.andThen_ok]
            simp only [if_true, Sem.run_bind, sizeT_some hs, Result.andThen_ok, Sem.run_pure]
            congr 2
            rw [cells_cons, show cellsOf ρ ι [] = [] from rfl, List.append_nil]
            apply Array.ext'
            simp only [List.extract_toArray, List.extract_eq_take_drop]
            rw [show i * fs.length + fs.length - i * fs.length = fs.length by omega, rows_drop (n : Int) fs o i hl (by omega), rows_cons _ _ _ hl (by omega), List.take_append_of_le_length (by simp), List.take_of_length_le (by simp)]
          have cmp : ∀ i, i < n → ∃ c : Bool, (Op.equalIn (D' + 1 + 1) e0 (.agg (fs.map fun f => XF.conc ρ f (o + i)).toArray) (.agg (fs'.map fun f => XF.conc ρ f (q + i)).toArray)).run P w = .ok c w ∧ (c = true ↔ (fs.map fun f => XF.conc ρ f (o + i)) = (fs'.map fun f => XF.conc ρ f (q + i))) := by
            intro i hi
            have hfo : P.fieldsOf e0 = gs := by unfold Program.fieldsOf; rw [hue]
            rw [run_equalIn_struct w (D' + 1) e0 _ _ (by rw [hfo]; exact hue) hst, hfo]
            obtain ⟨c, c1, c2⟩ := flat_eq (w := w) (D := D') (xs := fs.map fun f => XF.conc ρ f (o + i)) (ys := fs'.map fun f => XF.conc ρ f (q + i)) hfl hkk rfl rfl
            exact ⟨c, c1, by simpa using c2⟩
          have cmp' : ∃ f : Nat → Bool, ∀ i, i < n → (Op.equalIn (D' + 1 + 1) e0 (.agg (fs.map fun f => XF.conc ρ f (o + i)).toArray) (.agg (fs'.map fun f => XF.conc ρ f (q + i)).toArray)).run P w = .ok (f i) w ∧ (f i = true ↔ (fs.map fun f => XF.conc ρ f (o + i)) = (fs'.map fun f => XF.conc ρ f (q + i))) := by
            classical
            exact ⟨fun i => if hi : i < n then Classical.choose (cmp i hi) else true, fun i hi => by simp only [dif_pos hi]; exact Classical.choose_spec (cmp i hi)⟩
          obtain ⟨f, hf⟩ := cmp'
          rw [elems_all (f := f) _ (fun i hi => ⟨_, _, key fs o i hpos hs (by simpa using hi), by rw [hll]; exact key fs' q i (by omega) (by rw [← hll]; exact hs) (by simpa using hi), (hf i (by simpa using hi)).1⟩)]
          congr 1
          rw [Bool.eq_iff_iff, hiff, List.all_eq_true, i_lit]
          constructor
          · intro a j hj; exact (hf j (by simpa using hj)).2.1 (a j (by simpa using hj))
          · intro a j hj; exact (hf j (by simpa using hj)).2.2 (a j (by simpa using hj))
        · cases h
      · split at h
        · rename_i sz hs
          split at h
          · rename_i hc
            obtain ⟨_, hg⟩ := hc
            rw [run_equalIn_array D t _ _ hu hs]
            have key : ∀ (k : Nat) (l r L R : List Seg) (i : Nat) (e : E), eqParts (eqT P H d e0) sz k l r = some e → cellsOf ρ ι l = (cellsOf ρ ι L).drop (i * sz) → cellsOf ρ ι r = (cellsOf ρ ι R).drop (i * sz) →
                (eqElems D e0 sz (cellsOf ρ ι L).toArray (cellsOf ρ ι R).toArray (List.range' i k)).run P w = .ok (e.b ρ) w := by
              intro k
              induction k with
              | zero => intro l r L R i e he _ _; simp only [eqParts, Option.some.injEq] at he; subst he; rfl
              | succ k ihk =>
                intro l r L R i e he hl hr
                simp only [eqParts] at he
                split at he
                · rename_i a b l' r' ha hb hl' hr'
                  split at he
                  · rename_i e1 e2 he1 he2
                    simp only [Option.some.injEq] at he; subst he
                    have a1 := takeSegs_ok (ρ := ρ) (ι := ι) _ _ _ ha
                    have b1 := takeSegs_ok (ρ := ρ) (ι := ι) _ _ _ hb
                    have l2 := dropSegs_ok (ρ := ρ) (ι := ι) _ _ _ hl'
                    have r2 := dropSegs_ok (ρ := ρ) (ι := ι) _ _ _ hr'
                    have pv : ∀ (L l a : List Seg), cellsOf ρ ι l = (cellsOf ρ ι L).drop (i * sz) → cellsOf ρ ι a = (cellsOf ρ ι l).take sz → (part e0 (cellsOf ρ ι L).toArray (i * sz)).run P w = .ok (valOf P ρ ι e0 a) w := by
                      intro L l a h1 h2
                      unfold part valOf
                      rw [Sem.run_bind, aggT_true hg, Result.andThen_ok, if_pos hg]
                      simp only [if_true, Sem.run_bind, sizeT_some hs, Result.andThen_ok, Sem.run_pure]
                      congr 2
                      rw [h2, h1]
                      apply Array.ext'
                      simp [List.take_drop, Nat.add_comm]
                    rw [List.range'_succ]
                    simp only [eqElems, Sem.run_bind]
                    rw [pv L l a hl a1.1, Result.andThen_ok, pv R r b hr b1.1, Result.andThen_ok, ih _ _ _ _ he1 D hD', Result.andThen_ok, mkAnd_b]
                    cases e1.b ρ
                    · simp
                    · simp only [Bool.not_true, Bool.false_eq_true, if_false, Bool.true_and]
                      refine ihk l' r' L R (i + 1) e2 he2 ?_ ?_
                      · rw [l2.1, hl, List.drop_drop, Nat.add_mul, Nat.one_mul]
                      · rw [r2.1, hr, List.drop_drop, Nat.add_mul, Nat.one_mul]
                  · cases he
                · cases he
            rw [List.range_eq_range']
            exact key n _ _ _ _ 0 e h (by simp) (by simp)
          · cases h
        · cases h
    · cases h
end

def qPick (G : List E) (fr : Fr) (c a b : Operand) : Option (List E × SV) :=
  match opnd G fr c with
  | some (.s (.bool e)) =>
    match e with
    | .blit true => (opnd G fr a).map fun x => ([], x)
    | .blit false => (opnd G fr b).map fun x => ([], x)
    | e => match opnd (e :: G) fr a, opnd (mkNot e :: G) fr b with
      | some (.s (.bool x)), some (.s (.bool y)) => some ([], .s (.bool (mkIteB e x y)))
      | some (.s (.int k x)), some (.s (.int k' y)) => if k = k' then some ([], .s (.int k (mkIteI e x y))) else none
      | some x, some y => if x = y then some ([], x) else none
      | _, _ => none
  | _ => none

def qLen (P : Program) (H : Hyp) (t : TypeId) (x : SV) : Option (List E × SV) :=
  match P.underlying t, x with
  | some .string, .s (.str l) => some ([], .s (.int .i64 (.lit l.length)))
  | some (.slice _), .s (.slc _ _ len _) => if atLeast H 0 len then some ([], .s (.int .i64 len)) else none
  | some (.slice _), .s (.xslc _ _ _ len) => if atLeast H 0 len then some ([], .s (.int .i64 len)) else none
  | some (.slice _), .s .nilSlc => some ([], .s (.int .i64 (.lit 0)))
  | some (.array n _), _ => some ([], .s (.int .i64 (.lit n)))
  | some (.pointer r), _ => match P.underlying r with
    | some (.array n _) => some ([], .s (.int .i64 (.lit n)))
    | _ => none
  | _, _ => none
def qMM (H : Hyp) (mx : Bool) (x y : SV) : Option (List E × SV) :=
  match x, y with
  | .s (.int k a), .s (.int _ b) => some ([], .s (.int k (if mx then mkIte (mkLt H a b) b a else mkIte (mkLt H b a) b a)))
  | _, _ => none

def opnds (G : List E) (fr : Fr) : List Operand → Option (List SV)
  | [] => some []
  | o :: l => match opnd G fr o, opnds G fr l with
    | some x, some r => some (x :: r)
    | _, _ => none
def ptrs : List SV → Option (List (Nat × E))
  | [] => some []
  | .s (.ptr b off) :: l => (ptrs l).map ((b, off) :: ·)
  | _ => none

def qBinAgg (P : Program) (H : Hyp) (op : BinOp) (t : TypeId) (x y : SV) : Option (List E × SV) :=
  match x, y with
  | .agg l, .agg r => if P.eqGuardType P.depth t = true ∨ aggT P t ≠ some true then none else match op with
    | .eql => (eqT P H 12 t l r).map fun e => ([], .s (.bool e))
    | .neq => (eqT P H 12 t l r).map fun e => ([], .s (.bool (mkNot e)))
    | _ => none
  | x, y => qBin P H op t x y
def qop (P : Program) (H : Hyp) (G : List E) (fr : Fr) (m : Mem) (o : Op) : Option (List E × SV) :=
  match o with
  | .move x | .assign x => (opnd G fr x).map fun v => ([], v)
  | .pick c a b => qPick G fr c a b
  | .nilCheck x => match opnd G fr x with | some v => qNil v | none => none
  | .binOp op t x y _ => match opnd G fr x, opnd G fr y with
    | some u, some v => qBinAgg P H op t u v
    | _, _ => none
  | .unOp op _ x => match opnd G fr x with | some v => qUn H op v | none => none
  | .convert s d x => match opnd G fr x with | some v => qConv P H s d v | none => none
  | .load t x => match opnd G fr x with | some v => qLoad P H m t v | none => none
  | .fieldAddr t x f => match opnd G fr x with | some v => qFieldAddr P H t v f | none => none
  | .field t x f => match opnd G fr x with | some v => qField P t v f | none => none
  | .indexAddr t x y => match opnd G fr x, opnd G fr y with
    | some u, some v => qIndexAddr P H t u v
    | _, _ => none
  | .index t x y => match opnd G fr x, opnd G fr y with
    | some u, some v => qIndex P H t u v
    | _, _ => none
  | .extract x i => match opnd G fr x with | some v => qExtract v i | none => none
  | .makeFunc (.func f) first caps => if first.size = 0 then match opnds G fr caps.toList with
      | some l => (ptrs l).map fun c => ([], .s (.fn f c))
      | none => none
    else none
  | .build t parts => match opnds G fr (parts.toList.map (·.2)) with
    | some l => qBuild P t ((parts.toList.map (·.1)).zip l)
    | none => none
  | .call ⟨.builtin b, args, ts⟩ =>
    match b, opnds G fr args.toList, ts.toList with
    | .len, some [x], t :: _ => qLen P H t x
    | .max, some [x, y], _ => qMM H true x y
    | .min, some [x, y], _ => qMM H false x y
    | _, _, _ => none
  | _ => none

section
variable {ρ : Env} {ι : Loc} {H : Hyp} {P : Program} {w : World} {β : Base} {m : Mem} {fr : Fr} {n : Nat} {a : Act} {G : List E}

theorem qPick_ok (hf : FRep ρ ι n fr a) (hG : allT ρ G) {c x y : Operand} {nd : List E} {r : SV} (h : qPick G fr c x y = some (nd, r)) :
    ∃ b, a.eval c = .bool b ∧ (if b then a.eval x else a.eval y) = r.conc ρ ι := by
  unfold qPick at h
  split at h
  · rename_i e hc
    have ec := opnd_ok hf hG hc
    refine ⟨e.b ρ, ec, ?_⟩
    split at h
    · simp only [Option.map_eq_some_iff, Prod.mk.injEq] at h
      obtain ⟨v, hv, _, rfl⟩ := h
      rw [b_blit, if_pos rfl]; exact opnd_ok hf hG hv
    · simp only [Option.map_eq_some_iff, Prod.mk.injEq] at h
      obtain ⟨v, hv, _, rfl⟩ := h
      rw [b_blit, if_neg (by simp)]; exact opnd_ok hf hG hv
    · have h1 : ∀ {v}, opnd (e :: G) fr x = some v → e.b ρ = true → a.eval x = v.conc ρ ι := fun hv he =>
        opnd_ok hf (fun g hg => by cases hg with | head => exact he | tail _ hg => exact hG g hg) hv
      have h2 : ∀ {v}, opnd (mkNot e :: G) fr y = some v → ¬ e.b ρ = true → a.eval y = v.conc ρ ι := fun hv he =>
        opnd_ok hf (fun g hg => by cases hg with | head => rw [mkNot_b]; simp [he] | tail _ hg => exact hG g hg) hv
      split at h
      · rename_i u v hx hy
        simp only [Option.some.injEq, Prod.mk.injEq] at h; obtain ⟨rfl, rfl⟩ := h
        simp only [SV.conc, S.conc, mkIteB_b]
        split
        · rename_i he; rw [h1 hx he]; rfl
        · rename_i he; rw [h2 hy he]; rfl
      · rename_i k u k' v hx hy
        split at h
        · rename_i hk; subst hk
          simp only [Option.some.injEq, Prod.mk.injEq] at h; obtain ⟨rfl, rfl⟩ := h
          simp only [SV.conc, S.conc, mkIteI_i]
          split
          · rename_i he; rw [h1 hx he]; rfl
          · rename_i he; rw [h2 hy he]; rfl
        · cases h
      · rename_i u v _ _ hx hy
        split at h
        · rename_i hk; subst hk
          simp only [Option.some.injEq, Prod.mk.injEq] at h; obtain ⟨rfl, rfl⟩ := h
          split
          · rename_i he; exact h1 hx he
          · rename_i he; exact h2 hy he
        · cases h
      · cases h
  · cases h

theorem opnds_ok (hf : FRep ρ ι n fr a) (hG : allT ρ G) : ∀ {l : List Operand} {r : List SV}, opnds G fr l = some r → l.map a.eval = r.map (SV.conc ρ ι)
  | [], r, h => by simp only [opnds, Option.some.injEq] at h; subst h; rfl
  | o :: l, r, h => by
    simp only [opnds] at h
    split at h
    · rename_i x r' hx hr
      simp only [Option.some.injEq] at h; subst h
      rw [List.map_cons, List.map_cons, opnd_ok hf hG hx, opnds_ok hf hG hr]
    · cases h
theorem ptrs_ok : ∀ {l : List SV} {r : List (Nat × E)}, ptrs l = some r → l.map (SV.conc ρ ι) = r.map fun p => .pointer (some (addr ρ ι p.1 p.2))
  | [], r, h => by simp only [ptrs, Option.some.injEq] at h; subst h; rfl
  | x :: l, r, h => by
    unfold ptrs at h
    split at h
    · contradiction
    · rename_i heq; cases heq
      simp only [Option.map_eq_some_iff] at h
      obtain ⟨r', hr, rfl⟩ := h
      rw [List.map_cons, List.map_cons, ptrs_ok hr]; rfl
    · cases h

theorem qLen_ok (hH : H.ok ρ) (hm : MRep ρ β ι m w) {t : TypeId} {ty : TypeId} {x : SV} {nd : List E} {r : SV} (h : qLen P H t x = some (nd, r)) (ts : Array TypeId) (ht : ts[0]? = some t) :
    (Builtin.len_ ts ty #[x.conc ρ ι]).run P w = .ok (r.conc ρ ι) w := by
  unfold qLen at h
  unfold Builtin.len_
  split at h
  · rename_i l hu
    simp only [Option.some.injEq, Prod.mk.injEq] at h; obtain ⟨rfl, rfl⟩ := h
    simp [ht, run_underlying hu, SV.conc, S.conc, goInt, i_lit]
    show (l.toArray.size : Int) = l.length
    simp
  · rename_i b off len cap hu
    split at h
    · rename_i hc
      simp only [Option.some.injEq, Prod.mk.injEq] at h; obtain ⟨rfl, rfl⟩ := h
      have := atLeast_ok hH hc
      have hv : ∃ q c', (S.slc b off len cap).conc ρ ι = .slice q (len.i ρ).toNat c' := by
        cases cap with
        | kn c => exact ⟨_, _, rfl⟩
        | op k =>
          simp only [S.conc]
          split
          · rename_i hc; rw [hc.2]; exact ⟨_, _, rfl⟩
          · exact ⟨_, _, rfl⟩
      obtain ⟨q, c', hv⟩ := hv
      rw [show SV.conc ρ ι (.s (.slc b off len cap)) = S.conc ρ ι (.slc b off len cap) from rfl, hv]
      simp [ht, run_underlying hu, SV.conc, S.conc, goInt]
      omega
    · cases h
  · rename_i i j off len hu
    split at h
    · rename_i hc
      simp only [Option.some.injEq, Prod.mk.injEq] at h; obtain ⟨rfl, rfl⟩ := h
      have := atLeast_ok hH hc
      obtain ⟨b, c, e1, _⟩ := (hm.xt i (j.i ρ).toNat).ok
      rw [show SV.conc ρ ι (.s (.xslc i j off len)) = (ρ.I.xs i (j.i ρ).toNat).sub (off.i ρ).toNat (len.i ρ).toNat from rfl, Ext.sub, e1]
      simp [ht, run_underlying hu, SV.conc, S.conc, goInt]
      omega
    · cases h
  · rename_i hu
    simp only [Option.some.injEq, Prod.mk.injEq] at h; obtain ⟨rfl, rfl⟩ := h
    simp [ht, run_underlying hu, SV.conc, S.conc, goInt, i_lit]
  · rename_i hu
    simp only [Option.some.injEq, Prod.mk.injEq] at h; obtain ⟨rfl, rfl⟩ := h
    simp [ht, run_underlying hu, SV.conc, S.conc, goInt, i_lit]
  · rename_i hu
    split at h
    · rename_i hu'
      simp only [Option.some.injEq, Prod.mk.injEq] at h; obtain ⟨rfl, rfl⟩ := h
      simp [ht, run_underlying hu, run_underlying hu', SV.conc, S.conc, goInt, i_lit]
    · cases h
  · cases h

theorem qMM_ok (hH : H.ok ρ) {mx : Bool} {x y : SV} {nd : List E} {r : SV} (h : qMM H mx x y = some (nd, r)) (ts : Array TypeId) (ty : TypeId) :
    (if mx then (Builtin.max_ ts ty #[x.conc ρ ι, y.conc ρ ι]).run P w else (Builtin.min_ ts ty #[x.conc ρ ι, y.conc ρ ι]).run P w) = .ok (r.conc ρ ι) w := by
  unfold qMM at h
  split at h
  · simp only [Option.some.injEq, Prod.mk.injEq] at h; obtain ⟨rfl, rfl⟩ := h
    cases mx
    · simp [Builtin.min_, Builtin.min2, SV.conc, S.conc, mkIte_i, mkLt_b hH]
    · simp [Builtin.max_, Builtin.max2, SV.conc, S.conc, mkIte_i, mkLt_b hH]
  · cases h

theorem qBinAgg_ok (hH : H.ok ρ) {op : BinOp} {t : TypeId} {x y : SV} {nd : List E} {r : SV} (h : qBinAgg P H op t x y = some (nd, r)) (hn : allN ρ nd) (a b : Operand) :
    (do eqGuard op t a b (x.conc ρ ι) (y.conc ρ ι); binOp op t (x.conc ρ ι) (y.conc ρ ι) : Sem Value).run P w = .ok (r.conc ρ ι) w := by
  unfold qBinAgg at h
  split at h
  · rename_i l r'
    split at h
    · cases h
    · rename_i hc
      simp only [not_or, Bool.not_eq_true, Decidable.not_not] at hc
      have hv : ∀ l, SV.conc ρ ι (.agg l) = valOf P ρ ι t l := fun l => by unfold valOf; rw [if_pos hc.2]; rfl
      have hq : ∀ e, eqT P H 12 t l r' = some e → (Op.equalIn 10000 t (.agg (cellsOf ρ ι l).toArray) (.agg (cellsOf ρ ι r').toArray)).run P w = .ok (e.b ρ) w := fun e he => by
        have := eqT_ok (ρ := ρ) (ι := ι) (w := w) hH 12 t l r' e he 10000 (by omega)
        rw [← hv, ← hv] at this; exact this
      split at h
      · simp only [Option.map_eq_some_iff, Prod.mk.injEq] at h
        obtain ⟨e, he, rfl, rfl⟩ := h
        show (do eqGuard .eql t a b (.agg (cellsOf ρ ι l).toArray) (.agg (cellsOf ρ ι r').toArray); binOp .eql t (.agg (cellsOf ρ ι l).toArray) (.agg (cellsOf ρ ι r').toArray) : Sem Value).run P w = _
        rw [Sem.run_bind, run_eqGuard_agg w _ _ _ _ _ _ hc.1, Result.andThen_ok, run_eql_struct, hq e he]; rfl
      · simp only [Option.map_eq_some_iff, Prod.mk.injEq] at h
        obtain ⟨e, he, rfl, rfl⟩ := h
        show (do eqGuard .neq t a b (.agg (cellsOf ρ ι l).toArray) (.agg (cellsOf ρ ι r').toArray); binOp .neq t (.agg (cellsOf ρ ι l).toArray) (.agg (cellsOf ρ ι r').toArray) : Sem Value).run P w = _
        rw [Sem.run_bind, run_eqGuard_agg w _ _ _ _ _ _ hc.1, Result.andThen_ok, run_neq_struct, hq e he]
        simp [SV.conc, S.conc, mkNot_b]
      · cases h
  · exact qBin_ok hH h hn a b
theorem qop_ok (hH : H.ok ρ) (hm : MRep ρ β ι m w) (hf : FRep ρ ι n fr a) (hG : allT ρ G) {o : Oper} {nd : List E} {r : SV} (h : qop P H G fr m o.op = some (nd, r)) (hn : allN ρ nd) :
    (execOp a.eval o).run P w = .ok (.value (r.conc ρ ι)) w := by
  unfold qop at h
  split at h
  · rename_i x ho
    simp only [Option.map_eq_some_iff, Prod.mk.injEq] at h
    obtain ⟨v, hv, _, rfl⟩ := h
    simp [execOp, ho, opnd_ok hf hG hv]
  · rename_i x ho
    simp only [Option.map_eq_some_iff, Prod.mk.injEq] at h
    obtain ⟨v, hv, _, rfl⟩ := h
    simp [execOp, ho, opnd_ok hf hG hv]
  · rename_i c x y ho
    obtain ⟨b, hb, hv⟩ := qPick_ok hf hG h
    simp [execOp, ho, hb, asBool, hv]
  · rename_i x ho
    split at h
    · rename_i v hv
      exact qNil_ok h o x ho _ (opnd_ok hf hG hv)
    · cases h
  · rename_i op t x y t' ho
    split at h
    · rename_i u v hu hv
      have := qBinAgg_ok (ι := ι) (P := P) (w := w) hH h hn x y
      simp only [execOp, ho, opnd_ok hf hG hu, opnd_ok hf hG hv]
      rw [Sem.run_bind, this]; rfl
    · cases h
  · rename_i op t x ho
    split at h
    · rename_i v hv
      simp [execOp, ho, opnd_ok hf hG hv, qUn_ok (ι := ι) hH h]
    · cases h
  · rename_i s d x ho
    split at h
    · rename_i v hv
      simp [execOp, ho, opnd_ok hf hG hv, qConv_ok (ι := ι) hH h]
    · cases h
  · rename_i t x ho
    split at h
    · rename_i v hv
      simp [execOp, ho, opnd_ok hf hG hv, qLoad_ok hH hm h hn]
    · cases h
  · rename_i t x f ho
    split at h
    · rename_i v hv
      simp [execOp, ho, opnd_ok hf hG hv, qFieldAddr_ok (ι := ι) hH hm h hn]
    · cases h
  · rename_i t x f ho
    split at h
    · rename_i v hv
      simp [execOp, ho, opnd_ok hf hG hv, qField_ok (ρ := ρ) (ι := ι) h]
    · cases h
  · rename_i t x y ho
    split at h
    · rename_i u v hu hv
      simp [execOp, ho, opnd_ok hf hG hu, opnd_ok hf hG hv, qIndexAddr_ok (ι := ι) hH hm h hn]
    · cases h
  · rename_i t x y ho
    split at h
    · rename_i u v hu hv
      simp [execOp, ho, opnd_ok hf hG hu, opnd_ok hf hG hv, qIndex_ok (ι := ι) hH h hn]
    · cases h
  · rename_i x i ho
    split at h
    · rename_i v hv
      simp [execOp, ho, opnd_ok hf hG hv, qExtract_ok (ρ := ρ) (ι := ι) h]
    · cases h
  · rename_i f first caps ho
    split at h
    · rename_i h0
      split at h
      · rename_i l hl
        simp only [Option.map_eq_some_iff, Prod.mk.injEq] at h
        obtain ⟨c, hc, _, rfl⟩ := h
        have e1 := (opnds_ok hf hG hl).trans (ptrs_ok hc)
        have e2 : caps.map a.eval = (c.map fun p => Value.pointer (some (addr ρ ι p.1 p.2))).toArray := by
          rw [← e1, ← Array.toList_map]
        have e3 : first = #[] := by simpa using h0
        simp [execOp, ho, Instr.makeFunc, e2, e3, SV.conc, S.conc]
      · cases h
    · cases h
  · rename_i t parts ho
    split at h
    · rename_i l hl
      have key := qBuild_ok (ρ := ρ) (ι := ι) (w := w) h
      have e1 : (parts.map fun (p : Nat × Operand) => (p.1, a.eval p.2)) = (((parts.toList.map (·.1)).zip l).map fun p => (p.1, p.2.conc ρ ι)).toArray := by
        apply Array.ext'
        have := opnds_ok hf hG hl
        rw [List.map_map] at this
        simp only [Array.toList_map]
        have h2 : ((parts.toList.map (·.1)).zip l).map (fun p => (p.1, p.2.conc ρ ι)) = (parts.toList.map (·.1)).zip (l.map (SV.conc ρ ι)) := by rw [List.zip_map_right]; rfl
        rw [h2, ← this, List.zip_map']
        rfl
      simp only [execOp, ho]
      rw [Sem.run_bind]
      have e2 : (parts.map fun (x : Nat × Operand) => match x with | (i, x) => (i, a.eval x)) = (parts.map fun (p : Nat × Operand) => (p.1, a.eval p.2)) := rfl
      rw [e2, e1, key]; rfl
    · cases h
  · rename_i b args ts ho
    have ea : ∀ {l : List SV}, opnds G fr args.toList = some l → args.map a.eval = (l.map (SV.conc ρ ι)).toArray := fun hl => by
      rw [← opnds_ok hf hG hl, ← Array.toList_map]
    split at h
    · rename_i x t r' hl ht
      have h0 : ts[0]? = some t := by rw [← Array.getElem?_toList, ht]; rfl
      have := qLen_ok (ι := ι) (w := w) (ty := o.type) hH hm h ts h0
      simp [execOp, ho, resolve, invoke, builtin, ea hl, this]
    · rename_i x y hl
      have := qMM_ok (ι := ι) (P := P) (w := w) hH h ts o.type
      simp only [if_true] at this
      simp [execOp, ho, resolve, invoke, builtin, ea hl, this]
    · rename_i x y hl
      have := qMM_ok (ι := ι) (P := P) (w := w) hH h ts o.type
      simp only [Bool.false_eq_true, if_false] at this
      simp [execOp, ho, resolve, invoke, builtin, ea hl, this]
    · cases h
  · cases h
end

/-! ### new blocks, stores -/

def S.sc (n : Nat) : S → Bool
  | .ptr b _ => b < n
  | .slc b _ _ _ => b < n
  | .fn _ caps => caps.all fun p => p.1 < n
  | _ => true
def Seg.sc (n : Nat) : Seg → Bool
  | .one x => x.sc n
  | _ => true
def SV.sc (n : Nat) : SV → Bool
  | .s x => x.sc n
  | .agg l => l.all (Seg.sc n)
  | .tup l => l.all fun p => p.2.all (Seg.sc n)
  | .junk => true
def scAll (n : Nat) (fr : Fr) (m : Mem) : Bool := fr.all (fun f => f.x.sc n) && m.all (fun B => B.segs.all (Seg.sc n))

section
variable {ρ : Env} {ι ι' : Loc} {n : Nat}
theorem S.conc_congr (h : Loc.agree n ι ι') {x : S} (hx : x.sc n = true) : x.conc ρ ι = x.conc ρ ι' := by
  cases x <;> simp only [S.sc, decide_eq_true_eq, List.all_eq_true] at hx
  case ptr b off => simp only [S.conc, addr]; rw [(h _ hx).1]
  case slc b off len cap =>
    obtain ⟨h1, h2, h3⟩ := h _ hx
    cases cap <;> simp only [S.conc, addr]
    · rw [h1]
    · rw [h1, h2, h3]
  case fn f caps =>
    simp only [S.conc, addr]
    congr 2
    exact List.map_congr_left fun p hp => by rw [(h _ (by simpa using hx p hp)).1]
  all_goals rfl
theorem Seg.cells_congr (h : Loc.agree n ι ι') {x : Seg} (hx : x.sc n = true) : x.cells ρ ι = x.cells ρ ι' := by
  cases x with
  | one x => simp only [Seg.cells, S.conc_congr h hx]
  | run => rfl
  | rows => rfl
theorem cellsOf_congr (h : Loc.agree n ι ι') : ∀ {l : List Seg}, l.all (Seg.sc n) = true → cellsOf ρ ι l = cellsOf ρ ι' l
  | [], _ => rfl
  | x :: l, hl => by
    simp only [List.all_cons, Bool.and_eq_true] at hl
    rw [cells_cons, cells_cons, Seg.cells_congr h hl.1, cellsOf_congr h hl.2]
theorem SV.conc_congr (h : Loc.agree n ι ι') {x : SV} (hx : x.sc n = true) : x.conc ρ ι = x.conc ρ ι' := by
  cases x with
  | s x => exact S.conc_congr h hx
  | agg l => simp only [SV.conc, cellsOf_congr h hx]
  | junk => rfl
  | tup l =>
    simp only [SV.sc, List.all_eq_true] at hx
    simp only [SV.conc]
    congr 2
    exact List.map_congr_left fun p hp => by
      have := cellsOf_congr (ρ := ρ) h (l := p.2) (List.all_eq_true.2 (hx p hp))
      rw [this]
theorem look_mem {fr : Fr} {t : Nat} {g : List E} {x : SV} (h : look fr t = some (g, x)) : ∃ f ∈ fr, f.x = x := by
  induction fr with
  | nil => simp [look] at h
  | cons f fr ih =>
    simp only [look] at h
    split at h
    · split at h
      · cases h
      · simp only [Option.some.injEq, Prod.mk.injEq] at h; exact ⟨f, .head _, h.2⟩
    · obtain ⟨f', hf, hx⟩ := ih h; exact ⟨f', .tail _ hf, hx⟩
theorem FRep.congr {k : Nat} {fr : Fr} {a : Act} (hf : FRep ρ ι k fr a) (h : Loc.agree n ι ι') (hs : fr.all (fun f => f.x.sc n) = true) : FRep ρ ι' k fr a := by
  refine ⟨hf.size, hf.defers, fun t g x hl hg => ?_, hf.no⟩
  obtain ⟨f, hf', rfl⟩ := look_mem hl
  rw [hf.yes _ _ _ hl hg, SV.conc_congr h (List.all_eq_true.1 hs f hf')]
end

def updL (ι : Loc) (k r c : Nat) (nl : Bool) : Loc := ⟨fun i => if i = k then r else ι.pos i, fun i => if i = k then c else ι.cap i, fun i => if i = k then nl else ι.nil i⟩
theorem updL_lt (ι : Loc) (k r c : Nat) (nl : Bool) : Loc.agree k ι (updL ι k r c nl) := fun i h => by
  have : i ≠ k := by omega
  simp [updL, this]
theorem Loc.agree.refl (n : Nat) (ι : Loc) : Loc.agree n ι ι := fun _ _ => ⟨rfl, rfl, rfl⟩
theorem Loc.agree.trans {n : Nat} {a b c : Loc} (h : Loc.agree n a b) (h' : Loc.agree n b c) : Loc.agree n a c := fun i hi =>
  ⟨(h i hi).1.trans (h' i hi).1, (h i hi).2.1.trans (h' i hi).2.1, (h i hi).2.2.trans (h' i hi).2.2⟩
theorem Loc.agree.symm {n : Nat} {a b : Loc} (h : Loc.agree n a b) : Loc.agree n b a := fun i hi => ⟨(h i hi).1.symm, (h i hi).2.1.symm, (h i hi).2.2.symm⟩
theorem Loc.agree.mono {n k : Nat} {a b : Loc} (h : Loc.agree n a b) (hk : k ≤ n) : Loc.agree k a b := fun i hi => h i (by omega)

section
variable {ρ : Env} {ι : Loc} {w : World} {β : Base} {m : Mem}

theorem heap_lt {b : Nat} {o : Obj} (h : w.heap[b]? = some o) : b < w.heap.size := by
  rw [Array.getElem?_eq_some_iff] at h; exact h.1

theorem MRep.live_lt (hm : MRep ρ β ι m w) {i : Nat} {B : Blk} (hB : m[i]? = some B) (hd : B.dead = false) (hn : ι.nil i = false) : ι i < w.heap.size := by
  obtain ⟨fz, rest, h1, _⟩ := hm.blk i B hB hd hn
  exact heap_lt h1
/-- a block more -/
theorem MRep.push (hm : MRep ρ β ι m w) {w' : World} (B : Blk) (r c : Nat) (nl : Bool) (hs : m.all (fun B => B.segs.all (Seg.sc m.length)) = true) (hs' : B.segs.all (Seg.sc m.length) = true)
    (hw : ∀ b, b < w.heap.size → w'.heap[b]? = w.heap[b]?) (hsz : w.heap.size ≤ w'.heap.size) (hos : w'.os = w.os) (htape : w'.tape = w.tape) (hout : w'.output = w.output) (hr : w.heap.size ≤ r)
    (hblk : B.dead = false → nl = false → ∃ fz rest, w'.heap[r]? = some (.cells (cellsOf ρ ι B.segs ++ rest).toArray B.ty fz) ∧ (B.wr = true → fz.2 ≤ fz.1) ∧
      (∀ sz, B.grow = some sz → (cellsOf ρ ι B.segs ++ rest).length = c * sz ∧ c ≤ maxLen) ∧ (B.grow = none → rest = []))
    (hnil : B.dead = false → nl = true → B.grow.isSome = true ∧ cellsOf ρ ι B.segs = []) : MRep ρ β (updL ι m.length r c nl) (m ++ [B]) w' := by
  have hag := updL_lt ι m.length r c nl
  have heq : (updL ι m.length r c nl).pos m.length = r ∧ (updL ι m.length r c nl).cap m.length = c ∧ (updL ι m.length r c nl).nil m.length = nl := by simp [updL]
  have at_ : ∀ {i : Nat} {C : Blk}, (m ++ [B])[i]? = some C → (i < m.length ∧ m[i]? = some C) ∨ (i = m.length ∧ C = B) := by
    intro i C h
    by_cases hi : i < m.length
    · rw [List.getElem?_append_left hi] at h; exact .inl ⟨hi, h⟩
    · rw [List.getElem?_append_right (by omega)] at h
      have h0 := (List.getElem?_eq_some_iff.1 h).1
      simp at h0
      have : i = m.length := by omega
      subst this
      simp at h
      exact .inr ⟨rfl, h.symm⟩
  have scB : ∀ {i : Nat} {C : Blk}, m[i]? = some C → cellsOf ρ (updL ι m.length r c nl) C.segs = cellsOf ρ ι C.segs := fun hC =>
    (cellsOf_congr hag (List.all_eq_true.1 hs _ (List.mem_of_getElem? hC))).symm
  have scB' : cellsOf ρ (updL ι m.length r c nl) B.segs = cellsOf ρ ι B.segs := (cellsOf_congr hag hs').symm
  refine ⟨fun i j C D hC hD hCd hDd hCn hDn he => ?_, fun i C hC hCd hCn => ?_, fun i C hC hCd hCn => ?_, (hag.mono hm.len).symm.trans hm.agr, by have := hm.len; simp; omega, fun i hi hi' => ?_, Nat.le_trans hm.size hsz, fun b hb hi => ?_, hos.trans hm.os, htape.trans hm.tape, hout.trans hm.output, hm.xt, fun i j a n' c' hv h0 k hk => ?_⟩
  · rcases at_ hC with ⟨hi, hC2⟩ | ⟨hi, hC2⟩ <;> rcases at_ hD with ⟨hj, hD2⟩ | ⟨hj, hD2⟩
    · rw [← (hag i hi).1, ← (hag j hj).1] at he
      rw [← (hag i hi).2.2] at hCn
      rw [← (hag j hj).2.2] at hDn
      exact hm.inj i j C D hC2 hD2 hCd hDd hCn hDn he
    · rw [← (hag i hi).2.2] at hCn
      have := hm.live_lt hC2 hCd hCn
      rw [← (hag i hi).1, hj, heq.1] at he; omega
    · rw [← (hag j hj).2.2] at hDn
      have := hm.live_lt hD2 hDd hDn
      rw [← (hag j hj).1, hi, heq.1] at he; omega
    · rw [hi, hj]
  · rcases at_ hC with ⟨hi, hC⟩ | ⟨rfl, rfl⟩
    · rw [← (hag i hi).2.2] at hCn
      obtain ⟨fz, rest, h1, h2⟩ := hm.blk i C hC hCd hCn
      rw [← (hag i hi).1, ← (hag i hi).2.1, scB hC]
      exact ⟨fz, rest, by rw [hw _ (heap_lt h1)]; exact h1, h2⟩
    · rw [heq.2.2] at hCn
      rw [heq.1, heq.2.1, scB']
      exact hblk hCd hCn
  · rcases at_ hC with ⟨hi, hC⟩ | ⟨rfl, rfl⟩
    · rw [← (hag i hi).2.2] at hCn
      rw [scB hC]; exact hm.nils i C hC hCd hCn
    · rw [heq.2.2] at hCn
      rw [scB']; exact hnil hCd hCn
  · by_cases hc : i < m.length
    · rw [← (hag i hc).1]
      rcases hm.new i hi hc with hn | ⟨j, hj, hn⟩
      · exact .inl hn
      · exact .inr ⟨j, hj, by rw [hn]; exact (hag j (Nat.lt_of_lt_of_le hj hm.len)).1⟩
    · have : i = m.length := by simp at hi'; omega
      subst this
      rw [heq.1]; exact .inl (Nat.le_trans hm.size hr)
  · have := hm.size
    rw [hw b (by omega)]
    refine hm.old b hb fun i hi' => ?_
    have := hi i (by simp; omega)
    rwa [← (hag i hi').1] at this
  · by_cases hc : k < m.length
    · rw [← (hag k hc).1]; exact hm.xd i j a n' c' hv h0 k hc
    · have : k = m.length := by simp at hk; omega
      subst this
      rw [heq.1]
      obtain ⟨b, c2, e1, e2, e3, e4⟩ := (hm.xt i j).ok
      rw [hv] at e1; injection e1 with e1 _ _
      have := (e4 a e1.symm 0 h0).1
      have := hm.size
      omega
theorem MRep.alloc (hm : MRep ρ β ι m w) (ty : TypeId) (segs : List Seg) (hs : m.all (fun B => B.segs.all (Seg.sc m.length)) = true) (hs' : segs.all (Seg.sc m.length) = true) :
    MRep ρ β (updL ι m.length w.heap.size 0 false) (m ++ [⟨ty, segs, true, none, false⟩]) { w with heap := w.heap.push (.cells (cellsOf ρ ι segs).toArray ty) } := by
  refine hm.push _ _ _ _ hs hs' (fun b hb => ?_) (by simp) rfl rfl rfl (Nat.le_refl _) (fun _ _ => ⟨(0, 0), [], ?_, fun _ => Nat.le_refl _, fun sz h => by simp at h, fun _ => rfl⟩) (fun _ h => by simp at h)
  · show (w.heap.push _)[b]? = _
    rw [Array.getElem?_push, if_neg (by omega)]
  · show (w.heap.push _)[_]? = _
    rw [Array.getElem?_push, if_pos rfl]; simp

theorem MRep.xnow (hm : MRep ρ β ι m w) (i j : Nat) : (ρ.I.xs i j).ok w := by
  obtain ⟨b, c, h1, h2, h3, h4⟩ := (hm.xt i j).ok
  refine ⟨b, c, h1, h2, h3, fun a ha k hk => ⟨Nat.lt_of_lt_of_le (h4 a ha k hk).1 hm.size, ?_⟩⟩
  subst ha
  exact hm.xcell h1 hk
/-- the same, seen from now on -/
theorem MRep.now (hm : MRep ρ β ι m w) : MRep ρ ⟨w, m.length, ι⟩ ι m w :=
  ⟨hm.inj, hm.blk, hm.nils, Loc.agree.refl _ _, Nat.le_refl _, fun i h1 h2 => absurd h2 (Nat.not_lt.2 h1), Nat.le_refl _, fun _ _ _ => rfl, rfl, rfl, rfl, hm.xnow, hm.xd⟩
theorem MRep.since (hm : MRep ρ β ι m w) {ι' : Loc} {m' : Mem} {w' : World} (h' : MRep ρ ⟨w, m.length, ι⟩ ι' m' w') : MRep ρ β ι' m' w' := by
  have hag : Loc.agree m.length ι' ι := h'.agr
  have hlen : m.length ≤ m'.length := h'.len
  refine ⟨h'.inj, h'.blk, h'.nils, (hag.mono hm.len).trans hm.agr, Nat.le_trans hm.len hlen, fun i h1 h2 => ?_, Nat.le_trans hm.size h'.size, fun b hb hi => ?_, h'.os.trans hm.os, h'.tape.trans hm.tape, h'.output.trans hm.output, hm.xt, fun i j a n c hv h0 k hk => ?_⟩
  · by_cases hc : i < m.length
    · rw [(hag i hc).1]
      rcases hm.new i h1 hc with hn | ⟨j, hj, hn⟩
      · exact .inl hn
      · exact .inr ⟨j, hj, by rw [hn, (hag j (Nat.lt_of_lt_of_le hj hm.len)).1]⟩
    · rcases h'.new i (Nat.not_lt.1 hc) h2 with hn | ⟨j, hj, hn⟩
      · exact .inl (Nat.le_trans hm.size hn)
      · have hj : j < m.length := hj
        by_cases hj2 : j < β.k
        · exact .inr ⟨j, hj2, hn⟩
        · rcases hm.new j (Nat.not_lt.1 hj2) hj with h3 | ⟨q, hq, h3⟩
          · exact .inl (by rw [hn, (hag j hj).1]; exact h3)
          · exact .inr ⟨q, hq, by rw [hn, (hag j hj).1, h3, (hag q (Nat.lt_of_lt_of_le hq hm.len)).1]⟩
  · have hb' : b < w.heap.size := Nat.lt_of_lt_of_le hb hm.size
    rw [h'.old b hb' hi]
    exact hm.old b hb fun i hi' => by rw [← (hag i hi').1]; exact hi i (Nat.lt_of_lt_of_le hi' hlen)
  · exact h'.xd i j a n c hv h0 k hk

/-- the world with one block's cells written anew -/
def setBlk (w : World) (b : Nat) (cs : List Value) (ty : TypeId) (fz : Nat × Nat) : World := { w with heap := w.heap.setIfInBounds b (.cells cs.toArray ty fz) }

theorem MRep.setBlk (hm : MRep ρ β ι m w) {b : Nat} {B : Blk} (hB : m[b]? = some B) (hd : B.dead = false) (hn : ι.nil b = false) (segs : List Seg) (rest : List Value) {fz : Nat × Nat} (hfz : fz.2 ≤ fz.1)
    (hg : ∀ sz, B.grow = some sz → (cellsOf ρ ι segs ++ rest).length = ι.cap b * sz ∧ ι.cap b ≤ maxLen) (hr : B.grow = none → rest = []) :
    MRep ρ β ι (m.set b { B with segs := segs }) (Sx.setBlk w (ι b) (cellsOf ρ ι segs ++ rest) B.ty fz) := by
  have hb : b < m.length := (List.getElem?_eq_some_iff.1 hB).1
  have hlt := hm.live_lt hB hd hn
  have at_ : ∀ {i : Nat} {C : Blk}, (m.set b { B with segs := segs })[i]? = some C → (i = b ∧ C = { B with segs := segs }) ∨ (i ≠ b ∧ m[i]? = some C) := by
    intro i C h
    rw [List.getElem?_set] at h
    split at h
    · rename_i hbi; subst hbi; simp only [Option.some.injEq] at h; exact .inl ⟨rfl, by simpa [hb] using h.symm⟩
    · rename_i hbi; exact .inr ⟨fun e => hbi e.symm, h⟩
  have old : ∀ {i : Nat} {C : Blk}, (m.set b { B with segs := segs })[i]? = some C → ∃ C', m[i]? = some C' ∧ C'.dead = C.dead := by
    intro i C h
    rcases at_ h with ⟨rfl, rfl⟩ | ⟨_, h⟩
    · exact ⟨B, hB, rfl⟩
    · exact ⟨C, h, rfl⟩
  refine ⟨fun i j C D hC hD hCd hDd hCn hDn he => ?_, fun i C hC hCd hCn => ?_, fun i C hC hCd hCn => ?_, hm.agr, by simpa using hm.len, fun i h1 h2 => hm.new i h1 (by simpa using h2), ?_, fun k hk hi => ?_, hm.os, hm.tape, hm.output, hm.xt, fun i j a n' c' hv h0 k hk => hm.xd i j a n' c' hv h0 k (by simpa using hk)⟩
  · obtain ⟨C', hC', e1⟩ := old hC
    obtain ⟨D', hD', e2⟩ := old hD
    exact hm.inj i j C' D' hC' hD' (e1.trans hCd) (e2.trans hDd) hCn hDn he
  · rcases at_ hC with ⟨rfl, rfl⟩ | ⟨hbi, hC⟩
    · refine ⟨fz, rest, ?_, fun _ => hfz, hg, hr⟩
      simp [Sx.setBlk, Array.getElem?_setIfInBounds_self, hlt]
    · obtain ⟨fz', rest', h3, h4⟩ := hm.blk i C hC hCd hCn
      refine ⟨fz', rest', ?_, h4⟩
      simp only [Sx.setBlk]
      rw [Array.getElem?_setIfInBounds_ne (fun he => hbi (hm.inj b i B C hB hC hd hCd hn hCn he).symm)]
      exact h3
  · rcases at_ hC with ⟨rfl, rfl⟩ | ⟨hbi, hC⟩
    · rw [hn] at hCn; cases hCn
    · exact hm.nils i C hC hCd hCn
  · simp only [Sx.setBlk, Array.size_setIfInBounds]; exact hm.size
  · simp only [Sx.setBlk]
    have := hi b (by simpa using hb)
    rw [Array.getElem?_setIfInBounds_ne this]
    exact hm.old k hk fun i hi' => hi i (by simpa using hi')
end

theorem setCell_eq (w : World) (b o : Nat) (cs : List Value) (ty : TypeId) (fz : Nat × Nat) (v : Value) (h : w.heap[b]? = some (.cells cs.toArray ty fz)) :
    w.setCell ⟨b, o, none⟩ v = setBlk w b (cs.set o v) ty fz := by
  unfold World.setCell setBlk
  congr 1
  apply Array.ext_getElem?
  intro i
  rw [Array.getElem?_modify]
  split
  · rename_i hi; subst hi
    have hlt := heap_lt h
    rw [Array.getElem?_setIfInBounds_self_of_lt hlt, h]
    simp
  · rename_i hi
    rw [Array.getElem?_setIfInBounds_ne hi]

theorem setBlk_twice (w : World) (b : Nat) (c d : List Value) (ty : TypeId) (fz : Nat × Nat) : setBlk (setBlk w b c ty fz) b d ty fz = setBlk w b d ty fz := by
  unfold setBlk; simp

theorem setBlk_self {w : World} {b : Nat} {c : List Value} {ty : TypeId} {fz : Nat × Nat} (h : w.heap[b]? = some (.cells c.toArray ty fz)) : setBlk w b c ty fz = w := by
  unfold setBlk
  have : w.heap.setIfInBounds b (.cells c.toArray ty fz) = w.heap := by
    apply Array.ext_getElem?
    intro i
    by_cases hi : b = i
    · subst hi; rw [Array.getElem?_setIfInBounds_self_of_lt (heap_lt h), h]
    · rw [Array.getElem?_setIfInBounds_ne hi]
  rw [this]

theorem run_storeCells_blk (P : Program) (b off : Nat) (ty : TypeId) (fz : Nat × Nat) (hfz : fz.2 ≤ fz.1) : ∀ (vs : List Value) (i : Nat) (cs : List Value) (w : World),
    w.heap[b]? = some (.cells cs.toArray ty fz) → (∀ v ∈ vs, v.oneCell' = true) → off + i + vs.length ≤ cs.length →
    (storeCells ⟨b, off, none⟩ vs i).run P w = .ok () (setBlk w b (cs.take (off + i) ++ vs ++ cs.drop (off + i + vs.length)) ty fz)
  | [], i, cs, w, h, _, _ => by
    unfold storeCells
    simp [setBlk_self h]
  | v :: vs, i, cs, w, h, hv, hl => by
    simp only [List.length_cons] at hl
    unfold storeCells
    have hlt : off + i < cs.length := by omega
    have hc : w.cell? ⟨b, off + i, none⟩ = some cs[off + i] := by
      simp [World.cell?, h, hlt]
    have hfr : w.frozen? ⟨b, off + i, none⟩ = false := by
      simp [World.frozen?, h]; omega
    have hst : (store (Addr.add ⟨b, off, none⟩ i) v).run P w = .ok () (setBlk w b (cs.set (off + i) v) ty fz) := by
      rw [run_store P w _ v _ (hv v (.head _))]
      have : (Addr.add ⟨b, off, none⟩ i) = ⟨b, off + i, none⟩ := add_mk b off i
      rw [this, hc]
      simp only [hfr]
      rw [setCell_eq w b (off + i) cs ty fz v h]; rfl
    rw [Sem.run_bind, hst, Result.andThen_ok]
    have hh : (setBlk w b (cs.set (off + i) v) ty fz).heap[b]? = some (.cells (cs.set (off + i) v).toArray ty fz) := by
      unfold setBlk; simp only; rw [Array.getElem?_setIfInBounds_self_of_lt (heap_lt h)]
    rw [run_storeCells_blk P b off ty fz hfz vs (i + 1) _ _ hh (fun u hu => hv u (.tail _ hu)) (by simp; omega), setBlk_twice]
    congr 2
    apply List.ext_getElem?
    intro j
    simp only [List.getElem?_append, List.length_append, List.length_take, List.length_set, List.getElem?_take, List.getElem?_set, List.getElem?_drop, List.length_cons]
    by_cases h1 : j < off + i
    · rw [if_pos (by omega), if_pos (by omega), if_pos (by omega), if_neg (by omega), if_pos (by omega), if_pos (by omega), if_pos h1]
    · by_cases h2 : j = off + i
      · subst h2
        rw [if_pos (by omega), if_pos (by omega), if_pos (by omega), if_pos rfl, if_pos hlt, if_pos (by omega), if_neg (by omega), show off + i - min (off + i) cs.length = 0 by omega]; rfl
      · by_cases h3 : j < off + i + 1 + vs.length
        · rw [if_pos (by omega), if_neg (by omega), if_pos (by omega), if_neg (by omega), show j - min (off + i) cs.length = (j - min (off + (i + 1)) cs.length) + 1 by omega, List.getElem?_cons_succ]
        · rw [if_neg (by omega), if_neg (by omega), if_neg (by omega)]
          congr 1; omega

/-! ### operations that write or make memory; calls -/

def S.plain : S → Bool
  | .val _ => false
  | .undef => false
  | _ => true
def Seg.plain : Seg → Bool
  | .one x => x.plain
  | _ => true
def segsOf : SV → Option (List Seg)
  | .s x => if x.plain then some [.one x] else none
  | .agg l => if l.all Seg.plain then some l else none
  | _ => none

/-- what an operation gives: conditions, the value, the memory -/
abbrev WR := Option (List E × SV × Mem)

def newBlk (fr : Fr) (m : Mem) (ty : TypeId) (segs : List Seg) : WR :=
  if scAll m.length fr m && segs.all (Seg.sc m.length) then some ([], .s (.ptr m.length (.lit 0)), m ++ [⟨ty, segs, true, none, false⟩]) else none

/-- a whole element of rows is written, at a place that is not known -/
def wrAll (q : E) : List XF → List S → Option (List XF)
  | [], [] => some []
  | f :: fs, x :: xs => match wrXF f q x, wrAll q fs xs with
    | some g, some gs => some (g :: gs)
    | _, _ => none
  | _, _ => none
def onesOf : List Seg → Option (List S)
  | [] => some []
  | .one x :: l => (onesOf l).map (x :: ·)
  | _ => none
def wrRow (H : Hyp) (off : E) (xs : List S) : Nat → List Seg → Option (List E × List Seg)
  | _, [] => none
  | st, .one y :: r => if atLeast H (st + 1) off then (wrRow H off xs (st + 1) r).map fun p => (p.1, .one y :: p.2) else none
  | st, .run k (.lit n) A o :: r => if 0 ≤ n ∧ atLeast H (st + n) off = true then (wrRow H off xs (st + n.toNat) r).map fun p => (p.1, .run k (.lit n) A o :: p.2) else none
  | _, .run .. :: _ => none
  | st, .rows n fs o :: r =>
    let wr := match splitOff fs.length off with
      | some (j, c) => if st ≤ c ∧ (c - st) % fs.length = 0 ∧ 0 < fs.length then
          match wrAll (mkAdd j (.lit ((c - st) / fs.length + o : Nat))) fs xs with
          | some gs => some ([mkLt H (mkAdd j (.lit ((c - st) / fs.length : Nat))) n], .rows n gs o :: r)
          | none => none
        else none
      | none => none
    match n with
    | .lit z => if 0 ≤ z ∧ atLeast H (st + z * fs.length) off = true then (wrRow H off xs (st + z.toNat * fs.length) r).map fun p => (p.1, .rows n fs o :: p.2) else wr
    | _ => wr

def wStore (P : Program) (H : Hyp) (m : Mem) (t : TypeId) (p x : SV) : WR :=
  match p with
  | .s (.ptr b off) =>
    match m[b]?, segsOf x with
    | some B, some l =>
      if B.wr = true ∧ B.dead = false then
        match sizeT P t, x, litN off with
        | some n, .agg _, some o => if segsLen l = some n ∧ 0 < n then
            match takeSegs o B.segs, dropSegs (o + n) B.segs with
            | some l1, some l2 => some ([], .undef, m.set b { B with segs := l1 ++ l ++ l2 })
            | _, _ => none
          else none
        | some n, .agg _, none => match onesOf l with
          | some xs => if xs.length = n then (wrRow H off xs 0 B.segs).map fun r => (mkLe H (.lit 0) off :: r.1, .undef, m.set b { B with segs := r.2 }) else none
          | none => none
        | some 1, .s y, _ => (wrSeg H off y 0 B.segs).map fun r => (mkLe H (.lit 0) off :: r.1, .undef, m.set b { B with segs := r.2 })
        | _, _, _ => none
      else none
    | _, _ => none
  | _ => none

/-! rows whose length is known, cell by cell -/
def unroll : List Seg → Option (List S)
  | [] => some []
  | .one x :: r => (unroll r).map (x :: ·)
  | .run k (.lit n) A o :: r => if 0 ≤ n ∧ n ≤ 4096 then (unroll r).map (((List.range n.toNat).map fun j => S.int k (mkSel H0 A (.lit (o + j : Nat)))) ++ ·) else none
  | _ => none
def ones (l : List S) : List Seg := l.map .one
/-- the cells of a row's elements -/
def rowOf (m : Mem) (sz : Nat) : SV → Option (List S)
  | .s .nilSlc => some []
  | .s (.slc b (.lit o) (.lit n) _) => match m[b]? with
    | some B => match unroll B.segs with
      | some l => if B.dead = false ∧ 0 ≤ o ∧ 0 ≤ n ∧ o.toNat + n.toNat * sz ≤ l.length then some ((l.drop o.toNat).take (n.toNat * sz)) else none
      | none => none
    | none => none
  | _ => none
/-- an element's cells and bytes -/
def zinfo (P : Program) (e : TypeId) : Option (Nat × Nat) := match P.info? e with
  | some i => match i.zero with
    | some z => if z.cells.size = i.size ∧ 0 < i.size then some (i.size, i.bytes) else none
    | none => none
  | none => none
/-- the slice has room for n more: known -/
def roomFor (B : Blk) (l : List S) (sz n0 n : Nat) : Cap → Bool
  | .kn (.lit c) => decide ((n0 + n : Nat) ≤ c)
  | .op (.lit k) => decide (0 ≤ k ∧ B.grow = some sz ∧ (k.toNat + n0 + n) * sz ≤ l.length)
  | _ => false
def appendW (P : Program) (fr : Fr) (m : Mem) (t : TypeId) (s x : SV) : WR :=
  match slcT P t with
  | none => none
  | some e => match zinfo P e with
    | none => none
    | some (sz, by_) => match rowOf m sz x with
      | none => none
      | some xs =>
        if xs.all S.plain && xs.all (S.sc m.length) && scAll m.length fr m && decide (xs.length ≤ 65536 ∧ by_ ≤ 65536) then
          match s with
          | .s .nilSlc => if xs = [] then some ([], .s .nilSlc, m) else some ([], .s (.slc m.length (.lit 0) (.lit (xs.length / sz : Nat)) (.op (.lit 0))), m ++ [⟨e, ones xs, true, some sz, false⟩])
          | .s (.slc b (.lit o) (.lit n0) cap) => match m[b]? with
            | some B => match unroll B.segs with
              | some l =>
                if B.dead = false ∧ B.wr = true ∧ B.ty = e ∧ 0 ≤ o ∧ 0 ≤ n0 ∧ 0 < l.length ∧ n0 ≤ 65536 ∧ l.all (S.sc m.length) = true then
                  if roomFor B l sz n0.toNat (xs.length / sz) cap then
                    if xs = [] then some ([], s, m) else
                    if o.toNat + n0.toNat * sz + xs.length ≤ l.length then some ([], .s (.slc b (.lit o) (.lit (n0 + (xs.length / sz : Nat))) cap), m.set b { B with segs := ones (l.take (o.toNat + n0.toNat * sz) ++ xs ++ l.drop (o.toNat + n0.toNat * sz + xs.length)) }) else none
                  else if o = 0 ∧ cap = .op (.lit 0) ∧ B.grow = some sz ∧ l.length = n0.toNat * sz ∧ xs ≠ [] then
                    some ([], .s (.slc m.length (.lit 0) (.lit (n0 + (xs.length / sz : Nat))) (.op (.lit 0))), (m.set b { B with dead := true }) ++ [⟨e, ones (l ++ xs), true, some sz, false⟩])
                  else none
                else none
              | none => none
            | none => none
          | _ => none
        else none
def appendArgs (fr : Fr) : Op → Option (TypeId × SV × SV)
  | .call { callee := .builtin .append, args := #[s, x], argTypes := #[t, t'] } => if t = t' then match opnd [] fr s, opnd [] fr x with
    | some u, some v => some (t, u, v)
    | _, _ => none
    else none
  | _ => none
def wop (P : Program) (H : Hyp) (fr : Fr) (m : Mem) (o : Op) : WR :=
  match o with
  | .box ty x => match opnd [] fr x with
    | some v => match segsOf v with
      | some l => newBlk fr m ty l
      | none => none
    | none => none
  | .alloc ty => match zeroT P ty with
    | some v => match segsOf v with
      | some l => newBlk fr m ty l
      | none => none
    | none => none
  | .store t a x => match opnd [] fr a, opnd [] fr x with
    | some p, some v => wStore P H m t p v
    | _, _ => none
  | .buildSlice t len parts => match slcT P t, opnds [] fr (parts.toList.map (·.2)) with
    | some e, some l => match sizeT P e with
      | some n => if len * n ≤ 2 ^ 24 then match qRow P e len n (parts.toList.map (·.1)) l with
          | some segs => if segs.all Seg.plain then (newBlk fr m e segs).map fun r => (r.1, .s (.slc m.length (.lit 0) (.lit len) (.kn (.lit len))), r.2.2) else none
          | none => none
        else none
      | none => none
    | _, _ => none
  | _ => none

section
variable {ρ : Env} {ι : Loc} {H : Hyp} {P : Program} {w : World} {β : Base} {m : Mem} {fr : Fr} {n : Nat} {a : Act}

theorem plain_one {x : S} (h : x.plain = true) : (x.conc ρ ι).oneCell' = true := by
  cases x with
  | val n => simp [S.plain] at h
  | undef => simp [S.plain] at h
  | slc b off len c => cases c <;> simp only [S.conc] <;> (try split) <;> rfl
  | xslc i j off len => simp only [S.conc, Ext.sub]; split <;> rfl
  | xptr i j k f => simp only [S.conc, Ext.ptr]; split <;> rfl
  | _ => rfl
theorem plain_cells : ∀ {l : List Seg}, l.all Seg.plain = true → ∀ v ∈ cellsOf ρ ι l, v.oneCell' = true
  | [], _, v, hv => by simp [cellsOf] at hv
  | x :: l, h, v, hv => by
    simp only [List.all_cons, Bool.and_eq_true] at h
    rw [cells_cons, List.mem_append] at hv
    rcases hv with hv | hv
    · cases x with
      | one x => simp only [cells_one, List.mem_singleton] at hv; subst hv; exact plain_one h.1
      | run k n A o => simp only [Seg.cells, List.mem_map] at hv; obtain ⟨j, _, rfl⟩ := hv; rfl
      | rows n fs o =>
        simp only [Seg.cells, List.mem_flatMap, List.mem_map] at hv
        obtain ⟨j, _, f, _, rfl⟩ := hv
        unfold XF.conc; split <;> rfl
    · exact plain_cells h.2 v hv
theorem segsOf_ok {v : SV} {l : List Seg} (h : segsOf v = some l) : (v.conc ρ ι).cells = (cellsOf ρ ι l).toArray ∧ (∀ u ∈ cellsOf ρ ι l, u.oneCell' = true) := by
  unfold segsOf at h
  split at h
  · rename_i x
    split at h
    · rename_i hp
      simp only [Option.some.injEq] at h; subst h
      refine ⟨?_, plain_cells (by simpa [Seg.plain] using hp)⟩
      show (S.conc ρ ι x).cells = _
      rw [conc_cells (fun n hn => by subst hn; simp [S.plain] at hp)]; simp [cellsOf, Seg.cells]
    · cases h
  · split at h
    · rename_i hp
      simp only [Option.some.injEq] at h; subst h
      exact ⟨rfl, plain_cells hp⟩
    · cases h
  · cases h

/-- what holds behind an operation that may make memory -/
def After (ρ : Env) (β : Base) (ι : Loc) (n : Nat) (fr : Fr) (m m' : Mem) (a : Act) (v : SV) (r : Value) (w' : World) : Prop :=
  ∃ ι', r = v.conc ρ ι' ∧ FRep ρ ι' n fr a ∧ MRep ρ β ι' m' w'

theorem newBlk_v {ty : TypeId} {segs : List Seg} {nd : List E} {v : SV} {m' : Mem} (h : newBlk fr m ty segs = some (nd, v, m')) : v = .s (.ptr m.length (.lit 0)) := by
  unfold newBlk at h
  split at h
  · simp only [Option.some.injEq, Prod.mk.injEq] at h; exact h.2.1.symm
  · cases h

theorem newBlk_ok (hm : MRep ρ β ι m w) (hf : FRep ρ ι n fr a) {ty : TypeId} {segs : List Seg} {nd : List E} {v : SV} {m' : Mem} (h : newBlk fr m ty segs = some (nd, v, m')) :
    After ρ β ι n fr m m' a v (.pointer (some ⟨w.heap.size, 0, none⟩)) { w with heap := w.heap.push (.cells (cellsOf ρ ι segs).toArray ty) } := by
  unfold newBlk at h
  split at h
  · rename_i hc
    simp only [scAll, Bool.and_eq_true] at hc
    simp only [Option.some.injEq, Prod.mk.injEq] at h
    obtain ⟨rfl, rfl, rfl⟩ := h
    refine ⟨updL ι m.length w.heap.size 0 false, ?_, hf.congr (updL_lt _ _ _ _ _) hc.1.1, hm.alloc ty segs hc.1.2 hc.2⟩
    simp [SV.conc, S.conc, addr, i_lit, updL]
  · cases h

theorem run_storeVar {t : TypeId} {k : Nat} {v : Value} {vs : List Value} {p : Addr} (hs : sizeT P t = some k) (hc : v.cells = vs.toArray) (hn : vs.length = k) :
    (storeVar t p v).run P w = (storeCells p vs).run P w := by
  have h1 : v.cells.size = k := by rw [hc]; simpa using hn
  have h2 : v.cells.toList = vs := by rw [hc]
  simp [storeVar, sizeT_some hs, h1, h2]

theorem wrAll_ok {q : E} : ∀ {fs : List XF} {xs : List S} {gs : List XF}, wrAll q fs xs = some gs → gs.length = fs.length ∧ xs.length = fs.length ∧
    ∀ (f : Nat) (g : XF), gs[f]? = some g → ∃ d x, fs[f]? = some d ∧ xs[f]? = some x ∧ ∀ k, XF.conc ρ g k = if k = (q.i ρ).toNat then x.conc ρ ι else XF.conc ρ d k
  | [], [], gs, h => by simp only [wrAll, Option.some.injEq] at h; subst h; simp
  | [], x :: xs, gs, h => by simp [wrAll] at h
  | f :: fs, [], gs, h => by simp [wrAll] at h
  | f :: fs, x :: xs, gs, h => by
    simp only [wrAll] at h
    split at h
    · rename_i g gs' h1 h2
      simp only [Option.some.injEq] at h; subst h
      obtain ⟨e1, e2, e3⟩ := wrAll_ok h2
      refine ⟨by simp [e1], by simp [e2], fun k g' hk => ?_⟩
      cases k with
      | zero => simp only [List.getElem?_cons_zero, Option.some.injEq] at hk; subst hk; exact ⟨f, x, rfl, rfl, fun k => wrXF_ok h1 k⟩
      | succ k => simpa using e3 k g' (by simpa using hk)
    · cases h
theorem onesOf_ok : ∀ {l : List Seg} {xs : List S}, onesOf l = some xs → cellsOf ρ ι l = concL ρ ι xs
  | [], xs, h => by simp only [onesOf, Option.some.injEq] at h; subst h; rfl
  | .one x :: l, xs, h => by
    simp only [onesOf, Option.map_eq_some_iff] at h
    obtain ⟨ys, hy, rfl⟩ := h
    rw [cells_cons, cells_one, onesOf_ok hy]; rfl
  | .run .. :: l, xs, h => by simp [onesOf] at h
  | .rows .. :: l, xs, h => by simp [onesOf] at h
theorem wrAll_nil {q : E} {fs : List XF} (h : 0 < fs.length) : wrAll q fs [] = none := by cases fs <;> simp_all [wrAll]
theorem wrRow_nil {off : E} : ∀ {l : List Seg} {st : Nat} {r : List E × List Seg}, ¬ wrRow H off [] st l = some r
  | [], st, r, h => by simp [wrRow] at h
  | .one y :: l, st, r, h => by
    simp only [wrRow] at h
    split at h
    · simp only [Option.map_eq_some_iff] at h; obtain ⟨p, hp, _⟩ := h; exact wrRow_nil hp
    · cases h
  | .run k n A o :: l, st, r, h => by
    cases n with
    | lit z =>
      simp only [wrRow] at h
      split at h
      · simp only [Option.map_eq_some_iff] at h; obtain ⟨p, hp, _⟩ := h; exact wrRow_nil hp
      · cases h
    | _ => simp [wrRow] at h
  | .rows n fs o :: l, st, r, h => by
    have wr : ¬ (match splitOff fs.length off with
      | some (j, c) => if st ≤ c ∧ (c - st) % fs.length = 0 ∧ 0 < fs.length then
          match wrAll (mkAdd j (.lit ((c - st) / fs.length + o : Nat))) fs [] with
          | some gs => some ([mkLt H (mkAdd j (.lit ((c - st) / fs.length : Nat))) n], Seg.rows n gs o :: l)
          | none => none
        else none
      | none => none) = some r := by
      intro h
      split at h
      · split at h
        · rename_i hc; rw [wrAll_nil hc.2.2] at h; cases h
        · cases h
      · cases h
    cases n with
    | lit z =>
      simp only [wrRow] at h
      split at h
      · simp only [Option.map_eq_some_iff] at h; obtain ⟨p, hp, _⟩ := h; exact wrRow_nil hp
      · exact wr h
    | _ => exact wr h
theorem wrRow_ok (hH : H.ok ρ) (off : E) (xs : List S) (hxs : 0 < xs.length) : ∀ (l : List Seg) (st : Nat) (nd : List E) (l' : List Seg), wrRow H off xs st l = some (nd, l') → (st : Int) ≤ off.i ρ → allN ρ nd →
    (off.i ρ - st).toNat + xs.length ≤ (cellsOf ρ ι l).length ∧ cellsOf ρ ι l' = (cellsOf ρ ι l).take (off.i ρ - st).toNat ++ concL ρ ι xs ++ (cellsOf ρ ι l).drop ((off.i ρ - st).toNat + xs.length) := by
  intro l
  induction l with
  | nil => intro st nd x h; simp [wrRow] at h
  | cons s l ih =>
    intro st nd l' h h0 hn
    have skip : ∀ (len st' : Nat) (p : List E × List Seg), (s.cells ρ ι).length = len → st' = st + len → (st' : Int) ≤ off.i ρ → wrRow H off xs st' l = some p → nd = p.1 → l' = s :: p.2 →
        (off.i ρ - st).toNat + xs.length ≤ (cellsOf ρ ι (s :: l)).length ∧ cellsOf ρ ι l' = (cellsOf ρ ι (s :: l)).take (off.i ρ - st).toNat ++ concL ρ ι xs ++ (cellsOf ρ ι (s :: l)).drop ((off.i ρ - st).toNat + xs.length) := by
      intro len st' p hlen hst hle hp e1 e2
      subst e1; subst e2
      obtain ⟨h1, h2⟩ := ih st' _ _ hp hle hn
      have e : (off.i ρ - st).toNat = len + (off.i ρ - st').toNat := by omega
      subst hlen
      rw [cells_cons, cells_cons, h2, e, List.length_append, List.take_length_add_append, Nat.add_assoc, List.drop_length_add_append]
      refine ⟨by omega, by simp⟩
    cases s with
    | one y =>
      simp only [wrRow] at h
      split at h
      · rename_i hl
        have := atLeast_ok hH hl
        simp only [Option.map_eq_some_iff, Prod.mk.injEq] at h
        obtain ⟨p, hp, e1, e2⟩ := h
        exact skip 1 (st + 1) p rfl rfl (by push_cast; omega) hp e1.symm e2.symm
      · cases h
    | run k n A o =>
      cases n with
      | lit z =>
        simp only [wrRow] at h
        split at h
        · rename_i hc
          have := atLeast_ok hH hc.2
          simp only [Option.map_eq_some_iff, Prod.mk.injEq] at h
          obtain ⟨p, hp, e1, e2⟩ := h
          exact skip z.toNat (st + z.toNat) p (by rw [run_len, i_lit]) rfl (by push_cast; omega) hp e1.symm e2.symm
        · cases h
      | _ => simp [wrRow] at h
    | rows n fs o =>
      have wr : (match splitOff fs.length off with
          | some (j, c) => if st ≤ c ∧ (c - st) % fs.length = 0 ∧ 0 < fs.length then
              match wrAll (mkAdd j (.lit ((c - st) / fs.length + o : Nat))) fs xs with
              | some gs => some ([mkLt H (mkAdd j (.lit ((c - st) / fs.length : Nat))) n], Seg.rows n gs o :: l)
              | none => none
            else none
          | none => none) = some (nd, l') → (off.i ρ - st).toNat + xs.length ≤ (cellsOf ρ ι (Seg.rows n fs o :: l)).length ∧ cellsOf ρ ι l' = (cellsOf ρ ι (Seg.rows n fs o :: l)).take (off.i ρ - st).toNat ++ concL ρ ι xs ++ (cellsOf ρ ι (Seg.rows n fs o :: l)).drop ((off.i ρ - st).toNat + xs.length) := by
        intro h
        split at h
        · rename_i j c hsp
          split at h
          · rename_i hc
            obtain ⟨hc, hm0, hpos⟩ := hc
            split at h
            · rename_i gs hw
              simp only [Option.some.injEq, Prod.mk.injEq] at h
              obtain ⟨rfl, rfl⟩ := h
              have h1 := hn _ (.head _)
              rw [mkLt_b hH, mkAdd_i, i_lit, decide_eq_true_eq] at h1
              have ho := splitOff_ok (ρ := ρ) hpos hsp
              have hj : 0 ≤ j.i ρ + ((c - st) / fs.length : Nat) := (row_idx hpos hc h0 ho).1
              have he : (off.i ρ - st).toNat = (j.i ρ + ((c - st) / fs.length : Nat)).toNat * fs.length + (c - st) % fs.length := (row_idx hpos hc h0 ho).2
              rw [hm0, Nat.add_zero] at he
              have hlt : (j.i ρ + ((c - st) / fs.length : Nat)).toNat < (n.i ρ).toNat := by omega
              obtain ⟨w1, w2, w3⟩ := wrAll_ok (ρ := ρ) (ι := ι) hw
              have hidx : ((mkAdd j (.lit ((c - st) / fs.length + o : Nat))).i ρ).toNat = o + (j.i ρ + ((c - st) / fs.length : Nat)).toNat := by rw [mkAdd_i, i_lit]; omega
              obtain ⟨q, hq0⟩ : ∃ q, (j.i ρ + ((c - st) / fs.length : Nat)).toNat = q := ⟨_, rfl⟩
              rw [hq0] at he hlt hidx
              clear hq0 ho h1 hj
              have hfit : q * fs.length + fs.length ≤ ((Seg.rows n fs o).cells ρ ι).length := by
                rw [rows_len]
                have : (q + 1) * fs.length ≤ (n.i ρ).toNat * fs.length := Nat.mul_le_mul_right _ (by omega)
                rw [Nat.add_mul] at this; omega
              rw [he, w2]
              refine ⟨by rw [cells_cons, List.length_append]; omega, ?_⟩
              rw [cells_cons, cells_cons, List.take_append_of_le_length (by omega), List.drop_append_of_le_length (by omega), ← List.append_assoc]
              congr 1
              apply List.ext_getElem?
              intro a
              have hgl : 0 < gs.length := by omega
              rw [rows_get _ _ _ _ hgl, w1, List.append_assoc, List.getElem?_append, List.length_take, List.getElem?_take, List.getElem?_append, List.getElem?_drop, rows_get _ _ _ _ hpos, rows_get _ _ _ _ hpos]
              have hcl : (concL ρ ι xs).length = fs.length := by simp [concL, w2]
              rw [hcl, Nat.min_eq_left (by omega)]
              have ham := Nat.mod_lt a hpos
              have hae := Nat.div_add_mod' a fs.length
              by_cases hin : q * fs.length ≤ a ∧ a < q * fs.length + fs.length
              · have hq : a / fs.length = q := by
                  have : a = fs.length * q + (a - q * fs.length) := by rw [Nat.mul_comm]; omega
                  rw [this, Nat.mul_add_div hpos, Nat.div_eq_of_lt (by omega)]; rfl
                have hr : a % fs.length = a - q * fs.length := by rw [hq] at hae; omega
                rw [hq, hr, if_pos hlt, if_neg (by omega), if_pos (by omega)]
                have hgx : a - q * fs.length < gs.length := by omega
                obtain ⟨d, x, e1, e2, e3⟩ := w3 _ _ (List.getElem?_eq_getElem hgx)
                rw [List.getElem?_eq_getElem hgx, Option.map_some, e3, hidx, if_pos rfl, concL, List.getElem?_map, e2]; rfl
              · have hq : a / fs.length ≠ q := by
                  intro hh
                  rw [hh] at hae; omega
                have same : (if a / fs.length < (n.i ρ).toNat then Option.map (fun f => XF.conc ρ f (o + a / fs.length)) gs[a % fs.length]? else none) = (if a / fs.length < (n.i ρ).toNat then Option.map (fun f => XF.conc ρ f (o + a / fs.length)) fs[a % fs.length]? else none) := by
                  congr 1
                  have hgx : a % fs.length < gs.length := by omega
                  obtain ⟨d, x, e1, e2, e3⟩ := w3 _ _ (List.getElem?_eq_getElem hgx)
                  rw [List.getElem?_eq_getElem hgx, e1, Option.map_some, Option.map_some, e3, hidx, if_neg (fun hh => hq (Nat.add_left_cancel hh))]
                rw [same]
                by_cases hlo : a < q * fs.length
                · rw [if_pos hlo, if_pos hlo]
                · rw [if_neg hlo, if_neg (show ¬ a - q * fs.length < fs.length by omega), show q * fs.length + fs.length + (a - q * fs.length - fs.length) = a by omega]
            · cases h
          · cases h
        · cases h
      cases n with
      | lit z =>
        simp only [wrRow] at h
        split at h
        · rename_i hc
          have hl := atLeast_ok hH hc.2
          have hz : (z.toNat * fs.length : Int) = z * fs.length := by rw [Int.toNat_of_nonneg hc.1]
          simp only [Option.map_eq_some_iff, Prod.mk.injEq] at h
          obtain ⟨p, hp, e1, e2⟩ := h
          exact skip (z.toNat * fs.length) (st + z.toNat * fs.length) p (by rw [rows_len, i_lit]) rfl (by push_cast; omega) hp e1.symm e2.symm
        · exact wr h
      | _ => exact wr h

/-- some cells of a known block are written -/
theorem MRep.write (hm : MRep ρ β ι m w) {b : Nat} {B : Blk} (hB : m[b]? = some B) (hd : B.dead = false) (hwr : B.wr = true) (o : Nat) (vs : List Value) (segs : List Seg) (hvs : ∀ u ∈ vs, u.oneCell' = true)
    (hpos : 0 < vs.length) (hle : o + vs.length ≤ (cellsOf ρ ι B.segs).length) (hcs : cellsOf ρ ι segs = (cellsOf ρ ι B.segs).take o ++ vs ++ (cellsOf ρ ι B.segs).drop (o + vs.length)) :
    ∃ w', (storeCells ⟨ι b, o, none⟩ vs).run P w = .ok () w' ∧ MRep ρ β ι (m.set b { B with segs := segs }) w' := by
  have hn : ι.nil b = false := by
    cases h : ι.nil b with
    | false => rfl
    | true => rw [(hm.nils b B hB hd h).2] at hle; simp only [List.length_nil] at hle; omega
  obtain ⟨fz, rest, h1, h2, h3, h4⟩ := hm.blk b B hB hd hn
  have hfz := h2 hwr
  have hst := run_storeCells_blk P (ι b) o B.ty fz hfz vs 0 _ _ h1 hvs (by rw [List.length_append]; omega)
  have hnew : (cellsOf ρ ι B.segs ++ rest).take (o + 0) ++ vs ++ (cellsOf ρ ι B.segs ++ rest).drop (o + 0 + vs.length) = cellsOf ρ ι segs ++ rest := by
    rw [Nat.add_zero, List.take_append_of_le_length (by omega), List.drop_append_of_le_length (by omega), hcs]; simp
  rw [hnew] at hst
  refine ⟨_, hst, hm.setBlk hB hd hn segs rest hfz (fun sz hs => ?_) h4⟩
  have hlen : (cellsOf ρ ι segs).length = (cellsOf ρ ι B.segs).length := by
    rw [hcs]; simp; omega
  have := h3 sz hs
  simp only [List.length_append] at this ⊢
  rw [hlen]; exact this

theorem unroll_ok : ∀ {l : List Seg} {xs : List S}, unroll l = some xs → cellsOf ρ ι l = xs.map (S.conc ρ ι)
  | [], xs, h => by simp only [unroll, Option.some.injEq] at h; subst h; rfl
  | .one x :: r, xs, h => by
    simp only [unroll, Option.map_eq_some_iff] at h
    obtain ⟨l, h1, rfl⟩ := h
    rw [cells_cons, cells_one, unroll_ok h1]; rfl
  | .run k n A o :: r, xs, h => by
    cases n with
    | lit z =>
      simp only [unroll] at h
      split at h
      · simp only [Option.map_eq_some_iff] at h
        obtain ⟨l, h1, rfl⟩ := h
        rw [cells_cons, unroll_ok h1, List.map_append, List.map_map]
        congr 1
        simp only [Seg.cells, i_lit]
        refine List.map_congr_left fun j _ => ?_
        simp only [Function.comp_def, S.conc, mkSel_i H0_ok, i_lit, Int.toNat_natCast]
      · cases h
    | _ => simp [unroll] at h
  | .rows n fs o :: r, xs, h => by simp [unroll] at h
theorem cells_ones : ∀ l : List S, cellsOf ρ ι (ones l) = l.map (S.conc ρ ι)
  | [] => rfl
  | x :: l => by
    have := cells_ones l
    unfold ones at this ⊢
    rw [List.map_cons, cells_cons, cells_one, this]; rfl
theorem ones_sc {k : Nat} {l : List S} (h : l.all (S.sc k) = true) : (ones l).all (Seg.sc k) = true := by
  simp only [ones, List.all_map]; exact h
theorem plain_map {l : List S} (h : l.all S.plain = true) : ∀ u ∈ l.map (S.conc ρ ι), u.oneCell' = true := fun u hu => by
  obtain ⟨x, hx, rfl⟩ := List.mem_map.1 hu
  exact plain_one (List.all_eq_true.1 h x hx)
/-- a known block's cells in the world -/
theorem MRep.cell_at (hm : MRep ρ β ι m w) {b : Nat} {B : Blk} (hB : m[b]? = some B) (hd : B.dead = false) (hn : ι.nil b = false) {l : List S} (hl : unroll B.segs = some l) (o j : Nat) (v : Value) (h : ((l.map (S.conc ρ ι)).drop o)[j]? = some v) :
    w.cell? ((⟨ι b, o, none⟩ : Addr).add j) = some v := by
  obtain ⟨fz, rest, h1, _⟩ := hm.blk b B hB hd hn
  rw [unroll_ok hl] at h1
  rw [List.getElem?_drop] at h
  have hlt := (List.getElem?_eq_some_iff.1 h).1
  have e : w.cell? ((⟨ι b, o, none⟩ : Addr).add j) = ((l.map (S.conc ρ ι)) ++ rest)[o + j]? := by rw [Addr.add_lit]; simp [World.cell?, h1]
  rw [e, List.getElem?_append_left hlt, h]
theorem rowOf_ok (hm : MRep ρ β ι m w) {sz : Nat} (hsz : 0 < sz) {x : SV} {xs : List S} (h : rowOf m sz x = some xs) :
    (xs = [] ∧ ∃ base c, x.conc ρ ι = .slice base 0 c) ∨ (xs ≠ [] ∧ ∃ a n c, x.conc ρ ι = .slice (some a) n c ∧ 0 < n ∧ xs.length = n * sz ∧ ∀ j v, (xs.map (S.conc ρ ι))[j]? = some v → w.cell? (a.add j) = some v) := by
  unfold rowOf at h
  split at h
  · simp only [Option.some.injEq] at h; subst h
    exact .inl ⟨rfl, _, _, rfl⟩
  · rename_i b o n c
    split at h
    · rename_i B hB
      split at h
      · rename_i l hl
        split at h
        · rename_i hc
          obtain ⟨hd, ho, hn0, hle⟩ := hc
          simp only [Option.some.injEq] at h; subst h
          by_cases hz : n.toNat = 0
          · left
            refine ⟨by rw [hz]; simp, ?_⟩
            cases c with
            | kn e => exact ⟨some (addr ρ ι b (.lit o)), (e.i ρ).toNat, by simp only [SV.conc, S.conc, i_lit, hz]⟩
            | op e =>
              simp only [SV.conc, S.conc, i_lit, hz]
              split
              · exact ⟨_, _, rfl⟩
              · exact ⟨_, _, rfl⟩
          · right
            have hpos : 0 < n.toNat * sz := Nat.mul_pos (by omega) hsz
            have hnil : ι.nil b = false := by
              cases hh : ι.nil b with
              | false => rfl
              | true =>
                have := (hm.nils b B hB hd hh).2
                rw [unroll_ok hl] at this
                have := congrArg List.length this
                simp at this
                subst this; simp at hle; omega
            have hlen : ((l.drop o.toNat).take (n.toNat * sz)).length = n.toNat * sz := by simp; omega
            refine ⟨fun hx => by rw [hx] at hlen; simp at hlen; omega, addr ρ ι b (.lit o), n.toNat, ?_⟩
            have hcell : ∀ j v, (((l.drop o.toNat).take (n.toNat * sz)).map (S.conc ρ ι))[j]? = some v → w.cell? ((addr ρ ι b (.lit o)).add j) = some v := by
              intro j v hj
              refine hm.cell_at hB hd hnil hl o.toNat j v ?_
              rw [List.map_take, List.getElem?_take] at hj
              split at hj
              · rw [← List.map_drop]; exact hj
              · cases hj
            cases c with
            | kn e => exact ⟨(e.i ρ).toNat, by simp only [SV.conc, S.conc, i_lit], by omega, hlen, hcell⟩
            | op e => exact ⟨ι.cap b - (e.i ρ).toNat, by simp only [SV.conc, S.conc, i_lit, hnil, Bool.false_eq_true, false_and, if_false], by omega, hlen, hcell⟩
        · cases h
      · cases h
    · cases h
  · cases h
/-- the same block under a new number -/
theorem MRep.alias (hm : MRep ρ β ι m w) {b : Nat} {B : Blk} (hB : m[b]? = some B) (hd : B.dead = false) (hs : m.all (fun B => B.segs.all (Seg.sc m.length)) = true) :
    MRep ρ β (updL ι m.length (ι b) (ι.cap b) (ι.nil b)) ((m.set b { B with dead := true }) ++ [B]) w := by
  have hb : b < m.length := (List.getElem?_eq_some_iff.1 hB).1
  have hag := updL_lt ι m.length (ι b) (ι.cap b) (ι.nil b)
  have heq : (updL ι m.length (ι b) (ι.cap b) (ι.nil b)).pos m.length = ι b ∧ (updL ι m.length (ι b) (ι.cap b) (ι.nil b)).cap m.length = ι.cap b ∧ (updL ι m.length (ι b) (ι.cap b) (ι.nil b)).nil m.length = ι.nil b := by simp [updL]
  have at_ : ∀ {i : Nat} {C : Blk}, ((m.set b { B with dead := true }) ++ [B])[i]? = some C → C.dead = false → (i < m.length ∧ i ≠ b ∧ m[i]? = some C) ∨ (i = m.length ∧ C = B) := by
    intro i C h hCd
    by_cases hi : i < m.length
    · rw [List.getElem?_append_left (by simpa using hi), List.getElem?_set] at h
      split at h
      · rename_i hbi; subst hbi
        simp only [hb, if_true, Option.some.injEq] at h
        subst h; cases hCd
      · rename_i hbi; exact .inl ⟨hi, fun e => hbi e.symm, h⟩
    · rw [List.getElem?_append_right (by simp; omega)] at h
      have h0 := (List.getElem?_eq_some_iff.1 h).1
      simp at h0
      have : i = m.length := by omega
      subst this
      simp at h
      exact .inr ⟨rfl, h.symm⟩
  have scB : ∀ {i : Nat} {C : Blk}, m[i]? = some C → cellsOf ρ (updL ι m.length (ι b) (ι.cap b) (ι.nil b)) C.segs = cellsOf ρ ι C.segs := fun hC =>
    (cellsOf_congr hag (List.all_eq_true.1 hs _ (List.mem_of_getElem? hC))).symm
  refine ⟨fun i j C D hC hD hCd hDd hCn hDn he => ?_, fun i C hC hCd hCn => ?_, fun i C hC hCd hCn => ?_, (hag.mono hm.len).symm.trans hm.agr, by have := hm.len; simp; omega, fun i hi hi' => ?_, hm.size, fun x hx hi => ?_, hm.os, hm.tape, hm.output, hm.xt, fun i j a n' c' hv h0 k hk => ?_⟩
  · rcases at_ hC hCd with ⟨hi, hib, hC2⟩ | ⟨rfl, rfl⟩ <;> rcases at_ hD hDd with ⟨hj, hjb, hD2⟩ | ⟨rfl, rfl⟩
    · rw [← (hag i hi).1, ← (hag j hj).1] at he
      rw [← (hag i hi).2.2] at hCn
      rw [← (hag j hj).2.2] at hDn
      exact hm.inj i j C D hC2 hD2 hCd hDd hCn hDn he
    · rw [← (hag i hi).2.2] at hCn
      rw [heq.2.2] at hDn
      rw [← (hag i hi).1, heq.1] at he
      exact absurd (hm.inj i b C _ hC2 hB hCd hd hCn hDn he) hib
    · rw [← (hag j hj).2.2] at hDn
      rw [heq.2.2] at hCn
      rw [← (hag j hj).1, heq.1] at he
      exact absurd (hm.inj b j _ D hB hD2 hd hDd hCn hDn he).symm hjb
    · rfl
  · rcases at_ hC hCd with ⟨hi, hib, hC2⟩ | ⟨rfl, rfl⟩
    · rw [← (hag i hi).2.2] at hCn
      obtain ⟨fz, rest, h1, h2⟩ := hm.blk i C hC2 hCd hCn
      rw [← (hag i hi).1, ← (hag i hi).2.1, scB hC2]
      exact ⟨fz, rest, h1, h2⟩
    · rw [heq.2.2] at hCn
      obtain ⟨fz, rest, h1, h2⟩ := hm.blk b _ hB hd hCn
      rw [heq.1, heq.2.1, scB hB]
      exact ⟨fz, rest, h1, h2⟩
  · rcases at_ hC hCd with ⟨hi, hib, hC2⟩ | ⟨rfl, rfl⟩
    · rw [← (hag i hi).2.2] at hCn
      rw [scB hC2]; exact hm.nils i C hC2 hCd hCn
    · rw [heq.2.2] at hCn
      rw [scB hB]; exact hm.nils b _ hB hd hCn
  · by_cases hc : i < m.length
    · rw [← (hag i hc).1]
      rcases hm.new i hi hc with hn | ⟨j, hj, hn⟩
      · exact .inl hn
      · exact .inr ⟨j, hj, by rw [hn]; exact (hag j (Nat.lt_of_lt_of_le hj hm.len)).1⟩
    · have : i = m.length := by simp at hi'; omega
      subst this
      rw [heq.1]
      by_cases hbk : b < β.k
      · exact .inr ⟨b, hbk, (hag b hb).1⟩
      · rcases hm.new b (Nat.not_lt.1 hbk) hb with hn | ⟨j, hj, hn⟩
        · exact .inl hn
        · exact .inr ⟨j, hj, hn.trans (hag j (Nat.lt_of_lt_of_le hj hm.len)).1⟩
  · refine hm.old x hx fun i hi' => ?_
    have := hi i (by simp; omega)
    rwa [← (hag i hi').1] at this
  · by_cases hc : k < m.length
    · rw [← (hag k hc).1]; exact hm.xd i j a n' c' hv h0 k hc
    · have : k = m.length := by simp at hk; omega
      subst this
      rw [heq.1]; exact hm.xd i j a n' c' hv h0 b hb
/-- a block is forgotten -/
theorem MRep.forget (hm : MRep ρ β ι m w) {b : Nat} {B : Blk} (hB : m[b]? = some B) : MRep ρ β ι (m.set b { B with dead := true }) w := by
  have at_ : ∀ {i : Nat} {C : Blk}, (m.set b { B with dead := true })[i]? = some C → C.dead = false → m[i]? = some C := by
    intro i C h hCd
    rw [List.getElem?_set] at h
    split at h
    · split at h
      · simp only [Option.some.injEq] at h; subst h; cases hCd
      · cases h
    · exact h
  exact ⟨fun i j C D hC hD hCd hDd => hm.inj i j C D (at_ hC hCd) (at_ hD hDd) hCd hDd, fun i C hC hCd => hm.blk i C (at_ hC hCd) hCd, fun i C hC hCd => hm.nils i C (at_ hC hCd) hCd, hm.agr, by simpa using hm.len, fun i h1 h2 => hm.new i h1 (by simpa using h2), hm.size,
    fun x hx hi => hm.old x hx fun i hi' => hi i (by simpa using hi'), hm.os, hm.tape, hm.output, hm.xt, fun i j a n' c' hv h0 k hk => hm.xd i j a n' c' hv h0 k (by simpa using hk)⟩
theorem wStore_ok (hH : H.ok ρ) (hm : MRep ρ β ι m w) {t : TypeId} {p x : SV} {nd : List E} {v : SV} {m' : Mem} (h : wStore P H m t p x = some (nd, v, m')) (hn : allN ρ nd) :
    ∃ w', (Instr.storeAt t (p.conc ρ ι) (x.conc ρ ι)).run P w = .ok () w' ∧ MRep ρ β ι m' w' ∧ v = .undef := by
  unfold wStore at h
  split at h
  · rename_i b off
    split at h
    · rename_i B l hB hl
      have hx := segsOf_ok (ρ := ρ) (ι := ι) hl
      split at h
      · rename_i hwr
        obtain ⟨hwr, hd⟩ := hwr
        split at h
        · rename_i n l0 o hs ho
          split at h
          · rename_i hlen
            split at h
            · rename_i l1 l2 ht hdr
              simp only [Option.some.injEq, Prod.mk.injEq] at h
              obtain ⟨rfl, rfl, rfl⟩ := h
              have e1 := takeSegs_ok (ρ := ρ) (ι := ι) _ _ _ ht
              have e2 := dropSegs_ok (ρ := ρ) (ι := ι) _ _ _ hdr
              have e3 := segsLen_ok (ρ := ρ) (ι := ι) hlen.1
              have hcs : cellsOf ρ ι (l1 ++ l ++ l2) = (cellsOf ρ ι B.segs).take o ++ cellsOf ρ ι l ++ (cellsOf ρ ι B.segs).drop (o + (cellsOf ρ ι l).length) := by
                rw [cells_append, cells_append, e1.1, e2.1, e3]
              obtain ⟨w', hst, hm'⟩ := hm.write (P := P) hB hd hwr o (cellsOf ρ ι l) (l1 ++ l ++ l2) hx.2 (by omega) (by omega) hcs
              refine ⟨w', ?_, hm', rfl⟩
              rw [litN_some ho]
              have hsv := run_storeVar (w := w) (p := addr ρ ι b (.lit o)) hs hx.1 e3
              show (Instr.storeAt t (.pointer (some (addr ρ ι b (.lit o)))) (SV.conc ρ ι (.agg l0))).run P w = _
              rw [show (Instr.storeAt t (.pointer (some (addr ρ ι b (.lit o)))) (SV.conc ρ ι (.agg l0))) = storeVar t (addr ρ ι b (.lit o)) (SV.conc ρ ι (.agg l0)) from rfl, hsv]
              exact hst
            · cases h
          · cases h
        · rename_i n l0 hs ho
          split at h
          · rename_i xs hxs
            split at h
            · rename_i hxn
              simp only [Option.map_eq_some_iff, Prod.mk.injEq] at h
              obtain ⟨r, hr, rfl, rfl, rfl⟩ := h
              have h0 := hn _ (.head _)
              rw [mkLe_b hH, i_lit, decide_eq_true_eq] at h0
              have hl0 := onesOf_ok (ρ := ρ) (ι := ι) hxs
              have hlen : (cellsOf ρ ι l).length = n := by rw [hl0]; simp [concL, hxn]
              by_cases hpos : 0 < xs.length
              · have h3 := wrRow_ok (ι := ι) hH off xs hpos B.segs 0 r.1 r.2 hr (by omega) (fun e he => hn e (.tail _ he))
                have hoo : (off.i ρ - ((0 : Nat) : Int)).toNat = (off.i ρ).toNat := by congr 1; omega
                rw [hoo, ← hl0, show xs.length = (cellsOf ρ ι l).length by rw [hl0]; simp [concL]] at h3
                obtain ⟨w', hst, hm'⟩ := hm.write (P := P) hB hd hwr (off.i ρ).toNat (cellsOf ρ ι l) r.2 hx.2 (by omega) h3.1 h3.2
                refine ⟨w', ?_, hm', rfl⟩
                have hsv := run_storeVar (w := w) (p := addr ρ ι b off) hs hx.1 hlen
                show (Instr.storeAt t (.pointer (some (addr ρ ι b off))) (SV.conc ρ ι (.agg l0))).run P w = _
                rw [show (Instr.storeAt t (.pointer (some (addr ρ ι b off))) (SV.conc ρ ι (.agg l0))) = storeVar t (addr ρ ι b off) (SV.conc ρ ι (.agg l0)) from rfl, hsv]
                exact hst
              · exfalso
                have hxe : xs = [] := List.length_eq_zero_iff.1 (by omega)
                subst hxe
                exact wrRow_nil hr
            · cases h
          · cases h
        · rename_i y hs
          simp only [Option.map_eq_some_iff, Prod.mk.injEq] at h
          obtain ⟨r, hr, rfl, rfl, rfl⟩ := h
          have h0 := hn _ (.head _)
          rw [mkLe_b hH, i_lit, decide_eq_true_eq] at h0
          have h3 := wrSeg_ok (ι := ι) hH off y B.segs 0 r.1 r.2 hr (by omega) (fun e he => hn e (.tail _ he))
          have ho : (off.i ρ - ((0 : Nat) : Int)).toNat = (off.i ρ).toNat := by congr 1; omega
          rw [ho] at h3
          have hl1 : cellsOf ρ ι l = [y.conc ρ ι] := by
            unfold segsOf at hl
            simp only at hl
            split at hl
            · simp only [Option.some.injEq] at hl; subst hl; simp [cellsOf, Seg.cells]
            · cases hl
          have hcs : cellsOf ρ ι r.2 = (cellsOf ρ ι B.segs).take (off.i ρ).toNat ++ [y.conc ρ ι] ++ (cellsOf ρ ι B.segs).drop ((off.i ρ).toNat + [y.conc ρ ι].length) := by
            rw [h3.2]
            apply List.ext_getElem?
            intro j
            simp only [List.getElem?_append, List.length_append, List.length_take, List.getElem?_take, List.getElem?_set, List.getElem?_drop, List.length_singleton]
            by_cases c1 : j < (off.i ρ).toNat
            · rw [if_neg (by omega), if_pos (by omega), if_pos (by omega), if_pos c1]
            · by_cases c2 : j = (off.i ρ).toNat
              · subst c2; rw [if_pos rfl, if_pos h3.1, if_pos (by omega), if_neg (by omega), show (off.i ρ).toNat - min (off.i ρ).toNat (cellsOf ρ ι B.segs).length = 0 by omega]; rfl
              · rw [if_neg (by omega), if_neg (by omega)]; congr 1; omega
          obtain ⟨w', hst, hm'⟩ := hm.write (P := P) hB hd hwr (off.i ρ).toNat [y.conc ρ ι] r.2 (by rw [← hl1]; exact hx.2) (by simp) (by simp; omega) hcs
          refine ⟨w', ?_, hm', rfl⟩
          have hsv := run_storeVar (w := w) (p := addr ρ ι b off) (vs := [y.conc ρ ι]) hs (by rw [← hl1]; exact hx.1) rfl
          show (Instr.storeAt t (.pointer (some (addr ρ ι b off))) (SV.conc ρ ι (.s y))).run P w = _
          rw [show (Instr.storeAt t (.pointer (some (addr ρ ι b off))) (SV.conc ρ ι (.s y))) = storeVar t (addr ρ ι b off) (SV.conc ρ ι (.s y)) from rfl, hsv]
          exact hst
        · cases h
      · cases h
    · cases h
  · cases h

theorem wop_ok (hH : H.ok ρ) (hm : MRep ρ β ι m w) (hf : FRep ρ ι n fr a) {o : Oper} {nd : List E} {v : SV} {m' : Mem} (h : wop P H fr m o.op = some (nd, v, m')) (hn : allN ρ nd) :
    ∃ x w', ((execOp a.eval o).run P w = .ok (.value x) w' ∨ (execOp a.eval o).run P w = .ok .skip w' ∧ x = Go.undef) ∧ After ρ β ι n fr m m' a v x w' := by
  have hG : allT ρ [] := fun e he => by cases he
  unfold wop at h
  split at h
  · rename_i ty x ho
    split at h
    · rename_i u hu
      split at h
      · rename_i l hl
        refine ⟨_, _, .inl ?_, newBlk_ok hm hf h⟩
        simp [execOp, ho, opnd_ok hf hG hu, Instr.box, newVar, newRow, (segsOf_ok (ρ := ρ) (ι := ι) hl).1]
      · cases h
    · cases h
  · rename_i ty ho
    split at h
    · rename_i u hu
      split at h
      · rename_i l hl
        refine ⟨_, _, .inl ?_, newBlk_ok hm hf h⟩
        simp [execOp, ho, Instr.alloc, zeroT_ok (ρ := ρ) (ι := ι) hu, newVar, newRow, (segsOf_ok (ρ := ρ) (ι := ι) hl).1]
      · cases h
    · cases h
  · rename_i t p x ho
    split at h
    · rename_i u v' hu hv
      obtain ⟨w', h1, h2, rfl⟩ := wStore_ok (P := P) hH hm h hn
      refine ⟨_, w', .inr ⟨?_, rfl⟩, ι, rfl, hf, h2⟩
      simp [execOp, ho, opnd_ok hf hG hu, opnd_ok hf hG hv, h1]
    · cases h
  · rename_i t len parts ho
    split at h
    · rename_i e l he hl
      split at h
      · rename_i k hk
        split at h
        · rename_i hsz
          split at h
          · rename_i segs hr
            split at h
            · rename_i hp
              simp only [Option.map_eq_some_iff, Prod.mk.injEq] at h
              obtain ⟨⟨nd', v', m2⟩, hb, rfl, rfl, rfl⟩ := h
              obtain ⟨ι', h1, h2, h3⟩ := newBlk_ok (ty := e) hm hf hb
              have hrow := qRow_ok (ρ := ρ) (ι := ι) (w := w) hr
              have hparts : (parts.map fun (p : Nat × Operand) => (p.1, a.eval p.2)).toList = (parts.toList.map (·.1)).zip (l.map (SV.conc ρ ι)) := by
                rw [← opnds_ok hf hG hl, Array.toList_map, List.map_map, List.zip_map', Function.comp_def]
              refine ⟨.slice (some ⟨w.heap.size, 0, none⟩) len len, _, .inl ?_, ι', ?_, h2, h3⟩
              · obtain ⟨hne, z, hz, hfill⟩ := hrow
                have hbs : (Instr.buildSlice t len (parts.map fun (p : Nat × Operand) => (p.1, a.eval p.2))).run P w = .ok (.slice (some ⟨w.heap.size, 0, none⟩) len len) { w with heap := w.heap.push (.cells (cellsOf ρ ι segs).toArray e) } := by
                  unfold Instr.buildSlice
                  have hns : ¬ len * k > 2 ^ 24 := by omega
                  simp only [Sem.run_bind, run_underlying (slcT_some he), Result.andThen_ok, sizeT_some hk]
                  rw [if_neg hns, if_neg hne]
                  simp only [Sem.run_bind, Sem.run_pure, hz, Result.andThen_ok]
                  rw [hparts, hfill]
                  simp [newRow]
                simp only [execOp, ho]
                rw [Sem.run_bind]
                have e1 : (parts.map fun (x : Nat × Operand) => match x with | (i, x) => (i, a.eval x)) = (parts.map fun (p : Nat × Operand) => (p.1, a.eval p.2)) := rfl
                rw [e1, hbs]; rfl
              · have hv := newBlk_v hb
                subst hv
                simp only [SV.conc, S.conc, addr, i_lit, Value.pointer.injEq, Option.some.injEq, Addr.mk.injEq] at h1 ⊢
                simp [h1.1]
            · cases h
          · cases h
        · cases h
      · cases h
    · cases h
  · cases h
end

/-! ### calls by what is known of them; regions -/

/-- What is known of functions: conditions, the value, the memory behind the call (none: as it was). -/
abbrev Ctx := FuncId → Hyp → List SV → Mem → Option (List E × SV × Option Mem)

structure CtxOK (P : Program) (I : Interp) (Γ : Ctx) : Prop where
  ok : ∀ f H l m nd v om, Γ f H l m = some (nd, v, om) → ∀ (ρ : Env) (β : Base) (ι : Loc) (w : World), ρ.I = I → H.ok ρ → allN ρ nd → MRep ρ β ι m w →
    Calls P f (l.map (SV.conc ρ ι)).toArray w fun e w' => match om with
      | none => e = .returned (v.conc ρ ι) ∧ MRep ρ β ι m w'
      | some m' => ∃ ι', Loc.agree m.length ι ι' ∧ e = .returned (v.conc ρ ι') ∧ MRep ρ β ι' m' w'

def okFn (P : Program) (f : FuncId) : Bool := match P.funcs[f]? with | some fn => !(fn.name == "runtime.NumGoroutine") && fn.body.isSome | none => false

def callOf (P : Program) (G : List E) (fr : Fr) : Op → Option (FuncId × List SV)
  | .call ⟨.value x, args, _⟩ => match opnd G fr x, opnds G fr args.toList with
    | some (.s (.fn f caps)), some l => if okFn P f then some (f, l ++ caps.map fun p => .s (.ptr p.1 p.2)) else none
    | _, _ => none
  | _ => none

def exec1 (P : Program) (Γ : Ctx) (quiet : Bool) (H : Hyp) (G : List E) (fr : Fr) (m : Mem) (o : Op) : Option (List E × SV × Option Mem) :=
  match qop P H G fr m o with
  | some (nd, v) => some (nd, v, none)
  | none => match callOf P G fr o with
    | some (f, l) => match Γ f H l m with
      | some (nd, v, none) => some (nd, v, none)
      | some (nd, v, some m') => if quiet then none else if fr.all (fun f => f.x.sc m.length) then some (nd, v, some m') else none
      | none => none
    | none => if quiet then none else match wop P H fr m o with
      | some (nd, v, m') => some (nd, v, some m')
      | none => none

inductive GS where
  | go (G : List E) | now (G : List E) | skip | bad
def guardOf (ops : Array Oper) (fr : Fr) (o : Oper) : GS :=
  match o.guard with
  | none => .go []
  | some (j, want) => match (ops[j]?).bind (·.dst) with
    | none => .bad
    | some t => match look fr t with
      | some (g, .s (.bool (.blit b))) => if b = want then .go g else .skip
      | some (g, .s (.bool e)) => .go ((if want then e else mkNot e) :: g)
      | some (_, .s .undef) => .skip
      | _ => .bad

/-- the guard, by what is known -/
def guardH (H : Hyp) (ops : Array Oper) (fr : Fr) (o : Oper) : GS := match guardOf ops fr o with
  | .go G => if G.any (fun g => decide (decB H g = .blit false)) then .skip else if G.all (fun g => decide (decB H g = .blit true)) then .now G else .go G
  | .now _ => .bad
  | x => x

def put (n : Nat) (fr : Fr) (dst : Option Tmp) (g : List E) (v : SV) : Option Fr :=
  match dst with
  | none => some fr
  | some t => if t < n then some (⟨t, g, v⟩ :: fr) else none

def imp (G : List E) (e : E) : E := G.foldr (fun g r => mkOr (mkNot g) r) e
def addFs (l : List E) (H : Hyp) : Hyp := l.foldl (fun H e => addF true e H) H

def opStep (P : Program) (Γ : Ctx) (quiet : Bool) (n : Nat) (ops : Array Oper) (o : Oper) (H : Hyp) (fr : Fr) (m : Mem) : Option (List E × Hyp × Fr × Mem) :=
  match guardH H ops fr o with
  | .bad => none
  | .skip => (put n fr o.dst [] .undef).map fun fr' => ([], H, fr', m)
  | .now _ => match exec1 P Γ quiet H [] fr m o.op with
    | some (nd, v, om) => (put n fr o.dst [] v).map fun fr' => (needs nd, addFs (needs nd) H, fr', om.getD m)
    | none => none
  | .go G => match exec1 P Γ true (addFs G H) G fr m o.op with
    | some (nd, v, _) => (put n fr o.dst G v).map fun fr' => (needs (nd.map (imp G)), H, fr', m)
    | none => none

def rops (P : Program) (Γ : Ctx) (quiet : Bool) (n : Nat) (ops : Array Oper) : List Oper → Hyp → Fr → Mem → Option (List E × Hyp × Fr × Mem)
  | [], H, fr, m => some ([], H, fr, m)
  | o :: l, H, fr, m => match opStep P Γ quiet n ops o H fr m with
    | some (nd, H', fr', m') => match rops P Γ quiet n ops l H' fr' m' with
      | some (nd', r) => some (nd ++ nd', r)
      | none => none
    | none => none

section
variable {ρ : Env} {ι : Loc} {H : Hyp} {P : Program} {Γ : Ctx} {w : World} {β : Base} {m : Mem} {fr : Fr} {n : Nat} {a : Act} {G : List E} {ops : Array Oper}

theorem addFs_ok : ∀ (l : List E) (H : Hyp), H.ok ρ → allN ρ l → (addFs l H).ok ρ
  | [], _, hH, _ => hH
  | e :: l, H, hH, h => addFs_ok l _ (addF_ok e true H hH (h e (.head _))) (fun x hx => h x (.tail _ hx))
theorem imp_ok : ∀ (G : List E) (e : E), (imp G e).b ρ = true → allT ρ G → e.b ρ = true
  | [], e, h, _ => h
  | g :: G, e, h, hG => by
    simp only [imp, List.foldr_cons, mkOr_b, mkNot_b, hG g (.head _), Bool.not_true, Bool.false_or] at h
    exact imp_ok G e h (fun x hx => hG x (.tail _ hx))

theorem callOf_ok (hf : FRep ρ ι n fr a) (hG : allT ρ G) {o : Oper} {f : FuncId} {l : List SV} (h : callOf P G fr o.op = some (f, l)) :
    (execOp a.eval o).run P w = .ok (.enter f (l.map (SV.conc ρ ι)).toArray) w := by
  unfold callOf at h
  split at h
  · rename_i x args ts ho
    split at h
    · rename_i f' caps l' hx hl
      split at h
      · rename_i hok
        simp only [Option.some.injEq, Prod.mk.injEq] at h
        obtain ⟨rfl, rfl⟩ := h
        have e1 : args.map a.eval = (l'.map (SV.conc ρ ι)).toArray := by rw [← opnds_ok hf hG hl, ← Array.toList_map]
        unfold okFn at hok
        split at hok
        · rename_i fn hfn
          simp only [Bool.and_eq_true, Bool.not_eq_true'] at hok
          have hb : fn.body.isNone = false := by
            cases hbb : fn.body <;> simp_all
          have hc : ∀ vs : Array Value, (callFunc f' vs).run P w = .ok (.enter f' vs) w := by
            intro vs
            unfold callFunc
            rw [Sem.run_bind, run_program, Result.andThen_ok]
            simp only [hfn, hok.1, hb]
            rfl
          simp [execOp, ho, resolve, opnd_ok hf hG hx, SV.conc, S.conc, Deferred.ofValue, invoke, e1, hc, Function.comp_def]
        · cases hok
      · cases h
    · cases h
  · cases h

theorem upon_value {o : Oper} {K : Act → World → Prop} {Q : Exit → Act → World → Prop} {v : Value} {w' : World}
    (h : (execOp a.eval o).run P w = .ok (.value v) w') (hK : K (a.put o.dst v) w') : o.wp P a w K Q := by
  unfold Oper.wp; rw [h]; exact hK

theorem exec1_ok {I : Interp} (hΓ : CtxOK P I Γ) (hI : ρ.I = I) (hH : H.ok ρ) (hm : MRep ρ β ι m w) (hf : FRep ρ ι n fr a) {quiet : Bool} {o : Oper} {nd : List E} {v : SV} {om : Option Mem}
    (h : exec1 P Γ quiet H [] fr m o.op = some (nd, v, om)) (hn : allN ρ nd) {K : Act → World → Prop} {Q : Exit → Act → World → Prop}
    (hK : ∀ ι' w', FRep ρ ι' n fr a → MRep ρ β ι' (om.getD m) w' → K (a.put o.dst (v.conc ρ ι')) w') : o.wp P a w K Q := by
  have hG : allT ρ [] := fun e he => by cases he
  unfold exec1 at h
  split at h
  · rename_i nd' v' hq
    simp only [Option.some.injEq, Prod.mk.injEq] at h
    obtain ⟨rfl, rfl, rfl⟩ := h
    exact upon_value (qop_ok hH hm hf hG hq hn) (hK ι w hf hm)
  · split at h
    · rename_i f l hc
      have hcall := callOf_ok (w := w) hf hG hc
      unfold Oper.wp
      rw [hcall]
      show Calls P f _ w _
      split at h
      · rename_i nd' v' hg
        simp only [Option.some.injEq, Prod.mk.injEq] at h
        obtain ⟨rfl, rfl, rfl⟩ := h
        refine (hΓ.ok _ _ _ _ _ _ _ hg ρ β ι w hI hH hn hm).mono fun e w' hr => ?_
        obtain ⟨rfl, hm'⟩ := hr
        exact hK ι w' hf hm'
      · rename_i nd' v' m' hg
        split at h
        · cases h
        · split at h
          · rename_i hs
            simp only [Option.some.injEq, Prod.mk.injEq] at h
            obtain ⟨rfl, rfl, rfl⟩ := h
            refine (hΓ.ok _ _ _ _ _ _ _ hg ρ β ι w hI hH hn hm).mono fun e w' hr => ?_
            obtain ⟨ι', hι, rfl, hm'⟩ := hr
            exact hK ι' w' (hf.congr hι hs) hm'
          · cases h
      · cases h
    · split at h
      · cases h
      · split at h
        · rename_i nd' v' m' hw
          simp only [Option.some.injEq, Prod.mk.injEq] at h
          obtain ⟨rfl, rfl, rfl⟩ := h
          obtain ⟨x, w', h1, ι', rfl, h3, h4⟩ := wop_ok hH hm hf hw hn
          unfold Oper.wp
          rcases h1 with h1 | ⟨h1, hx⟩
          · rw [h1]; exact hK ι' w' h3 h4
          · rw [h1]
            show K (a.put o.dst Go.undef) w'
            rw [← hx]; exact hK ι' w' h3 h4
        · cases h

theorem exec1_quiet {I : Interp} (hΓ : CtxOK P I Γ) (hI : ρ.I = I) (hH : H.ok ρ) (hf : FRep ρ ι n fr a) (hG : allT ρ G) {o : Oper} {nd : List E} {v : SV} {om : Option Mem}
    (h : exec1 P Γ true H G fr m o.op = some (nd, v, om)) (hn : allN ρ nd) :
    om = none ∧ ∀ w, MRep ρ β ι m w → o.quietAt P a (fun w' => MRep ρ β ι m w') w (v.conc ρ ι) := by
  unfold exec1 at h
  split at h
  · rename_i nd' v' hq
    simp only [Option.some.injEq, Prod.mk.injEq] at h
    obtain ⟨rfl, rfl, rfl⟩ := h
    refine ⟨rfl, fun w hm => ?_⟩
    unfold Oper.quietAt
    rw [qop_ok hH hm hf hG hq hn]
    exact ⟨rfl, rfl⟩
  · split at h
    · rename_i f l hc
      split at h
      · rename_i nd' v' hg
        simp only [Option.some.injEq, Prod.mk.injEq] at h
        obtain ⟨rfl, rfl, rfl⟩ := h
        refine ⟨rfl, fun w hm => ?_⟩
        unfold Oper.quietAt
        rw [callOf_ok (w := w) hf hG hc]
        exact ⟨rfl, hΓ.ok _ _ _ _ _ _ _ hg ρ β ι w hI hH hn hm⟩
      · simp at h
      · cases h
    · simp at h

theorem wanted_go (hf : FRep ρ ι n fr a) {o : Oper} (h : guardOf ops fr o = .go G) :
    (allT ρ G → Region.wanted o (yielded ops a.tmps) = true) ∧ (¬ allT ρ G → Region.wanted o (yielded ops a.tmps) = false) := by
  unfold guardOf at h
  unfold Region.wanted
  split at h
  · rename_i hg
    simp only [GS.go.injEq] at h; subst h
    rw [hg]
    exact ⟨fun _ => rfl, fun h => absurd (fun e he => by cases he) h⟩
  · rename_i j want hg
    rw [hg]
    split at h
    · cases h
    · rename_i t ht
      have key : ∀ g x, look fr t = some (g, x) → (allT ρ g → yielded ops a.tmps j = (match x.conc ρ ι with | .bool b => some b | _ => none)) ∧ (¬ allT ρ g → yielded ops a.tmps j = none) := by
        intro g x hl
        constructor
        · intro hg'
          have := hf.yes _ _ _ hl hg'
          unfold yielded
          rw [ht]
          simp only [Option.bind_some, this]
          cases x.conc ρ ι <;> rfl
        · intro hg'
          have := hf.no _ _ _ hl hg'
          unfold yielded
          rw [ht]
          simp only [Option.bind_some, this, Go.undef]
      split at h
      · rename_i g b hl
        split at h
        · rename_i hb
          simp only [GS.go.injEq] at h; subst h; subst hb
          have k := key _ _ hl
          exact ⟨fun hg' => by simp [k.1 hg', SV.conc, S.conc, b_blit], fun hg' => by simp [k.2 hg']⟩
        · cases h
      · rename_i g e _ hl
        simp only [GS.go.injEq] at h; subst h
        have k := key _ _ hl
        have hw : (if want then e else mkNot e).b ρ = true ↔ e.b ρ = want := by
          cases want <;> simp [mkNot_b]
        refine ⟨fun hg' => ?_, fun hg' => ?_⟩
        · have h1 := hw.1 (hg' _ (.head _))
          have h2 : allT ρ g := fun x hx => hg' x (.tail _ hx)
          simp [k.1 h2, SV.conc, S.conc, h1]
        · by_cases h2 : allT ρ g
          · have h1 : ¬ e.b ρ = want := fun he => hg' (fun x hx => by cases hx with | head => exact hw.2 he | tail _ hx => exact h2 x hx)
            simp [k.1 h2, SV.conc, S.conc, h1]
          · simp [k.2 h2]
      · cases h
      · cases h

theorem wanted_skip (hf : FRep ρ ι n fr a) {o : Oper} (h : guardOf ops fr o = .skip) : Region.wanted o (yielded ops a.tmps) = false := by
  unfold guardOf at h
  unfold Region.wanted
  split at h
  · cases h
  · rename_i j want hg
    rw [hg]
    split at h
    · cases h
    · rename_i t ht
      have key : ∀ g x, look fr t = some (g, x) → yielded ops a.tmps j = (match x.conc ρ ι with | .bool b => some b | _ => none) ∨ yielded ops a.tmps j = none := by
        intro g x hl
        by_cases hg' : allT ρ g
        · left
          have := hf.yes _ _ _ hl hg'
          unfold yielded
          rw [ht]
          simp only [Option.bind_some, this]
          cases x.conc ρ ι <;> rfl
        · right
          have := hf.no _ _ _ hl hg'
          unfold yielded
          rw [ht]
          simp only [Option.bind_some, this, Go.undef]
      split at h
      · rename_i g b hl
        split at h
        · cases h
        · rename_i hb
          rcases key _ _ hl with k | k
          · simp [k, SV.conc, S.conc, b_blit, hb]
          · simp [k]
      · cases h
      · rename_i g hl
        rcases key _ _ hl with k | k
        · simp [k, SV.conc, S.conc, Go.undef]
        · simp [k]
      · cases h

theorem guardH_go {o : Oper} (h : guardH H ops fr o = .go G) : guardOf ops fr o = .go G := by
  unfold guardH at h
  split at h
  · rename_i G' hg
    split at h
    · cases h
    · split at h
      · cases h
      · rw [hg]; exact h
  · cases h
  · rename_i hg _
    exact absurd h (hg _)
theorem guardH_skip (hH : H.ok ρ) (hf : FRep ρ ι n fr a) {o : Oper} (h : guardH H ops fr o = .skip) : Region.wanted o (yielded ops a.tmps) = false := by
  unfold guardH at h
  split at h
  · rename_i G' hg
    split at h
    · rename_i hc
      refine (wanted_go hf hg).2 fun hG => ?_
      obtain ⟨g, hg1, hg2⟩ := List.any_eq_true.1 hc
      simp only [decide_eq_true_eq] at hg2
      have h1 := decB_b hH g
      rw [hg2, b_blit, hG g hg1] at h1
      cases h1
    · split at h <;> cases h
  · cases h
  · exact wanted_skip hf h
theorem guardH_now (hH : H.ok ρ) (hf : FRep ρ ι n fr a) {o : Oper} (h : guardH H ops fr o = .now G) : allT ρ G ∧ Region.wanted o (yielded ops a.tmps) = true := by
  unfold guardH at h
  split at h
  · rename_i G' hg
    split at h
    · cases h
    · split at h
      · rename_i hc
        simp only [GS.now.injEq] at h; subst h
        have hG : allT ρ G' := fun g hg1 => by
          have := List.all_eq_true.1 hc g hg1
          simp only [decide_eq_true_eq] at this
          have h1 := decB_b hH g
          rw [this, b_blit] at h1
          exact h1.symm
        exact ⟨hG, (wanted_go hf hg).1 hG⟩
      · cases h
  · cases h
  · rename_i x hx hg
    exact absurd h (hg _)

theorem put_ok (hf : FRep ρ ι n fr a) {dst : Option Tmp} {g : List E} {v : SV} {fr' : Fr} (h : put n fr dst g v = some fr') {x : Value} (hy : allT ρ g → x = v.conc ρ ι) (hn : ¬ allT ρ g → x = Go.undef) :
    FRep ρ ι n fr' (a.put dst x) := by
  unfold put at h
  split at h
  · simp only [Option.some.injEq] at h; subst h; exact hf
  · split at h
    · rename_i ht
      simp only [Option.some.injEq] at h; subst h
      exact hf.put ht hy hn
    · cases h

theorem allN_imp {G : List E} {nd : List E} (h : allN ρ (nd.map (imp G))) (hG : allT ρ G) : allN ρ nd := fun e he =>
  imp_ok G e (h _ (List.mem_map.2 ⟨e, he, rfl⟩)) hG

/-- one operation, in the text's order -/
theorem opStep_ok {I : Interp} (hΓ : CtxOK P I Γ) (hI : ρ.I = I) {quiet : Bool} {o : Oper} {nd : List E} {H' : Hyp} {fr' : Fr} {m' : Mem}
    (h : opStep P Γ quiet n ops o H fr m = some (nd, H', fr', m')) (hH : H.ok ρ) (hn : allN ρ nd) (hm : MRep ρ β ι m w) (hf : FRep ρ ι n fr a) {K : Act → World → Prop} {Q : Exit → Act → World → Prop}
    (hK : ∀ ι' a' w', H'.ok ρ → FRep ρ ι' n fr' a' → MRep ρ β ι' m' w' → K a' w') :
    if Region.wanted o (yielded ops a.tmps) then o.wp P a w K Q else K (a.put o.dst Go.undef) w := by
  unfold opStep at h
  split at h
  · cases h
  · rename_i hg
    simp only [Option.map_eq_some_iff, Prod.mk.injEq] at h
    obtain ⟨fr2, hp, rfl, rfl, rfl, rfl⟩ := h
    rw [if_neg (by rw [guardH_skip hH hf hg]; simp)]
    exact hK ι _ w hH (put_ok hf hp (fun _ => rfl) (fun hx => absurd (fun e he => by cases he) hx)) hm
  · rename_i G hg
    obtain ⟨hG, hw⟩ := guardH_now hH hf hg
    split at h
    · rename_i nd' v om he
      simp only [Option.map_eq_some_iff, Prod.mk.injEq] at h
      obtain ⟨fr2, hp, rfl, rfl, rfl, rfl⟩ := h
      rw [if_pos hw]
      refine exec1_ok hΓ hI hH hm hf he (needs_ok hn) fun ι' w' hf' hm' => ?_
      exact hK ι' _ w' (addFs_ok _ _ hH hn) (put_ok hf' hp (fun _ => rfl) (fun hx => absurd (fun e he => by cases he) hx)) hm'
    · cases h
  · rename_i G hg
    replace hg := guardH_go hg
    split at h
    · rename_i nd' v om he
      simp only [Option.map_eq_some_iff, Prod.mk.injEq] at h
      obtain ⟨fr2, hp, rfl, rfl, rfl, rfl⟩ := h
      by_cases hG : allT ρ G
      · rw [if_pos ((wanted_go hf hg).1 hG)]
        have hq := exec1_quiet (β := β) hΓ hI (addFs_ok _ _ hH hG) hf hG he (allN_imp (needs_ok hn) hG)
        refine Oper.wp_of_quiet (C := fun w' => MRep ρ β ι m w') (K := fun a' => a' = a.put o.dst (v.conc ρ ι)) hm (fun a' w' hm' ha => ?_) ⟨_, hq.2, rfl⟩
        subst ha
        exact hK ι _ w' hH (put_ok hf hp (fun _ => rfl) (fun hx => absurd hG hx)) hm'
      · rw [if_neg (by rw [(wanted_go hf hg).2 hG]; simp)]
        exact hK ι _ w hH (put_ok hf hp (fun hx => absurd hx hG) (fun _ => rfl)) hm
    · cases h

theorem rops_ok {I : Interp} (hΓ : CtxOK P I Γ) (hI : ρ.I = I) {quiet : Bool} : ∀ (l : List Oper) {H H' : Hyp} {nd : List E} {fr fr' : Fr} {m m' : Mem} {ι : Loc} {a : Act} {w : World} {Q : Exit → Act → World → Prop},
    rops P Γ quiet n ops l H fr m = some (nd, H', fr', m') → H.ok ρ → allN ρ nd → MRep ρ β ι m w → FRep ρ ι n fr a →
    (∀ ι' a' w', H'.ok ρ → FRep ρ ι' n fr' a' → MRep ρ β ι' m' w' → Q .normal a' w') → wpList P ops Q l a w
  | [], H, H', nd, fr, fr', m, m', ι, a, w, Q, h, hH, hn, hm, hf, hQ => by
    simp only [rops, Option.some.injEq, Prod.mk.injEq] at h
    obtain ⟨rfl, rfl, rfl, rfl⟩ := h
    exact hQ ι a w hH hf hm
  | o :: l, H, H', nd, fr, fr', m, m', ι, a, w, Q, h, hH, hn, hm, hf, hQ => by
    simp only [rops] at h
    split at h
    · rename_i nd1 H1 fr1 m1 h1
      split at h
      · rename_i nd2 r h2
        simp only [Option.some.injEq, Prod.mk.injEq] at h
        obtain ⟨rfl, rfl⟩ := h
        have hn' := allN_append hn
        refine wpList_step fun K hK => ?_
        exact opStep_ok hΓ hI h1 hH hn'.1 hm hf fun ι' a' w' hH' hf' hm' => hK _ _ (rops_ok hΓ hI l h2 hH' hn'.2 hm' hf' hQ)
      · cases h
    · cases h

theorem exec1_none {o : Op} {nd : List E} {v : SV} {om : Option Mem} (h : exec1 P Γ true H G fr m o = some (nd, v, om)) : om = none := by
  unfold exec1 at h
  split at h
  · simp only [Option.some.injEq, Prod.mk.injEq] at h; exact h.2.2.symm
  · split at h
    · split at h
      · simp only [Option.some.injEq, Prod.mk.injEq] at h; exact h.2.2.symm
      · simp at h
      · cases h
    · simp at h
theorem opStep_mem {o : Oper} {nd : List E} {H' : Hyp} {fr' : Fr} {m' : Mem} (h : opStep P Γ true n ops o H fr m = some (nd, H', fr', m')) : m' = m := by
  unfold opStep at h
  split at h
  · cases h
  · simp only [Option.map_eq_some_iff, Prod.mk.injEq] at h
    obtain ⟨_, _, _, _, _, rfl⟩ := h; rfl
  · split at h
    · rename_i nd' v om he
      simp only [Option.map_eq_some_iff, Prod.mk.injEq] at h
      obtain ⟨_, _, _, _, _, rfl⟩ := h
      rw [exec1_none he]; rfl
    · cases h
  · split at h
    · simp only [Option.map_eq_some_iff, Prod.mk.injEq] at h
      obtain ⟨_, _, _, _, _, rfl⟩ := h; rfl
    · cases h
theorem rops_mem : ∀ (l : List Oper) {H H' : Hyp} {nd : List E} {fr fr' : Fr} {m m' : Mem}, rops P Γ true n ops l H fr m = some (nd, H', fr', m') → m' = m
  | [], H, H', nd, fr, fr', m, m', h => by
    simp only [rops, Option.some.injEq, Prod.mk.injEq] at h; exact h.2.2.2.symm
  | o :: l, H, H', nd, fr, fr', m, m', h => by
    simp only [rops] at h
    split at h
    · rename_i nd1 H1 fr1 m1 h1
      split at h
      · rename_i nd2 r h2
        simp only [Option.some.injEq, Prod.mk.injEq] at h
        obtain ⟨rfl, rfl⟩ := h
        rw [rops_mem l h2, opStep_mem h1]
      · cases h
    · cases h

/-- one operation, in a region that draws its order -/
theorem opStep_quiet {I : Interp} (hΓ : CtxOK P I Γ) (hI : ρ.I = I) {o : Oper} {nd : List E} {H' : Hyp} {fr' : Fr} {m' : Mem}
    (h : opStep P Γ true n ops o H fr m = some (nd, H', fr', m')) (hH : H.ok ρ) (hn : allN ρ nd) (hf : FRep ρ ι n fr a) {K : Act → Prop}
    (hK : ∀ a', H'.ok ρ → FRep ρ ι n fr' a' → K a') :
    if Region.wanted o (yielded ops a.tmps) then o.quiet P a (fun w => MRep ρ β ι m w) K else K (a.put o.dst Go.undef) := by
  unfold opStep at h
  split at h
  · cases h
  · rename_i hg
    simp only [Option.map_eq_some_iff, Prod.mk.injEq] at h
    obtain ⟨fr2, hp, rfl, rfl, rfl, rfl⟩ := h
    rw [if_neg (by rw [guardH_skip hH hf hg]; simp)]
    exact hK _ hH (put_ok hf hp (fun _ => rfl) (fun hx => absurd (fun e he => by cases he) hx))
  · rename_i G hg
    obtain ⟨hG, hw⟩ := guardH_now hH hf hg
    split at h
    · rename_i nd' v om he
      simp only [Option.map_eq_some_iff, Prod.mk.injEq] at h
      obtain ⟨fr2, hp, rfl, rfl, rfl, rfl⟩ := h
      have hq := exec1_quiet (β := β) hΓ hI hH hf (fun e he => by cases he) he (needs_ok hn)
      rw [if_pos hw]
      exact ⟨_, hq.2, hK _ (addFs_ok _ _ hH hn) (put_ok hf hp (fun _ => rfl) (fun hx => absurd (fun e he => by cases he) hx))⟩
    · cases h
  · rename_i G hg
    replace hg := guardH_go hg
    split at h
    · rename_i nd' v om he
      simp only [Option.map_eq_some_iff, Prod.mk.injEq] at h
      obtain ⟨fr2, hp, rfl, rfl, rfl, rfl⟩ := h
      by_cases hG : allT ρ G
      · rw [if_pos ((wanted_go hf hg).1 hG)]
        have hq := exec1_quiet (β := β) hΓ hI (addFs_ok _ _ hH hG) hf hG he (allN_imp (needs_ok hn) hG)
        exact ⟨_, hq.2, hK _ hH (put_ok hf hp (fun _ => rfl) (fun hx => absurd hG hx))⟩
      · rw [if_neg (by rw [(wanted_go hf hg).2 hG]; simp)]
        exact hK _ hH (put_ok hf hp (fun hx => absurd hx hG) (fun _ => rfl))
    · cases h

theorem rops_quiet {I : Interp} (hΓ : CtxOK P I Γ) (hI : ρ.I = I) : ∀ (l : List Oper) {H H' : Hyp} {nd : List E} {fr fr' : Fr} {m m' : Mem} {a : Act} {Q : Act → Prop},
    rops P Γ true n ops l H fr m = some (nd, H', fr', m') → H.ok ρ → allN ρ nd → FRep ρ ι n fr a →
    (∀ a', H'.ok ρ → FRep ρ ι n fr' a' → Q a') → wpQuiet P ops (fun w => MRep ρ β ι m w) Q l a
  | [], H, H', nd, fr, fr', m, m', a, Q, h, hH, hn, hf, hQ => by
    simp only [rops, Option.some.injEq, Prod.mk.injEq] at h
    obtain ⟨rfl, rfl, rfl, rfl⟩ := h
    exact hQ a hH hf
  | o :: l, H, H', nd, fr, fr', m, m', a, Q, h, hH, hn, hf, hQ => by
    simp only [rops] at h
    split at h
    · rename_i nd1 H1 fr1 m1 h1
      split at h
      · rename_i nd2 r h2
        simp only [Option.some.injEq, Prod.mk.injEq] at h
        obtain ⟨rfl, rfl⟩ := h
        have hn' := allN_append hn
        have hm1 : m1 = m := opStep_mem h1
        subst hm1
        refine wpQuiet_step fun K hK => ?_
        exact opStep_quiet (β := β) hΓ hI h1 hH hn'.1 hf fun a' hH' hf' => hK _ (rops_quiet hΓ hI l h2 hH' hn'.2 hf' hQ)
      · cases h
    · cases h
end

/-! ### regions that draw their order, with operations that write, make memory, or call -/
section
variable {P : Program} {ops : Array Oper} {Q : Exit → Act → World → Prop} {md : Region.Mode} {C C' : World → Prop}

/-- Whatever order is picked from here on; at each step the world is of the class. -/
def wpAnyC (P : Program) (md : Region.Mode) (ops : Array Oper) (Q : Exit → Act → World → Prop) (C : Array Bool → World → Prop) : Nat → Array Bool → Act → World → Prop
  | 0, listed, a, w => C listed w ∧ Region.ready md ops listed = [] ∧ Q .normal a w
  | fuel + 1, listed, a, w => C listed w ∧ (Region.ready md ops listed = [] → Q .normal a w) ∧
    ∀ i ∈ Region.ready md ops listed, wpOp P ops Q i (wpAnyC P md ops Q C fuel (listed.setIfInBounds i true)) a w
theorem wpAnyC.mono {K K' : Array Bool → World → Prop} {x : Nat} (hC : ∀ S w, S.getD x false = true → K S w → K' S w) : ∀ (fuel : Nat) (listed : Array Bool) (a : Act) (w : World), listed.getD x false = true → wpAnyC P md ops Q K fuel listed a w → wpAnyC P md ops Q K' fuel listed a w
  | 0, _, _, _, hx, h => ⟨hC _ _ hx h.1, h.2⟩
  | fuel + 1, _, _, _, hx, h => ⟨hC _ _ hx h.1, h.2.1, fun i hi => wpOp_mono (fun a w => wpAnyC.mono hC fuel _ a w (getD_set_true hx)) (h.2.2 i hi)⟩
theorem wpAnyC.any {K : Array Bool → World → Prop} : ∀ (fuel : Nat) (listed : Array Bool) (a : Act) (w : World), wpAnyC P md ops Q K fuel listed a w → wpAny P md ops Q fuel listed a w
  | 0, _, _, _, h => h.2
  | fuel + 1, _, _, _, h => ⟨h.2.1, fun i hi => wpOp_mono (fun a w => wpAnyC.any fuel _ a w) (h.2.2 i hi)⟩

/-- In state a, in every world of the class, o yields v and leaves the world alone. -/
def YieldsC (P : Program) (ops : Array Oper) (C : World → Prop) (o : Oper) (v : Value) (a : Act) : Prop :=
  (Region.wanted o (yielded ops a.tmps) = true ∧ ∀ w, C w → (execOp a.eval o).run P w = .ok (.value v) w) ∨ (Region.wanted o (yielded ops a.tmps) = false ∧ v = Go.undef)
theorem YieldsC.wpOp {i : Nat} {o : Oper} {v : Value} {a : Act} (hi : ops[i]? = some o) (hy : YieldsC P ops C o v a) {K : Act → World → Prop} {w : World} (hC : C w) (h : K (a.put o.dst v) w) : wpOp P ops Q i K a w := by
  unfold Go.wpOp
  simp only [hi]
  rcases hy with ⟨hw, hv⟩ | ⟨hw, rfl⟩
  · simp only [hw, if_true, Oper.wp, hv w hC, Oper.upon]; exact .inl h
  · simp only [hw, Bool.false_eq_true, if_false]; exact h
theorem YieldsC.of_same {o : Oper} {v : Value} {a a' : Act} (hy : YieldsC P ops C o v a) (he : execOp a'.eval o = execOp a.eval o)
    (hw : Region.wanted o (yielded ops a'.tmps) = Region.wanted o (yielded ops a.tmps)) : YieldsC P ops C o v a' := by
  unfold YieldsC at *
  rw [he, hw]
  exact hy
theorem wpOp_putC {j : Nat} {oi oj : Oper} {v : Value} (hj : ops[j]? = some oj) (hap : oi.apart ops oj = true)
    (hsi : ∀ cs b, oi.op ≠ .select cs b) (hsj : ∀ cs b, oj.op ≠ .select cs b)
    (hQ : ∀ c a w, ¬ Q (.panic c) a w) {K : Act → World → Prop} {a : Act} {w : World}
    (hy : YieldsC P ops C oi v a) (h : wpOp P ops Q j K (a.put oi.dst v) w) :
    wpOp P ops Q j (fun a' w' => YieldsC P ops C oi v a' ∧ K (a'.put oi.dst v) w') a w := by
  obtain ⟨h1, h2, h3⟩ := Oper.apart_spec hap
  have keep : ∀ (a : Act), YieldsC P ops C oi v a → ∀ u, YieldsC P ops C oi v (a.put oj.dst u) := fun a hy u =>
    hy.of_same (execOp_put oi hsi a oj.dst u h3) (wanted_put oi a oj.dst u h3)
  have keepD : ∀ d, YieldsC P ops C oi v { a with defers := d :: a.defers } := fun d => hy.of_same rfl rfl
  unfold wpOp at *
  simp only [hj] at *
  rw [wanted_put oj a oi.dst v h1] at h
  split
  · rename_i hw
    simp only [hw, if_true] at h
    rcases h with h | ⟨hasks, hlets⟩
    case inr => exact .inr ⟨by unfold Oper.asks at *; rw [execOp_put oj hsj a oi.dst v h1] at hasks; exact hasks, hlets⟩
    refine .inl ?_
    unfold Oper.wp at *
    rw [execOp_put oj hsj a oi.dst v h1] at h
    generalize (execOp a.eval oj).run P w = r at *
    cases r with
    | ok n w' =>
      cases n <;> simp only [Oper.upon] at h ⊢
      case value u => exact ⟨keep a hy u, by rw [← Act.put_comm a v u h2]; exact h⟩
      case skip => exact ⟨keep a hy _, by rw [← Act.put_comm a v Go.undef h2]; exact h⟩
      case defer d =>
        refine ⟨keep _ (keepD d) _, ?_⟩
        rw [← Act.put_comm _ v Go.undef h2, ← Act.put_defers]
        exact h
      case enter f args =>
        refine Calls.mono h fun e w'' he => ?_
        cases e with
        | returned u => exact ⟨keep a hy u, by rw [← Act.put_comm a v u h2]; exact he⟩
        | panicked c => exact (hQ _ _ _ he).elim
        | outgrown => exact he
      case row row args => exact Rows.mono h fun u w'' he => ⟨keep a hy u, by rw [← Act.put_comm a v u h2]; exact he⟩
    | halt x w' =>
      cases x <;> simp only [Oper.upon] at h ⊢
      case panic u => exact (hQ _ _ _ h).elim
  · rename_i hw
    simp only [hw] at h
    exact ⟨keep a hy _, by rw [← Act.put_comm a v Go.undef h2]; exact h⟩
/-- What comes up only after i. -/
def desc (md : Region.Mode) (ops : Array Oper) (listed : Array Bool) (i : Nat) : List Nat :=
  (List.range ops.size).foldl (fun T t => match ops[t]? with
    | some o => if !listed.getD t true && o.after.toList.any (fun e => Region.binds md e && (decide (e.on = i) || T.contains e.on)) then t :: T else T
    | none => T) []
theorem desc_ok {listed : Array Bool} {i : Nat} : ∀ t ∈ desc md ops listed i, listed.getD t true = false ∧ ∃ o, ops[t]? = some o ∧ ∃ e ∈ o.after, Region.binds md e = true ∧ (e.on = i ∨ e.on ∈ desc md ops listed i) := by
  unfold desc
  generalize List.range ops.size = l
  have key : ∀ (l : List Nat) (T : List Nat), (∀ t ∈ T, listed.getD t true = false ∧ ∃ o, ops[t]? = some o ∧ ∃ e ∈ o.after, Region.binds md e = true ∧ (e.on = i ∨ e.on ∈ T)) →
      ∀ t ∈ l.foldl (fun T t => match ops[t]? with
        | some o => if !listed.getD t true && o.after.toList.any (fun e => Region.binds md e && (decide (e.on = i) || T.contains e.on)) then t :: T else T
        | none => T) T, listed.getD t true = false ∧ ∃ o, ops[t]? = some o ∧ ∃ e ∈ o.after, Region.binds md e = true ∧ (e.on = i ∨ e.on ∈ l.foldl (fun T t => match ops[t]? with
        | some o => if !listed.getD t true && o.after.toList.any (fun e => Region.binds md e && (decide (e.on = i) || T.contains e.on)) then t :: T else T
        | none => T) T) := by
    intro l
    induction l with
    | nil => intro T h; exact h
    | cons x l ih =>
      intro T h
      rw [List.foldl_cons]
      refine ih _ ?_
      split
      · rename_i o ho
        split
        · rename_i hc
          simp only [Bool.and_eq_true, Bool.not_eq_true', List.any_eq_true, Bool.or_eq_true, decide_eq_true_eq, List.contains_iff_mem] at hc
          obtain ⟨h0, e, he, hb, hd⟩ := hc
          intro t ht
          rcases List.mem_cons.1 ht with rfl | ht
          · exact ⟨h0, o, ho, e, by simpa using he, hb, hd.imp id (List.mem_cons_of_mem _)⟩
          · obtain ⟨k1, o', k2, e', k3, k4, k5⟩ := h t ht
            exact ⟨k1, o', k2, e', k3, k4, k5.imp id (List.mem_cons_of_mem _)⟩
        · exact h
      · exact h
  exact key l [] (fun t ht => by cases ht)
/-- What yields the same in every world that may be while it waits may be taken first. -/
theorem wpAnyC_first {K : Array Bool → World → Prop} {i : Nat} {oi : Oper} {v : Value} (hi : ops[i]? = some oi) (hsel : ∀ (j : Nat) (o : Oper) cs b, ops[j]? = some o → o.op ≠ .select cs b)
    (hQ : ∀ c a w, ¬ Q (.panic c) a w) {T : List Nat} (hT : ∀ t ∈ T, ∃ o, ops[t]? = some o ∧ ∃ e ∈ o.after, Region.binds md e = true ∧ (e.on = i ∨ e.on ∈ T))
    (hC : ∀ S w, (∀ t ∈ T, S.getD t true = false) → K S w → C w) (hK : ∀ S w, K (S.setIfInBounds i true) w → K S w) :
    ∀ (fuel : Nat) (listed : Array Bool) (a : Act) (w : World),
      (∀ j oj, ops[j]? = some oj → j ≠ i → listed.getD j true = false → (∀ e ∈ oj.after, Region.binds md e = true → e.on ≠ i) → oi.apart ops oj = true) →
      (∀ t ∈ T, listed.getD t true = false) →
      i ∈ Region.ready md ops listed → YieldsC P ops C oi v a →
      wpAnyC P md ops Q K fuel (listed.setIfInBounds i true) (a.put oi.dst v) w → wpAnyC P md ops Q K (fuel + 1) listed a w := by
  have out : ∀ {listed : Array Bool} {n : Nat}, listed.getD n true = false → listed.getD n false = true → False := fun {listed n} h0 h1 => by
    rcases Nat.lt_or_ge n listed.size with h' | h'
    · simp [h'] at h0 h1; rw [h0] at h1; cases h1
    · simp [Array.getElem?_eq_none h'] at h1
  intro fuel
  induction fuel with
  | zero =>
    intro listed a w _ hdis hr hy H
    refine ⟨hK _ _ H.1, fun h => (by rw [h] at hr; cases hr), fun j hj => ?_⟩
    by_cases hji : j = i
    · subst hji; exact hy.wpOp hi (hC _ _ hdis (hK _ _ H.1)) H
    · have := ready_mono hj hji
      rw [H.2.1] at this
      cases this
  | succ fuel ih =>
    intro listed a w hfree hdis hr hy H
    refine ⟨hK _ _ H.1, fun h => (by rw [h] at hr; cases hr), fun j hj => ?_⟩
    by_cases hji : j = i
    · subst hji; exact hy.wpOp hi (hC _ _ hdis (hK _ _ H.1)) H
    · have h1 := H.2.2 j (ready_mono hj hji)
      obtain ⟨hjun, oj, hoj, hall⟩ := mem_ready.1 hj
      have hnot : ∀ e ∈ oj.after, Region.binds md e = true → e.on ≠ i := fun e he hb heq => by
        have h1 := hall e he hb
        rw [heq] at h1
        exact out (mem_ready.1 hr).1 h1
      have hjT : j ∉ T := fun hjT => by
        obtain ⟨o', ho', e, he, hb, hd⟩ := hT j hjT
        rw [hoj, Option.some.injEq] at ho'; subst ho'
        have h1 := hall e he hb
        rcases hd with hd | hd
        · exact hnot e he hb hd
        · exact out (hdis _ hd) h1
      have h2 := wpOp_putC hoj (hfree j oj hoj hji hjun hnot) (fun cs b => hsel i oi cs b hi) (fun cs b => hsel j oj cs b hoj) hQ hy h1
      have hfree' : ∀ k ok, ops[k]? = some ok → k ≠ i → (listed.setIfInBounds j true).getD k true = false →
          (∀ e ∈ ok.after, Region.binds md e = true → e.on ≠ i) → oi.apart ops ok = true := fun k ok hk hki hun hno => by
        refine hfree k ok hk hki ?_ hno
        by_cases hjk : j = k
        · subst hjk; exact hjun
        · rw [getD_set_ne true hjk] at hun; exact hun
      have hdis' : ∀ t ∈ T, (listed.setIfInBounds j true).getD t true = false := fun t ht => by
        rw [getD_set_ne true (show j ≠ t from fun h => hjT (by rw [h]; exact ht))]; exact hdis t ht
      refine wpOp_mono (fun a' w' h3 => ih (listed.setIfInBounds j true) a' w' hfree' hdis' (ready_mono hr (Ne.symm hji)) h3.1 ?_) h2
      rw [Array.setIfInBounds_comm _ _ hji]
      exact h3.2
/-- The only one that may come up. -/
theorem wpAnyC_only {K : Array Bool → World → Prop} {i fuel : Nat} {listed : Array Bool} {a : Act} {w : World} (hr : Region.ready md ops listed = [i]) (hC : K listed w)
    (h : wpOp P ops Q i (wpAnyC P md ops Q K fuel (listed.setIfInBounds i true)) a w) : wpAnyC P md ops Q K (fuel + 1) listed a w :=
  by
    refine ⟨hC, fun h0 => ?_, fun j hj => ?_⟩
    · rw [hr] at h0; cases h0
    · rw [hr, List.mem_singleton] at hj; subst hj; exact h
theorem wpAnyC_done {K : Array Bool → World → Prop} {listed : Array Bool} {a : Act} {w : World} (hr : Region.ready md ops listed = []) (hC : K listed w) (h : Q .normal a w) : ∀ fuel, wpAnyC P md ops Q K fuel listed a w
  | 0 => ⟨hC, hr, h⟩
  | _ + 1 => ⟨hC, fun _ => h, by rw [hr]; simp⟩
end

/-! the same by symbols: the blocks of D are not looked at by what is taken early -/
def kill (D : List Nat) (m : Mem) : Mem := m.zipIdx.map fun p => if D.contains p.2 then { p.1 with dead := true } else p.1
/-- which blocks an operation has turned -/
def stays (D D' : List Nat) (m m' : Mem) : Bool := decide (m.length ≤ m'.length) && (List.range m.length).all fun i => D.contains i || (!D'.contains i && decide (m[i]? = m'[i]?))
/-- one operation that is taken early -/
def early (P : Program) (n : Nat) (ops : Array Oper) (o : Oper) (H : Hyp) (fr : Fr) (m : Mem) : Option (List E × Hyp × Fr) :=
  match guardH H ops fr o with
  | .bad => none
  | .skip => (put n fr o.dst [] .undef).map fun fr' => ([], H, fr')
  | .now _ => match qop P H [] fr m o.op with
    | some (nd, v) => (put n fr o.dst [] v).map fun fr' => (needs nd, addFs (needs nd) H, fr')
    | none => none
  | .go G => match qop P (addFs G H) G fr m o.op with
    | some (nd, v) => (put n fr o.dst G v).map fun fr' => (needs (nd.map (imp G)), H, fr')
    | none => none
/-- What is looked at now stands until g is carried out; g waits for i. -/
def gateOk (ops : Array Oper) (listed : Array Bool) (i : Nat) : Option Nat → Bool
  | none => true
  | some x => (desc .any ops listed i).contains x
/-- g: the next operation that turns something. What it waits for may look at all there is now. -/
def firstEarly (P : Program) (n : Nat) (ops : Array Oper) (D : List Nat) (g : Option Nat) (listed : Array Bool) (H : Hyp) (fr : Fr) (m : Mem) : List Nat → Option (Nat × List E × Hyp × Fr)
  | [] => none
  | i :: l => match ops[i]? with
    | some o => if Region.free .any ops listed i && decide (g ≠ some i) then match early P n ops o H fr (kill D m) with
        | some r => some (i, r)
        | none => if gateOk ops listed i g then match early P n ops o H fr m with
            | some r => some (i, r)
            | none => firstEarly P n ops D g listed H fr m l
          else firstEarly P n ops D g listed H fr m l
      else firstEarly P n ops D g listed H fr m l
    | none => none
/-! the same blocks under other numbers -/
def renS (π : List Nat) : S → S
  | .ptr b o => .ptr (π.getD b 0) o
  | .slc b o l c => .slc (π.getD b 0) o l c
  | .fn f l => .fn f (l.map fun p => (π.getD p.1 0, p.2))
  | x => x
def renSeg (π : List Nat) : Seg → Seg
  | .one x => .one (renS π x)
  | x => x
def renV (π : List Nat) : SV → SV
  | .s x => .s (renS π x)
  | .agg l => .agg (l.map (renSeg π))
  | .tup l => .tup (l.map fun p => (p.1, p.2.map (renSeg π)))
  | .junk => .junk
def renFr (π : List Nat) (fr fr' : Fr) : Bool := fr'.all fun f => match look fr' f.t with
  | some (g', y') => (match look fr f.t with
    | some (g, y) => decide (g = g') && decide (y = renV π y')
    | none => false)
  | none => true
def renBlks (π : List Nat) (m : Mem) : Mem → List Nat → Bool
  | [], [] => true
  | B :: l, p :: r => (match m[p]? with | some C => B.dead || (!C.dead && decide (B.ty = C.ty) && (!B.wr || C.wr) && decide (B.grow = C.grow) && decide (C.segs = B.segs.map (renSeg π))) | none => false) && renBlks π m l r
  | _, _ => false
def renMem (K : Nat) (π : List Nat) (m m' : Mem) : Bool :=
  decide π.Nodup && decide (π.take K = List.range K) && π.all (fun b => decide (b < m.length)) && decide (K ≤ m'.length) && renBlks π m m' π
def inserts (x : Nat) : List Nat → List (List Nat)
  | [] => [[x]]
  | y :: l => (x :: y :: l) :: (inserts x l).map (y :: ·)
def perms : List Nat → List (List Nat)
  | [] => [[]]
  | x :: l => (perms l).flatMap (inserts x)
def findRen (K : Nat) (fr : Fr) (m : Mem) (fr' : Fr) (m' : Mem) : Bool :=
  decide (m.length = m'.length) && decide (m.length ≤ K + 4) && ((perms ((List.range m.length).drop K)).map (List.range K ++ ·)).any fun π => renMem K π m m' && renFr π fr fr'
def sameFr (fr fr' : Fr) : Bool := fr'.all fun f => decide (look fr f.t = look fr' f.t)
def sameAs (K : Nat) (fr : Fr) (m : Mem) (fr' : Fr) (m' : Mem) : Bool := (sameFr fr fr' && decide (m = m')) || findRen K fr m fr' m'
/-- several that may come up: each of them first, and all the ways must say the same -/
def joinB (K : Nat) (step : Nat → Option (List E × Hyp × Fr × Mem)) : List Nat → Option (List E × Fr × Mem)
  | [] => none
  | [i] => match step i with
    | some (nd, _, fr, m) => some (nd, fr, m)
    | none => none
  | i :: l => match step i with
    | some (nd, _, fr, m) => match joinB K step l with
      | some (nd', fr', m') => if sameAs K fr m fr' m' then some (nd ++ nd', fr', m') else none
      | none => none
    | none => none
def diffs (m m' : Mem) : List Nat := (List.range m.length).filter fun i => decide (m[i]? ≠ m'[i]?)
/-- the blocks that the operations turn, in the text's order -/
def turned (P : Program) (Γ : Ctx) (n : Nat) (ops : Array Oper) : List Oper → Hyp → Fr → Mem → List Nat
  | [], _, _, _ => []
  | o :: l, H, fr, m => match opStep P Γ false n ops o H fr m with
    | some (_, H', fr', m') => diffs m m' ++ turned P Γ n ops l H' fr' m'
    | none => []
def unlisted (ops : Array Oper) (listed : Array Bool) : List Oper := (ops.toList.zipIdx.filter fun p => !listed.getD p.2 true).map (·.1)
def bstep (P : Program) (Γ : Ctx) (n : Nat) (ops : Array Oper) (D : List Nat) (L : List Nat) (listed : Array Bool) (H : Hyp) (fr : Fr) (m : Mem) (more : List Nat → List Nat → Array Bool → Hyp → Fr → Mem → Option (List E × Hyp × Fr × Mem)) (i : Nat) : Option (List E × Hyp × Fr × Mem) :=
  match ops[i]? with
  | some o => match opStep P Γ false n ops o H fr m with
    | some (nd, H', fr', m') =>
      if stays D (turned P Γ n ops (unlisted ops (listed.setIfInBounds i true)) H' fr' m') m m' && (decide (L.head? = some i) || stays [] [] m m') && m.all (fun B => B.segs.all (Seg.sc m.length)) then
        match more (turned P Γ n ops (unlisted ops (listed.setIfInBounds i true)) H' fr' m') (L.erase i) (listed.setIfInBounds i true) H' fr' m' with
        | some (nd', q) => some (nd ++ nd', q)
        | none => none
      else none
    | none => none
  | none => none
def dops (P : Program) (Γ : Ctx) (n : Nat) (ops : Array Oper) : List Nat → Nat → List Nat → Array Bool → Hyp → Fr → Mem → Option (List E × Hyp × Fr × Mem)
  | _, 0, _, listed, H, fr, m => match Region.ready .any ops listed with
    | [] => some ([], H, fr, m)
    | _ => none
  | D, k + 1, L, listed, H, fr, m =>
    let rd := Region.ready .any ops listed
    match rd with
    | [] => some ([], H, fr, m)
    | _ => match firstEarly P n ops D L.head? listed H fr m rd with
      | some (i, nd, H', fr') => match dops P Γ n ops D k L (listed.setIfInBounds i true) H' fr' m with
        | some (nd', q) => some (nd ++ nd', q)
        | none => none
      | none => match rd, L with
        | [i], x :: L' => if i = x then match ops[i]? with
          | some o => match opStep P Γ false n ops o H fr m with
            | some (nd, H', fr', m') => if stays D D m m' && m.all (fun B => B.segs.all (Seg.sc m.length)) then match dops P Γ n ops D k L' (listed.setIfInBounds i true) H' fr' m' with
                | some (nd', q) => some (nd ++ nd', q)
                | none => none
              else none
            | none => none
          | none => none
          else none
        | _, x :: L' => match joinB m.length (bstep P Γ n ops D (x :: L') listed H fr m (fun D' L'' S H' fr' m' => dops P Γ n ops D' k L'' S H' fr' m')) rd with
          | some (nd, fr', m') => some (nd, H, fr', m')
          | none => none
        | _, _ => none
/-- the operations that turn something, or may, in the text's order -/
def lates (P : Program) (Γ : Ctx) (n : Nat) (ops : Array Oper) : Nat → List Oper → Hyp → Fr → Mem → List Nat
  | _, [], _, _, _ => []
  | i, o :: l, H, fr, m => match early P n ops o H fr m with
    | some (_, H', fr') => lates P Γ n ops (i + 1) l H' fr' m
    | none => match opStep P Γ false n ops o H fr m with
      | some (_, H', fr', m') => i :: lates P Γ n ops (i + 1) l H' fr' m'
      | none => []
/-- a region, in whatever order it is carried out -/
def regOps (P : Program) (Γ : Ctx) (n : Nat) (ops : Array Oper) (draw : Bool) (H : Hyp) (fr : Fr) (m : Mem) : Option (List E × Hyp × Fr × Mem) :=
  if draw then
    match (if Region.lexB .any ops then rops P Γ true n ops ops.toList H fr m else none) with
    | some r => some r
    | none => if Region.noSelect ops then dops P Γ n ops (turned P Γ n ops ops.toList H fr m) ops.size (lates P Γ n ops 0 ops.toList H fr m) (Array.replicate ops.size false) H fr m else none
  else rops P Γ false n ops ops.toList H fr m
section
variable {ρ : Env} {ι ι' : Loc} {H : Hyp} {P : Program} {Γ : Ctx} {w : World} {β : Base} {m m' : Mem} {fr : Fr} {n : Nat} {a : Act} {G : List E} {ops : Array Oper}
theorem kill_at {D : List Nat} {i : Nat} {B : Blk} (h : (kill D m)[i]? = some B) : ∃ C, m[i]? = some C ∧ ((D.contains i = true ∧ B = { C with dead := true }) ∨ (D.contains i = false ∧ B = C)) := by
  unfold kill at h
  rw [List.getElem?_map, List.getElem?_zipIdx] at h
  cases hm : m[i]? with
  | none => rw [hm] at h; cases h
  | some C =>
    rw [hm] at h
    simp only [Option.map_some, Nat.zero_add, Option.some.injEq] at h
    refine ⟨C, rfl, ?_⟩
    split at h
    · rename_i hc; exact .inl ⟨hc, h.symm⟩
    · rename_i hc; exact .inr ⟨by simpa using hc, h.symm⟩
theorem kill_len (D : List Nat) (m : Mem) : (kill D m).length = m.length := by simp [kill]
theorem MRep.kill (hm : MRep ρ β ι m w) (D : List Nat) : MRep ρ β ι (kill D m) w := by
  have at_ : ∀ {i : Nat} {B : Blk}, (Sx.kill D m)[i]? = some B → B.dead = false → m[i]? = some B := by
    intro i B hB hd
    obtain ⟨C, hC, ⟨_, rfl⟩ | ⟨_, rfl⟩⟩ := kill_at hB
    · cases hd
    · exact hC
  exact ⟨fun i j B C hB hC hBd hCd => hm.inj i j B C (at_ hB hBd) (at_ hC hCd) hBd hCd, fun i B hB hd => hm.blk i B (at_ hB hd) hd, fun i B hB hd => hm.nils i B (at_ hB hd) hd, hm.agr, by rw [kill_len]; exact hm.len, by rw [kill_len]; exact hm.new, hm.size,
    by rw [kill_len]; exact hm.old, hm.os, hm.tape, hm.output, hm.xt, by rw [kill_len]; exact hm.xd⟩
/-- A world of the later class is one of the elder. -/
theorem stays_ok {D D' : List Nat} (hs : stays D D' m m' = true) (hsc : m.all (fun B => B.segs.all (Seg.sc m.length)) = true) (hag : Loc.agree m.length ι ι') (hk : β.k ≤ m.length) (h : MRep ρ β ι' (kill D' m') w) : MRep ρ β ι (kill D m) w := by
  simp only [stays, Bool.and_eq_true, decide_eq_true_eq, List.all_eq_true, List.mem_range, Bool.or_eq_true, Bool.not_eq_true'] at hs
  obtain ⟨hlen, hs⟩ := hs
  have lt : ∀ {i : Nat} {B : Blk}, (kill D m)[i]? = some B → i < m.length := fun {i B} hB => by
    obtain ⟨C, hC, _⟩ := kill_at hB; exact (List.getElem?_eq_some_iff.1 hC).1
  have at_ : ∀ {i : Nat} {B : Blk}, (kill D m)[i]? = some B → B.dead = false → (kill D' m')[i]? = some B ∧ cellsOf ρ ι' B.segs = cellsOf ρ ι B.segs := by
    intro i B hB hd
    have hi := lt hB
    obtain ⟨C, hC, ⟨_, rfl⟩ | ⟨hn, rfl⟩⟩ := kill_at hB
    · cases hd
    · have h1 := hs i hi
      rw [hn] at h1
      simp only [Bool.false_eq_true, false_or] at h1
      refine ⟨?_, (cellsOf_congr hag (List.all_eq_true.1 hsc _ (List.mem_of_getElem? hC))).symm⟩
      unfold kill
      rw [List.getElem?_map, List.getElem?_zipIdx, ← h1.2, hC]
      simp only [Option.map_some, Nat.zero_add, h1.1, Bool.false_eq_true, if_false]
  refine ⟨fun i j B C hB hC hBd hCd hBn hCn he => ?_, fun i B hB hd hn => ?_, fun i B hB hd hn => ?_, (hag.mono hk).trans h.agr, by rw [kill_len]; exact hk, fun i h1 h2 => ?_, h.size, fun b hb hi => ?_, h.os, h.tape, h.output, h.xt, fun i j q nn c hv h0 k hk' => ?_⟩
  · have e1 := hag i (lt hB); have e2 := hag j (lt hC)
    exact h.inj i j B C (at_ hB hBd).1 (at_ hC hCd).1 hBd hCd (by rw [← e1.2.2]; exact hBn) (by rw [← e2.2.2]; exact hCn) (by rw [← e1.1, ← e2.1]; exact he)
  · have e1 := hag i (lt hB)
    obtain ⟨fz, rest, k1, k2, k3, k4⟩ := h.blk i B (at_ hB hd).1 hd (by rw [← e1.2.2]; exact hn)
    rw [(at_ hB hd).2, ← e1.1] at k1
    rw [(at_ hB hd).2, ← e1.2.1] at k3
    exact ⟨fz, rest, k1, k2, k3, k4⟩
  · have e1 := hag i (lt hB)
    rw [← (at_ hB hd).2]; exact h.nils i B (at_ hB hd).1 hd (by rw [← e1.2.2]; exact hn)
  · rw [kill_len] at h2
    rw [(hag i h2).1]
    rcases h.new i h1 (by rw [kill_len]; omega) with hn | ⟨j, hj, hn⟩
    · exact .inl hn
    · exact .inr ⟨j, hj, by rw [hn]; exact (hag j (by omega)).1.symm⟩
  · refine h.old b hb fun i hi' => ?_
    rw [kill_len] at hi'
    by_cases hc : i < m.length
    · rw [← (hag i hc).1]; exact hi i (by rw [kill_len]; exact hc)
    · rcases h.new i (by omega) (by rw [kill_len]; exact hi') with hn | ⟨j, hj, hn⟩
      · omega
      · rw [hn, ← (hag j (by omega)).1]; exact hi j (by rw [kill_len]; omega)
  · rw [kill_len] at hk'
    rw [(hag k hk').1]; exact h.xd i j q nn c hv h0 k (by rw [kill_len]; omega)
theorem early_ok (hH : H.ok ρ) (hf : FRep ρ ι n fr a) {o : Oper} {nd : List E} {H' : Hyp} {fr' : Fr} (h : early P n ops o H fr m = some (nd, H', fr')) (hn : allN ρ nd) :
    ∃ v, YieldsC P ops (fun w => MRep ρ β ι m w) o v a ∧ H'.ok ρ ∧ FRep ρ ι n fr' (a.put o.dst v) := by
  unfold early at h
  split at h
  · cases h
  · rename_i hg
    simp only [Option.map_eq_some_iff, Prod.mk.injEq] at h
    obtain ⟨fr2, hp, rfl, rfl, rfl⟩ := h
    exact ⟨_, .inr ⟨guardH_skip hH hf hg, rfl⟩, hH, put_ok hf hp (fun _ => rfl) (fun hx => absurd (fun e he => by cases he) hx)⟩
  · rename_i G hg
    obtain ⟨hG, hw⟩ := guardH_now hH hf hg
    split at h
    · rename_i nd' v he
      simp only [Option.map_eq_some_iff, Prod.mk.injEq] at h
      obtain ⟨fr2, hp, rfl, rfl, rfl⟩ := h
      exact ⟨v.conc ρ ι, .inl ⟨hw, fun w hm => qop_ok hH hm hf (fun e he => by cases he) he (needs_ok hn)⟩, addFs_ok _ _ hH hn, put_ok hf hp (fun _ => rfl) (fun hx => absurd (fun e he => by cases he) hx)⟩
    · cases h
  · rename_i G hg
    replace hg := guardH_go hg
    split at h
    · rename_i nd' v he
      simp only [Option.map_eq_some_iff, Prod.mk.injEq] at h
      obtain ⟨fr2, hp, rfl, rfl, rfl⟩ := h
      by_cases hG : allT ρ G
      · exact ⟨v.conc ρ ι, .inl ⟨(wanted_go hf hg).1 hG, fun w hm => qop_ok (addFs_ok _ _ hH hG) hm hf hG he (allN_imp (needs_ok hn) hG)⟩, hH, put_ok hf hp (fun _ => rfl) (fun hx => absurd hG hx)⟩
      · exact ⟨Go.undef, .inr ⟨(wanted_go hf hg).2 hG, rfl⟩, hH, put_ok hf hp (fun hx => absurd hx hG) (fun _ => rfl)⟩
    · cases h
/-- the class of worlds while the operation g waits -/
def cls (ρ : Env) (β : Base) (ι : Loc) (D : List Nat) (m : Mem) (g : Option Nat) (S : Array Bool) (w : World) : Prop :=
  match g with
  | none => MRep ρ β ι m w
  | some x => if S.getD x false = true then MRep ρ β ι (kill D m) w else MRep ρ β ι m w
theorem cls_now {D : List Nat} (hm : MRep ρ β ι m w) (g : Option Nat) (S : Array Bool) : cls ρ β ι D m g S w := by
  unfold cls
  split
  · exact hm
  · split
    · exact hm.kill D
    · exact hm
theorem cls_kill {D : List Nat} {g : Option Nat} {S : Array Bool} (h : cls ρ β ι D m g S w) : MRep ρ β ι (kill D m) w := by
  unfold cls at h
  split at h
  · exact h.kill D
  · split at h
    · exact h
    · exact h.kill D
theorem cls_set {D : List Nat} {g : Option Nat} {i : Nat} (hg : g ≠ some i) {S : Array Bool} (h : cls ρ β ι D m g (S.setIfInBounds i true) w) : cls ρ β ι D m g S w := by
  unfold cls at *
  split at h
  · exact h
  · rename_i x
    rw [getD_set_ne false (show i ≠ x from fun h => hg (by rw [h]))] at h
    exact h
theorem firstEarly_mem {D : List Nat} {g : Option Nat} {listed : Array Bool} {i : Nat} {r : List E × Hyp × Fr} : ∀ {l : List Nat}, firstEarly P n ops D g listed H fr m l = some (i, r) → i ∈ l ∧ g ≠ some i ∧ ∃ o, ops[i]? = some o ∧ Region.free .any ops listed i = true ∧
    (early P n ops o H fr (kill D m) = some r ∨ (early P n ops o H fr m = some r ∧ ∀ x, g = some x → x ∈ desc .any ops listed i))
  | [], h => by simp [firstEarly] at h
  | j :: l, h => by
    unfold firstEarly at h
    split at h
    · rename_i o ho
      split at h
      · rename_i hfr
        rw [Bool.and_eq_true, decide_eq_true_eq] at hfr
        split at h
        · rename_i q hq
          simp only [Option.some.injEq, Prod.mk.injEq] at h
          obtain ⟨rfl, rfl⟩ := h
          exact ⟨.head _, hfr.2, o, ho, hfr.1, .inl hq⟩
        · split at h
          · rename_i hx
            split at h
            · rename_i q hq
              simp only [Option.some.injEq, Prod.mk.injEq] at h
              obtain ⟨rfl, rfl⟩ := h
              refine ⟨.head _, hfr.2, o, ho, hfr.1, .inr ⟨hq, fun x hgx => ?_⟩⟩
              subst hgx
              exact List.contains_iff_mem.1 hx
            · obtain ⟨h1, h2⟩ := firstEarly_mem h; exact ⟨.tail _ h1, h2⟩
          · obtain ⟨h1, h2⟩ := firstEarly_mem h; exact ⟨.tail _ h1, h2⟩
      · obtain ⟨h1, h2⟩ := firstEarly_mem h; exact ⟨.tail _ h1, h2⟩
    · cases h
theorem kill_nil (m : Mem) : kill [] m = m := by
  unfold kill
  apply List.ext_getElem?
  intro i
  rw [List.getElem?_map, List.getElem?_zipIdx]
  cases m[i]? <;> simp
theorem look_at : ∀ {fr : Fr} {t : Nat} {g : List E} {x : SV}, look fr t = some (g, x) → ∃ f ∈ fr, f.t = t
  | [], _, _, _, h => by simp [look] at h
  | f :: l, t, g, x, h => by
    unfold look at h
    split at h
    · rename_i he; exact ⟨f, .head _, he⟩
    · obtain ⟨f', h1, h2⟩ := look_at h; exact ⟨f', .tail _ h1, h2⟩
theorem sameFr_ok {fr fr' : Fr} (h : sameFr fr fr' = true) (hf : FRep ρ ι n fr a) : FRep ρ ι n fr' a := by
  have key : ∀ t g x, look fr' t = some (g, x) → look fr t = some (g, x) := fun t g x hl => by
    obtain ⟨f, h1, rfl⟩ := look_at hl
    have := List.all_eq_true.1 h f h1
    rw [decide_eq_true_eq] at this
    rw [this, hl]
  exact ⟨hf.size, hf.defers, fun t g x hl => hf.yes t g x (key t g x hl), fun t g x hl => hf.no t g x (key t g x hl)⟩
/-- the head's blocks in the world -/
def piv (π : List Nat) (ι : Loc) : Loc := ⟨fun b => ι.pos (π.getD b 0), fun b => ι.cap (π.getD b 0), fun b => ι.nil (π.getD b 0)⟩
theorem piv_all {π : List Nat} {ι : Loc} {b c : Nat} (h : π[b]? = some c) : (piv π ι).cap b = ι.cap c ∧ (piv π ι).nil b = ι.nil c := by
  simp [piv, List.getD_eq_getElem?_getD, h]
theorem piv_at {π : List Nat} {ι : Loc} {b c : Nat} (h : π[b]? = some c) : piv π ι b = ι c := by simp [piv, List.getD_eq_getElem?_getD, h]
theorem addr_ren {π : List Nat} (b : Nat) (o : E) : addr ρ ι (π.getD b 0) o = addr ρ (piv π ι) b o := rfl
theorem renS_ok {π : List Nat} : ∀ x : S, (renS π x).conc ρ ι = x.conc ρ (piv π ι)
  | .ptr b o => rfl
  | .slc b o l (.kn c) => rfl
  | .slc b o l (.op c) => rfl
  | .fn f l => by
    simp only [renS, S.conc, List.map_map]
    rfl
  | .int _ _ | .bool _ | .nil | .xslc _ _ _ _ | .xptr _ _ _ _ | .nilIface | .nilSlc | .str _ | .nilFn | .val _ | .undef => rfl
theorem renSeg_ok {π : List Nat} : ∀ x : Seg, (renSeg π x).cells ρ ι = x.cells ρ (piv π ι)
  | .one x => by simp only [renSeg, Seg.cells, renS_ok]
  | .run _ _ _ _ => rfl
  | .rows _ _ _ => rfl
theorem renSegs_ok {π : List Nat} : ∀ l : List Seg, cellsOf ρ ι (l.map (renSeg π)) = cellsOf ρ (piv π ι) l
  | [] => rfl
  | x :: l => by rw [List.map_cons, cells_cons, cells_cons, renSeg_ok, renSegs_ok l]
theorem renV_ok {π : List Nat} : ∀ x : SV, (renV π x).conc ρ ι = x.conc ρ (piv π ι)
  | .s x => renS_ok x
  | .agg l => by simp only [renV, SV.conc, renSegs_ok]
  | .tup l => by simp only [renV, SV.conc, List.map_map, Function.comp_def, renSegs_ok]
  | .junk => rfl
theorem renFr_ok {π : List Nat} {fr fr' : Fr} (h : renFr π fr fr' = true) (hf : FRep ρ ι n fr a) : FRep ρ (piv π ι) n fr' a := by
  have key : ∀ t g x, look fr' t = some (g, x) → ∃ y, look fr t = some (g, y) ∧ y.conc ρ ι = x.conc ρ (piv π ι) := fun t g x hl => by
    obtain ⟨f, h1, rfl⟩ := look_at hl
    have h2 := List.all_eq_true.1 h f h1
    rw [hl] at h2
    simp only at h2
    split at h2
    · rename_i g' y hy
      simp only [Bool.and_eq_true, decide_eq_true_eq] at h2
      obtain ⟨rfl, rfl⟩ := h2
      exact ⟨_, hy, renV_ok x⟩
    · cases h2
  refine ⟨hf.size, hf.defers, fun t g x hl hg => ?_, fun t g x hl hg => ?_⟩
  · obtain ⟨y, h1, h2⟩ := key t g x hl
    rw [hf.yes t g y h1 hg, h2]
  · obtain ⟨y, h1, h2⟩ := key t g x hl
    exact hf.no t g y h1 hg
theorem renBlks_ok {π : List Nat} {m : Mem} : ∀ {l : Mem} {r : List Nat}, renBlks π m l r = true → l.length = r.length ∧ ∀ (i : Nat) (B : Blk), l[i]? = some B → ∃ (p : Nat) (C : Blk), r[i]? = some p ∧ m[p]? = some C ∧ (B.dead = false → C.dead = false ∧ B.ty = C.ty ∧ (B.wr = true → C.wr = true) ∧ B.grow = C.grow ∧ cellsOf ρ (piv π ι) B.segs = cellsOf ρ ι C.segs)
  | [], [], _ => ⟨rfl, fun i B h => by simp at h⟩
  | B :: l, p :: r, h => by
    simp only [renBlks, Bool.and_eq_true] at h
    obtain ⟨h1, h2⟩ := renBlks_ok h.2
    refine ⟨by simp [h1], fun i D hD => ?_⟩
    cases i with
    | zero =>
      simp only [List.getElem?_cons_zero, Option.some.injEq] at hD; subst hD
      have h3 := h.1
      split at h3
      · rename_i C hC
        refine ⟨p, C, rfl, hC, fun hd => ?_⟩
        rw [hd, Bool.false_or] at h3
        simp only [Bool.and_eq_true, decide_eq_true_eq, Bool.or_eq_true, Bool.not_eq_true'] at h3
        obtain ⟨⟨⟨⟨a1, a2⟩, a3⟩, a4⟩, a5⟩ := h3
        exact ⟨a1, a2, fun hw => by rcases a3 with h | h; (rw [hw] at h; cases h); exact h, a4, by rw [a5, renSegs_ok]⟩
      · cases h3
    | succ i => simpa using h2 i D (by simpa using hD)
  | [], _ :: _, h => by simp [renBlks] at h
  | _ :: _, [], h => by simp [renBlks] at h
theorem renMem_ok {K : Nat} {π : List Nat} {m head : Mem} (hK : β.k ≤ K) (h : renMem K π m head = true) (hm : MRep ρ β ι m w) : MRep ρ β (piv π ι) head w := by
  simp only [renMem, Bool.and_eq_true, decide_eq_true_eq] at h
  obtain ⟨⟨⟨⟨hnd, hid⟩, hlt⟩, hKh⟩, hb⟩ := h
  obtain ⟨hlen, hblk⟩ := renBlks_ok (ρ := ρ) (ι := ι) hb
  have hlt : ∀ b ∈ π, b < m.length := fun b hb => by simpa using List.all_eq_true.1 hlt b hb
  have at_ : ∀ i, i < head.length → ∃ p, π[i]? = some p ∧ p < m.length := fun i hi => by
    have hi' : i < π.length := by omega
    exact ⟨π[i], List.getElem?_eq_getElem hi', hlt _ (List.getElem_mem hi')⟩
  have id_ : ∀ i, i < K → π[i]? = some i := fun i hi => by
    have := congrArg (fun l => l[i]?) hid
    simp only [List.getElem?_take, if_pos hi, List.getElem?_range hi] at this
    exact this
  have back : ∀ i j p, π[i]? = some p → π[j]? = some p → i = j := fun i j p hi hj => by
    have hi' := (List.getElem?_eq_some_iff.1 hi)
    have hj' := (List.getElem?_eq_some_iff.1 hj)
    exact (List.getElem_inj hnd).1 (hi'.2.trans hj'.2.symm)
  refine ⟨fun i j B D hB hD hBd hDd hBn hDn he => ?_, fun i B hB hBd hBn => ?_, fun i B hB hBd hBn => ?_, fun i hi => ?_, by omega, fun i h1 h2 => ?_, hm.size, fun b hb hi => ?_, hm.os, hm.tape, hm.output, hm.xt, fun i j a n c hv h0 k hk => ?_⟩
  · obtain ⟨p, C, hp, hC, h1⟩ := hblk i B hB
    obtain ⟨q, F, hq, hF, h2⟩ := hblk j D hD
    rw [piv_at hp, piv_at hq] at he
    rw [(piv_all hp).2] at hBn
    rw [(piv_all hq).2] at hDn
    have := hm.inj _ _ C F hC hF (h1 hBd).1 (h2 hDd).1 hBn hDn he
    subst this
    exact back i j p hp hq
  · obtain ⟨p, C, hp, hC, h1⟩ := hblk i B hB
    obtain ⟨hCd, ht, hw, hg, hc⟩ := h1 hBd
    rw [(piv_all hp).2] at hBn
    obtain ⟨fz, rest, k1, k2, k3, k4⟩ := hm.blk p C hC hCd hBn
    rw [(piv_all hp).1, piv_at hp, hc, ht, hg]
    exact ⟨fz, rest, k1, fun h => k2 (hw h), k3, k4⟩
  · obtain ⟨p, C, hp, hC, h1⟩ := hblk i B hB
    obtain ⟨hCd, ht, hw, hg, hc⟩ := h1 hBd
    rw [(piv_all hp).2] at hBn
    rw [hg, hc]; exact hm.nils p C hC hCd hBn
  · have := id_ i (by omega)
    rw [piv_at this, (piv_all this).1, (piv_all this).2]; exact hm.agr i hi
  · obtain ⟨p, hp, hp'⟩ := at_ i h2
    rw [piv_at hp]
    rcases hm.new p (by
      by_cases hc : p < K
      · have := back i p p hp (id_ p hc)
        omega
      · omega) hp' with hn | ⟨j, hj, hn⟩
    · exact .inl hn
    · exact .inr ⟨j, hj, by rw [piv_at (id_ j (by omega))]; exact hn⟩
  · refine hm.old b hb fun i hi' he => ?_
    by_cases hc : i ∈ π
    · obtain ⟨j, hj, hj'⟩ := List.getElem_of_mem hc
      exact hi j (by omega) (by rw [piv_at (List.getElem?_eq_some_iff.2 ⟨hj, hj'⟩)]; exact he)
    · by_cases hk : i < β.k
      · exact hc (List.mem_of_getElem? (id_ i (by omega)))
      · rcases hm.new i (by omega) hi' with hn | ⟨j, hj, hn⟩
        · omega
        · exact hi j (by omega) (by rw [piv_at (id_ j (by omega)), ← hn]; exact he)
  · obtain ⟨p, hp, hp'⟩ := at_ k hk
    rw [piv_at hp]; exact hm.xd i j a n c hv h0 p hp'
/-- what holds of fr and m holds of fr' and m', where the blocks may lie elsewhere -/
def FitsAs (K : Nat) (fr : Fr) (m : Mem) (fr' : Fr) (m' : Mem) : Prop := ∀ {ρ : Env} {β : Base} {ι : Loc} {n : Nat} {a : Act} {w : World}, β.k ≤ K → FRep ρ ι n fr a → MRep ρ β ι m w → ∃ ι', FRep ρ ι' n fr' a ∧ MRep ρ β ι' m' w
theorem sameAs_ok {K : Nat} {fr fr' : Fr} {m m' : Mem} (h : sameAs K fr m fr' m' = true) : FitsAs K fr m fr' m' := by
  intro ρ β ι n a w hK hf hm
  unfold sameAs at h
  rw [Bool.or_eq_true] at h
  rcases h with h | h
  · simp only [Bool.and_eq_true, decide_eq_true_eq] at h
    obtain ⟨h, rfl⟩ := h
    exact ⟨ι, sameFr_ok h hf, hm⟩
  · simp only [findRen, Bool.and_eq_true, List.any_eq_true] at h
    obtain ⟨_, π, _, h1, h2⟩ := h
    exact ⟨piv π ι, renFr_ok h2 hf, renMem_ok hK h1 hm⟩
theorem joinB_ok {K : Nat} {step : Nat → Option (List E × Hyp × Fr × Mem)} : ∀ {l : List Nat} {nd : List E} {fr : Fr} {m : Mem}, joinB K step l = some (nd, fr, m) → ∀ i ∈ l, ∃ ndi Hi fri mi, step i = some (ndi, Hi, fri, mi) ∧ (∀ e ∈ ndi, e ∈ nd) ∧ FitsAs K fri mi fr m
  | [], _, _, _, h, _, hi => by cases hi
  | [j], nd, fr, m, h, i, hi => by
    simp only [List.mem_singleton] at hi; subst hi
    unfold joinB at h
    split at h
    · rename_i nd' H' fr' m' hs
      simp only [Option.some.injEq, Prod.mk.injEq] at h
      obtain ⟨rfl, rfl, rfl⟩ := h
      exact ⟨_, _, _, _, hs, fun e he => he, fun _ hf hm => ⟨_, hf, hm⟩⟩
    · cases h
  | j :: k :: l, nd, fr, m, h, i, hi => by
    unfold joinB at h
    split at h
    · rename_i nd1 H1 fr1 m1 hs
      split at h
      · rename_i nd2 fr2 m2 hj
        split at h
        · rename_i hc
          simp only [Option.some.injEq, Prod.mk.injEq] at h
          obtain ⟨rfl, rfl, rfl⟩ := h
          rcases List.mem_cons.1 hi with rfl | hi
          · exact ⟨_, _, _, _, hs, fun e he => List.mem_append_left _ he, sameAs_ok hc⟩
          · obtain ⟨ndi, Hi, fri, mi, h1, h2, h3⟩ := joinB_ok hj i hi
            exact ⟨ndi, Hi, fri, mi, h1, fun e he => List.mem_append_right _ (h2 e he), h3⟩
        · cases h
      · cases h
    · cases h
theorem dops_ok {I : Interp} (hΓ : CtxOK P I Γ) (hI : ρ.I = I) (hsel : Region.noSelect ops = true) {Q : Exit → Act → World → Prop} (hQ : ∀ c a w, ¬ Q (.panic c) a w) :
    ∀ (k : Nat) {D L : List Nat} {listed : Array Bool} {H H' : Hyp} {nd : List E} {fr fr' : Fr} {m m' : Mem} {ι : Loc} {a : Act} {w : World}, dops P Γ n ops D k L listed H fr m = some (nd, H', fr', m') →
      H.ok ρ → allN ρ nd → MRep ρ β ι m w → FRep ρ ι n fr a → (∀ ι' a' w', H'.ok ρ → FRep ρ ι' n fr' a' → MRep ρ β ι' m' w' → Q .normal a' w') →
      wpAnyC P .any ops Q (cls ρ β ι D m L.head?) k listed a w := by
  intro k
  induction k with
  | zero =>
    intro D L listed H H' nd fr fr' m m' ι a w h hH hn hm hf hK
    unfold dops at h
    split at h
    · rename_i hr
      simp only [Option.some.injEq, Prod.mk.injEq] at h
      obtain ⟨rfl, rfl, rfl, rfl⟩ := h
      exact ⟨cls_now hm _ _, hr, hK _ _ _ hH hf hm⟩
    · cases h
  | succ k ih =>
    intro D L listed H H' nd fr fr' m m' ι a w h hH hn hm hf hK
    unfold dops at h
    simp only at h
    split at h
    · rename_i hr
      simp only [Option.some.injEq, Prod.mk.injEq] at h
      obtain ⟨rfl, rfl, rfl, rfl⟩ := h
      exact wpAnyC_done hr (cls_now hm _ _) (hK _ _ _ hH hf hm) _
    · split at h
      · rename_i i nd1 H1 fr1 he
        split at h
        · rename_i nd2 q hd
          simp only [Option.some.injEq, Prod.mk.injEq] at h
          obtain ⟨rfl, rfl⟩ := h
          obtain ⟨hmem, hgi, o, ho, hfree, hea⟩ := firstEarly_mem he
          rcases hea with hea | ⟨hea, hx⟩
          · obtain ⟨v, hy, hH1, hf1⟩ := early_ok (β := β) hH hf hea (allN_append hn).1
            exact wpAnyC_first (K := cls ρ β ι D m L.head?) (T := []) ho (Region.noSelect_spec hsel) hQ (fun t ht => by cases ht) (fun S w _ hw => cls_kill hw) (fun S w hw => cls_set hgi hw)
              k listed a w (Region.free_spec ho hfree) (fun t ht => by cases ht) hmem hy (ih hd hH1 (allN_append hn).2 hm hf1 hK)
          · obtain ⟨v, hy, hH1, hf1⟩ := early_ok (β := β) hH hf hea (allN_append hn).1
            refine wpAnyC_first (K := cls ρ β ι D m L.head?) (T := desc .any ops listed i) ho (Region.noSelect_spec hsel) hQ (fun t ht => (desc_ok t ht).2) (fun S w hS hw => ?_) (fun S w hw => cls_set hgi hw)
              k listed a w (Region.free_spec ho hfree) (fun t ht => (desc_ok t ht).1) hmem hy (ih hd hH1 (allN_append hn).2 hm hf1 hK)
            unfold cls at hw
            split at hw
            · exact hw
            · rename_i x hgx
              have h0 := hS x (hx x hgx)
              split at hw
              · rename_i h1
                rcases Nat.lt_or_ge x S.size with h' | h'
                · simp [h'] at h0 h1; rw [h0] at h1; cases h1
                · simp [Array.getElem?_eq_none h'] at h1
              · exact hw
        · cases h
      · split at h
        · rename_i i x L' hr _
          split at h
          · rename_i hix
            subst hix
            split at h
            · rename_i o ho
              split at h
              · rename_i nd1 H1 fr1 m1 h1
                split at h
                · rename_i hst
                  simp only [Bool.and_eq_true] at hst
                  split at h
                  · rename_i nd2 q hd
                    simp only [Option.some.injEq, Prod.mk.injEq] at h
                    obtain ⟨rfl, rfl⟩ := h
                    have hin : listed.getD i true = false := (mem_ready.1 (by rw [hr]; exact .head _ : i ∈ Region.ready .any ops listed)).1
                    have hlt : (listed.setIfInBounds i true).getD i false = true := by
                      rcases Nat.lt_or_ge i listed.size with h' | h'
                      · simp [h']
                      · simp [Array.getElem?_eq_none h'] at hin
                    refine wpAnyC_only hr (cls_now hm _ _) ?_
                    have hop := opStep_ok (β := ⟨w, m.length, ι⟩) (Q := Q) hΓ hI h1 hH (allN_append hn).1 hm.now hf
                      (K := wpAnyC P .any ops Q (cls ρ β ι D m (some i)) k (listed.setIfInBounds i true))
                      (fun ι' a' w' hH' hf' hm' => by
                        have hag : Loc.agree m.length ι' ι := hm'.agr
                        have hs := hm.since hm'
                        refine wpAnyC.mono (x := i) (fun S w2 hS h2 => ?_) _ _ _ _ hlt (ih hd hH' (allN_append hn).2 hs hf' hK)
                        unfold cls
                        simp only [hS, if_true]
                        exact stays_ok hst.1 hst.2 hag.symm hm.len (cls_kill h2))
                    unfold wpOp
                    simp only [ho]
                    split
                    · rename_i hw; rw [if_pos hw] at hop; exact .inl hop
                    · rename_i hw; rw [if_neg hw] at hop; exact hop
                  · cases h
                · cases h
              · cases h
            · cases h
          · cases h
        · rename_i x L' _ _
          split at h
          · rename_i nd1 fr1 m1 hj
            simp only [Option.some.injEq, Prod.mk.injEq] at h
            obtain ⟨rfl, rfl, rfl, rfl⟩ := h
            refine ⟨cls_now hm _ _, fun h0 => ?_, fun i hi => ?_⟩
            · rw [h0] at hj; simp [joinB] at hj
            obtain ⟨ndi, Hi, fri, mi, hs, hsub, hfri⟩ := joinB_ok hj i hi
            have hni : allN ρ ndi := fun e he => hn e (hsub e he)
            unfold bstep at hs
            split at hs
            · rename_i o ho
              split at hs
              · rename_i nd2 H2 fr2 m2 h1
                split at hs
                · rename_i hst
                  simp only [Bool.and_eq_true] at hst
                  split at hs
                  · rename_i nd3 q hd
                    simp only [Option.some.injEq, Prod.mk.injEq] at hs
                    obtain ⟨rfl, rfl⟩ := hs
                    have hin : listed.getD i true = false := (mem_ready.1 hi).1
                    have hlt : (listed.setIfInBounds i true).getD i false = true := by
                      rcases Nat.lt_or_ge i listed.size with h' | h'
                      · simp [h']
                      · simp [Array.getElem?_eq_none h'] at hin
                    have hop := opStep_ok (β := ⟨w, m.length, ι⟩) (Q := Q) hΓ hI h1 hH (allN_append hni).1 hm.now hf
                      (K := wpAnyC P .any ops Q (cls ρ β ι D m (some x)) k (listed.setIfInBounds i true))
                      (fun ι' a' w' hH' hf' hm' => by
                        have hag : Loc.agree m.length ι' ι := hm'.agr
                        have hs := hm.since hm'
                        refine wpAnyC.mono (x := i) (fun S w2 hS h2 => ?_) _ _ _ _ hlt (ih hd hH' (allN_append hni).2 hs hf' (fun ι2 a2 w2 _ hf2 hm2 => (by
                          obtain ⟨ι3, hf3, hm3⟩ := hfri hm.len hf2 hm2
                          exact hK ι3 a2 w2 hH hf3 hm3)))
                        have hs0 := hst.1.1
                        by_cases hix : i = x
                        · subst hix
                          unfold cls
                          simp only [hS, if_true]
                          exact stays_ok hs0 hst.2 hag.symm hm.len (cls_kill h2)
                        · have h4 := hst.1.2
                          rw [Bool.or_eq_true, decide_eq_true_eq] at h4
                          replace h4 := h4.resolve_left (by simp; exact fun h => hix h.symm)
                          rw [show ((x :: L').erase i).head? = some x by rw [List.erase_cons_tail (by simp; exact fun h => hix h.symm)]; rfl] at h2
                          unfold cls at *
                          simp only at h2 ⊢
                          split
                          · rename_i hSx
                            rw [if_pos hSx] at h2
                            exact stays_ok hs0 hst.2 hag.symm hm.len h2
                          · rename_i hSx
                            rw [if_neg hSx] at h2
                            have h5 := stays_ok (D := []) (D' := []) (m := m) (m' := m2) h4 hst.2 hag.symm hm.len (by rw [kill_nil]; exact h2)
                            rw [kill_nil] at h5
                            exact h5)
                    unfold wpOp
                    simp only [ho]
                    split
                    · rename_i hw; rw [if_pos hw] at hop; exact .inl hop
                    · rename_i hw; rw [if_neg hw] at hop; exact hop
                  · cases hs
                · cases hs
              · cases hs
            · cases hs
          · cases h
        · cases h
theorem goes_reg0 {I : Interp} (hΓ : CtxOK P I Γ) (hI : ρ.I = I) (hP : P.follows .mixedOrders = true) {id : Nat} {draw : Bool} {R : Act → World → Prop}
    {nd : List E} {H' : Hyp} {fr' : Fr} {m' : Mem} (hr : regOps P Γ n ops draw H fr m = some (nd, H', fr', m')) (hn : allN ρ nd) (hH : H.ok ρ) (hf : FRep ρ ι n fr a) (hm : MRep ρ β ι m w)
    (hk : ∀ ι' a' w', H'.ok ρ → FRep ρ ι' n fr' a' → MRep ρ β ι' m' w' → R a' w') : (Code.region id ops draw).wp P (fun e a' w' => e = .normal ∧ R a' w') a w := by
  unfold regOps at hr
  cases draw with
  | false =>
    simp only [Bool.false_eq_true, if_false] at hr
    exact wp_region_list (rops_ok hΓ hI ops.toList hr hH hn hm hf fun ι' a' w' hH' hf' hm' => ⟨rfl, hk _ _ _ hH' hf' hm'⟩)
  | true =>
    simp only [if_true] at hr
    split at hr
    · rename_i r hq
      split at hq
      · rename_i hB
        simp only [Option.some.injEq] at hr; subst hr
        have hmem := rops_mem _ hq
        subst hmem
        refine wp_region_quiet (C := fun w => MRep ρ β ι m' w) hP hB (hm.drew _) ?_
        exact rops_quiet hΓ hI ops.toList hq hH hn hf fun a' hH' hf' => fun w' hm' => ⟨rfl, hk _ _ _ hH' hf' hm'⟩
      · cases hq
    · split at hr
      · rename_i hsel
        refine wp_region_any hP (wpAnyC.any _ _ _ _ (dops_ok (Q := fun e a' w' => e = .normal ∧ R a' w') hΓ hI hsel (fun c a w hh => by cases hh.1) ops.size hr hH hn (hm.drew _) hf fun ι' a' w' hH' hf' hm' => ⟨rfl, hk _ _ _ hH' hf' hm'⟩))
      · cases hr
end

/-! ### where two ways meet again -/

def mergeS (e : E) (x y : S) : Option S :=
  if x = y then some x else
  match x, y with
  | .int k a, .int k' b => if k = k' then some (.int k (mkIteI e a b)) else none
  | .bool a, .bool b => some (.bool (mkIteB e a b))
  | .ptr b o, .ptr b' o' => if b = b' then some (.ptr b (mkIte e o o')) else none
  | .slc b o l (.kn c), .slc b' o' l' (.kn c') => if b = b' then some (.slc b (mkIte e o o') (mkIte e l l') (.kn (mkIte e c c'))) else none
  | .slc b o l (.op c), .slc b' o' l' (.op c') => if b = b' then some (.slc b (mkIte e o o') (mkIte e l l') (.op (mkIte e c c'))) else none
  | .xslc i j o l, .xslc i' j' o' l' => if i = i' ∧ j = j' then some (.xslc i j (mkIte e o o') (mkIte e l l')) else none
  | .xptr i j k f, .xptr i' j' k' f' => if i = i' ∧ j = j' ∧ f = f' then some (.xptr i j (mkIte e k k') f) else none
  | _, _ => none
/-- a row that was written, without what was written -/
def baseA : E → E
  | .upd A _ _ => baseA A
  | A => A
def pushB (c A : E) : E → E
  | .upd B j y => mkUpd (pushB c A B) j (mkIteI c (mkSel H0 A j) y)
  | B => mkIte c A B
def pushA (c : E) : E → E → E
  | .upd A i x, B => mkUpd (pushA c A B) i (mkIteI c x (mkSel H0 B i))
  | A, B => pushB c A B
/-- a choice of rows -/
def mkIteA (c A B : E) : E := if A = B then A else if baseA A = baseA B then pushA c A B else mkIte c A B
theorem pushB_a {ρ : Env} (c A : E) : ∀ B : E, (pushB c A B).a ρ = if c.b ρ then A.a ρ else B.a ρ := by
  intro B
  induction B with
  | upd B j y ihB _ _ =>
    unfold pushB
    rw [mkUpd_a, ihB, mkIteI_i, mkSel_i H0_ok, a_upd]
    funext k
    cases E.b ρ c
    · simp only [Bool.false_eq_true, if_false]
    · simp only [if_true]; split
      · rename_i h; rw [h]
      · rfl
  | _ => exact mkIte_a _ _ _
theorem pushA_a {ρ : Env} (c : E) : ∀ A B : E, (pushA c A B).a ρ = if c.b ρ then A.a ρ else B.a ρ := by
  intro A
  induction A with
  | upd A i x ihA _ _ =>
    intro B
    unfold pushA
    rw [mkUpd_a, ihA, mkIteI_i, mkSel_i H0_ok, a_upd]
    funext k
    cases E.b ρ c
    · simp only [Bool.false_eq_true, if_false]; split
      · rename_i h; rw [h]
      · rfl
    · simp only [if_true]
  | _ => intro B; exact pushB_a _ _ _
theorem mkIteA_a {ρ : Env} (c A B : E) : (mkIteA c A B).a ρ = if c.b ρ then A.a ρ else B.a ρ := by
  unfold mkIteA
  split
  · rename_i h; subst h; simp
  · split
    · exact pushA_a _ _ _
    · exact mkIte_a _ _ _
def mergeXF (e : E) : List XF → List XF → Option (List XF)
  | [], [] => some []
  | f :: l, g :: r => if f.1 = g.1 then (mergeXF e l r).map ((f.1, mkIteA e f.2 g.2) :: ·) else none
  | _, _ => none
def mergeSeg (e : E) (x y : Seg) : Option Seg :=
  match x, y with
  | .one a, .one b => (mergeS e a b).map .one
  | .run k n A o, .run k' n' A' o' => if k = k' ∧ o = o' then some (.run k (mkIte e n n') (mkIteA e A A') o) else none
  | .rows n fs o, .rows n' fs' o' => if o = o' then (mergeXF e fs fs').map fun gs => .rows (mkIte e n n') gs o else none
  | _, _ => none
def mergeSegs (e : E) : List Seg → List Seg → Option (List Seg)
  | [], [] => some []
  | x :: l, y :: r => match mergeSeg e x y, mergeSegs e l r with
    | some z, some s => some (z :: s)
    | _, _ => none
  | _, _ => none
def mergeTup (e : E) : List (Bool × List Seg) → List (Bool × List Seg) → Option (List (Bool × List Seg))
  | [], [] => some []
  | x :: l, y :: r => if x.1 = y.1 then match mergeSegs e x.2 y.2, mergeTup e l r with
      | some z, some s => some ((x.1, z) :: s)
      | _, _ => none
    else none
  | _, _ => none
def mergeV (e : E) (x y : SV) : Option SV :=
  match x, y with
  | .tup l, .tup r => (mergeTup e l r).map .tup
  | .s a, .s b => (mergeS e a b).map .s
  | .agg l, .agg r => (mergeSegs e l r).map .agg
  | x, y => if x = y then some x else none
def mergeBlk (e : E) (x y : Blk) : Option Blk :=
  if x.ty = y.ty ∧ x.wr = y.wr ∧ x.grow = y.grow then
    if x.dead || y.dead then some { x with segs := [], dead := true } else (mergeSegs e x.segs y.segs).map fun z => { x with segs := z }
  else none
def mergeMem (e : E) : Mem → Mem → Option Mem
  | [], [] => some []
  | x :: l, y :: r => match mergeBlk e x y, mergeMem e l r with
    | some z, some s => some (z :: s)
    | _, _ => none
  | _, _ => none
def mergeAt (e : E) (f1 f2 : Fr) (t : Nat) : FE :=
  match look f1 t, look f2 t with
  | some (g, x), some (g', y) => if g = g' then match mergeV e x y with
      | some z => ⟨t, g, z⟩
      | none => ⟨t, [], .junk⟩
    else ⟨t, [], .junk⟩
  | _, _ => ⟨t, [], .junk⟩
def mergeFr (e : E) (fr f1 f2 : Fr) : Fr :=
  ((f1.take (f1.length - fr.length)).map (·.t) ++ (f2.take (f2.length - fr.length)).map (·.t)).map (mergeAt e f1 f2) ++ fr

section
variable {e : E} {ι : Loc} {ρ : Env}
theorem mergeS_ok {x y z : S} (h : mergeS e x y = some z) : z.conc ρ ι = if e.b ρ then x.conc ρ ι else y.conc ρ ι := by
  unfold mergeS at h
  split at h
  · rename_i hxy; subst hxy
    simp only [Option.some.injEq] at h; subst h; simp
  · split at h
    · split at h
      · rename_i hk; subst hk
        simp only [Option.some.injEq] at h; subst h
        simp only [S.conc, mkIteI_i]; split <;> rfl
      · cases h
    · simp only [Option.some.injEq] at h; subst h
      simp only [S.conc, mkIteB_b]; split <;> rfl
    · split at h
      · rename_i hk; subst hk
        simp only [Option.some.injEq] at h; subst h
        simp only [S.conc, addr, mkIte_i]; split <;> rfl
      · cases h
    · split at h
      · rename_i hk; subst hk
        simp only [Option.some.injEq] at h; subst h
        simp only [S.conc, addr, mkIte_i]; split <;> rfl
      · cases h
    · split at h
      · rename_i hk; subst hk
        simp only [Option.some.injEq] at h; subst h
        simp only [S.conc, addr, mkIte_i]
        cases e.b ρ <;> simp
      · cases h
    · split at h
      · rename_i hk; obtain ⟨rfl, rfl⟩ := hk
        simp only [Option.some.injEq] at h; subst h
        simp only [S.conc, mkIte_i]; split <;> rfl
      · cases h
    · split at h
      · rename_i hk; obtain ⟨rfl, rfl, rfl⟩ := hk
        simp only [Option.some.injEq] at h; subst h
        simp only [S.conc, mkIte_i]; split <;> rfl
      · cases h
    · cases h
theorem mergeXF_ok : ∀ {x y z : List XF}, mergeXF e x y = some z → ∀ k, (z.map fun f => XF.conc ρ f k) = if e.b ρ then x.map fun f => XF.conc ρ f k else y.map fun f => XF.conc ρ f k
  | [], [], z, h, k => by simp only [mergeXF, Option.some.injEq] at h; subst h; simp
  | x :: l, [], z, h, k => by simp [mergeXF] at h
  | [], y :: r, z, h, k => by simp [mergeXF] at h
  | x :: l, y :: r, z, h, k => by
    simp only [mergeXF] at h
    split at h
    · rename_i hk
      simp only [Option.map_eq_some_iff] at h
      obtain ⟨w, hw, rfl⟩ := h
      simp only [List.map_cons, mergeXF_ok hw]
      have : XF.conc ρ (x.1, mkIteA e x.2 y.2) k = if e.b ρ then XF.conc ρ x k else XF.conc ρ y k := by
        simp only [XF.conc, mkIteA_a, ← hk]
        cases e.b ρ <;> simp
      rw [this]
      cases e.b ρ <;> simp
    · cases h
theorem mergeSeg_ok {x y z : Seg} (h : mergeSeg e x y = some z) : z.cells ρ ι = if e.b ρ then x.cells ρ ι else y.cells ρ ι := by
  unfold mergeSeg at h
  split at h
  · simp only [Option.map_eq_some_iff] at h
    obtain ⟨s, hs, rfl⟩ := h
    simp only [cells_one, mergeS_ok (ρ := ρ) (ι := ι) hs]; split <;> rfl
  · split at h
    · rename_i hk
      obtain ⟨rfl, rfl⟩ := hk
      simp only [Option.some.injEq] at h; subst h
      simp only [Seg.cells, mkIteA_a, mkIte_i]; cases e.b ρ <;> simp
    · cases h
  · split at h
    · rename_i hk
      subst hk
      simp only [Option.map_eq_some_iff] at h
      obtain ⟨gs, hg, rfl⟩ := h
      simp only [Seg.cells, mkIte_i, mergeXF_ok hg]; cases e.b ρ <;> simp
    · cases h
  · cases h
theorem mergeSegs_ok : ∀ {x y z : List Seg}, mergeSegs e x y = some z → cellsOf ρ ι z = if e.b ρ then cellsOf ρ ι x else cellsOf ρ ι y
  | [], [], z, h => by simp only [mergeSegs, Option.some.injEq] at h; subst h; simp
  | x :: l, [], z, h => by simp [mergeSegs] at h
  | [], y :: r, z, h => by simp [mergeSegs] at h
  | x :: l, y :: r, z, h => by
    simp only [mergeSegs] at h
    split at h
    · rename_i u s hu hs
      simp only [Option.some.injEq] at h; subst h
      rw [cells_cons, cells_cons, cells_cons, mergeSeg_ok (ρ := ρ) (ι := ι) hu, mergeSegs_ok hs]
      split <;> rfl
    · cases h
theorem mergeTup_ok : ∀ {x y z : List (Bool × List Seg)}, mergeTup e x y = some z → SV.conc ρ ι (.tup z) = if e.b ρ then SV.conc ρ ι (.tup x) else SV.conc ρ ι (.tup y) := by
  have key : ∀ {x y z : List (Bool × List Seg)}, mergeTup e x y = some z → (z.map fun p => if p.1 then Value.agg (cellsOf ρ ι p.2).toArray else ((cellsOf ρ ι p.2)[0]?).getD Go.undef) =
      if e.b ρ then (x.map fun p => if p.1 then Value.agg (cellsOf ρ ι p.2).toArray else ((cellsOf ρ ι p.2)[0]?).getD Go.undef) else (y.map fun p => if p.1 then Value.agg (cellsOf ρ ι p.2).toArray else ((cellsOf ρ ι p.2)[0]?).getD Go.undef) := by
    intro x
    induction x with
    | nil => intro y z h; cases y <;> simp [mergeTup] at h; subst h; simp
    | cons a l ih =>
      intro y z h
      cases y with
      | nil => simp [mergeTup] at h
      | cons b r =>
        simp only [mergeTup] at h
        split at h
        · rename_i hab
          split at h
          · rename_i u s hu hs
            simp only [Option.some.injEq] at h; subst h
            simp only [List.map_cons, ih hs, mergeSegs_ok (ρ := ρ) (ι := ι) hu, hab]
            cases e.b ρ <;> simp
          · cases h
        · cases h
  intro x y z h
  simp only [SV.conc, key h]
  split <;> rfl
theorem mergeV_ok {x y z : SV} (h : mergeV e x y = some z) : z.conc ρ ι = if e.b ρ then x.conc ρ ι else y.conc ρ ι := by
  unfold mergeV at h
  split at h
  · simp only [Option.map_eq_some_iff] at h
    obtain ⟨s, hs, rfl⟩ := h
    exact mergeTup_ok hs
  · simp only [Option.map_eq_some_iff] at h
    obtain ⟨s, hs, rfl⟩ := h
    exact mergeS_ok hs
  · simp only [Option.map_eq_some_iff] at h
    obtain ⟨s, hs, rfl⟩ := h
    simp only [SV.conc, mergeSegs_ok (ρ := ρ) (ι := ι) hs]; split <;> rfl
  · split at h
    · rename_i hxy; subst hxy
      simp only [Option.some.injEq] at h; subst h; simp
    · cases h
theorem mergeMem_at : ∀ {x y z : Mem}, mergeMem e x y = some z → x.length = z.length ∧ y.length = z.length ∧ ∀ (i : Nat) (C : Blk), z[i]? = some C → ∃ A B : Blk, x[i]? = some A ∧ y[i]? = some B ∧ mergeBlk e A B = some C
  | [], [], z, h => by simp only [mergeMem, Option.some.injEq] at h; subst h; simp
  | x :: l, [], z, h => by simp [mergeMem] at h
  | [], y :: r, z, h => by simp [mergeMem] at h
  | x :: l, y :: r, z, h => by
    simp only [mergeMem] at h
    split at h
    · rename_i u s hu hs
      simp only [Option.some.injEq] at h; subst h
      obtain ⟨h1, h2, h3⟩ := mergeMem_at hs
      refine ⟨by simp [h1], by simp [h2], fun i C hC => ?_⟩
      cases i with
      | zero =>
        simp only [List.getElem?_cons_zero, Option.some.injEq] at hC; subst hC
        exact ⟨x, y, rfl, rfl, hu⟩
      | succ i => simpa using h3 i C (by simpa using hC)
    · cases h
theorem mergeBlk_ok {A B C : Blk} (h : mergeBlk e A B = some C) (hd : C.dead = false) : A.dead = false ∧ B.dead = false ∧ A.ty = C.ty ∧ B.ty = C.ty ∧ A.wr = C.wr ∧ B.wr = C.wr ∧ A.grow = C.grow ∧ B.grow = C.grow ∧ cellsOf ρ ι C.segs = if e.b ρ then cellsOf ρ ι A.segs else cellsOf ρ ι B.segs := by
  unfold mergeBlk at h
  split at h
  · rename_i hk
    split at h
    · simp only [Option.some.injEq] at h; subst h; cases hd
    · rename_i hdd
      simp only [Bool.or_eq_true, not_or, Bool.not_eq_true] at hdd
      simp only [Option.map_eq_some_iff] at h
      obtain ⟨z, hz, rfl⟩ := h
      exact ⟨hdd.1, hdd.2, rfl, hk.1.symm, rfl, hk.2.1.symm, rfl, hk.2.2.symm, mergeSegs_ok hz⟩
  · cases h
theorem mergeMem_ok {β : Base} {w : World} {x y z : Mem} (h : mergeMem e x y = some z) (hm : if e.b ρ then MRep ρ β ι x w else MRep ρ β ι y w) : MRep ρ β ι z w := by
  obtain ⟨h1, h2, h3⟩ := mergeMem_at h
  cases he : e.b ρ
  · rw [he] at hm
    simp only [Bool.false_eq_true, if_false] at hm
    refine ⟨fun i j C D hC hD hCd hDd hCn hDn hq => ?_, fun i C hC hCd hCn => ?_, fun i C hC hCd hCn => ?_, hm.agr, by rw [← h2]; exact hm.len, by rw [← h2]; exact hm.new, hm.size, by rw [← h2]; exact hm.old, hm.os, hm.tape, hm.output, hm.xt, by rw [← h2]; exact hm.xd⟩
    · obtain ⟨A, B, ha, hb, hs⟩ := h3 i C hC
      obtain ⟨A', B', ha', hb', hs'⟩ := h3 j D hD
      exact hm.inj i j B B' hb hb' (mergeBlk_ok (ρ := ρ) (ι := ι) hs hCd).2.1 (mergeBlk_ok (ρ := ρ) (ι := ι) hs' hDd).2.1 hCn hDn hq
    · obtain ⟨A, B, ha, hb, hs⟩ := h3 i C hC
      obtain ⟨d1, d2, t1, t2, w1, w2, g1, g2, hc⟩ := mergeBlk_ok (ρ := ρ) (ι := ι) hs hCd
      rw [he] at hc; simp only [Bool.false_eq_true, if_false] at hc
      rw [hc, ← t2, ← w2, ← g2]; exact hm.blk i B hb d2 hCn
    · obtain ⟨A, B, ha, hb, hs⟩ := h3 i C hC
      obtain ⟨d1, d2, t1, t2, w1, w2, g1, g2, hc⟩ := mergeBlk_ok (ρ := ρ) (ι := ι) hs hCd
      rw [he] at hc; simp only [Bool.false_eq_true, if_false] at hc
      rw [hc, ← g2]; exact hm.nils i B hb d2 hCn
  · rw [he] at hm
    simp only [if_true] at hm
    refine ⟨fun i j C D hC hD hCd hDd hCn hDn hq => ?_, fun i C hC hCd hCn => ?_, fun i C hC hCd hCn => ?_, hm.agr, by rw [← h1]; exact hm.len, by rw [← h1]; exact hm.new, hm.size, by rw [← h1]; exact hm.old, hm.os, hm.tape, hm.output, hm.xt, by rw [← h1]; exact hm.xd⟩
    · obtain ⟨A, B, ha, hb, hs⟩ := h3 i C hC
      obtain ⟨A', B', ha', hb', hs'⟩ := h3 j D hD
      exact hm.inj i j A A' ha ha' (mergeBlk_ok (ρ := ρ) (ι := ι) hs hCd).1 (mergeBlk_ok (ρ := ρ) (ι := ι) hs' hDd).1 hCn hDn hq
    · obtain ⟨A, B, ha, hb, hs⟩ := h3 i C hC
      obtain ⟨d1, d2, t1, t2, w1, w2, g1, g2, hc⟩ := mergeBlk_ok (ρ := ρ) (ι := ι) hs hCd
      rw [he] at hc; simp only [if_true] at hc
      rw [hc, ← t1, ← w1, ← g1]; exact hm.blk i A ha d1 hCn
    · obtain ⟨A, B, ha, hb, hs⟩ := h3 i C hC
      obtain ⟨d1, d2, t1, t2, w1, w2, g1, g2, hc⟩ := mergeBlk_ok (ρ := ρ) (ι := ι) hs hCd
      rw [he] at hc; simp only [if_true] at hc
      rw [hc, ← g1]; exact hm.nils i A ha d1 hCn
theorem look_append (d fr : Fr) (t : Nat) : look (d ++ fr) t = if t ∈ d.map (·.t) then look d t else look fr t := by
  induction d with
  | nil => simp
  | cons f d ih =>
    simp only [List.cons_append, look, List.map_cons, List.mem_cons]
    by_cases hf : f.t = t
    · simp [hf]
    · rw [if_neg hf, if_neg hf, ih]
      have : (t = f.t ∨ t ∈ d.map (·.t)) ↔ t ∈ d.map (·.t) := ⟨fun h => h.resolve_left (fun h => hf h.symm), .inr⟩
      simp only [this]
theorem look_map (g : Nat → FE) (hg : ∀ t, (g t).t = t) (l : List Nat) (t : Nat) (h : t ∈ l) : look (l.map g) t = if (g t).x = .junk then none else some ((g t).g, (g t).x) := by
  induction l with
  | nil => cases h
  | cons u l ih =>
    simp only [List.map_cons, look, hg]
    by_cases hu : u = t
    · subst hu; simp
    · rw [if_neg hu]
      exact ih (by cases h with | head => exact absurd rfl hu | tail _ h => exact h)
theorem mergeAt_t (f1 f2 : Fr) (t : Nat) : (mergeAt e f1 f2 t).t = t := by
  unfold mergeAt; repeat' split
  all_goals rfl
theorem mergeFr_ok {n : Nat} {a : Act} {fr d1 d2 : Fr} (h : if e.b ρ then FRep ρ ι n (d1 ++ fr) a else FRep ρ ι n (d2 ++ fr) a) : FRep ρ ι n (mergeFr e fr (d1 ++ fr) (d2 ++ fr)) a := by
  have hk : mergeFr e fr (d1 ++ fr) (d2 ++ fr) = (d1.map (·.t) ++ d2.map (·.t)).map (mergeAt e (d1 ++ fr) (d2 ++ fr)) ++ fr := by
    simp [mergeFr]
  have hkeys : ((d1.map (·.t) ++ d2.map (·.t)).map (mergeAt e (d1 ++ fr) (d2 ++ fr))).map (·.t) = d1.map (·.t) ++ d2.map (·.t) := by
    rw [List.map_map]
    exact List.map_id'' (fun t => mergeAt_t _ _ t) _
  have key : ∀ t g z, look (mergeFr e fr (d1 ++ fr) (d2 ++ fr)) t = some (g, z) →
      ∃ x, look (if e.b ρ then d1 ++ fr else d2 ++ fr) t = some (g, x) ∧ z.conc ρ ι = x.conc ρ ι := by
    intro t g z hl
    rw [hk, look_append, hkeys] at hl
    split at hl
    · rename_i ht
      rw [look_map _ (fun t => mergeAt_t _ _ t) _ _ ht] at hl
      split at hl
      · cases hl
      · rename_i hj
        simp only [Option.some.injEq, Prod.mk.injEq] at hl
        unfold mergeAt at hl hj
        split at hl
        · rename_i g1 x g2 y h1 h2
          rw [h1, h2] at hj
          simp only at hj
          split at hl
          · rename_i hg; subst hg
            split at hl
            · rename_i z' hz
              obtain ⟨rfl, rfl⟩ := hl
              have := mergeV_ok (ρ := ρ) (ι := ι) hz
              cases he : e.b ρ
              · exact ⟨y, by simpa using h2, by rw [this, he]; simp⟩
              · exact ⟨x, by simpa using h1, by rw [this, he]; simp⟩
            · simp_all
          · simp_all
        · simp_all
    · rename_i ht
      simp only [List.mem_append, not_or] at ht
      refine ⟨z, ?_, rfl⟩
      cases he : e.b ρ
      · simp only [Bool.false_eq_true, if_false]; rw [look_append, if_neg ht.2]; exact hl
      · simp only [if_true]; rw [look_append, if_neg ht.1]; exact hl
  have h' : FRep ρ ι n (if e.b ρ then d1 ++ fr else d2 ++ fr) a := by
    cases he : e.b ρ <;> simp only [he] at h <;> simpa using h
  refine ⟨h'.size, h'.defers, fun t g z hl hg => ?_, fun t g z hl hg => ?_⟩
  · obtain ⟨x, hx, hz⟩ := key t g z hl
    rw [hz]; exact h'.yes _ _ _ hx hg
  · obtain ⟨x, hx, hz⟩ := key t g z hl
    exact h'.no _ _ _ hx hg
end

/-! ### the code -/

def Goes (P : Program) (f : FuncId) (R : Ending → World → Prop) (todo : List Item) (a : Act) (w : World) : Prop :=
  ∀ (b : Frame) (cs : List Frame), b.fn = f → b.kind = .normal → ∃ e w' fr, R e w' ∧ Comes P (lone (b.at a todo) cs w) (lone fr cs w') e ∧ fr.fn = f ∧ fr.leaving P w' e

inductive Tree where
  | ret (v : SV) (m : Mem)
  | stop (todo : List Item) (H : Hyp) (fr : Fr) (m : Mem)
  | again (H : Hyp) (fr : Fr) (m : Mem)
  | need (c : E) (t : Tree)
  | ite (c : E) (t e : Tree)
  | fail (why : String)

/-- what is to be shown of a run -/
def Tree.holds (P : Program) (f : FuncId) (R : Ending → World → Prop) (ρ : Env) (β : Base) (n : Nat) (bs : List Item) : Tree → Prop
  | .ret v m => ∀ ι w, MRep ρ β ι m w → R (.returned (v.conc ρ ι)) w
  | .stop todo H fr m => H.ok ρ → ∀ ι a w, FRep ρ ι n fr a → MRep ρ β ι m w → Goes P f R todo a w
  | .again H fr m => H.ok ρ → ∀ ι a w, FRep ρ ι n fr a → MRep ρ β ι m w → Goes P f R bs a w
  | .need c t => c.b ρ = true ∧ (c.b ρ = true → t.holds P f R ρ β n bs)
  | .ite c t e => (c.b ρ = true → t.holds P f R ρ β n bs) ∧ (c.b ρ = false → e.holds P f R ρ β n bs)
  | .fail _ => False

def addNeeds (l : List E) (t : Tree) : Tree := l.foldr .need t

def toPart : SV → Option (Bool × List Seg)
  | .s x => if x.plain then some (false, [.one x]) else none
  | .agg l => some (true, l)
  | _ => none

def resOne (P : Program) (H : Hyp) (fr : Fr) (m : Mem) : ResultVar → Option SV
  | .tmp t => opnd [] fr (.tmp t)
  | .cell t ty => match opnd [] fr (.tmp t) with
    | some (.s (.ptr b off)) => match qLoad P H m ty (.s (.ptr b off)) with
      | some (nd, v) => if needs nd = [] then some v else none
      | none => none
    | _ => none
def resAll (P : Program) (H : Hyp) (fr : Fr) (m : Mem) : List ResultVar → Option SV
  | [] => some (.tup [])
  | [r] => resOne P H fr m r
  | [r, s] => match (resOne P H fr m r).bind toPart, (resOne P H fr m s).bind toPart with
    | some x, some y => some (.tup [x, y])
    | _, _ => none
  | [r, s, t] => match (resOne P H fr m r).bind toPart, (resOne P H fr m s).bind toPart, (resOne P H fr m t).bind toPart with
    | some x, some y, some z => some (.tup [x, y, z])
    | _, _, _ => none
  | _ => none


/-- A piece of code that no way leaves but by its foot; ways meet again. -/
def runS (P : Program) (Γ : Ctx) (n : Nat) : (fuel loops : Nat) → List Item → Hyp → Fr → Mem → Option (List E × Hyp × Fr × Mem)
  | 0, _, _, _, _, _ => none
  | k + 1, u, todo, H, fr, m =>
    match todo with
    | [] => some ([], H, fr, m)
    | .code .skip :: r | .code (.label _) :: r | .inBlock _ :: r => runS P Γ n k u r H fr m
    | .code (.seq x y) :: r => runS P Γ n k u (.code x :: .code y :: r) H fr m
    | .code (.block id c) :: r => runS P Γ n k u (.code c :: .inBlock id :: r) H fr m
    | .code (.exit id) :: r => match exitTo id r with
      | some r' => runS P Γ n k u r' H fr m
      | none => none
    | .code (.cond c x y) :: r => match opnd [] fr c with
      | some (.s (.bool e0)) => match decB H e0 with
        | .blit t => runS P Γ n k u (.code (if t then x else y) :: r) H fr m
        | e => match runS P Γ n k u [.code x] (addF true e H) fr m, runS P Γ n k u [.code y] (addF false e H) fr m with
          | some (nd1, _, f1, m1), some (nd2, _, f2, m2) => match mergeMem e m1 m2 with
            | some m' => match runS P Γ n k u r H (mergeFr e fr f1 f2) m' with
              | some (nd, q) => some (needs (nd1.map (imp [e])) ++ (needs (nd2.map (imp [mkNot e])) ++ nd), q)
              | none => none
            | none => none
          | _, _ => none
      | _ => none
    | .code (.region id ops draw) :: r =>
      match regOps P Γ n ops draw H fr m with
      | some (nd, H', fr', m') => match runS P Γ n k u r H' fr' m' with
        | some (nd', q) => some (nd ++ nd', q)
        | none => none
      | none => none
    | .code (.loop c) :: r | .inLoop c :: r => match u with
      | 0 => none
      | u + 1 => runS P Γ n k u (.code c :: .inLoop c :: r) H fr m
    | _ => none

/-- two ways that meet again -/
def meetW (P : Program) (Γ : Ctx) (n k u : Nat) (e : E) (x y : Code) (H : Hyp) (fr : Fr) (m : Mem) : Option (List E × Fr × Mem) :=
  match runS P Γ n k u [.code x] (addF true e H) fr m, runS P Γ n k u [.code y] (addF false e H) fr m with
  | some (nd1, _, f1, m1), some (nd2, _, f2, m2) => match mergeMem e m1 m2 with
    | some m' => some (needs (nd1.map (imp [e])) ++ needs (nd2.map (imp [mkNot e])), mergeFr e fr f1 f2, m')
    | none => none
  | _, _ => none

/-- a condition by which a call's ways part (no proof hangs on it) -/
abbrev HintCtx := FuncId → Hyp → List SV → Mem → Option E
def hintOps (P : Program) (Γ : Ctx) (hc : HintCtx) (quiet : Bool) (n : Nat) (ops : Array Oper) : List Oper → Hyp → Fr → Mem → Option E
  | [], _, _, _ => none
  | o :: l, H, fr, m => match opStep P Γ quiet n ops o H fr m with
    | some (_, H', fr', m') => hintOps P Γ hc quiet n ops l H' fr' m'
    | none => match guardH H ops fr o with
      | .go G => G.find? (fun g => match decB H g with | .blit _ => false | _ => true)
      | .now _ => match callOf P [] fr o.op with
        | some (f, l) => hc f H l m
        | none => none
      | _ => none
def treeHint : Tree → Option E
  | .need _ t => treeHint t
  | .ite c _ _ => some c
  | _ => none

/-- a loop's name: the first region within it -/
def key : Code → Nat
  | .region id _ _ => id + 1
  | .seq a b | .cond _ a b => if key a = 0 then key b else key a
  | .block _ b | .loop b | .scope b => key b
  | _ => 0

/-- The run: 'loops' says how many rounds at most a loop is entered by itself. 'base': what lies behind the code that is run (a loop's next round); none: the function's end. -/
def run (P : Program) (Γ : Ctx) (hc : HintCtx) (fn : Func) (n : Nat) (cut : List Nat) : (fuel loops : Nat) → Option (List Item) → List Item → Hyp → Fr → Mem → Tree
  | 0, _, _, _, _, _, _ => .fail "fuel"
  | k + 1, u, base, todo, H, fr, m =>
    match todo with
    | [] => match base with
      | some _ => .again H fr m
      | none => match resAll P H fr m fn.results.toList with
        | some v => .ret v m
        | none => .fail "results"
    | .code .ret :: _ => match resAll P H fr m fn.results.toList with
      | some v => .ret v m
      | none => .fail "results"
    | .code .skip :: r | .code (.label _) :: r | .inBlock _ :: r => run P Γ hc fn n cut k u base r H fr m
    | .code (.seq x y) :: r => run P Γ hc fn n cut k u base (.code x :: .code y :: r) H fr m
    | .code (.block id c) :: r => run P Γ hc fn n cut k u base (.code c :: .inBlock id :: r) H fr m
    | .code (.exit id) :: r => match exitTo id r with
      | some r' => run P Γ hc fn n cut k u base r' H fr m
      | none => match base with
        | some b => match exitTo id b with
          | some r' => run P Γ hc fn n cut k u none r' H fr m
          | none => .fail "exit"
        | none => .fail "exit"
    | .code (.cond c x y) :: r => match opnd [] fr c with
      | some (.s (.bool e0)) => match decB H e0 with
        | .blit t => run P Γ hc fn n cut k u base (.code (if t then x else y) :: r) H fr m
        | e => match meetW P Γ n k u e x y H fr m with
          | some (nd, fr', m') => addNeeds nd (run P Γ hc fn n cut k u base r H fr' m')
          | none => .ite e (run P Γ hc fn n cut k u base (.code x :: r) (addF true e H) fr m) (run P Γ hc fn n cut k u base (.code y :: r) (addF false e H) fr m)
      | _ => .fail "cond"
    | .code (.region id ops draw) :: r =>
      match regOps P Γ n ops draw H fr m with
      | some (nd, H', fr', m') => addNeeds nd (run P Γ hc fn n cut k u base r H' fr' m')
      | none => match hintOps P Γ hc draw n ops ops.toList H fr m with
        | some c => match decB H c with
          | .blit _ => .fail "region (hint)"
          | _ => .ite c (run P Γ hc fn n cut k u base todo (addF true c H) fr m) (run P Γ hc fn n cut k u base todo (addF false c H) fr m)
        | none => .fail "region"
    | .code (.loop c) :: r | .inLoop c :: r =>
      if cut.contains (key c) then .stop (.code c :: .inLoop c :: (r ++ base.getD [])) H fr m else
      match u with
      | 0 => .stop (.code c :: .inLoop c :: (r ++ base.getD [])) H fr m
      | u + 1 => run P Γ hc fn n cut k u base (.code c :: .inLoop c :: r) H fr m
    | _ => .fail "code"

section
variable {ρ : Env} {ι : Loc} {H : Hyp} {P : Program} {Γ : Ctx} {w : World} {β : Base} {m : Mem} {fr : Fr} {n : Nat} {a : Act}
variable {f : FuncId} {fn : Func} {R : Ending → World → Prop} {k : List Item} {a' : Act} {w' : World}

theorem goes_step {todo todo' : List Item} (h : ∀ (b : Frame) cs, step P (lone (b.at a todo) cs w) = .next (lone (b.at a' todo') cs w')) (hg : Goes P f R todo' a' w') : Goes P f R todo a w :=
  fun b cs hb hk => let ⟨e, w2, fr, hr, hc, hl⟩ := hg b cs hb hk; ⟨e, w2, fr, hr, .of_steps (.one (h b cs)) hc, hl⟩

theorem goes_wp {c : Code} {Q : Exit → Act → World → Prop} (h : c.wp P Q a w) (hq : ∀ e a' w', Q e a' w' → e = .normal ∧ Goes P f R k a' w') : Goes P f R (.code c :: k) a w := by
  intro b cs hb hk
  obtain ⟨e, a1, w1, q, arr⟩ := h b k cs
  obtain ⟨rfl, hg⟩ := hq _ _ _ q
  obtain ⟨e2, w2, fr, hr, hc, hl⟩ := hg b cs hb hk
  exact ⟨e2, w2, fr, hr, .of_steps arr hc, hl⟩

theorem goes_leave {todo : List Item} {v : Value} (hd : a.defers = []) (hf : P.funcs[f]? = some fn) (hr : (results fn a.tmps).run P w = .ok v w) (hR : R (.returned v) w)
    (hs : ∀ (b : Frame) cs, step P (lone (b.at a todo) cs w) = .next (lone { b.at a todo with mode := .returning } cs w)) : Goes P f R todo a w :=
  fun b cs hb hk => ⟨.returned v, w, { b.at a todo with mode := .returning }, hR, Steps.one (hs b cs), hb, rfl, hd, hk, fn, by rw [show ({ b.at a todo with mode := .returning } : Frame).fn = f from hb]; exact hf, hr⟩

theorem calls_of_goes {c : Code} {args : Array Value} (hf : P.funcs[f]? = some fn) (hb : fn.body = some c)
    (h : Goes P f R [.code c] { tmps := args ++ Array.replicate (fn.ntmps - args.size) Go.undef, defers := [] } w) : Calls P f args w R := by
  intro cs
  have := h { (default : Frame) with fn := f, kind := .normal } cs rfl rfl
  have he : Frame.enter P f args .normal = ({ (default : Frame) with fn := f, kind := .normal } : Frame).at { tmps := args ++ Array.replicate (fn.ntmps - args.size) Go.undef, defers := [] } [.code c] := by
    simp [Frame.enter, Frame.at, hf, hb]
  rw [he]
  exact this

theorem toPart_ok {x : SV} {p : Bool × List Seg} (h : toPart x = some p) : (if p.1 then Value.agg (cellsOf ρ ι p.2).toArray else ((cellsOf ρ ι p.2)[0]?).getD Go.undef) = x.conc ρ ι := by
  unfold toPart at h
  split at h
  · split at h
    · simp only [Option.some.injEq] at h; subst h; simp [cellsOf, Seg.cells, SV.conc]
    · cases h
  · simp only [Option.some.injEq] at h; subst h; rfl
  · cases h
def resSem (tmps : Array Value) : ResultVar → Sem Value
  | .tmp t => pure (tmps[t]?.getD Go.undef)
  | .cell x t => do loadVar t (← asAddr (tmps[x]?.getD Go.undef))
theorem resOne_ok (hH : H.ok ρ) (hm : MRep ρ β ι m w) (hf : FRep ρ ι n fr a) {r : ResultVar} {v : SV} (h : resOne P H fr m r = some v) :
    (resSem a.tmps r).run P w = .ok (v.conc ρ ι) w := by
  have hG : allT ρ [] := fun e he => by cases he
  have ev : ∀ (t : Tmp) (u : SV), opnd [] fr (.tmp t) = some u → a.tmps[t]?.getD Go.undef = u.conc ρ ι := fun t u hu => by
    rw [← opnd_ok hf hG hu, Act.eval, Array.getD_eq_getD_getElem?]
  cases r with
  | tmp t =>
    simp only [resSem, Sem.run_pure, ev t v h]
  | cell x t =>
    simp only [resOne] at h
    split at h
    · rename_i b off hu
      split at h
      · rename_i nd v' hq
        split at h
        · rename_i hnd
          simp only [Option.some.injEq] at h; subst h
          have hn : allN ρ nd := needs_ok (by rw [hnd]; intro e he; cases he)
          have := qLoad_ok (ι := ι) hH hm hq hn
          simp only [resSem, ev x _ hu]
          simp only [Instr.loadAt] at this
          simp only [SV.conc, S.conc, Instr.sureAddr, asAddr] at this ⊢; exact this
        · cases h
      · cases h
    · cases h

theorem results_eq (fn : Func) (tmps : Array Value) : results fn tmps = (do
    let vs ← fn.results.mapM (resSem tmps)
    pure (if h : vs.size = 1 then vs[0] else .tuple vs)) := by
  unfold results
  have : (fun r : ResultVar => match r with | .tmp t => (pure (tmps.getD t Go.undef) : Sem Value) | .cell a t => do loadVar t (← asAddr (tmps.getD a Go.undef))) = resSem tmps := by
    funext r
    cases r <;> simp [resSem, Array.getD_eq_getD_getElem?]
  rw [← this]; rfl

theorem resAll_ok (hH : H.ok ρ) (hm : MRep ρ β ι m w) (hf : FRep ρ ι n fr a) {v : SV} (h : resAll P H fr m fn.results.toList = some v) :
    (results fn a.tmps).run P w = .ok (v.conc ρ ι) w := by
  rw [results_eq]
  cases hr : fn.results with
  | mk l =>
  rw [hr] at h
  unfold resAll at h
  have one : ∀ r v, resOne P H fr m r = some v → (resSem a.tmps r).run P w = .ok (v.conc ρ ι) w := fun r v h => resOne_ok hH hm hf h
  split at h
  · rename_i hl
    simp only [Option.some.injEq] at h; subst h
    simp only at hl; subst hl
    simp [SV.conc]
  · rename_i r hl
    simp only at hl; subst hl
    have := one r v h
    simp [this]
  · rename_i r s hl
    simp only at hl; subst hl
    split at h
    · rename_i x y hx hy
      simp only [Option.some.injEq] at h; subst h
      rw [Option.bind_eq_some_iff] at hx hy
      obtain ⟨u, hu, hx⟩ := hx
      obtain ⟨u', hu', hy⟩ := hy
      have e : SV.conc ρ ι (.tup [x, y]) = .tuple #[u.conc ρ ι, u'.conc ρ ι] := by
        show Value.tuple (List.map _ [x, y]).toArray = _
        simp only [List.map_cons, List.map_nil, toPart_ok (ρ := ρ) (ι := ι) hx, toPart_ok (ρ := ρ) (ι := ι) hy]
      rw [e]
      simp [one r u hu, one s u' hu']
    · cases h
  · rename_i r s t hl
    simp only at hl; subst hl
    split at h
    · rename_i x y z hx hy hz
      simp only [Option.some.injEq] at h; subst h
      rw [Option.bind_eq_some_iff] at hx hy hz
      obtain ⟨u, hu, hx⟩ := hx
      obtain ⟨u', hu', hy⟩ := hy
      obtain ⟨u2, hu2, hz⟩ := hz
      have e : SV.conc ρ ι (.tup [x, y, z]) = .tuple #[u.conc ρ ι, u'.conc ρ ι, u2.conc ρ ι] := by
        show Value.tuple (List.map _ [x, y, z]).toArray = _
        simp only [List.map_cons, List.map_nil, toPart_ok (ρ := ρ) (ι := ι) hx, toPart_ok (ρ := ρ) (ι := ι) hy, toPart_ok (ρ := ρ) (ι := ι) hz]
      rw [e]
      simp [one r u hu, one s u' hu', one t u2 hu2]
    · cases h
  · cases h

theorem addNeeds_ok {bs : List Item} {l : List E} {t : Tree} (h : (addNeeds l t).holds P f R ρ β n bs) : allN ρ l ∧ t.holds P f R ρ β n bs := by
  induction l with
  | nil => exact ⟨fun e he => (by cases he), h⟩
  | cons e l ih =>
    obtain ⟨h1, h2⟩ := h
    have := ih (h2 h1)
    exact ⟨fun x hx => by cases hx with | head => exact h1 | tail _ hx => exact this.1 x hx, this.2⟩


theorem opStep_fr {quiet : Bool} {ops : Array Oper} {o : Oper} {nd : List E} {H' : Hyp} {fr' : Fr} {m' : Mem} (h : opStep P Γ quiet n ops o H fr m = some (nd, H', fr', m')) : ∃ d, fr' = d ++ fr := by
  have hp : ∀ {dst : Option Tmp} {g : List E} {v : SV} {fr' : Fr}, put n fr dst g v = some fr' → ∃ d, fr' = d ++ fr := by
    intro dst g v fr' h
    unfold put at h
    split at h
    · simp only [Option.some.injEq] at h; subst h; exact ⟨[], rfl⟩
    · split at h
      · simp only [Option.some.injEq] at h; subst h; exact ⟨[_], rfl⟩
      · cases h
  unfold opStep at h
  split at h
  · cases h
  · simp only [Option.map_eq_some_iff, Prod.mk.injEq] at h
    obtain ⟨_, h, _, _, rfl, _⟩ := h; exact hp h
  · split at h
    · simp only [Option.map_eq_some_iff, Prod.mk.injEq] at h
      obtain ⟨_, h, _, _, rfl, _⟩ := h; exact hp h
    · cases h
  · split at h
    · simp only [Option.map_eq_some_iff, Prod.mk.injEq] at h
      obtain ⟨_, h, _, _, rfl, _⟩ := h; exact hp h
    · cases h
theorem rops_fr {quiet : Bool} {ops : Array Oper} : ∀ (l : List Oper) {H H' : Hyp} {nd : List E} {fr fr' : Fr} {m m' : Mem}, rops P Γ quiet n ops l H fr m = some (nd, H', fr', m') → ∃ d, fr' = d ++ fr
  | [], H, H', nd, fr, fr', m, m', h => by
    simp only [rops, Option.some.injEq, Prod.mk.injEq] at h; exact ⟨[], h.2.2.1.symm⟩
  | o :: l, H, H', nd, fr, fr', m, m', h => by
    simp only [rops] at h
    split at h
    · rename_i nd1 H1 fr1 m1 h1
      split at h
      · rename_i nd2 r h2
        simp only [Option.some.injEq, Prod.mk.injEq] at h
        obtain ⟨rfl, rfl⟩ := h
        obtain ⟨d, rfl⟩ := opStep_fr h1
        obtain ⟨d', rfl⟩ := rops_fr l h2
        exact ⟨d' ++ d, by simp⟩
      · cases h
    · cases h
theorem put_fr {dst : Option Tmp} {g : List E} {v : SV} {fr' : Fr} (h : put n fr dst g v = some fr') : ∃ d, fr' = d ++ fr := by
  unfold put at h
  split at h
  · simp only [Option.some.injEq] at h; subst h; exact ⟨[], rfl⟩
  · split at h
    · simp only [Option.some.injEq] at h; subst h; exact ⟨[_], rfl⟩
    · cases h
theorem early_fr {ops : Array Oper} {o : Oper} {nd : List E} {H' : Hyp} {fr' : Fr} (h : early P n ops o H fr m = some (nd, H', fr')) : ∃ d, fr' = d ++ fr := by
  unfold early at h
  split at h
  · cases h
  · simp only [Option.map_eq_some_iff, Prod.mk.injEq] at h
    obtain ⟨_, h, _, _, rfl⟩ := h; exact put_fr h
  · split at h
    · simp only [Option.map_eq_some_iff, Prod.mk.injEq] at h
      obtain ⟨_, h, _, _, rfl⟩ := h; exact put_fr h
    · cases h
  · split at h
    · simp only [Option.map_eq_some_iff, Prod.mk.injEq] at h
      obtain ⟨_, h, _, _, rfl⟩ := h; exact put_fr h
    · cases h
theorem joinB_one {K : Nat} {step : Nat → Option (List E × Hyp × Fr × Mem)} : ∀ {l : List Nat} {nd : List E} {fr : Fr} {m : Mem}, joinB K step l = some (nd, fr, m) → ∃ i nd' H', step i = some (nd', H', fr, m)
  | [], nd, fr, m, h => by simp [joinB] at h
  | [i], nd, fr, m, h => by
    unfold joinB at h
    split at h
    · rename_i nd' H' fr' m' hs
      simp only [Option.some.injEq, Prod.mk.injEq] at h
      obtain ⟨rfl, rfl, rfl⟩ := h
      exact ⟨_, _, _, hs⟩
    · cases h
  | i :: k :: l, nd, fr, m, h => by
    unfold joinB at h
    split at h
    · split at h
      · rename_i nd2 fr2 m2 hj
        split at h
        · simp only [Option.some.injEq, Prod.mk.injEq] at h
          obtain ⟨rfl, rfl, rfl⟩ := h
          exact joinB_one hj
        · cases h
      · cases h
    · cases h
theorem dops_fr {ops : Array Oper} : ∀ (k : Nat) {D L : List Nat} {listed : Array Bool} {H H' : Hyp} {nd : List E} {fr fr' : Fr} {m m' : Mem}, dops P Γ n ops D k L listed H fr m = some (nd, H', fr', m') → ∃ d, fr' = d ++ fr := by
  intro k
  induction k with
  | zero =>
    intro D L listed H H' nd fr fr' m m' h
    unfold dops at h
    split at h
    · simp only [Option.some.injEq, Prod.mk.injEq] at h; exact ⟨[], h.2.2.1.symm⟩
    · cases h
  | succ k ih =>
    intro D L listed H H' nd fr fr' m m' h
    unfold dops at h
    simp only at h
    split at h
    · simp only [Option.some.injEq, Prod.mk.injEq] at h; exact ⟨[], h.2.2.1.symm⟩
    · split at h
      · rename_i i nd1 H1 f1 he
        split at h
        · rename_i nd2 q hd
          obtain ⟨H2, f2, m2⟩ := q
          simp only [Option.some.injEq, Prod.mk.injEq] at h
          obtain ⟨_, rfl, rfl, rfl⟩ := h
          obtain ⟨_, _, o, _, _, hea⟩ := firstEarly_mem he
          obtain ⟨d, rfl⟩ : ∃ d, f1 = d ++ fr := hea.elim early_fr (fun h => early_fr h.1)
          obtain ⟨d', rfl⟩ := ih hd
          exact ⟨d' ++ d, by simp⟩
        · cases h
      · split at h
        · split at h
          · split at h
            · split at h
              · rename_i h1
                split at h
                · split at h
                  · rename_i nd2 q hd
                    obtain ⟨H2, f2, m2⟩ := q
                    simp only [Option.some.injEq, Prod.mk.injEq] at h
                    obtain ⟨_, rfl, rfl, rfl⟩ := h
                    obtain ⟨d, rfl⟩ := opStep_fr h1
                    obtain ⟨d', rfl⟩ := ih hd
                    exact ⟨d' ++ d, by simp⟩
                  · cases h
                · cases h
              · cases h
            · cases h
          · cases h
        · split at h
          · rename_i nd1 fr1 m1 hj
            simp only [Option.some.injEq, Prod.mk.injEq] at h
            obtain ⟨_, rfl, rfl, rfl⟩ := h
            obtain ⟨i, nd2, H2, hs⟩ := joinB_one hj
            unfold bstep at hs
            split at hs
            · split at hs
              · rename_i h1
                split at hs
                · split at hs
                  · rename_i nd3 q hd
                    obtain ⟨H3, f3, m3⟩ := q
                    simp only [Option.some.injEq, Prod.mk.injEq] at hs
                    obtain ⟨_, rfl, rfl, rfl⟩ := hs
                    obtain ⟨d, rfl⟩ := opStep_fr h1
                    obtain ⟨d', rfl⟩ := ih hd
                    exact ⟨d' ++ d, by simp⟩
                  · cases hs
                · cases hs
              · cases hs
            · cases hs
          · cases h
        · cases h
theorem regOps_fr {ops : Array Oper} {draw : Bool} {H' : Hyp} {nd : List E} {fr' : Fr} {m' : Mem} (h : regOps P Γ n ops draw H fr m = some (nd, H', fr', m')) : ∃ d, fr' = d ++ fr := by
  unfold regOps at h
  split at h
  · split at h
    · rename_i hq
      split at hq
      · simp only [Option.some.injEq] at h; subst h; exact rops_fr _ hq
      · cases hq
    · split at h
      · exact dops_fr _ h
      · cases h
  · exact rops_fr _ h
theorem mergeFr_fr (e : E) (fr f1 f2 : Fr) : ∃ d, mergeFr e fr f1 f2 = d ++ fr := ⟨_, rfl⟩
theorem runS_fr : ∀ (k u : Nat) {todo : List Item} {H H' : Hyp} {nd : List E} {fr fr' : Fr} {m m' : Mem}, runS P Γ n k u todo H fr m = some (nd, H', fr', m') → ∃ d, fr' = d ++ fr := by
  intro k
  induction k with
  | zero => intro u todo H H' nd fr fr' m m' h; simp [runS] at h
  | succ k ih =>
    intro u todo H H' nd fr fr' m m' h
    unfold runS at h
    split at h
    · simp only [Option.some.injEq, Prod.mk.injEq] at h; exact ⟨[], h.2.2.1.symm⟩
    · exact ih _ h
    · exact ih _ h
    · exact ih _ h
    · exact ih _ h
    · exact ih _ h
    · split at h
      · exact ih _ h
      · cases h
    · split at h
      · split at h
        · exact ih _ h
        · split at h
          · split at h
            · split at h
              · rename_i nd' q hq
                obtain ⟨H2, f2, m2⟩ := q
                simp only [Option.some.injEq, Prod.mk.injEq] at h
                obtain ⟨_, rfl, rfl, rfl⟩ := h
                obtain ⟨d, hd⟩ := ih _ hq
                obtain ⟨d2, hd2⟩ := mergeFr_fr (decB H _) fr _ _
                exact ⟨d ++ d2, by rw [hd, hd2, List.append_assoc]⟩
              · cases h
            · cases h
          · cases h
      · cases h
    · split at h
      · rename_i h1
        split at h
        · rename_i nd' q hq
          obtain ⟨H2, f2, m2⟩ := q
          simp only [Option.some.injEq, Prod.mk.injEq] at h
          obtain ⟨_, rfl, rfl, rfl⟩ := h
          obtain ⟨d, rfl⟩ := regOps_fr h1
          obtain ⟨d', rfl⟩ := ih _ hq
          exact ⟨d' ++ d, by simp⟩
        · cases h
      · cases h
    · split at h
      · cases h
      · exact ih _ h
    · split at h
      · cases h
      · exact ih _ h
    · cases h

theorem exitTo_append {id : Nat} : ∀ {k k' : List Item} (r : List Item), exitTo id k = some k' → exitTo id (k ++ r) = some (k' ++ r) := by
  intro k
  induction k with
  | nil => intro k' r h; simp [exitTo] at h
  | cons x k ih =>
    intro k' r h
    cases x <;> simp only [exitTo, List.cons_append] at h ⊢
    case inBlock i =>
      by_cases hc : (i == id) = true
      · rw [if_pos hc] at h ⊢; simp only [Option.some.injEq] at h; rw [h]
      · rw [if_neg hc] at h ⊢; exact ih r h
    all_goals exact ih r h

theorem goes_region {I : Interp} (hΓ : CtxOK P I Γ) (hI : ρ.I = I) (hP : P.follows .mixedOrders = true) {id : Nat} {ops : Array Oper} {draw : Bool} {r : List Item}
    {nd : List E} {H' : Hyp} {fr' : Fr} {m' : Mem} (hr : regOps P Γ n ops draw H fr m = some (nd, H', fr', m')) (hn : allN ρ nd) (hH : H.ok ρ) (hf : FRep ρ ι n fr a) (hm : MRep ρ β ι m w)
    (hk : ∀ ι' a' w', H'.ok ρ → FRep ρ ι' n fr' a' → MRep ρ β ι' m' w' → Goes P f R r a' w') : Goes P f R (.code (.region id ops draw) :: r) a w :=
  goes_wp (goes_reg0 hΓ hI hP hr hn hH hf hm hk) (fun _ _ _ hq => hq)

theorem runS_ok {I : Interp} (hΓ : CtxOK P I Γ) (hI : ρ.I = I) (hP : P.follows .mixedOrders = true) : ∀ (k u : Nat) (todo : List Item) (H H' : Hyp) (nd : List E) (fr fr' : Fr) (m m' : Mem) (ι : Loc) (a : Act) (w : World) (r : List Item),
    runS P Γ n k u todo H fr m = some (nd, H', fr', m') → allN ρ nd → H.ok ρ → FRep ρ ι n fr a → MRep ρ β ι m w →
    (∀ ι' a' w', H'.ok ρ → FRep ρ ι' n fr' a' → MRep ρ β ι' m' w' → Goes P f R r a' w') → Goes P f R (todo ++ r) a w := by
  intro k
  induction k with
  | zero => intro u todo H H' nd fr fr' m m' ι a w r h; simp [runS] at h
  | succ k ih =>
    intro u todo H H' nd fr fr' m m' ι a w r h hn hH hf hm hk
    have hG : allT ρ [] := fun e he => by cases he
    unfold runS at h
    split at h
    · simp only [Option.some.injEq, Prod.mk.injEq] at h
      obtain ⟨rfl, rfl, rfl, rfl⟩ := h
      exact hk ι a w hH hf hm
    · exact goes_step (fun b cs => step_skip) (ih _ _ _ _ _ _ _ _ _ _ _ _ r h hn hH hf hm hk)
    · exact goes_step (fun b cs => step_label) (ih _ _ _ _ _ _ _ _ _ _ _ _ r h hn hH hf hm hk)
    · exact goes_step (fun b cs => step_inBlock) (ih _ _ _ _ _ _ _ _ _ _ _ _ r h hn hH hf hm hk)
    · exact goes_step (fun b cs => step_seq) (ih _ _ _ _ _ _ _ _ _ _ _ _ r h hn hH hf hm hk)
    · exact goes_step (fun b cs => step_block) (ih _ _ _ _ _ _ _ _ _ _ _ _ r h hn hH hf hm hk)
    · split at h
      · rename_i hr
        exact goes_step (fun b cs => step_exit (exitTo_append r hr)) (ih _ _ _ _ _ _ _ _ _ _ _ _ r h hn hH hf hm hk)
      · cases h
    · rename_i c x y todo'
      split at h
      · rename_i e0 hc
        have hev := opnd_ok hf hG hc
        have hdec := decB_b hH e0
        split at h
        · rename_i t ht
          rw [ht, b_blit] at hdec
          refine goes_step (fun b cs => step_cond (t := t) ?_) (ih _ _ _ _ _ _ _ _ _ _ _ _ r h hn hH hf hm hk)
          rw [hev, SV.conc, S.conc, hdec]
        · split at h
          · rename_i nd1 H1 f1 m1 nd2 H2 f2 m2 h1 h2
            split at h
            · rename_i mm hmm
              split at h
              · rename_i nd' q hq
                obtain ⟨H3, f3, m3⟩ := q
                simp only [Option.some.injEq, Prod.mk.injEq] at h
                obtain ⟨rfl, rfl, rfl, rfl⟩ := h
                obtain ⟨hn1, hn⟩ := allN_append hn
                obtain ⟨hn2, hn3⟩ := allN_append hn
                refine goes_step (fun b cs => step_cond (t := e0.b ρ) hev) ?_
                obtain ⟨d1, rfl⟩ := runS_fr _ _ h1
                obtain ⟨d2, rfl⟩ := runS_fr _ _ h2
                cases he : e0.b ρ
                · rw [he] at hdec
                  have hG2 : allT ρ [mkNot (decB H e0)] := fun g hg => by
                    simp only [List.mem_singleton] at hg; subst hg; rw [mkNot_b, hdec]; rfl
                  refine ih u [.code y] _ _ _ _ _ _ _ ι a w (todo' ++ r) h2 (allN_imp (needs_ok hn2) hG2) (addF_ok _ _ _ hH hdec) hf hm fun ι' a' w' _ hf' hm' => ?_
                  exact ih u todo' _ _ _ _ _ _ _ ι' a' w' r hq hn3 hH (mergeFr_ok (by rw [hdec]; exact hf')) (mergeMem_ok hmm (by rw [hdec]; exact hm')) hk
                · rw [he] at hdec
                  have hG1 : allT ρ [decB H e0] := fun g hg => by
                    simp only [List.mem_singleton] at hg; subst hg; exact hdec
                  refine ih u [.code x] _ _ _ _ _ _ _ ι a w (todo' ++ r) h1 (allN_imp (needs_ok hn1) hG1) (addF_ok _ _ _ hH hdec) hf hm fun ι' a' w' _ hf' hm' => ?_
                  exact ih u todo' _ _ _ _ _ _ _ ι' a' w' r hq hn3 hH (mergeFr_ok (by rw [hdec]; exact hf')) (mergeMem_ok hmm (by rw [hdec]; exact hm')) hk
              · cases h
            · cases h
          · cases h
      · cases h
    · split at h
      · rename_i nd1 H1 f1 m1 h1
        split at h
        · rename_i nd' q hq
          obtain ⟨H3, f3, m3⟩ := q
          simp only [Option.some.injEq, Prod.mk.injEq] at h
          obtain ⟨rfl, rfl, rfl, rfl⟩ := h
          obtain ⟨hn1, hn2⟩ := allN_append hn
          exact goes_region hΓ hI hP h1 hn1 hH hf hm fun ι' a' w' hH' hf' hm' => ih _ _ _ _ _ _ _ _ _ _ _ _ r hq hn2 hH' hf' hm' hk
        · cases h
      · cases h
    · split at h
      · cases h
      · exact goes_step (fun b cs => step_loop) (ih _ _ _ _ _ _ _ _ _ _ _ _ r h hn hH hf hm hk)
    · split at h
      · cases h
      · exact goes_step (fun b cs => step_inLoop) (ih _ _ _ _ _ _ _ _ _ _ _ _ r h hn hH hf hm hk)
    · cases h

theorem meetW_ok {I : Interp} (hΓ : CtxOK P I Γ) (hI : ρ.I = I) (hP : P.follows .mixedOrders = true) {k u : Nat} {e : E} {x y : Code} {nd : List E} {fr' : Fr} {m' : Mem} {r : List Item}
    (h : meetW P Γ n k u e x y H fr m = some (nd, fr', m')) (hn : allN ρ nd) (hH : H.ok ρ) (hf : FRep ρ ι n fr a) (hm : MRep ρ β ι m w)
    (hk : ∀ ι' a' w', FRep ρ ι' n fr' a' → MRep ρ β ι' m' w' → Goes P f R r a' w') : Goes P f R (.code (if e.b ρ then x else y) :: r) a w := by
  unfold meetW at h
  split at h
  · rename_i nd1 H1 f1 m1 nd2 H2 f2 m2 h1 h2
    split at h
    · rename_i mm hmm
      simp only [Option.some.injEq, Prod.mk.injEq] at h
      obtain ⟨rfl, rfl, rfl⟩ := h
      obtain ⟨hn1, hn2⟩ := allN_append hn
      obtain ⟨d1, rfl⟩ := runS_fr _ _ h1
      obtain ⟨d2, rfl⟩ := runS_fr _ _ h2
      cases he : e.b ρ
      · have hG2 : allT ρ [mkNot e] := fun g hg => by
          simp only [List.mem_singleton] at hg; subst hg; rw [mkNot_b, he]; rfl
        refine runS_ok hΓ hI hP k u [.code y] _ _ _ _ _ _ _ ι a w r h2 (allN_imp (needs_ok hn2) hG2) (addF_ok _ _ _ hH he) hf hm fun ι' a' w' _ hf' hm' => ?_
        exact hk _ _ _ (mergeFr_ok (by rw [he]; exact hf')) (mergeMem_ok hmm (by rw [he]; exact hm'))
      · have hG1 : allT ρ [e] := fun g hg => by
          simp only [List.mem_singleton] at hg; subst hg; exact he
        refine runS_ok hΓ hI hP k u [.code x] _ _ _ _ _ _ _ ι a w r h1 (allN_imp (needs_ok hn1) hG1) (addF_ok _ _ _ hH he) hf hm fun ι' a' w' _ hf' hm' => ?_
        exact hk _ _ _ (mergeFr_ok (by rw [he]; exact hf')) (mergeMem_ok hmm (by rw [he]; exact hm'))
    · cases h
  · cases h

theorem exitTo_skip {id : Nat} : ∀ {k : List Item} (r : List Item), exitTo id k = none → exitTo id (k ++ r) = exitTo id r := by
  intro k
  induction k with
  | nil => intro r _; rfl
  | cons x k ih =>
    intro r h
    cases x <;> simp only [exitTo, List.cons_append] at h ⊢
    case inBlock i =>
      by_cases hc : (i == id) = true
      · rw [if_pos hc] at h; cases h
      · rw [if_neg hc] at h ⊢; exact ih r h
    all_goals exact ih r h

theorem run_ok {bs : List Item} {hc : HintCtx} {cut : List Nat} {I : Interp} (hΓ : CtxOK P I Γ) (hI : ρ.I = I) (hP : P.follows .mixedOrders = true) (hfn : P.funcs[f]? = some fn) : ∀ (k u : Nat) (base : Option (List Item)) (todo : List Item) (H : Hyp) (fr : Fr) (m : Mem) (ι : Loc) (a : Act) (w : World),
    (run P Γ hc fn n cut k u base todo H fr m).holds P f R ρ β n bs → (∀ b, base = some b → bs = b) → H.ok ρ → FRep ρ ι n fr a → MRep ρ β ι m w → Goes P f R (todo ++ base.getD []) a w := by
  intro k
  induction k with
  | zero => intro u base todo H fr m ι a w h; exact h.elim
  | succ k ih =>
    intro u base todo H fr m ι a w h hbs hH hf hm
    have hG : allT ρ [] := fun e he => by cases he
    unfold run at h
    split at h
    · split at h
      · rename_i bb
        have e := hbs bb rfl
        subst e
        exact h hH ι a w hf hm
      · split at h
        · rename_i v hv
          exact goes_leave hf.defers hfn (resAll_ok hH hm hf hv) (h ι w hm) fun b cs => step_end
        · exact h.elim
    · split at h
      · rename_i v hv
        exact goes_leave hf.defers hfn (resAll_ok hH hm hf hv) (h ι w hm) fun b cs => step_ret
      · exact h.elim
    · exact goes_step (fun b cs => step_skip) (ih _ base _ _ _ _ _ _ _ h hbs hH hf hm)
    · exact goes_step (fun b cs => step_label) (ih _ base _ _ _ _ _ _ _ h hbs hH hf hm)
    · exact goes_step (fun b cs => step_inBlock) (ih _ base _ _ _ _ _ _ _ h hbs hH hf hm)
    · exact goes_step (fun b cs => step_seq) (ih _ base _ _ _ _ _ _ _ h hbs hH hf hm)
    · exact goes_step (fun b cs => step_block) (ih _ base _ _ _ _ _ _ _ h hbs hH hf hm)
    · rename_i id rr
      split at h
      · rename_i r' hr
        exact goes_step (fun b cs => step_exit (exitTo_append _ hr)) (ih _ base _ _ _ _ _ _ _ h hbs hH hf hm)
      · rename_i hr
        split at h
        · rename_i bb
          split at h
          · rename_i r' hr'
            have hx : exitTo id (rr ++ (some bb).getD []) = some r' := by rw [exitTo_skip _ hr]; exact hr'
            have := ih u none r' _ _ _ _ a w h (fun _ hb => by cases hb) hH hf hm
            simp only [Option.getD_none, List.append_nil] at this
            exact goes_step (fun b cs => step_exit hx) this
          · exact h.elim
        · exact h.elim
    · split at h
      · rename_i e0 hc
        have hev := opnd_ok hf hG hc
        have hdec := decB_b hH e0
        split at h
        · rename_i t ht
          rw [ht, b_blit] at hdec
          refine goes_step (fun b cs => step_cond (t := t) ?_) (ih _ base _ _ _ _ _ _ _ h hbs hH hf hm)
          rw [hev, SV.conc, S.conc, hdec]
        · refine goes_step (fun b cs => step_cond (t := (decB H e0).b ρ) (by rw [hdec]; exact hev)) ?_
          split at h
          · rename_i nd fr' m' hq
            obtain ⟨hn, h⟩ := addNeeds_ok h
            exact meetW_ok hΓ hI hP hq hn hH hf hm fun ι' a' w' hf' hm' => ih _ base _ _ _ _ _ _ _ h hbs hH hf' hm'
          · obtain ⟨h1, h2⟩ := h
            cases he : (decB H e0).b ρ
            · exact ih _ base _ _ _ _ _ _ _ (h2 he) hbs (addF_ok _ false H hH he) hf hm
            · exact ih _ base _ _ _ _ _ _ _ (h1 he) hbs (addF_ok _ true H hH he) hf hm
      · exact h.elim
    · split at h
      · rename_i nd H' fr' m' hr
        obtain ⟨hn, h⟩ := addNeeds_ok h
        exact goes_region hΓ hI hP hr hn hH hf hm fun ι' a' w' hH' hf' hm' => ih _ base _ _ _ _ _ _ _ h hbs hH' hf' hm'
      · split at h
        · rename_i c _
          split at h
          · exact h.elim
          · obtain ⟨h1, h2⟩ := h
            cases he : c.b ρ
            · exact ih _ base _ _ _ _ _ _ _ (h2 he) hbs (addF_ok _ false H hH he) hf hm
            · exact ih _ base _ _ _ _ _ _ _ (h1 he) hbs (addF_ok _ true H hH he) hf hm
        · exact h.elim
    · split at h
      · exact goes_step (fun b cs => step_loop) (h hH ι a w hf hm)
      split at h
      · exact goes_step (fun b cs => step_loop) (h hH ι a w hf hm)
      · exact goes_step (fun b cs => step_loop) (ih _ base _ _ _ _ _ _ _ h hbs hH hf hm)
    · split at h
      · exact goes_step (fun b cs => step_inLoop) (h hH ι a w hf hm)
      split at h
      · exact goes_step (fun b cs => step_inLoop) (h hH ι a w hf hm)
      · exact goes_step (fun b cs => step_inLoop) (ih _ base _ _ _ _ _ _ _ h hbs hH hf hm)
    · exact h.elim
end

end Go.Sx
