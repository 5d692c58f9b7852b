/- A run of a program by symbols, proved sound, second part: operations that write, calls, regions, the code, ways that meet again; the frame of a law. It imports no program. -/
import Derived.Test.YtgbncbclhdnbmaaSxA
set_option linter.unusedVariables false
set_option linter.unusedSimpArgs false
namespace Go.Sx
/-! ### literals of structs, arrays, slices -/
def segsLen : List Seg → Option Nat
  | [] => some 0
  | .one _ :: l => (segsLen l).map (· + 1)
  | .run _ (.lit z) _ _ :: l => if 0 ≤ z then (segsLen l).map (· + z.toNat) else none
  | _ => none

/-- zeros in a row are one run -/
def pack : List Seg → List Seg
  | [] => []
  | .one (.int k (.lit 0)) :: l =>
    match pack l with
    | .run k' (.lit n) (.tab []) o :: r => if k = k' ∧ 0 ≤ n then .run k (.lit (n + 1)) (.tab []) o :: r else .run k (.lit 1) (.tab []) 0 :: .run k' (.lit n) (.tab []) o :: r
    | r => .run k (.lit 1) (.tab []) 0 :: r
  | x :: l => x :: pack l

def zeroT (P : Program) (t : TypeId) : Option SV :=
  match (P.info? t).bind (·.zero) with
  | some z => match ofValue z with
    | some (.agg l) => some (.agg (pack l))
    | r => r
  | none => none

section
variable {ρ : Env} {ι : Nat → Nat} {P : Program} {w : World}
theorem segsLen_ok : ∀ {l : List Seg} {n : Nat}, segsLen l = some n → (cellsOf ρ ι l).length = n
  | [], n, h => by simp only [segsLen, Option.some.injEq] at h; subst h; rfl
  | .one x :: l, n, h => by
    simp only [segsLen, Option.map_eq_some_iff] at h
    obtain ⟨k, hk, rfl⟩ := h
    rw [cells_cons, cells_one, List.length_append, segsLen_ok hk]; simp; omega
  | .run kd e A o :: l, n, h => by
    cases e with
    | lit z =>
      simp only [segsLen] at h
      split at h
      · simp only [Option.map_eq_some_iff] at h
        obtain ⟨k, hk, rfl⟩ := h
        rw [cells_cons, List.length_append, run_len, i_lit, segsLen_ok hk]; omega
      · cases h
    | _ => simp [segsLen] at h

theorem run_zero (k : IntKind) (n : Nat) (o : Nat) : (Seg.run k (.lit n) (.tab []) o).cells ρ ι = List.replicate n (.int k 0) := by
  simp only [Seg.cells, i_lit, Int.toNat_natCast, a_tab, List.getD_nil]
  rw [List.map_const']; simp
theorem pack_ok : ∀ (l : List Seg), cellsOf ρ ι (pack l) = cellsOf ρ ι l := by
  intro l
  induction l with
  | nil => rfl
  | cons x l ih =>
    unfold pack
    split
    · contradiction
    · rename_i k l' heq
      cases heq
      have one : (Seg.one (.int k (.lit 0))).cells ρ ι = (Seg.run k (.lit 1) (.tab []) 0).cells ρ ι := by
        have := run_zero (ρ := ρ) (ι := ι) k 1 0
        rw [show ((1 : Nat) : Int) = 1 from rfl] at this
        rw [this]; rfl
      split
      · rename_i k' n o r hp
        rw [cells_cons, ← ih, hp]
        split
        · rename_i hk
          obtain ⟨rfl, hn⟩ := hk
          obtain ⟨n, rfl⟩ := Int.eq_ofNat_of_zero_le hn
          rw [cells_cons, cells_cons, run_zero, show ((n : Int) + 1) = ((n + 1 : Nat) : Int) by omega, run_zero, one]
          have := run_zero (ρ := ρ) (ι := ι) k 1 0
          rw [show ((1 : Nat) : Int) = 1 from rfl] at this
          rw [this, ← List.append_assoc, List.replicate_append_replicate, Nat.add_comm]
        · rw [cells_cons, one]
      · rw [cells_cons, cells_cons, one, ih]
    · rename_i heq
      cases heq
      rw [cells_cons, cells_cons, ih]

theorem zeroT_ok {t : TypeId} {v : SV} (h : zeroT P t = some v) : (zeroValue t).run P w = .ok (v.conc ρ ι) w := by
  unfold zeroT at h
  split at h
  · rename_i z hz
    rw [Option.bind_eq_some_iff] at hz
    obtain ⟨i, hi, hz⟩ := hz
    have : (zeroValue t).run P w = .ok z w := by simp [zeroValue, typeInfo, hi, hz]
    rw [this]
    split at h
    · rename_i l hl
      simp only [Option.some.injEq] at h; subst h
      rw [ofValue_ok (ρ := ρ) (ι := ι) hl]
      simp only [SV.conc, pack_ok]
    · rw [ofValue_ok (ρ := ρ) (ι := ι) h]
  · cases h

end


/-- a row of cells, some of them written anew -/
def splice (segs : List Seg) (off n : Nat) (new : List Seg) : Option (List Seg) :=
  if segsLen new = some n then
    match takeSegs off segs, dropSegs (off + n) segs with
    | some a, some b => some (a ++ new ++ b)
    | _, _ => none
  else none
def cellsV : SV → Option (List Seg)
  | .s (.val _) => none
  | .s x => some [.one x]
  | .agg l => some l
  | _ => none
def qFill (place : Nat → Option (Nat × Nat)) : List Seg → List (Nat × SV) → Option (List Seg)
  | segs, [] => some segs
  | segs, (i, v) :: r => match place i, cellsV v with
    | some (off, n), some l => match splice segs off n l with
      | some s => qFill place s r
      | none => none
    | _, _ => none

def sizes (P : Program) : List Field → Option (List (Nat × Nat))
  | [] => some []
  | f :: l => match sizeT P f.type, sizes P l with
    | some n, some r => some ((f.offset, n) :: r)
    | _, _ => none
def qBuild (P : Program) (t : TypeId) (parts : List (Nat × SV)) : Option (List E × SV) :=
  match zeroT P t with
  | some (.agg z) => match P.underlying t with
    | some (.struct fs) => match sizes P fs.toList with
      | some ps => (qFill (ps[·]?) z parts).map fun l => ([], .agg l)
      | none => none
    | some (.array _ e) => match sizeT P e with
      | some n => (qFill (fun i => some (i * n, n)) z parts).map fun l => ([], .agg l)
      | none => none
    | _ => none
  | _ => none

section
variable {ρ : Env} {ι : Nat → Nat} {P : Program} {w : World}

theorem cellsV_ok {v : SV} {l : List Seg} (h : cellsV v = some l) : (v.conc ρ ι).cells = (cellsOf ρ ι l).toArray := by
  unfold cellsV at h
  split at h
  · cases h
  · rename_i x hx
    simp only [Option.some.injEq] at h; subst h
    cases x <;> first | rfl | exact absurd rfl (hx _)
  · simp only [Option.some.injEq] at h; subst h; rfl
  · cases h

theorem fold_splice (off : Nat) : ∀ (l : List Value) (k : Nat) (cs : Array Value), off + k + l.length ≤ cs.size →
    ((l.zipIdx k).foldl (fun cs (p : Value × Nat) => cs.setIfInBounds (off + p.2) p.1) cs).toList = cs.toList.take (off + k) ++ l ++ cs.toList.drop (off + k + l.length)
  | [], k, cs, h => by simp
  | v :: l, k, cs, h => by
    simp only [List.length_cons] at h
    simp only [List.zipIdx_cons, List.foldl_cons]
    rw [fold_splice off l (k + 1) _ (by simp; omega)]
    apply List.ext_getElem?
    intro j
    simp only [Array.toList_setIfInBounds, List.getElem?_append, List.length_append, List.length_take, List.length_set, List.getElem?_take, List.getElem?_set, List.getElem?_drop, List.length_cons, Array.length_toList]
    by_cases h1 : j < off + k
    · rw [if_pos (by omega), if_pos (by omega), if_pos (by omega), if_neg (by omega), if_pos (by omega), if_pos (by omega), if_pos h1]
    · by_cases h2 : j = off + k
      · subst h2
        rw [if_pos (by omega), if_pos (by omega), if_pos (by omega), if_pos rfl, if_pos (by omega), if_pos (by omega), if_neg (by omega), show off + k - min (off + k) cs.size = 0 by omega]; rfl
      · by_cases h3 : j < off + k + 1 + l.length
        · rw [if_pos (by omega), if_neg (by omega), if_pos (by omega), if_neg (by omega), show j - min (off + k) cs.size = (j - min (off + (k + 1)) cs.size) + 1 by omega, List.getElem?_cons_succ]
        · rw [if_neg (by omega), if_neg (by omega), if_neg (by omega)]
          congr 1; omega

theorem qFill_ok {place : Nat → Option (Nat × Nat)} : ∀ {parts : List (Nat × SV)} {segs l : List Seg}, qFill place segs parts = some l →
    Instr.fill place (cellsOf ρ ι segs).toArray (parts.map fun p => (p.1, p.2.conc ρ ι)) = some (cellsOf ρ ι l).toArray
  | [], segs, l, h => by simp only [qFill, Option.some.injEq] at h; subst h; rfl
  | (i, v) :: r, segs, l, h => by
    simp only [qFill] at h
    split at h
    · rename_i off n l' hp hv
      split at h
      · rename_i s hs
        unfold splice at hs
        split at hs
        · rename_i hlen
          split at hs
          · rename_i a b ha hb
            simp only [Option.some.injEq] at hs; subst hs
            have e1 := takeSegs_ok (ρ := ρ) (ι := ι) _ _ _ ha
            have e2 := dropSegs_ok (ρ := ρ) (ι := ι) _ _ _ hb
            have e3 := segsLen_ok (ρ := ρ) (ι := ι) hlen
            have e4 := cellsV_ok (ρ := ρ) (ι := ι) hv
            have hf : ((v.conc ρ ι).cells.zipIdx.foldl (fun cs (p : Value × Nat) => cs.setIfInBounds (off + p.2) p.1) (cellsOf ρ ι segs).toArray) = (cellsOf ρ ι (a ++ l' ++ b)).toArray := by
              rw [e4, cells_append, cells_append, e1.1, e2.1]
              have := fold_splice off (cellsOf ρ ι l') 0 (cellsOf ρ ι segs).toArray (by simp; omega)
              simp only [Nat.add_zero] at this
              rw [e3] at this
              rw [← this]
              simp
            simp only [List.map_cons, Instr.fill, hp]
            have hsz : (v.conc ρ ι).cells.size = n := by rw [e4]; simpa using e3
            have hle : off + (v.conc ρ ι).cells.size ≤ (cellsOf ρ ι segs).toArray.size := by rw [hsz]; simpa using e2.2
            rw [if_neg (by simp [hsz]; rw [hsz] at hle; simpa using hle)]
            rw [show ((v.conc ρ ι).cells.zipIdx.foldl (fun cs x => match x with | (c, j) => cs.setIfInBounds (off + j) c) (cellsOf ρ ι segs).toArray) = _ from hf]
            exact qFill_ok h
          · cases hs
        · cases hs
      · cases h
    · cases h

theorem sizes_ok (w : World) : ∀ {l : List Field} {r : List (Nat × Nat)}, sizes P l = some r → (l.mapM fun f => do pure (f.offset, ← sizeOf f.type) : Sem (List (Nat × Nat))).run P w = .ok r w
  | [], r, h => by simp only [sizes, Option.some.injEq] at h; subst h; simp
  | f :: l, r, h => by
    simp only [sizes] at h
    split at h
    · rename_i n r' hn hr
      simp only [Option.some.injEq] at h; subst h
      have := sizes_ok w hr
      rw [List.mapM_cons]
      simp only [Sem.run_bind, sizeT_some hn, Result.andThen_ok, Sem.run_pure, this]
    · cases h

theorem qBuild_ok {t : TypeId} {parts : List (Nat × SV)} {nd : List E} {r : SV} (h : qBuild P t parts = some (nd, r)) :
    (Instr.build t (parts.map fun p => (p.1, p.2.conc ρ ι)).toArray).run P w = .ok (r.conc ρ ι) w := by
  unfold qBuild at h
  split at h
  · rename_i z hz
    have hzero := zeroT_ok (ρ := ρ) (ι := ι) (w := w) hz
    unfold Instr.build
    rw [Sem.run_bind, hzero, Result.andThen_ok]
    rw [show (SV.conc ρ ι (.agg z)).cells = (cellsOf ρ ι z).toArray from rfl]
    split at h
    · rename_i fs hu
      split at h
      · rename_i ps hps
        simp only [Option.map_eq_some_iff, Prod.mk.injEq] at h
        obtain ⟨l, hl, rfl, rfl⟩ := h
        rw [Sem.run_bind, run_underlying hu, Result.andThen_ok]
        have hm : (fs.mapM fun f => do pure (f.offset, ← sizeOf f.type) : Sem (Array (Nat × Nat))).run P w = .ok ps.toArray w := by
          have := sizes_ok w hps
          rw [Array.mapM_eq_mapM_toList, Sem.run_map, this]
          rfl
        have key := qFill_ok (ρ := ρ) (ι := ι) hl
        generalize (parts.map fun p => (p.1, p.2.conc ρ ι)) = pp at key ⊢
        simp only [Sem.run_bind, hm, Result.andThen_ok]
        simp [key, SV.conc]
      · cases h
    · rename_i n e hu
      split at h
      · rename_i k hk
        simp only [Option.map_eq_some_iff, Prod.mk.injEq] at h
        obtain ⟨l, hl, rfl, rfl⟩ := h
        rw [Sem.run_bind, run_underlying hu, Result.andThen_ok]
        have key := qFill_ok (ρ := ρ) (ι := ι) hl
        generalize (parts.map fun p => (p.1, p.2.conc ρ ι)) = pp at key ⊢
        simp [sizeT_some hk, key, SV.conc]
      · cases h
    · cases h
  · cases h

theorem range_mod {z : List Value} {k : Nat} (hz : z.length = k) : ∀ n, (List.range (n * k)).map (fun i => z[i % k]!) = (List.replicate n z).flatten := by
  intro n
  induction n with
  | zero => simp
  | succ n ih =>
    rw [Nat.succ_mul, List.range_add, List.map_append, ih, List.replicate_succ', List.flatten_append]
    congr 1
    simp only [List.map_map, List.flatten_cons, List.flatten_nil, List.append_nil]
    apply List.ext_getElem?
    intro j
    simp only [List.getElem?_map, Function.comp_def]
    by_cases hj : j < k
    · rw [List.getElem?_range hj]
      simp only [Option.map_some, Nat.mul_add_mod_self_right, Nat.mod_eq_of_lt hj]
      rw [List.getElem?_eq_getElem (by omega), getElem!_pos z j (by omega)]
    · rw [List.getElem?_eq_none (by simp; omega), List.getElem?_eq_none (by omega)]; rfl

theorem cells_flatten (l : List (List Seg)) : cellsOf ρ ι l.flatten = (l.map (cellsOf ρ ι)).flatten := by
  induction l with
  | nil => rfl
  | cons a l ih => rw [List.flatten_cons, cells_append, ih]; rfl
end

/-- known numbers in a row are a table -/
def litsOf (k : IntKind) : List Seg → Option (List Int)
  | [] => some []
  | .one (.int k' (.lit z)) :: l => if k' = k then (litsOf k l).map (z :: ·) else none
  | _ => none
def tabify (l : List Seg) : List Seg :=
  match l with
  | .one (.int k _) :: _ => match litsOf k l with
    | some zs => [.run k (.lit zs.length) (.tab zs) 0]
    | none => l
  | _ => l
def qRow (P : Program) (e : TypeId) (len n : Nat) (idx : List Nat) (vals : List SV) : Option (List Seg) :=
  match zeroT P e with
  | some z0 => match cellsV z0 with
    | some zs => if n ≠ 0 ∧ segsLen zs = some n ∧ len ≠ 0 then (qFill (fun i => some (i * n, n)) (List.replicate len zs).flatten (idx.zip vals)).map tabify else none
    | none => none
  | none => none

section
variable {ρ : Env} {ι : Nat → Nat} {P : Program} {w : World}
theorem litsOf_ok {k : IntKind} : ∀ {l : List Seg} {zs : List Int}, litsOf k l = some zs → cellsOf ρ ι l = zs.map fun z => .int k z
  | [], zs, h => by simp only [litsOf, Option.some.injEq] at h; subst h; rfl
  | x :: l, zs, h => by
    unfold litsOf at h
    split at h
    · contradiction
    · rename_i heq
      cases heq
      split at h
      · rename_i hk; subst hk
        simp only [Option.map_eq_some_iff] at h
        obtain ⟨r, hr, rfl⟩ := h
        rw [cells_cons, litsOf_ok hr]; rfl
      · cases h
    · cases h
theorem tabify_ok (l : List Seg) : cellsOf ρ ι (tabify l) = cellsOf ρ ι l := by
  unfold tabify
  split
  · split
    · rename_i zs hz
      rw [litsOf_ok (ρ := ρ) (ι := ι) hz]
      simp only [cellsOf, List.flatMap_cons, List.flatMap_nil, List.append_nil, Seg.cells, i_lit, a_tab, Int.toNat_natCast, Nat.zero_add]
      apply List.ext_getElem?
      intro j
      simp only [List.getElem?_map]
      by_cases hj : j < zs.length
      · rw [List.getElem?_range hj, List.getElem?_eq_getElem hj]
        simp [List.getD_eq_getElem?_getD, List.getElem?_eq_getElem hj]
      · rw [List.getElem?_eq_none (by simpa using hj), List.getElem?_eq_none (by omega)]; rfl
    · rfl
  · rfl
theorem qRow_ok {e : TypeId} {len n : Nat} {idx : List Nat} {vals : List SV} {l : List Seg} (h : qRow P e len n idx vals = some l) :
    len * n ≠ 0 ∧ ∃ z, (zeroValue e).run P w = .ok z w ∧ Instr.fill (fun i => some (i * n, n)) ((Array.range (len * n)).map (z.cells[· % z.cells.size]!)) (idx.zip (vals.map (SV.conc ρ ι))) = some (cellsOf ρ ι l).toArray := by
  unfold qRow at h
  split at h
  · rename_i z0 hz
    split at h
    · rename_i zs hzs
      split at h
      · rename_i hc
        simp only [Option.map_eq_some_iff] at h
        obtain ⟨l', hl', rfl⟩ := h
        refine ⟨Nat.mul_ne_zero hc.2.2 hc.1, z0.conc ρ ι, zeroT_ok hz, ?_⟩
        have e1 := cellsV_ok (ρ := ρ) (ι := ι) hzs
        have e2 := segsLen_ok (ρ := ρ) (ι := ι) hc.2.1
        have e3 : ((Array.range (len * n)).map ((z0.conc ρ ι).cells[· % (z0.conc ρ ι).cells.size]!)) = (cellsOf ρ ι (List.replicate len zs).flatten).toArray := by
          rw [e1, cells_flatten, List.map_replicate, ← range_mod e2]
          apply Array.ext'
          simp [e2]
        rw [e3, tabify_ok]
        have := qFill_ok (ρ := ρ) (ι := ι) hl'
        rw [← this]
        congr 1
        rw [List.zip_map_right]
        rfl
      · cases h
    · cases h
  · cases h
end

def qPick (G : List E) (fr : Fr) (c a b : Operand) : Option (List E × SV) :=
  match opnd G fr c with
  | some (.s (.bool e)) =>
    match e with
    | .blit true => (opnd G fr a).map fun x => ([], x)
    | .blit false => (opnd G fr b).map fun x => ([], x)
    | e => match opnd (e :: G) fr a, opnd (mkNot e :: G) fr b with
      | some (.s (.bool x)), some (.s (.bool y)) => some ([], .s (.bool (mkIteB e x y)))
      | some (.s (.int k x)), some (.s (.int k' y)) => if k = k' then some ([], .s (.int k (mkIte e x y))) else none
      | some x, some y => if x = y then some ([], x) else none
      | _, _ => none
  | _ => none

def qLen (P : Program) (H : Hyp) (t : TypeId) (x : SV) : Option (List E × SV) :=
  match P.underlying t, x with
  | some .string, .s (.str l) => some ([], .s (.int .i64 (.lit l.length)))
  | some (.slice _), .s (.slc _ _ len _) => if atLeast H 0 len then some ([], .s (.int .i64 len)) else none
  | some (.slice _), .s .nilSlc => some ([], .s (.int .i64 (.lit 0)))
  | some (.array n _), _ => some ([], .s (.int .i64 (.lit n)))
  | some (.pointer r), _ => match P.underlying r with
    | some (.array n _) => some ([], .s (.int .i64 (.lit n)))
    | _ => none
  | _, _ => none
def qMM (H : Hyp) (mx : Bool) (x y : SV) : Option (List E × SV) :=
  match x, y with
  | .s (.int k a), .s (.int _ b) => some ([], .s (.int k (if mx then mkIte (mkLt H a b) b a else mkIte (mkLt H b a) b a)))
  | _, _ => none

def opnds (G : List E) (fr : Fr) : List Operand → Option (List SV)
  | [] => some []
  | o :: l => match opnd G fr o, opnds G fr l with
    | some x, some r => some (x :: r)
    | _, _ => none
def ptrs : List SV → Option (List (Nat × E))
  | [] => some []
  | .s (.ptr b off) :: l => (ptrs l).map ((b, off) :: ·)
  | _ => none

def qop (P : Program) (H : Hyp) (G : List E) (fr : Fr) (m : Mem) (o : Op) : Option (List E × SV) :=
  match o with
  | .move x | .assign x => (opnd G fr x).map fun v => ([], v)
  | .pick c a b => qPick G fr c a b
  | .nilCheck x => match opnd G fr x with | some v => qNil v | none => none
  | .binOp op t x y _ => match opnd G fr x, opnd G fr y with
    | some u, some v => qBin P H op t u v
    | _, _ => none
  | .unOp op _ x => match opnd G fr x with | some v => qUn H op v | none => none
  | .convert s d x => match opnd G fr x with | some v => qConv P H s d v | none => none
  | .load t x => match opnd G fr x with | some v => qLoad P H m t v | none => none
  | .fieldAddr t x f => match opnd G fr x with | some v => qFieldAddr P H t v f | none => none
  | .field t x f => match opnd G fr x with | some v => qField P t v f | none => none
  | .indexAddr t x y => match opnd G fr x, opnd G fr y with
    | some u, some v => qIndexAddr P H t u v
    | _, _ => none
  | .index t x y => match opnd G fr x, opnd G fr y with
    | some u, some v => qIndex P H t u v
    | _, _ => none
  | .extract x i => match opnd G fr x with | some v => qExtract v i | none => none
  | .makeFunc (.func f) first caps => if first.size = 0 then match opnds G fr caps.toList with
      | some l => (ptrs l).map fun c => ([], .s (.fn f c))
      | none => none
    else none
  | .build t parts => match opnds G fr (parts.toList.map (·.2)) with
    | some l => qBuild P t ((parts.toList.map (·.1)).zip l)
    | none => none
  | .call ⟨.builtin b, args, ts⟩ =>
    match b, opnds G fr args.toList, ts.toList with
    | .len, some [x], t :: _ => qLen P H t x
    | .max, some [x, y], _ => qMM H true x y
    | .min, some [x, y], _ => qMM H false x y
    | _, _, _ => none
  | _ => none

section
variable {ρ : Env} {ι : Nat → Nat} {H : Hyp} {P : Program} {w : World} {β : Base} {m : Mem} {fr : Fr} {n : Nat} {a : Act} {G : List E}

theorem qPick_ok (hf : FRep ρ ι n fr a) (hG : allT ρ G) {c x y : Operand} {nd : List E} {r : SV} (h : qPick G fr c x y = some (nd, r)) :
    ∃ b, a.eval c = .bool b ∧ (if b then a.eval x else a.eval y) = r.conc ρ ι := by
  unfold qPick at h
  split at h
  · rename_i e hc
    have ec := opnd_ok hf hG hc
    refine ⟨e.b ρ, ec, ?_⟩
    split at h
    · simp only [Option.map_eq_some_iff, Prod.mk.injEq] at h
      obtain ⟨v, hv, _, rfl⟩ := h
      rw [b_blit, if_pos rfl]; exact opnd_ok hf hG hv
    · simp only [Option.map_eq_some_iff, Prod.mk.injEq] at h
      obtain ⟨v, hv, _, rfl⟩ := h
      rw [b_blit, if_neg (by simp)]; exact opnd_ok hf hG hv
    · have h1 : ∀ {v}, opnd (e :: G) fr x = some v → e.b ρ = true → a.eval x = v.conc ρ ι := fun hv he =>
        opnd_ok hf (fun g hg => by cases hg with | head => exact he | tail _ hg => exact hG g hg) hv
      have h2 : ∀ {v}, opnd (mkNot e :: G) fr y = some v → ¬ e.b ρ = true → a.eval y = v.conc ρ ι := fun hv he =>
        opnd_ok hf (fun g hg => by cases hg with | head => rw [mkNot_b]; simp [he] | tail _ hg => exact hG g hg) hv
      split at h
      · rename_i u v hx hy
        simp only [Option.some.injEq, Prod.mk.injEq] at h; obtain ⟨rfl, rfl⟩ := h
        simp only [SV.conc, S.conc, mkIteB_b]
        split
        · rename_i he; rw [h1 hx he]; rfl
        · rename_i he; rw [h2 hy he]; rfl
      · rename_i k u k' v hx hy
        split at h
        · rename_i hk; subst hk
          simp only [Option.some.injEq, Prod.mk.injEq] at h; obtain ⟨rfl, rfl⟩ := h
          simp only [SV.conc, S.conc, mkIte_i]
          split
          · rename_i he; rw [h1 hx he]; rfl
          · rename_i he; rw [h2 hy he]; rfl
        · cases h
      · rename_i u v _ _ hx hy
        split at h
        · rename_i hk; subst hk
          simp only [Option.some.injEq, Prod.mk.injEq] at h; obtain ⟨rfl, rfl⟩ := h
          split
          · rename_i he; exact h1 hx he
          · rename_i he; exact h2 hy he
        · cases h
      · cases h
  · cases h

theorem opnds_ok (hf : FRep ρ ι n fr a) (hG : allT ρ G) : ∀ {l : List Operand} {r : List SV}, opnds G fr l = some r → l.map a.eval = r.map (SV.conc ρ ι)
  | [], r, h => by simp only [opnds, Option.some.injEq] at h; subst h; rfl
  | o :: l, r, h => by
    simp only [opnds] at h
    split at h
    · rename_i x r' hx hr
      simp only [Option.some.injEq] at h; subst h
      rw [List.map_cons, List.map_cons, opnd_ok hf hG hx, opnds_ok hf hG hr]
    · cases h
theorem ptrs_ok : ∀ {l : List SV} {r : List (Nat × E)}, ptrs l = some r → l.map (SV.conc ρ ι) = r.map fun p => .pointer (some (addr ρ ι p.1 p.2))
  | [], r, h => by simp only [ptrs, Option.some.injEq] at h; subst h; rfl
  | x :: l, r, h => by
    unfold ptrs at h
    split at h
    · contradiction
    · rename_i heq; cases heq
      simp only [Option.map_eq_some_iff] at h
      obtain ⟨r', hr, rfl⟩ := h
      rw [List.map_cons, List.map_cons, ptrs_ok hr]; rfl
    · cases h

theorem qLen_ok (hH : H.ok ρ) {t : TypeId} {ty : TypeId} {x : SV} {nd : List E} {r : SV} (h : qLen P H t x = some (nd, r)) (ts : Array TypeId) (ht : ts[0]? = some t) :
    (Builtin.len_ ts ty #[x.conc ρ ι]).run P w = .ok (r.conc ρ ι) w := by
  unfold qLen at h
  unfold Builtin.len_
  split at h
  · rename_i l hu
    simp only [Option.some.injEq, Prod.mk.injEq] at h; obtain ⟨rfl, rfl⟩ := h
    simp [ht, run_underlying hu, SV.conc, S.conc, goInt, i_lit]
    show (l.toArray.size : Int) = l.length
    simp
  · rename_i b off len cap hu
    split at h
    · rename_i hc
      simp only [Option.some.injEq, Prod.mk.injEq] at h; obtain ⟨rfl, rfl⟩ := h
      have := atLeast_ok hH hc
      simp [ht, run_underlying hu, SV.conc, S.conc, goInt]
      omega
    · cases h
  · rename_i hu
    simp only [Option.some.injEq, Prod.mk.injEq] at h; obtain ⟨rfl, rfl⟩ := h
    simp [ht, run_underlying hu, SV.conc, S.conc, goInt, i_lit]
  · rename_i hu
    simp only [Option.some.injEq, Prod.mk.injEq] at h; obtain ⟨rfl, rfl⟩ := h
    simp [ht, run_underlying hu, SV.conc, S.conc, goInt, i_lit]
  · rename_i hu
    split at h
    · rename_i hu'
      simp only [Option.some.injEq, Prod.mk.injEq] at h; obtain ⟨rfl, rfl⟩ := h
      simp [ht, run_underlying hu, run_underlying hu', SV.conc, S.conc, goInt, i_lit]
    · cases h
  · cases h

theorem qMM_ok (hH : H.ok ρ) {mx : Bool} {x y : SV} {nd : List E} {r : SV} (h : qMM H mx x y = some (nd, r)) (ts : Array TypeId) (ty : TypeId) :
    (if mx then (Builtin.max_ ts ty #[x.conc ρ ι, y.conc ρ ι]).run P w else (Builtin.min_ ts ty #[x.conc ρ ι, y.conc ρ ι]).run P w) = .ok (r.conc ρ ι) w := by
  unfold qMM at h
  split at h
  · simp only [Option.some.injEq, Prod.mk.injEq] at h; obtain ⟨rfl, rfl⟩ := h
    cases mx
    · simp [Builtin.min_, Builtin.min2, SV.conc, S.conc, mkIte_i, mkLt_b hH]
    · simp [Builtin.max_, Builtin.max2, SV.conc, S.conc, mkIte_i, mkLt_b hH]
  · cases h

theorem qop_ok (hH : H.ok ρ) (hm : MRep ρ β ι m w) (hf : FRep ρ ι n fr a) (hG : allT ρ G) {o : Oper} {nd : List E} {r : SV} (h : qop P H G fr m o.op = some (nd, r)) (hn : allN ρ nd) :
    (execOp a.eval o).run P w = .ok (.value (r.conc ρ ι)) w := by
  unfold qop at h
  split at h
  · rename_i x ho
    simp only [Option.map_eq_some_iff, Prod.mk.injEq] at h
    obtain ⟨v, hv, _, rfl⟩ := h
    simp [execOp, ho, opnd_ok hf hG hv]
  · rename_i x ho
    simp only [Option.map_eq_some_iff, Prod.mk.injEq] at h
    obtain ⟨v, hv, _, rfl⟩ := h
    simp [execOp, ho, opnd_ok hf hG hv]
  · rename_i c x y ho
    obtain ⟨b, hb, hv⟩ := qPick_ok hf hG h
    simp [execOp, ho, hb, asBool, hv]
  · rename_i x ho
    split at h
    · rename_i v hv
      exact qNil_ok h o x ho _ (opnd_ok hf hG hv)
    · cases h
  · rename_i op t x y t' ho
    split at h
    · rename_i u v hu hv
      have := qBin_ok (ι := ι) (P := P) (w := w) hH h hn x y
      simp only [execOp, ho, opnd_ok hf hG hu, opnd_ok hf hG hv]
      rw [Sem.run_bind, this]; rfl
    · cases h
  · rename_i op t x ho
    split at h
    · rename_i v hv
      simp [execOp, ho, opnd_ok hf hG hv, qUn_ok (ι := ι) hH h]
    · cases h
  · rename_i s d x ho
    split at h
    · rename_i v hv
      simp [execOp, ho, opnd_ok hf hG hv, qConv_ok (ι := ι) hH h]
    · cases h
  · rename_i t x ho
    split at h
    · rename_i v hv
      simp [execOp, ho, opnd_ok hf hG hv, qLoad_ok hH hm h hn]
    · cases h
  · rename_i t x f ho
    split at h
    · rename_i v hv
      simp [execOp, ho, opnd_ok hf hG hv, qFieldAddr_ok (ι := ι) hH h]
    · cases h
  · rename_i t x f ho
    split at h
    · rename_i v hv
      simp [execOp, ho, opnd_ok hf hG hv, qField_ok (ρ := ρ) (ι := ι) h]
    · cases h
  · rename_i t x y ho
    split at h
    · rename_i u v hu hv
      simp [execOp, ho, opnd_ok hf hG hu, opnd_ok hf hG hv, qIndexAddr_ok (ι := ι) hH h hn]
    · cases h
  · rename_i t x y ho
    split at h
    · rename_i u v hu hv
      simp [execOp, ho, opnd_ok hf hG hu, opnd_ok hf hG hv, qIndex_ok (ι := ι) hH h hn]
    · cases h
  · rename_i x i ho
    split at h
    · rename_i v hv
      simp [execOp, ho, opnd_ok hf hG hv, qExtract_ok (ρ := ρ) (ι := ι) h]
    · cases h
  · rename_i f first caps ho
    split at h
    · rename_i h0
      split at h
      · rename_i l hl
        simp only [Option.map_eq_some_iff, Prod.mk.injEq] at h
        obtain ⟨c, hc, _, rfl⟩ := h
        have e1 := (opnds_ok hf hG hl).trans (ptrs_ok hc)
        have e2 : caps.map a.eval = (c.map fun p => Value.pointer (some (addr ρ ι p.1 p.2))).toArray := by
          rw [← e1, ← Array.toList_map]
        have e3 : first = #[] := by simpa using h0
        simp [execOp, ho, Instr.makeFunc, e2, e3, SV.conc, S.conc]
      · cases h
    · cases h
  · rename_i t parts ho
    split at h
    · rename_i l hl
      have key := qBuild_ok (ρ := ρ) (ι := ι) (w := w) h
      have e1 : (parts.map fun (p : Nat × Operand) => (p.1, a.eval p.2)) = (((parts.toList.map (·.1)).zip l).map fun p => (p.1, p.2.conc ρ ι)).toArray := by
        apply Array.ext'
        have := opnds_ok hf hG hl
        rw [List.map_map] at this
        simp only [Array.toList_map]
        have h2 : ((parts.toList.map (·.1)).zip l).map (fun p => (p.1, p.2.conc ρ ι)) = (parts.toList.map (·.1)).zip (l.map (SV.conc ρ ι)) := by rw [List.zip_map_right]; rfl
        rw [h2, ← this, List.zip_map']
        rfl
      simp only [execOp, ho]
      rw [Sem.run_bind]
      have e2 : (parts.map fun (x : Nat × Operand) => match x with | (i, x) => (i, a.eval x)) = (parts.map fun (p : Nat × Operand) => (p.1, a.eval p.2)) := rfl
      rw [e2, e1, key]; rfl
    · cases h
  · rename_i b args ts ho
    have ea : ∀ {l : List SV}, opnds G fr args.toList = some l → args.map a.eval = (l.map (SV.conc ρ ι)).toArray := fun hl => by
      rw [← opnds_ok hf hG hl, ← Array.toList_map]
    split at h
    · rename_i x t r' hl ht
      have h0 : ts[0]? = some t := by rw [← Array.getElem?_toList, ht]; rfl
      have := qLen_ok (ι := ι) (w := w) (ty := o.type) hH h ts h0
      simp [execOp, ho, resolve, invoke, builtin, ea hl, this]
    · rename_i x y hl
      have := qMM_ok (ι := ι) (P := P) (w := w) hH h ts o.type
      simp only [if_true] at this
      simp [execOp, ho, resolve, invoke, builtin, ea hl, this]
    · rename_i x y hl
      have := qMM_ok (ι := ι) (P := P) (w := w) hH h ts o.type
      simp only [Bool.false_eq_true, if_false] at this
      simp [execOp, ho, resolve, invoke, builtin, ea hl, this]
    · cases h
  · cases h
end

/-! ### new blocks, stores -/

def S.sc (n : Nat) : S → Bool
  | .ptr b _ => b < n
  | .slc b _ _ _ => b < n
  | .fn _ caps => caps.all fun p => p.1 < n
  | _ => true
def Seg.sc (n : Nat) : Seg → Bool
  | .one x => x.sc n
  | .run .. => true
def SV.sc (n : Nat) : SV → Bool
  | .s x => x.sc n
  | .agg l => l.all (Seg.sc n)
  | .tup l => l.all fun p => p.2.all (Seg.sc n)
  | .junk => true
def scAll (n : Nat) (fr : Fr) (m : Mem) : Bool := fr.all (fun f => f.x.sc n) && m.all (fun B => B.segs.all (Seg.sc n))

section
variable {ρ : Env} {ι ι' : Nat → Nat} {n : Nat}
theorem S.conc_congr (h : ∀ i, i < n → ι i = ι' i) {x : S} (hx : x.sc n = true) : x.conc ρ ι = x.conc ρ ι' := by
  cases x <;> simp only [S.sc, decide_eq_true_eq, List.all_eq_true] at hx <;> simp only [S.conc, addr]
  case ptr b off => rw [h _ hx]
  case slc b off len cap => rw [h _ hx]
  case fn f caps =>
    congr 2
    exact List.map_congr_left fun p hp => by rw [h _ (by simpa using hx p hp)]
theorem Seg.cells_congr (h : ∀ i, i < n → ι i = ι' i) {x : Seg} (hx : x.sc n = true) : x.cells ρ ι = x.cells ρ ι' := by
  cases x with
  | one x => simp only [Seg.cells, S.conc_congr h hx]
  | run => rfl
theorem cellsOf_congr (h : ∀ i, i < n → ι i = ι' i) : ∀ {l : List Seg}, l.all (Seg.sc n) = true → cellsOf ρ ι l = cellsOf ρ ι' l
  | [], _ => rfl
  | x :: l, hl => by
    simp only [List.all_cons, Bool.and_eq_true] at hl
    rw [cells_cons, cells_cons, Seg.cells_congr h hl.1, cellsOf_congr h hl.2]
theorem SV.conc_congr (h : ∀ i, i < n → ι i = ι' i) {x : SV} (hx : x.sc n = true) : x.conc ρ ι = x.conc ρ ι' := by
  cases x with
  | s x => exact S.conc_congr h hx
  | agg l => simp only [SV.conc, cellsOf_congr h hx]
  | junk => rfl
  | tup l =>
    simp only [SV.sc, List.all_eq_true] at hx
    simp only [SV.conc]
    congr 2
    exact List.map_congr_left fun p hp => by
      have := cellsOf_congr (ρ := ρ) h (l := p.2) (List.all_eq_true.2 (hx p hp))
      rw [this]
theorem look_mem {fr : Fr} {t : Nat} {g : List E} {x : SV} (h : look fr t = some (g, x)) : ∃ f ∈ fr, f.x = x := by
  induction fr with
  | nil => simp [look] at h
  | cons f fr ih =>
    simp only [look] at h
    split at h
    · split at h
      · cases h
      · simp only [Option.some.injEq, Prod.mk.injEq] at h; exact ⟨f, .head _, h.2⟩
    · obtain ⟨f', hf, hx⟩ := ih h; exact ⟨f', .tail _ hf, hx⟩
theorem FRep.congr {k : Nat} {fr : Fr} {a : Act} (hf : FRep ρ ι k fr a) (h : ∀ i, i < n → ι i = ι' i) (hs : fr.all (fun f => f.x.sc n) = true) : FRep ρ ι' k fr a := by
  refine ⟨hf.size, hf.defers, fun t g x hl hg => ?_, hf.no⟩
  obtain ⟨f, hf', rfl⟩ := look_mem hl
  rw [hf.yes _ _ _ hl hg, SV.conc_congr h (List.all_eq_true.1 hs f hf')]
end

def upd (ι : Nat → Nat) (k r : Nat) : Nat → Nat := fun i => if i = k then r else ι i
theorem upd_lt (ι : Nat → Nat) (k r : Nat) : ∀ i, i < k → ι i = upd ι k r i := fun i h => by simp [upd]; omega

section
variable {ρ : Env} {ι : Nat → Nat} {w : World} {β : Base} {m : Mem}

theorem heap_lt {b : Nat} {o : Obj} (h : w.heap[b]? = some o) : b < w.heap.size := by
  rw [Array.getElem?_eq_some_iff] at h; exact h.1

theorem MRep.alloc (hm : MRep ρ β ι m w) (ty : TypeId) (segs : List Seg) (hs : m.all (fun B => B.segs.all (Seg.sc m.length)) = true) (hs' : segs.all (Seg.sc m.length) = true) :
    MRep ρ β (upd ι m.length w.heap.size) (m ++ [⟨ty, segs, true⟩]) { w with heap := w.heap.push (.cells (cellsOf ρ ι segs).toArray ty) } := by
  have hlt : ∀ i, i < m.length → ι i < w.heap.size := fun i hi => by
    obtain ⟨fz, h1, _⟩ := hm.blk i m[i] (by simp [hi])
    exact heap_lt h1
  refine ⟨fun i j hi hj he => ?_, fun i B hB => ?_, fun i hi => by rw [← upd_lt ι m.length w.heap.size i (by have := hm.len; omega)]; exact hm.agr i hi, by have := hm.len; simp; omega, fun i hi hi' => ?_, ?_, fun b hb hi => ?_, hm.os, hm.tape, hm.output⟩
  · simp only [List.length_append, List.length_singleton] at hi hj
    simp only [upd] at he
    split at he <;> split at he
    · omega
    · have := hlt j (by omega); omega
    · have := hlt i (by omega); omega
    · exact hm.inj i j (by omega) (by omega) he
  · by_cases hi : i < m.length
    · rw [List.getElem?_append_left hi] at hB
      obtain ⟨fz, h1, h2⟩ := hm.blk i B hB
      refine ⟨fz, ?_, h2⟩
      have hBs : B.segs.all (Seg.sc m.length) = true := List.all_eq_true.1 hs B (List.mem_of_getElem? hB)
      rw [← upd_lt ι m.length w.heap.size i hi, ← cellsOf_congr (upd_lt ι m.length w.heap.size) hBs, Array.getElem?_push, if_neg (by have := heap_lt h1; omega)]
      exact h1
    · rw [List.getElem?_append_right (by omega)] at hB
      have : i = m.length := by
        have := (List.getElem?_eq_some_iff.1 hB).1
        simp at this; omega
      subst this
      simp at hB
      subst hB
      refine ⟨(0, 0), ?_, fun _ => Nat.le_refl _⟩
      rw [show upd ι m.length w.heap.size m.length = w.heap.size by simp [upd], Array.getElem?_push, if_pos rfl, ← cellsOf_congr (upd_lt ι m.length w.heap.size) hs']
  · by_cases hc : i < m.length
    · rw [← upd_lt ι m.length w.heap.size i hc]; exact hm.new i hi hc
    · have : i = m.length := by simp at hi'; omega
      subst this
      simp only [upd, if_pos]; exact hm.size
  · simp only [Array.size_push]; have := hm.size; omega
  · have := hm.size
    show (w.heap.push _)[b]? = _
    rw [Array.getElem?_push, if_neg (by omega)]
    refine hm.old b hb fun i hi' => ?_
    have := hi i (by simp; omega)
    rwa [← upd_lt ι m.length w.heap.size i hi'] at this

/-- the world with one block's cells written anew -/
def setBlk (w : World) (b : Nat) (cs : List Value) (ty : TypeId) (fz : Nat × Nat) : World := { w with heap := w.heap.setIfInBounds b (.cells cs.toArray ty fz) }

theorem MRep.setBlk (hm : MRep ρ β ι m w) {b : Nat} {B : Blk} (hB : m[b]? = some B) (segs : List Seg) {fz : Nat × Nat} (hfz : fz.2 ≤ fz.1) :
    MRep ρ β ι (m.set b { B with segs := segs }) (Sx.setBlk w (ι b) (cellsOf ρ ι segs) B.ty fz) := by
  have hb : b < m.length := (List.getElem?_eq_some_iff.1 hB).1
  obtain ⟨_, h1, _⟩ := hm.blk b B hB
  have hlt := heap_lt h1
  refine ⟨fun i j hi hj he => hm.inj i j (by simpa using hi) (by simpa using hj) he, fun i C hC => ?_, hm.agr, by simpa using hm.len, fun i h1 h2 => hm.new i h1 (by simpa using h2), ?_, fun k hk hi => ?_, hm.os, hm.tape, hm.output⟩
  · rw [List.getElem?_set] at hC
    split at hC
    · rename_i hbi
      subst hbi
      simp only [Option.some.injEq] at hC; subst hC
      refine ⟨fz, ?_, fun _ => hfz⟩
      simp [Sx.setBlk, Array.getElem?_setIfInBounds_self, hlt]
    · rename_i hbi
      obtain ⟨fz', h3, h4⟩ := hm.blk i C hC
      refine ⟨fz', ?_, h4⟩
      have hi : i < m.length := (List.getElem?_eq_some_iff.1 hC).1
      simp only [Sx.setBlk]
      rw [Array.getElem?_setIfInBounds_ne (fun he => hbi (hm.inj b i hb hi he))]
      exact h3
  · simp only [Sx.setBlk, Array.size_setIfInBounds]; exact hm.size
  · simp only [Sx.setBlk]
    have := hi b (by simpa using hb)
    rw [Array.getElem?_setIfInBounds_ne this]
    exact hm.old k hk fun i hi' => hi i (by simpa using hi')
end

theorem setCell_eq (w : World) (b o : Nat) (cs : List Value) (ty : TypeId) (fz : Nat × Nat) (v : Value) (h : w.heap[b]? = some (.cells cs.toArray ty fz)) :
    w.setCell ⟨b, o, none⟩ v = setBlk w b (cs.set o v) ty fz := by
  unfold World.setCell setBlk
  congr 1
  apply Array.ext_getElem?
  intro i
  rw [Array.getElem?_modify]
  split
  · rename_i hi; subst hi
    have hlt := heap_lt h
    rw [Array.getElem?_setIfInBounds_self_of_lt hlt, h]
    simp
  · rename_i hi
    rw [Array.getElem?_setIfInBounds_ne hi]

theorem setBlk_twice (w : World) (b : Nat) (c d : List Value) (ty : TypeId) (fz : Nat × Nat) : setBlk (setBlk w b c ty fz) b d ty fz = setBlk w b d ty fz := by
  unfold setBlk; simp

theorem setBlk_self {w : World} {b : Nat} {c : List Value} {ty : TypeId} {fz : Nat × Nat} (h : w.heap[b]? = some (.cells c.toArray ty fz)) : setBlk w b c ty fz = w := by
  unfold setBlk
  have : w.heap.setIfInBounds b (.cells c.toArray ty fz) = w.heap := by
    apply Array.ext_getElem?
    intro i
    by_cases hi : b = i
    · subst hi; rw [Array.getElem?_setIfInBounds_self_of_lt (heap_lt h), h]
    · rw [Array.getElem?_setIfInBounds_ne hi]
  rw [this]

theorem run_storeCells_blk (P : Program) (b off : Nat) (ty : TypeId) (fz : Nat × Nat) (hfz : fz.2 ≤ fz.1) : ∀ (vs : List Value) (i : Nat) (cs : List Value) (w : World),
    w.heap[b]? = some (.cells cs.toArray ty fz) → (∀ v ∈ vs, v.oneCell' = true) → off + i + vs.length ≤ cs.length →
    (storeCells ⟨b, off, none⟩ vs i).run P w = .ok () (setBlk w b (cs.take (off + i) ++ vs ++ cs.drop (off + i + vs.length)) ty fz)
  | [], i, cs, w, h, _, _ => by
    unfold storeCells
    simp [setBlk_self h]
  | v :: vs, i, cs, w, h, hv, hl => by
    simp only [List.length_cons] at hl
    unfold storeCells
    have hlt : off + i < cs.length := by omega
    have hc : w.cell? ⟨b, off + i, none⟩ = some cs[off + i] := by
      simp [World.cell?, h, hlt]
    have hfr : w.frozen? ⟨b, off + i, none⟩ = false := by
      simp [World.frozen?, h]; omega
    have hst : (store (Addr.add ⟨b, off, none⟩ i) v).run P w = .ok () (setBlk w b (cs.set (off + i) v) ty fz) := by
      rw [run_store P w _ v _ (hv v (.head _))]
      have : (Addr.add ⟨b, off, none⟩ i) = ⟨b, off + i, none⟩ := add_mk b off i
      rw [this, hc]
      simp only [hfr]
      rw [setCell_eq w b (off + i) cs ty fz v h]; rfl
    rw [Sem.run_bind, hst, Result.andThen_ok]
    have hh : (setBlk w b (cs.set (off + i) v) ty fz).heap[b]? = some (.cells (cs.set (off + i) v).toArray ty fz) := by
      unfold setBlk; simp only; rw [Array.getElem?_setIfInBounds_self_of_lt (heap_lt h)]
    rw [run_storeCells_blk P b off ty fz hfz vs (i + 1) _ _ hh (fun u hu => hv u (.tail _ hu)) (by simp; omega), setBlk_twice]
    congr 2
    apply List.ext_getElem?
    intro j
    simp only [List.getElem?_append, List.length_append, List.length_take, List.length_set, List.getElem?_take, List.getElem?_set, List.getElem?_drop, List.length_cons]
    by_cases h1 : j < off + i
    · rw [if_pos (by omega), if_pos (by omega), if_pos (by omega), if_neg (by omega), if_pos (by omega), if_pos (by omega), if_pos h1]
    · by_cases h2 : j = off + i
      · subst h2
        rw [if_pos (by omega), if_pos (by omega), if_pos (by omega), if_pos rfl, if_pos hlt, if_pos (by omega), if_neg (by omega), show off + i - min (off + i) cs.length = 0 by omega]; rfl
      · by_cases h3 : j < off + i + 1 + vs.length
        · rw [if_pos (by omega), if_neg (by omega), if_pos (by omega), if_neg (by omega), show j - min (off + i) cs.length = (j - min (off + (i + 1)) cs.length) + 1 by omega, List.getElem?_cons_succ]
        · rw [if_neg (by omega), if_neg (by omega), if_neg (by omega)]
          congr 1; omega

/-! ### operations that write or make memory; calls -/

def S.plain : S → Bool
  | .val _ => false
  | .undef => false
  | _ => true
def Seg.plain : Seg → Bool
  | .one x => x.plain
  | .run .. => true
def segsOf : SV → Option (List Seg)
  | .s x => if x.plain then some [.one x] else none
  | .agg l => if l.all Seg.plain then some l else none
  | _ => none

/-- what an operation gives: conditions, the value, the memory -/
abbrev WR := Option (List E × SV × Mem)

def newBlk (fr : Fr) (m : Mem) (ty : TypeId) (segs : List Seg) : WR :=
  if scAll m.length fr m && segs.all (Seg.sc m.length) then some ([], .s (.ptr m.length (.lit 0)), m ++ [⟨ty, segs, true⟩]) else none

def wStore (P : Program) (H : Hyp) (m : Mem) (t : TypeId) (p x : SV) : WR :=
  match p with
  | .s (.ptr b off) =>
    match m[b]?, segsOf x with
    | some B, some l =>
      if B.wr = true then
        match sizeT P t, x, litN off with
        | some n, .agg _, some o => if segsLen l = some n then
            match takeSegs o B.segs, dropSegs (o + n) B.segs with
            | some l1, some l2 => some ([], .undef, m.set b { B with segs := l1 ++ l ++ l2 })
            | _, _ => none
          else none
        | some 1, .s y, _ => (wrSeg H off y 0 B.segs).map fun r => (mkLe H (.lit 0) off :: r.1, .undef, m.set b { B with segs := r.2 })
        | _, _, _ => none
      else none
    | _, _ => none
  | _ => none

def wop (P : Program) (H : Hyp) (fr : Fr) (m : Mem) (o : Op) : WR :=
  match o with
  | .box ty x => match opnd [] fr x with
    | some v => match segsOf v with
      | some l => newBlk fr m ty l
      | none => none
    | none => none
  | .alloc ty => match zeroT P ty with
    | some v => match segsOf v with
      | some l => newBlk fr m ty l
      | none => none
    | none => none
  | .store t a x => match opnd [] fr a, opnd [] fr x with
    | some p, some v => wStore P H m t p v
    | _, _ => none
  | .buildSlice t len parts => match slcT P t, opnds [] fr (parts.toList.map (·.2)) with
    | some e, some l => match sizeT P e with
      | some n => if len * n ≤ 2 ^ 24 then match qRow P e len n (parts.toList.map (·.1)) l with
          | some segs => if segs.all Seg.plain then (newBlk fr m e segs).map fun r => (r.1, .s (.slc m.length (.lit 0) (.lit len) (.lit len)), r.2.2) else none
          | none => none
        else none
      | none => none
    | _, _ => none
  | _ => none

section
variable {ρ : Env} {ι : Nat → Nat} {H : Hyp} {P : Program} {w : World} {β : Base} {m : Mem} {fr : Fr} {n : Nat} {a : Act}

theorem plain_one {x : S} (h : x.plain = true) : (x.conc ρ ι).oneCell' = true := by
  cases x <;> simp [S.plain] at h <;> rfl
theorem plain_cells : ∀ {l : List Seg}, l.all Seg.plain = true → ∀ v ∈ cellsOf ρ ι l, v.oneCell' = true
  | [], _, v, hv => by simp [cellsOf] at hv
  | x :: l, h, v, hv => by
    simp only [List.all_cons, Bool.and_eq_true] at h
    rw [cells_cons, List.mem_append] at hv
    rcases hv with hv | hv
    · cases x with
      | one x => simp only [cells_one, List.mem_singleton] at hv; subst hv; exact plain_one h.1
      | run k n A o => simp only [Seg.cells, List.mem_map] at hv; obtain ⟨j, _, rfl⟩ := hv; rfl
    · exact plain_cells h.2 v hv
theorem segsOf_ok {v : SV} {l : List Seg} (h : segsOf v = some l) : (v.conc ρ ι).cells = (cellsOf ρ ι l).toArray ∧ (∀ u ∈ cellsOf ρ ι l, u.oneCell' = true) := by
  unfold segsOf at h
  split at h
  · rename_i x
    split at h
    · rename_i hp
      simp only [Option.some.injEq] at h; subst h
      refine ⟨?_, plain_cells (by simpa [Seg.plain] using hp)⟩
      cases x <;> simp [S.plain] at hp <;> rfl
    · cases h
  · split at h
    · rename_i hp
      simp only [Option.some.injEq] at h; subst h
      exact ⟨rfl, plain_cells hp⟩
    · cases h
  · cases h

/-- what holds behind an operation that may make memory -/
def After (ρ : Env) (β : Base) (ι : Nat → Nat) (n : Nat) (fr : Fr) (m m' : Mem) (a : Act) (v : SV) (r : Value) (w' : World) : Prop :=
  ∃ ι', r = v.conc ρ ι' ∧ FRep ρ ι' n fr a ∧ MRep ρ β ι' m' w'

theorem newBlk_v {ty : TypeId} {segs : List Seg} {nd : List E} {v : SV} {m' : Mem} (h : newBlk fr m ty segs = some (nd, v, m')) : v = .s (.ptr m.length (.lit 0)) := by
  unfold newBlk at h
  split at h
  · simp only [Option.some.injEq, Prod.mk.injEq] at h; exact h.2.1.symm
  · cases h

theorem newBlk_ok (hm : MRep ρ β ι m w) (hf : FRep ρ ι n fr a) {ty : TypeId} {segs : List Seg} {nd : List E} {v : SV} {m' : Mem} (h : newBlk fr m ty segs = some (nd, v, m')) :
    After ρ β ι n fr m m' a v (.pointer (some ⟨w.heap.size, 0, none⟩)) { w with heap := w.heap.push (.cells (cellsOf ρ ι segs).toArray ty) } := by
  unfold newBlk at h
  split at h
  · rename_i hc
    simp only [scAll, Bool.and_eq_true] at hc
    simp only [Option.some.injEq, Prod.mk.injEq] at h
    obtain ⟨rfl, rfl, rfl⟩ := h
    refine ⟨upd ι m.length w.heap.size, ?_, hf.congr (upd_lt _ _ _) hc.1.1, hm.alloc ty segs hc.1.2 hc.2⟩
    simp [SV.conc, S.conc, addr, i_lit, upd]
  · cases h

theorem run_storeVar {t : TypeId} {k : Nat} {v : Value} {vs : List Value} {p : Addr} (hs : sizeT P t = some k) (hc : v.cells = vs.toArray) (hn : vs.length = k) :
    (storeVar t p v).run P w = (storeCells p vs).run P w := by
  have h1 : v.cells.size = k := by rw [hc]; simpa using hn
  have h2 : v.cells.toList = vs := by rw [hc]
  simp [storeVar, sizeT_some hs, h1, h2]

theorem wStore_ok (hH : H.ok ρ) (hm : MRep ρ β ι m w) {t : TypeId} {p x : SV} {nd : List E} {v : SV} {m' : Mem} (h : wStore P H m t p x = some (nd, v, m')) (hn : allN ρ nd) :
    ∃ w', (Instr.storeAt t (p.conc ρ ι) (x.conc ρ ι)).run P w = .ok () w' ∧ MRep ρ β ι m' w' ∧ v = .undef := by
  unfold wStore at h
  split at h
  · rename_i b off
    split at h
    · rename_i B l hB hl
      have hx := segsOf_ok (ρ := ρ) (ι := ι) hl
      split at h
      · rename_i hwr
        obtain ⟨fz, h1, h2⟩ := hm.blk b B hB
        have hfz := h2 hwr
        split at h
        · rename_i n l0 o hs ho
          split at h
          · rename_i hlen
            split at h
            · rename_i l1 l2 ht hd
              simp only [Option.some.injEq, Prod.mk.injEq] at h
              obtain ⟨rfl, rfl, rfl⟩ := h
              have e1 := takeSegs_ok (ρ := ρ) (ι := ι) _ _ _ ht
              have e2 := dropSegs_ok (ρ := ρ) (ι := ι) _ _ _ hd
              have e3 := segsLen_ok (ρ := ρ) (ι := ι) hlen
              have hcs : cellsOf ρ ι (l1 ++ l ++ l2) = (cellsOf ρ ι B.segs).take o ++ cellsOf ρ ι l ++ (cellsOf ρ ι B.segs).drop (o + n) := by
                rw [cells_append, cells_append, e1.1, e2.1]
              have hst := run_storeCells_blk P (ι b) o B.ty fz hfz (cellsOf ρ ι l) 0 _ _ h1 hx.2 (by omega)
              rw [Nat.add_zero, e3, ← hcs] at hst
              refine ⟨_, ?_, hm.setBlk hB _ hfz, rfl⟩
              rw [litN_some ho]
              have hsv := run_storeVar (w := w) (p := addr ρ ι b (.lit o)) hs hx.1 e3
              show (Instr.storeAt t (.pointer (some (addr ρ ι b (.lit o)))) (SV.conc ρ ι (.agg l0))).run P w = _
              rw [show (Instr.storeAt t (.pointer (some (addr ρ ι b (.lit o)))) (SV.conc ρ ι (.agg l0))) = storeVar t (addr ρ ι b (.lit o)) (SV.conc ρ ι (.agg l0)) from rfl, hsv]
              exact hst
            · cases h
          · cases h
        · rename_i y hs
          simp only [Option.map_eq_some_iff, Prod.mk.injEq] at h
          obtain ⟨r, hr, rfl, rfl, rfl⟩ := h
          have h0 := hn _ (.head _)
          rw [mkLe_b hH, i_lit, decide_eq_true_eq] at h0
          have h3 := wrSeg_ok (ι := ι) hH off y B.segs 0 r.1 r.2 hr (by omega) (fun e he => hn e (.tail _ he))
          have ho : (off.i ρ - ((0 : Nat) : Int)).toNat = (off.i ρ).toNat := by congr 1; omega
          rw [ho] at h3
          have hset := hm.setBlk hB r.2 hfz
          have hl1 : cellsOf ρ ι l = [y.conc ρ ι] := by
            unfold segsOf at hl
            simp only at hl
            split at hl
            · simp only [Option.some.injEq] at hl; subst hl; simp [cellsOf, Seg.cells]
            · cases hl
          have hst := run_storeCells_blk P (ι b) (off.i ρ).toNat B.ty fz hfz [y.conc ρ ι] 0 _ _ h1 (by rw [← hl1]; exact hx.2) (by simp; omega)
          refine ⟨_, ?_, hset, rfl⟩
          have hsv := run_storeVar (w := w) (p := addr ρ ι b off) (vs := [y.conc ρ ι]) hs (by rw [← hl1]; exact hx.1) rfl
          show (Instr.storeAt t (.pointer (some (addr ρ ι b off))) (SV.conc ρ ι (.s y))).run P w = _
          rw [show (Instr.storeAt t (.pointer (some (addr ρ ι b off))) (SV.conc ρ ι (.s y))) = storeVar t (addr ρ ι b off) (SV.conc ρ ι (.s y)) from rfl, hsv]
          show (storeCells ⟨ι b, (off.i ρ).toNat, none⟩ [y.conc ρ ι]).run P w = _
          rw [hst, h3.2]
          congr 2
          apply List.ext_getElem?
          intro j
          simp only [List.getElem?_append, List.length_append, List.length_take, List.getElem?_take, List.getElem?_set, List.getElem?_drop, List.length_singleton, Nat.add_zero]
          by_cases c1 : j < (off.i ρ).toNat
          · rw [if_pos (by omega), if_pos (by omega), if_pos c1, if_neg (by omega)]
          · by_cases c2 : j = (off.i ρ).toNat
            · subst c2; rw [if_pos (by omega), if_neg (by omega), if_pos rfl, if_pos h3.1, show (off.i ρ).toNat - min (off.i ρ).toNat (cellsOf ρ ι B.segs).length = 0 by omega]; rfl
            · rw [if_neg (by omega), if_neg (by omega)]; congr 1; omega
        · cases h
      · cases h
    · cases h
  · cases h

theorem wop_ok (hH : H.ok ρ) (hm : MRep ρ β ι m w) (hf : FRep ρ ι n fr a) {o : Oper} {nd : List E} {v : SV} {m' : Mem} (h : wop P H fr m o.op = some (nd, v, m')) (hn : allN ρ nd) :
    ∃ x w', ((execOp a.eval o).run P w = .ok (.value x) w' ∨ (execOp a.eval o).run P w = .ok .skip w' ∧ x = Go.undef) ∧ After ρ β ι n fr m m' a v x w' := by
  have hG : allT ρ [] := fun e he => by cases he
  unfold wop at h
  split at h
  · rename_i ty x ho
    split at h
    · rename_i u hu
      split at h
      · rename_i l hl
        refine ⟨_, _, .inl ?_, newBlk_ok hm hf h⟩
        simp [execOp, ho, opnd_ok hf hG hu, Instr.box, newVar, newRow, (segsOf_ok (ρ := ρ) (ι := ι) hl).1]
      · cases h
    · cases h
  · rename_i ty ho
    split at h
    · rename_i u hu
      split at h
      · rename_i l hl
        refine ⟨_, _, .inl ?_, newBlk_ok hm hf h⟩
        simp [execOp, ho, Instr.alloc, zeroT_ok (ρ := ρ) (ι := ι) hu, newVar, newRow, (segsOf_ok (ρ := ρ) (ι := ι) hl).1]
      · cases h
    · cases h
  · rename_i t p x ho
    split at h
    · rename_i u v' hu hv
      obtain ⟨w', h1, h2, rfl⟩ := wStore_ok (P := P) hH hm h hn
      refine ⟨_, w', .inr ⟨?_, rfl⟩, ι, rfl, hf, h2⟩
      simp [execOp, ho, opnd_ok hf hG hu, opnd_ok hf hG hv, h1]
    · cases h
  · rename_i t len parts ho
    split at h
    · rename_i e l he hl
      split at h
      · rename_i k hk
        split at h
        · rename_i hsz
          split at h
          · rename_i segs hr
            split at h
            · rename_i hp
              simp only [Option.map_eq_some_iff, Prod.mk.injEq] at h
              obtain ⟨⟨nd', v', m2⟩, hb, rfl, rfl, rfl⟩ := h
              obtain ⟨ι', h1, h2, h3⟩ := newBlk_ok (ty := e) hm hf hb
              have hrow := qRow_ok (ρ := ρ) (ι := ι) (w := w) hr
              have hparts : (parts.map fun (p : Nat × Operand) => (p.1, a.eval p.2)).toList = (parts.toList.map (·.1)).zip (l.map (SV.conc ρ ι)) := by
                rw [← opnds_ok hf hG hl, Array.toList_map, List.map_map, List.zip_map', Function.comp_def]
              refine ⟨.slice (some ⟨w.heap.size, 0, none⟩) len len, _, .inl ?_, ι', ?_, h2, h3⟩
              · obtain ⟨hne, z, hz, hfill⟩ := hrow
                have hbs : (Instr.buildSlice t len (parts.map fun (p : Nat × Operand) => (p.1, a.eval p.2))).run P w = .ok (.slice (some ⟨w.heap.size, 0, none⟩) len len) { w with heap := w.heap.push (.cells (cellsOf ρ ι segs).toArray e) } := by
                  unfold Instr.buildSlice
                  have hns : ¬ len * k > 2 ^ 24 := by omega
                  simp only [Sem.run_bind, run_underlying (slcT_some he), Result.andThen_ok, sizeT_some hk]
                  rw [if_neg hns, if_neg hne]
                  simp only [Sem.run_bind, Sem.run_pure, hz, Result.andThen_ok]
                  rw [hparts, hfill]
                  simp [newRow]
                simp only [execOp, ho]
                rw [Sem.run_bind]
                have e1 : (parts.map fun (x : Nat × Operand) => match x with | (i, x) => (i, a.eval x)) = (parts.map fun (p : Nat × Operand) => (p.1, a.eval p.2)) := rfl
                rw [e1, hbs]; rfl
              · have hv := newBlk_v hb
                subst hv
                simp only [SV.conc, S.conc, addr, i_lit, Value.pointer.injEq, Option.some.injEq, Addr.mk.injEq] at h1 ⊢
                simp [h1.1]
            · cases h
          · cases h
        · cases h
      · cases h
    · cases h
  · cases h
end

/-! ### calls by what is known of them; regions -/

/-- What is known of functions: conditions, the value, the memory behind the call (none: as it was). -/
abbrev Ctx := FuncId → Hyp → List SV → Mem → Option (List E × SV × Option Mem)

structure CtxOK (P : Program) (I : Interp) (Γ : Ctx) : Prop where
  ok : ∀ f H l m nd v om, Γ f H l m = some (nd, v, om) → ∀ (ρ : Env) (β : Base) (ι : Nat → Nat) (w : World), ρ.I = I → H.ok ρ → allN ρ nd → MRep ρ β ι m w →
    Calls P f (l.map (SV.conc ρ ι)).toArray w fun e w' => match om with
      | none => e = .returned (v.conc ρ ι) ∧ MRep ρ β ι m w'
      | some m' => ∃ ι', (∀ i, i < m.length → ι i = ι' i) ∧ e = .returned (v.conc ρ ι') ∧ MRep ρ β ι' m' w'

def okFn (P : Program) (f : FuncId) : Bool := match P.funcs[f]? with | some fn => !(fn.name == "runtime.NumGoroutine") && fn.body.isSome | none => false

def callOf (P : Program) (G : List E) (fr : Fr) : Op → Option (FuncId × List SV)
  | .call ⟨.value x, args, _⟩ => match opnd G fr x, opnds G fr args.toList with
    | some (.s (.fn f caps)), some l => if okFn P f then some (f, l ++ caps.map fun p => .s (.ptr p.1 p.2)) else none
    | _, _ => none
  | _ => none

def exec1 (P : Program) (Γ : Ctx) (quiet : Bool) (H : Hyp) (G : List E) (fr : Fr) (m : Mem) (o : Op) : Option (List E × SV × Option Mem) :=
  match qop P H G fr m o with
  | some (nd, v) => some (nd, v, none)
  | none => match callOf P G fr o with
    | some (f, l) => match Γ f H l m with
      | some (nd, v, none) => some (nd, v, none)
      | some (nd, v, some m') => if quiet then none else if fr.all (fun f => f.x.sc m.length) then some (nd, v, some m') else none
      | none => none
    | none => if quiet then none else match wop P H fr m o with
      | some (nd, v, m') => some (nd, v, some m')
      | none => none

inductive GS where
  | go (G : List E) | skip | bad
def guardOf (ops : Array Oper) (fr : Fr) (o : Oper) : GS :=
  match o.guard with
  | none => .go []
  | some (j, want) => match (ops[j]?).bind (·.dst) with
    | none => .bad
    | some t => match look fr t with
      | some (g, .s (.bool (.blit b))) => if b = want then .go g else .skip
      | some (g, .s (.bool e)) => .go ((if want then e else mkNot e) :: g)
      | some (_, .s .undef) => .skip
      | _ => .bad

def put (n : Nat) (fr : Fr) (dst : Option Tmp) (g : List E) (v : SV) : Option Fr :=
  match dst with
  | none => some fr
  | some t => if t < n then some (⟨t, g, v⟩ :: fr) else none

def imp (G : List E) (e : E) : E := G.foldr (fun g r => mkOr (mkNot g) r) e
def addFs (l : List E) (H : Hyp) : Hyp := l.foldl (fun H e => addF true e H) H

def opStep (P : Program) (Γ : Ctx) (quiet : Bool) (n : Nat) (ops : Array Oper) (o : Oper) (H : Hyp) (fr : Fr) (m : Mem) : Option (List E × Hyp × Fr × Mem) :=
  match guardOf ops fr o with
  | .bad => none
  | .skip => (put n fr o.dst [] .undef).map fun fr' => ([], H, fr', m)
  | .go [] => match exec1 P Γ quiet H [] fr m o.op with
    | some (nd, v, om) => (put n fr o.dst [] v).map fun fr' => (needs nd, addFs (needs nd) H, fr', om.getD m)
    | none => none
  | .go G => match exec1 P Γ true (addFs G H) G fr m o.op with
    | some (nd, v, _) => (put n fr o.dst G v).map fun fr' => (needs (nd.map (imp G)), H, fr', m)
    | none => none

def rops (P : Program) (Γ : Ctx) (quiet : Bool) (n : Nat) (ops : Array Oper) : List Oper → Hyp → Fr → Mem → Option (List E × Hyp × Fr × Mem)
  | [], H, fr, m => some ([], H, fr, m)
  | o :: l, H, fr, m => match opStep P Γ quiet n ops o H fr m with
    | some (nd, H', fr', m') => match rops P Γ quiet n ops l H' fr' m' with
      | some (nd', r) => some (nd ++ nd', r)
      | none => none
    | none => none

section
variable {ρ : Env} {ι : Nat → Nat} {H : Hyp} {P : Program} {Γ : Ctx} {w : World} {β : Base} {m : Mem} {fr : Fr} {n : Nat} {a : Act} {G : List E} {ops : Array Oper}

theorem addFs_ok : ∀ (l : List E) (H : Hyp), H.ok ρ → allN ρ l → (addFs l H).ok ρ
  | [], _, hH, _ => hH
  | e :: l, H, hH, h => addFs_ok l _ (addF_ok e true H hH (h e (.head _))) (fun x hx => h x (.tail _ hx))
theorem imp_ok : ∀ (G : List E) (e : E), (imp G e).b ρ = true → allT ρ G → e.b ρ = true
  | [], e, h, _ => h
  | g :: G, e, h, hG => by
    simp only [imp, List.foldr_cons, mkOr_b, mkNot_b, hG g (.head _), Bool.not_true, Bool.false_or] at h
    exact imp_ok G e h (fun x hx => hG x (.tail _ hx))

theorem callOf_ok (hf : FRep ρ ι n fr a) (hG : allT ρ G) {o : Oper} {f : FuncId} {l : List SV} (h : callOf P G fr o.op = some (f, l)) :
    (execOp a.eval o).run P w = .ok (.enter f (l.map (SV.conc ρ ι)).toArray) w := by
  unfold callOf at h
  split at h
  · rename_i x args ts ho
    split at h
    · rename_i f' caps l' hx hl
      split at h
      · rename_i hok
        simp only [Option.some.injEq, Prod.mk.injEq] at h
        obtain ⟨rfl, rfl⟩ := h
        have e1 : args.map a.eval = (l'.map (SV.conc ρ ι)).toArray := by rw [← opnds_ok hf hG hl, ← Array.toList_map]
        unfold okFn at hok
        split at hok
        · rename_i fn hfn
          simp only [Bool.and_eq_true, Bool.not_eq_true'] at hok
          have hb : fn.body.isNone = false := by
            cases hbb : fn.body <;> simp_all
          have hc : ∀ vs : Array Value, (callFunc f' vs).run P w = .ok (.enter f' vs) w := by
            intro vs
            unfold callFunc
            rw [Sem.run_bind, run_program, Result.andThen_ok]
            simp only [hfn, hok.1, hb]
            rfl
          simp [execOp, ho, resolve, opnd_ok hf hG hx, SV.conc, S.conc, Deferred.ofValue, invoke, e1, hc, Function.comp_def]
        · cases hok
      · cases h
    · cases h
  · cases h

theorem upon_value {o : Oper} {K : Act → World → Prop} {Q : Exit → Act → World → Prop} {v : Value} {w' : World}
    (h : (execOp a.eval o).run P w = .ok (.value v) w') (hK : K (a.put o.dst v) w') : o.wp P a w K Q := by
  unfold Oper.wp; rw [h]; exact hK

theorem exec1_ok {I : Interp} (hΓ : CtxOK P I Γ) (hI : ρ.I = I) (hH : H.ok ρ) (hm : MRep ρ β ι m w) (hf : FRep ρ ι n fr a) {quiet : Bool} {o : Oper} {nd : List E} {v : SV} {om : Option Mem}
    (h : exec1 P Γ quiet H [] fr m o.op = some (nd, v, om)) (hn : allN ρ nd) {K : Act → World → Prop} {Q : Exit → Act → World → Prop}
    (hK : ∀ ι' w', FRep ρ ι' n fr a → MRep ρ β ι' (om.getD m) w' → K (a.put o.dst (v.conc ρ ι')) w') : o.wp P a w K Q := by
  have hG : allT ρ [] := fun e he => by cases he
  unfold exec1 at h
  split at h
  · rename_i nd' v' hq
    simp only [Option.some.injEq, Prod.mk.injEq] at h
    obtain ⟨rfl, rfl, rfl⟩ := h
    exact upon_value (qop_ok hH hm hf hG hq hn) (hK ι w hf hm)
  · split at h
    · rename_i f l hc
      have hcall := callOf_ok (w := w) hf hG hc
      unfold Oper.wp
      rw [hcall]
      show Calls P f _ w _
      split at h
      · rename_i nd' v' hg
        simp only [Option.some.injEq, Prod.mk.injEq] at h
        obtain ⟨rfl, rfl, rfl⟩ := h
        refine (hΓ.ok _ _ _ _ _ _ _ hg ρ β ι w hI hH hn hm).mono fun e w' hr => ?_
        obtain ⟨rfl, hm'⟩ := hr
        exact hK ι w' hf hm'
      · rename_i nd' v' m' hg
        split at h
        · cases h
        · split at h
          · rename_i hs
            simp only [Option.some.injEq, Prod.mk.injEq] at h
            obtain ⟨rfl, rfl, rfl⟩ := h
            refine (hΓ.ok _ _ _ _ _ _ _ hg ρ β ι w hI hH hn hm).mono fun e w' hr => ?_
            obtain ⟨ι', hι, rfl, hm'⟩ := hr
            exact hK ι' w' (hf.congr hι hs) hm'
          · cases h
      · cases h
    · split at h
      · cases h
      · split at h
        · rename_i nd' v' m' hw
          simp only [Option.some.injEq, Prod.mk.injEq] at h
          obtain ⟨rfl, rfl, rfl⟩ := h
          obtain ⟨x, w', h1, ι', rfl, h3, h4⟩ := wop_ok hH hm hf hw hn
          unfold Oper.wp
          rcases h1 with h1 | ⟨h1, hx⟩
          · rw [h1]; exact hK ι' w' h3 h4
          · rw [h1]
            show K (a.put o.dst Go.undef) w'
            rw [← hx]; exact hK ι' w' h3 h4
        · cases h

theorem exec1_quiet {I : Interp} (hΓ : CtxOK P I Γ) (hI : ρ.I = I) (hH : H.ok ρ) (hf : FRep ρ ι n fr a) (hG : allT ρ G) {o : Oper} {nd : List E} {v : SV} {om : Option Mem}
    (h : exec1 P Γ true H G fr m o.op = some (nd, v, om)) (hn : allN ρ nd) :
    om = none ∧ ∀ w, MRep ρ β ι m w → o.quietAt P a (fun w' => MRep ρ β ι m w') w (v.conc ρ ι) := by
  unfold exec1 at h
  split at h
  · rename_i nd' v' hq
    simp only [Option.some.injEq, Prod.mk.injEq] at h
    obtain ⟨rfl, rfl, rfl⟩ := h
    refine ⟨rfl, fun w hm => ?_⟩
    unfold Oper.quietAt
    rw [qop_ok hH hm hf hG hq hn]
    exact ⟨rfl, rfl⟩
  · split at h
    · rename_i f l hc
      split at h
      · rename_i nd' v' hg
        simp only [Option.some.injEq, Prod.mk.injEq] at h
        obtain ⟨rfl, rfl, rfl⟩ := h
        refine ⟨rfl, fun w hm => ?_⟩
        unfold Oper.quietAt
        rw [callOf_ok (w := w) hf hG hc]
        exact ⟨rfl, hΓ.ok _ _ _ _ _ _ _ hg ρ β ι w hI hH hn hm⟩
      · simp at h
      · cases h
    · simp at h

theorem wanted_go (hf : FRep ρ ι n fr a) {o : Oper} (h : guardOf ops fr o = .go G) :
    (allT ρ G → Region.wanted o (yielded ops a.tmps) = true) ∧ (¬ allT ρ G → Region.wanted o (yielded ops a.tmps) = false) := by
  unfold guardOf at h
  unfold Region.wanted
  split at h
  · rename_i hg
    simp only [GS.go.injEq] at h; subst h
    rw [hg]
    exact ⟨fun _ => rfl, fun h => absurd (fun e he => by cases he) h⟩
  · rename_i j want hg
    rw [hg]
    split at h
    · cases h
    · rename_i t ht
      have key : ∀ g x, look fr t = some (g, x) → (allT ρ g → yielded ops a.tmps j = (match x.conc ρ ι with | .bool b => some b | _ => none)) ∧ (¬ allT ρ g → yielded ops a.tmps j = none) := by
        intro g x hl
        constructor
        · intro hg'
          have := hf.yes _ _ _ hl hg'
          unfold yielded
          rw [ht]
          simp only [Option.bind_some, this]
          cases x.conc ρ ι <;> rfl
        · intro hg'
          have := hf.no _ _ _ hl hg'
          unfold yielded
          rw [ht]
          simp only [Option.bind_some, this, Go.undef]
      split at h
      · rename_i g b hl
        split at h
        · rename_i hb
          simp only [GS.go.injEq] at h; subst h; subst hb
          have k := key _ _ hl
          exact ⟨fun hg' => by simp [k.1 hg', SV.conc, S.conc, b_blit], fun hg' => by simp [k.2 hg']⟩
        · cases h
      · rename_i g e _ hl
        simp only [GS.go.injEq] at h; subst h
        have k := key _ _ hl
        have hw : (if want then e else mkNot e).b ρ = true ↔ e.b ρ = want := by
          cases want <;> simp [mkNot_b]
        refine ⟨fun hg' => ?_, fun hg' => ?_⟩
        · have h1 := hw.1 (hg' _ (.head _))
          have h2 : allT ρ g := fun x hx => hg' x (.tail _ hx)
          simp [k.1 h2, SV.conc, S.conc, h1]
        · by_cases h2 : allT ρ g
          · have h1 : ¬ e.b ρ = want := fun he => hg' (fun x hx => by cases hx with | head => exact hw.2 he | tail _ hx => exact h2 x hx)
            simp [k.1 h2, SV.conc, S.conc, h1]
          · simp [k.2 h2]
      · cases h
      · cases h

theorem wanted_skip (hf : FRep ρ ι n fr a) {o : Oper} (h : guardOf ops fr o = .skip) : Region.wanted o (yielded ops a.tmps) = false := by
  unfold guardOf at h
  unfold Region.wanted
  split at h
  · cases h
  · rename_i j want hg
    rw [hg]
    split at h
    · cases h
    · rename_i t ht
      have key : ∀ g x, look fr t = some (g, x) → yielded ops a.tmps j = (match x.conc ρ ι with | .bool b => some b | _ => none) ∨ yielded ops a.tmps j = none := by
        intro g x hl
        by_cases hg' : allT ρ g
        · left
          have := hf.yes _ _ _ hl hg'
          unfold yielded
          rw [ht]
          simp only [Option.bind_some, this]
          cases x.conc ρ ι <;> rfl
        · right
          have := hf.no _ _ _ hl hg'
          unfold yielded
          rw [ht]
          simp only [Option.bind_some, this, Go.undef]
      split at h
      · rename_i g b hl
        split at h
        · cases h
        · rename_i hb
          rcases key _ _ hl with k | k
          · simp [k, SV.conc, S.conc, b_blit, hb]
          · simp [k]
      · cases h
      · rename_i g hl
        rcases key _ _ hl with k | k
        · simp [k, SV.conc, S.conc, Go.undef]
        · simp [k]
      · cases h

theorem put_ok (hf : FRep ρ ι n fr a) {dst : Option Tmp} {g : List E} {v : SV} {fr' : Fr} (h : put n fr dst g v = some fr') {x : Value} (hy : allT ρ g → x = v.conc ρ ι) (hn : ¬ allT ρ g → x = Go.undef) :
    FRep ρ ι n fr' (a.put dst x) := by
  unfold put at h
  split at h
  · simp only [Option.some.injEq] at h; subst h; exact hf
  · split at h
    · rename_i ht
      simp only [Option.some.injEq] at h; subst h
      exact hf.put ht hy hn
    · cases h

theorem allN_imp {G : List E} {nd : List E} (h : allN ρ (nd.map (imp G))) (hG : allT ρ G) : allN ρ nd := fun e he =>
  imp_ok G e (h _ (List.mem_map.2 ⟨e, he, rfl⟩)) hG

/-- one operation, in the text's order -/
theorem opStep_ok {I : Interp} (hΓ : CtxOK P I Γ) (hI : ρ.I = I) {quiet : Bool} {o : Oper} {nd : List E} {H' : Hyp} {fr' : Fr} {m' : Mem}
    (h : opStep P Γ quiet n ops o H fr m = some (nd, H', fr', m')) (hH : H.ok ρ) (hn : allN ρ nd) (hm : MRep ρ β ι m w) (hf : FRep ρ ι n fr a) {K : Act → World → Prop} {Q : Exit → Act → World → Prop}
    (hK : ∀ ι' a' w', H'.ok ρ → FRep ρ ι' n fr' a' → MRep ρ β ι' m' w' → K a' w') :
    if Region.wanted o (yielded ops a.tmps) then o.wp P a w K Q else K (a.put o.dst Go.undef) w := by
  unfold opStep at h
  split at h
  · cases h
  · rename_i hg
    simp only [Option.map_eq_some_iff, Prod.mk.injEq] at h
    obtain ⟨fr2, hp, rfl, rfl, rfl, rfl⟩ := h
    rw [if_neg (by rw [wanted_skip hf hg]; simp)]
    exact hK ι _ w hH (put_ok hf hp (fun _ => rfl) (fun hx => absurd (fun e he => by cases he) hx)) hm
  · rename_i hg
    split at h
    · rename_i nd' v om he
      simp only [Option.map_eq_some_iff, Prod.mk.injEq] at h
      obtain ⟨fr2, hp, rfl, rfl, rfl, rfl⟩ := h
      rw [if_pos ((wanted_go hf hg).1 (fun e he => by cases he))]
      refine exec1_ok hΓ hI hH hm hf he (needs_ok hn) fun ι' w' hf' hm' => ?_
      exact hK ι' _ w' (addFs_ok _ _ hH hn) (put_ok hf' hp (fun _ => rfl) (fun hx => absurd (fun e he => by cases he) hx)) hm'
    · cases h
  · rename_i G _ hg
    split at h
    · rename_i nd' v om he
      simp only [Option.map_eq_some_iff, Prod.mk.injEq] at h
      obtain ⟨fr2, hp, rfl, rfl, rfl, rfl⟩ := h
      by_cases hG : allT ρ G
      · rw [if_pos ((wanted_go hf hg).1 hG)]
        have hq := exec1_quiet (β := β) hΓ hI (addFs_ok _ _ hH hG) hf hG he (allN_imp (needs_ok hn) hG)
        refine Oper.wp_of_quiet (C := fun w' => MRep ρ β ι m w') (K := fun a' => a' = a.put o.dst (v.conc ρ ι)) hm (fun a' w' hm' ha => ?_) ⟨_, hq.2, rfl⟩
        subst ha
        exact hK ι _ w' hH (put_ok hf hp (fun _ => rfl) (fun hx => absurd hG hx)) hm'
      · rw [if_neg (by rw [(wanted_go hf hg).2 hG]; simp)]
        exact hK ι _ w hH (put_ok hf hp (fun hx => absurd hx hG) (fun _ => rfl)) hm
    · cases h

theorem rops_ok {I : Interp} (hΓ : CtxOK P I Γ) (hI : ρ.I = I) {quiet : Bool} : ∀ (l : List Oper) {H H' : Hyp} {nd : List E} {fr fr' : Fr} {m m' : Mem} {ι : Nat → Nat} {a : Act} {w : World} {Q : Exit → Act → World → Prop},
    rops P Γ quiet n ops l H fr m = some (nd, H', fr', m') → H.ok ρ → allN ρ nd → MRep ρ β ι m w → FRep ρ ι n fr a →
    (∀ ι' a' w', H'.ok ρ → FRep ρ ι' n fr' a' → MRep ρ β ι' m' w' → Q .normal a' w') → wpList P ops Q l a w
  | [], H, H', nd, fr, fr', m, m', ι, a, w, Q, h, hH, hn, hm, hf, hQ => by
    simp only [rops, Option.some.injEq, Prod.mk.injEq] at h
    obtain ⟨rfl, rfl, rfl, rfl⟩ := h
    exact hQ ι a w hH hf hm
  | o :: l, H, H', nd, fr, fr', m, m', ι, a, w, Q, h, hH, hn, hm, hf, hQ => by
    simp only [rops] at h
    split at h
    · rename_i nd1 H1 fr1 m1 h1
      split at h
      · rename_i nd2 r h2
        simp only [Option.some.injEq, Prod.mk.injEq] at h
        obtain ⟨rfl, rfl⟩ := h
        have hn' := allN_append hn
        refine wpList_step fun K hK => ?_
        exact opStep_ok hΓ hI h1 hH hn'.1 hm hf fun ι' a' w' hH' hf' hm' => hK _ _ (rops_ok hΓ hI l h2 hH' hn'.2 hm' hf' hQ)
      · cases h
    · cases h

theorem exec1_none {o : Op} {nd : List E} {v : SV} {om : Option Mem} (h : exec1 P Γ true H G fr m o = some (nd, v, om)) : om = none := by
  unfold exec1 at h
  split at h
  · simp only [Option.some.injEq, Prod.mk.injEq] at h; exact h.2.2.symm
  · split at h
    · split at h
      · simp only [Option.some.injEq, Prod.mk.injEq] at h; exact h.2.2.symm
      · simp at h
      · cases h
    · simp at h
theorem opStep_mem {o : Oper} {nd : List E} {H' : Hyp} {fr' : Fr} {m' : Mem} (h : opStep P Γ true n ops o H fr m = some (nd, H', fr', m')) : m' = m := by
  unfold opStep at h
  split at h
  · cases h
  · simp only [Option.map_eq_some_iff, Prod.mk.injEq] at h
    obtain ⟨_, _, _, _, _, rfl⟩ := h; rfl
  · split at h
    · rename_i nd' v om he
      simp only [Option.map_eq_some_iff, Prod.mk.injEq] at h
      obtain ⟨_, _, _, _, _, rfl⟩ := h
      rw [exec1_none he]; rfl
    · cases h
  · split at h
    · simp only [Option.map_eq_some_iff, Prod.mk.injEq] at h
      obtain ⟨_, _, _, _, _, rfl⟩ := h; rfl
    · cases h
theorem rops_mem : ∀ (l : List Oper) {H H' : Hyp} {nd : List E} {fr fr' : Fr} {m m' : Mem}, rops P Γ true n ops l H fr m = some (nd, H', fr', m') → m' = m
  | [], H, H', nd, fr, fr', m, m', h => by
    simp only [rops, Option.some.injEq, Prod.mk.injEq] at h; exact h.2.2.2.symm
  | o :: l, H, H', nd, fr, fr', m, m', h => by
    simp only [rops] at h
    split at h
    · rename_i nd1 H1 fr1 m1 h1
      split at h
      · rename_i nd2 r h2
        simp only [Option.some.injEq, Prod.mk.injEq] at h
        obtain ⟨rfl, rfl⟩ := h
        rw [rops_mem l h2, opStep_mem h1]
      · cases h
    · cases h

/-- one operation, in a region that draws its order -/
theorem opStep_quiet {I : Interp} (hΓ : CtxOK P I Γ) (hI : ρ.I = I) {o : Oper} {nd : List E} {H' : Hyp} {fr' : Fr} {m' : Mem}
    (h : opStep P Γ true n ops o H fr m = some (nd, H', fr', m')) (hH : H.ok ρ) (hn : allN ρ nd) (hf : FRep ρ ι n fr a) {K : Act → Prop}
    (hK : ∀ a', H'.ok ρ → FRep ρ ι n fr' a' → K a') :
    if Region.wanted o (yielded ops a.tmps) then o.quiet P a (fun w => MRep ρ β ι m w) K else K (a.put o.dst Go.undef) := by
  unfold opStep at h
  split at h
  · cases h
  · rename_i hg
    simp only [Option.map_eq_some_iff, Prod.mk.injEq] at h
    obtain ⟨fr2, hp, rfl, rfl, rfl, rfl⟩ := h
    rw [if_neg (by rw [wanted_skip hf hg]; simp)]
    exact hK _ hH (put_ok hf hp (fun _ => rfl) (fun hx => absurd (fun e he => by cases he) hx))
  · rename_i hg
    split at h
    · rename_i nd' v om he
      simp only [Option.map_eq_some_iff, Prod.mk.injEq] at h
      obtain ⟨fr2, hp, rfl, rfl, rfl, rfl⟩ := h
      have hq := exec1_quiet (β := β) hΓ hI hH hf (fun e he => by cases he) he (needs_ok hn)
      rw [if_pos ((wanted_go hf hg).1 (fun e he => by cases he))]
      exact ⟨_, hq.2, hK _ (addFs_ok _ _ hH hn) (put_ok hf hp (fun _ => rfl) (fun hx => absurd (fun e he => by cases he) hx))⟩
    · cases h
  · rename_i G _ hg
    split at h
    · rename_i nd' v om he
      simp only [Option.map_eq_some_iff, Prod.mk.injEq] at h
      obtain ⟨fr2, hp, rfl, rfl, rfl, rfl⟩ := h
      by_cases hG : allT ρ G
      · rw [if_pos ((wanted_go hf hg).1 hG)]
        have hq := exec1_quiet (β := β) hΓ hI (addFs_ok _ _ hH hG) hf hG he (allN_imp (needs_ok hn) hG)
        exact ⟨_, hq.2, hK _ hH (put_ok hf hp (fun _ => rfl) (fun hx => absurd hG hx))⟩
      · rw [if_neg (by rw [(wanted_go hf hg).2 hG]; simp)]
        exact hK _ hH (put_ok hf hp (fun hx => absurd hx hG) (fun _ => rfl))
    · cases h

theorem rops_quiet {I : Interp} (hΓ : CtxOK P I Γ) (hI : ρ.I = I) : ∀ (l : List Oper) {H H' : Hyp} {nd : List E} {fr fr' : Fr} {m m' : Mem} {a : Act} {Q : Act → Prop},
    rops P Γ true n ops l H fr m = some (nd, H', fr', m') → H.ok ρ → allN ρ nd → FRep ρ ι n fr a →
    (∀ a', H'.ok ρ → FRep ρ ι n fr' a' → Q a') → wpQuiet P ops (fun w => MRep ρ β ι m w) Q l a
  | [], H, H', nd, fr, fr', m, m', a, Q, h, hH, hn, hf, hQ => by
    simp only [rops, Option.some.injEq, Prod.mk.injEq] at h
    obtain ⟨rfl, rfl, rfl, rfl⟩ := h
    exact hQ a hH hf
  | o :: l, H, H', nd, fr, fr', m, m', a, Q, h, hH, hn, hf, hQ => by
    simp only [rops] at h
    split at h
    · rename_i nd1 H1 fr1 m1 h1
      split at h
      · rename_i nd2 r h2
        simp only [Option.some.injEq, Prod.mk.injEq] at h
        obtain ⟨rfl, rfl⟩ := h
        have hn' := allN_append hn
        have hm1 : m1 = m := opStep_mem h1
        subst hm1
        refine wpQuiet_step fun K hK => ?_
        exact opStep_quiet (β := β) hΓ hI h1 hH hn'.1 hf fun a' hH' hf' => hK _ (rops_quiet hΓ hI l h2 hH' hn'.2 hf' hQ)
      · cases h
    · cases h
end

/-! ### where two ways meet again -/

def mergeS (e : E) (x y : S) : Option S :=
  if x = y then some x else
  match x, y with
  | .int k a, .int k' b => if k = k' then some (.int k (mkIte e a b)) else none
  | .bool a, .bool b => some (.bool (mkIteB e a b))
  | .ptr b o, .ptr b' o' => if b = b' then some (.ptr b (mkIte e o o')) else none
  | .slc b o l c, .slc b' o' l' c' => if b = b' then some (.slc b (mkIte e o o') (mkIte e l l') (mkIte e c c')) else none
  | _, _ => none
def mergeSeg (e : E) (x y : Seg) : Option Seg :=
  match x, y with
  | .one a, .one b => (mergeS e a b).map .one
  | .run k n A o, .run k' n' A' o' => if k = k' ∧ n = n' ∧ o = o' then some (.run k n (mkIte e A A') o) else none
  | _, _ => none
def mergeSegs (e : E) : List Seg → List Seg → Option (List Seg)
  | [], [] => some []
  | x :: l, y :: r => match mergeSeg e x y, mergeSegs e l r with
    | some z, some s => some (z :: s)
    | _, _ => none
  | _, _ => none
def mergeTup (e : E) : List (Bool × List Seg) → List (Bool × List Seg) → Option (List (Bool × List Seg))
  | [], [] => some []
  | x :: l, y :: r => if x.1 = y.1 then match mergeSegs e x.2 y.2, mergeTup e l r with
      | some z, some s => some ((x.1, z) :: s)
      | _, _ => none
    else none
  | _, _ => none
def mergeV (e : E) (x y : SV) : Option SV :=
  match x, y with
  | .tup l, .tup r => (mergeTup e l r).map .tup
  | .s a, .s b => (mergeS e a b).map .s
  | .agg l, .agg r => (mergeSegs e l r).map .agg
  | x, y => if x = y then some x else none
def mergeMem (e : E) : Mem → Mem → Option Mem
  | [], [] => some []
  | x :: l, y :: r => if x.ty = y.ty ∧ x.wr = y.wr then match mergeSegs e x.segs y.segs, mergeMem e l r with
      | some z, some s => some ({ x with segs := z } :: s)
      | _, _ => none
    else none
  | _, _ => none
def mergeAt (e : E) (f1 f2 : Fr) (t : Nat) : FE :=
  match look f1 t, look f2 t with
  | some (g, x), some (g', y) => if g = g' then match mergeV e x y with
      | some z => ⟨t, g, z⟩
      | none => ⟨t, [], .junk⟩
    else ⟨t, [], .junk⟩
  | _, _ => ⟨t, [], .junk⟩
def mergeFr (e : E) (fr f1 f2 : Fr) : Fr :=
  ((f1.take (f1.length - fr.length)).map (·.t) ++ (f2.take (f2.length - fr.length)).map (·.t)).map (mergeAt e f1 f2) ++ fr

section
variable {e : E} {ι : Nat → Nat} {ρ : Env}
theorem mergeS_ok {x y z : S} (h : mergeS e x y = some z) : z.conc ρ ι = if e.b ρ then x.conc ρ ι else y.conc ρ ι := by
  unfold mergeS at h
  split at h
  · rename_i hxy; subst hxy
    simp only [Option.some.injEq] at h; subst h; simp
  · split at h
    · split at h
      · rename_i hk; subst hk
        simp only [Option.some.injEq] at h; subst h
        simp only [S.conc, mkIte_i]; split <;> rfl
      · cases h
    · simp only [Option.some.injEq] at h; subst h
      simp only [S.conc, mkIteB_b]; split <;> rfl
    · split at h
      · rename_i hk; subst hk
        simp only [Option.some.injEq] at h; subst h
        simp only [S.conc, addr, mkIte_i]; split <;> rfl
      · cases h
    · split at h
      · rename_i hk; subst hk
        simp only [Option.some.injEq] at h; subst h
        simp only [S.conc, addr, mkIte_i]; split <;> rfl
      · cases h
    · cases h
theorem mergeSeg_ok {x y z : Seg} (h : mergeSeg e x y = some z) : z.cells ρ ι = if e.b ρ then x.cells ρ ι else y.cells ρ ι := by
  unfold mergeSeg at h
  split at h
  · simp only [Option.map_eq_some_iff] at h
    obtain ⟨s, hs, rfl⟩ := h
    simp only [cells_one, mergeS_ok (ρ := ρ) (ι := ι) hs]; split <;> rfl
  · split at h
    · rename_i hk
      obtain ⟨rfl, rfl, rfl⟩ := hk
      simp only [Option.some.injEq] at h; subst h
      simp only [Seg.cells, mkIte_a]; split <;> rfl
    · cases h
  · cases h
theorem mergeSegs_ok : ∀ {x y z : List Seg}, mergeSegs e x y = some z → cellsOf ρ ι z = if e.b ρ then cellsOf ρ ι x else cellsOf ρ ι y
  | [], [], z, h => by simp only [mergeSegs, Option.some.injEq] at h; subst h; simp
  | x :: l, [], z, h => by simp [mergeSegs] at h
  | [], y :: r, z, h => by simp [mergeSegs] at h
  | x :: l, y :: r, z, h => by
    simp only [mergeSegs] at h
    split at h
    · rename_i u s hu hs
      simp only [Option.some.injEq] at h; subst h
      rw [cells_cons, cells_cons, cells_cons, mergeSeg_ok (ρ := ρ) (ι := ι) hu, mergeSegs_ok hs]
      split <;> rfl
    · cases h
theorem mergeTup_ok : ∀ {x y z : List (Bool × List Seg)}, mergeTup e x y = some z → SV.conc ρ ι (.tup z) = if e.b ρ then SV.conc ρ ι (.tup x) else SV.conc ρ ι (.tup y) := by
  have key : ∀ {x y z : List (Bool × List Seg)}, mergeTup e x y = some z → (z.map fun p => if p.1 then Value.agg (cellsOf ρ ι p.2).toArray else ((cellsOf ρ ι p.2)[0]?).getD Go.undef) =
      if e.b ρ then (x.map fun p => if p.1 then Value.agg (cellsOf ρ ι p.2).toArray else ((cellsOf ρ ι p.2)[0]?).getD Go.undef) else (y.map fun p => if p.1 then Value.agg (cellsOf ρ ι p.2).toArray else ((cellsOf ρ ι p.2)[0]?).getD Go.undef) := by
    intro x
    induction x with
    | nil => intro y z h; cases y <;> simp [mergeTup] at h; subst h; simp
    | cons a l ih =>
      intro y z h
      cases y with
      | nil => simp [mergeTup] at h
      | cons b r =>
        simp only [mergeTup] at h
        split at h
        · rename_i hab
          split at h
          · rename_i u s hu hs
            simp only [Option.some.injEq] at h; subst h
            simp only [List.map_cons, ih hs, mergeSegs_ok (ρ := ρ) (ι := ι) hu, hab]
            cases e.b ρ <;> simp
          · cases h
        · cases h
  intro x y z h
  simp only [SV.conc, key h]
  split <;> rfl
theorem mergeV_ok {x y z : SV} (h : mergeV e x y = some z) : z.conc ρ ι = if e.b ρ then x.conc ρ ι else y.conc ρ ι := by
  unfold mergeV at h
  split at h
  · simp only [Option.map_eq_some_iff] at h
    obtain ⟨s, hs, rfl⟩ := h
    exact mergeTup_ok hs
  · simp only [Option.map_eq_some_iff] at h
    obtain ⟨s, hs, rfl⟩ := h
    exact mergeS_ok hs
  · simp only [Option.map_eq_some_iff] at h
    obtain ⟨s, hs, rfl⟩ := h
    simp only [SV.conc, mergeSegs_ok (ρ := ρ) (ι := ι) hs]; split <;> rfl
  · split at h
    · rename_i hxy; subst hxy
      simp only [Option.some.injEq] at h; subst h; simp
    · cases h
theorem mergeMem_at : ∀ {x y z : Mem}, mergeMem e x y = some z → x.length = z.length ∧ y.length = z.length ∧ ∀ (i : Nat) (C : Blk), z[i]? = some C → ∃ A B : Blk, x[i]? = some A ∧ y[i]? = some B ∧ A.ty = C.ty ∧ B.ty = C.ty ∧ A.wr = C.wr ∧ B.wr = C.wr ∧ mergeSegs e A.segs B.segs = some C.segs
  | [], [], z, h => by simp only [mergeMem, Option.some.injEq] at h; subst h; simp
  | x :: l, [], z, h => by simp [mergeMem] at h
  | [], y :: r, z, h => by simp [mergeMem] at h
  | x :: l, y :: r, z, h => by
    simp only [mergeMem] at h
    split at h
    · rename_i hk
      split at h
      · rename_i u s hu hs
        simp only [Option.some.injEq] at h; subst h
        obtain ⟨h1, h2, h3⟩ := mergeMem_at hs
        refine ⟨by simp [h1], by simp [h2], fun i C hC => ?_⟩
        cases i with
        | zero =>
          simp only [List.getElem?_cons_zero, Option.some.injEq] at hC; subst hC
          exact ⟨x, y, rfl, rfl, rfl, hk.1.symm, rfl, hk.2.symm, hu⟩
        | succ i => simpa using h3 i C (by simpa using hC)
      · cases h
    · cases h
theorem mergeMem_ok {β : Base} {w : World} {x y z : Mem} (h : mergeMem e x y = some z) (hm : if e.b ρ then MRep ρ β ι x w else MRep ρ β ι y w) : MRep ρ β ι z w := by
  obtain ⟨h1, h2, h3⟩ := mergeMem_at h
  cases he : e.b ρ
  · rw [he] at hm
    simp only [Bool.false_eq_true, if_false] at hm
    refine ⟨by rw [← h2]; exact hm.inj, fun i C hC => ?_, hm.agr, by rw [← h2]; exact hm.len, by rw [← h2]; exact hm.new, hm.size, by rw [← h2]; exact hm.old, hm.os, hm.tape, hm.output⟩
    obtain ⟨A, B, ha, hb, t1, t2, w1, w2, hs⟩ := h3 i C hC
    obtain ⟨fz, k1, k2⟩ := hm.blk i B hb
    refine ⟨fz, ?_, by rw [← w2]; exact k2⟩
    rw [mergeSegs_ok (ρ := ρ) (ι := ι) hs, he, ← t2]; exact k1
  · rw [he] at hm
    simp only [if_true] at hm
    refine ⟨by rw [← h1]; exact hm.inj, fun i C hC => ?_, hm.agr, by rw [← h1]; exact hm.len, by rw [← h1]; exact hm.new, hm.size, by rw [← h1]; exact hm.old, hm.os, hm.tape, hm.output⟩
    obtain ⟨A, B, ha, hb, t1, t2, w1, w2, hs⟩ := h3 i C hC
    obtain ⟨fz, k1, k2⟩ := hm.blk i A ha
    refine ⟨fz, ?_, by rw [← w1]; exact k2⟩
    rw [mergeSegs_ok (ρ := ρ) (ι := ι) hs, he, ← t1]; exact k1

theorem look_append (d fr : Fr) (t : Nat) : look (d ++ fr) t = if t ∈ d.map (·.t) then look d t else look fr t := by
  induction d with
  | nil => simp
  | cons f d ih =>
    simp only [List.cons_append, look, List.map_cons, List.mem_cons]
    by_cases hf : f.t = t
    · simp [hf]
    · rw [if_neg hf, if_neg hf, ih]
      have : (t = f.t ∨ t ∈ d.map (·.t)) ↔ t ∈ d.map (·.t) := ⟨fun h => h.resolve_left (fun h => hf h.symm), .inr⟩
      simp only [this]
theorem look_map (g : Nat → FE) (hg : ∀ t, (g t).t = t) (l : List Nat) (t : Nat) (h : t ∈ l) : look (l.map g) t = if (g t).x = .junk then none else some ((g t).g, (g t).x) := by
  induction l with
  | nil => cases h
  | cons u l ih =>
    simp only [List.map_cons, look, hg]
    by_cases hu : u = t
    · subst hu; simp
    · rw [if_neg hu]
      exact ih (by cases h with | head => exact absurd rfl hu | tail _ h => exact h)
theorem mergeAt_t (f1 f2 : Fr) (t : Nat) : (mergeAt e f1 f2 t).t = t := by
  unfold mergeAt; repeat' split
  all_goals rfl
theorem mergeFr_ok {n : Nat} {a : Act} {fr d1 d2 : Fr} (h : if e.b ρ then FRep ρ ι n (d1 ++ fr) a else FRep ρ ι n (d2 ++ fr) a) : FRep ρ ι n (mergeFr e fr (d1 ++ fr) (d2 ++ fr)) a := by
  have hk : mergeFr e fr (d1 ++ fr) (d2 ++ fr) = (d1.map (·.t) ++ d2.map (·.t)).map (mergeAt e (d1 ++ fr) (d2 ++ fr)) ++ fr := by
    simp [mergeFr]
  have hkeys : ((d1.map (·.t) ++ d2.map (·.t)).map (mergeAt e (d1 ++ fr) (d2 ++ fr))).map (·.t) = d1.map (·.t) ++ d2.map (·.t) := by
    rw [List.map_map]
    exact List.map_id'' (fun t => mergeAt_t _ _ t) _
  have key : ∀ t g z, look (mergeFr e fr (d1 ++ fr) (d2 ++ fr)) t = some (g, z) →
      ∃ x, look (if e.b ρ then d1 ++ fr else d2 ++ fr) t = some (g, x) ∧ z.conc ρ ι = x.conc ρ ι := by
    intro t g z hl
    rw [hk, look_append, hkeys] at hl
    split at hl
    · rename_i ht
      rw [look_map _ (fun t => mergeAt_t _ _ t) _ _ ht] at hl
      split at hl
      · cases hl
      · rename_i hj
        simp only [Option.some.injEq, Prod.mk.injEq] at hl
        unfold mergeAt at hl hj
        split at hl
        · rename_i g1 x g2 y h1 h2
          rw [h1, h2] at hj
          simp only at hj
          split at hl
          · rename_i hg; subst hg
            split at hl
            · rename_i z' hz
              obtain ⟨rfl, rfl⟩ := hl
              have := mergeV_ok (ρ := ρ) (ι := ι) hz
              cases he : e.b ρ
              · exact ⟨y, by simpa using h2, by rw [this, he]; simp⟩
              · exact ⟨x, by simpa using h1, by rw [this, he]; simp⟩
            · simp_all
          · simp_all
        · simp_all
    · rename_i ht
      simp only [List.mem_append, not_or] at ht
      refine ⟨z, ?_, rfl⟩
      cases he : e.b ρ
      · simp only [Bool.false_eq_true, if_false]; rw [look_append, if_neg ht.2]; exact hl
      · simp only [if_true]; rw [look_append, if_neg ht.1]; exact hl
  have h' : FRep ρ ι n (if e.b ρ then d1 ++ fr else d2 ++ fr) a := by
    cases he : e.b ρ <;> simp only [he] at h <;> simpa using h
  refine ⟨h'.size, h'.defers, fun t g z hl hg => ?_, fun t g z hl hg => ?_⟩
  · obtain ⟨x, hx, hz⟩ := key t g z hl
    rw [hz]; exact h'.yes _ _ _ hx hg
  · obtain ⟨x, hx, hz⟩ := key t g z hl
    exact h'.no _ _ _ hx hg
end

/-! ### the code -/

def Goes (P : Program) (f : FuncId) (R : Ending → World → Prop) (todo : List Item) (a : Act) (w : World) : Prop :=
  ∀ (b : Frame) (cs : List Frame), b.fn = f → b.kind = .normal → ∃ e w' fr, R e w' ∧ Comes P (lone (b.at a todo) cs w) (lone fr cs w') e ∧ fr.fn = f ∧ fr.leaving P w' e

inductive Tree where
  | ret (v : SV) (m : Mem)
  | stop (todo : List Item) (H : Hyp) (fr : Fr) (m : Mem)
  | need (c : E) (t : Tree)
  | ite (c : E) (t e : Tree)
  | fail (why : String)

/-- what is to be shown of a run -/
def Tree.holds (P : Program) (f : FuncId) (R : Ending → World → Prop) (ρ : Env) (β : Base) (n : Nat) : Tree → Prop
  | .ret v m => ∀ ι w, MRep ρ β ι m w → R (.returned (v.conc ρ ι)) w
  | .stop todo H fr m => H.ok ρ → ∀ ι a w, FRep ρ ι n fr a → MRep ρ β ι m w → Goes P f R todo a w
  | .need c t => c.b ρ = true ∧ (c.b ρ = true → t.holds P f R ρ β n)
  | .ite c t e => (c.b ρ = true → t.holds P f R ρ β n) ∧ (c.b ρ = false → e.holds P f R ρ β n)
  | .fail _ => False

def addNeeds (l : List E) (t : Tree) : Tree := l.foldr .need t

def toPart : SV → Option (Bool × List Seg)
  | .s x => if x.plain then some (false, [.one x]) else none
  | .agg l => some (true, l)
  | _ => none

def resOne (P : Program) (H : Hyp) (fr : Fr) (m : Mem) : ResultVar → Option SV
  | .tmp t => opnd [] fr (.tmp t)
  | .cell t ty => match opnd [] fr (.tmp t) with
    | some x => match qLoad P H m ty x with
      | some (nd, v) => if needs nd = [] then some v else none
      | none => none
    | none => none
def resAll (P : Program) (H : Hyp) (fr : Fr) (m : Mem) : List ResultVar → Option SV
  | [] => some (.tup [])
  | [r] => resOne P H fr m r
  | [r, s] => match (resOne P H fr m r).bind toPart, (resOne P H fr m s).bind toPart with
    | some x, some y => some (.tup [x, y])
    | _, _ => none
  | [r, s, t] => match (resOne P H fr m r).bind toPart, (resOne P H fr m s).bind toPart, (resOne P H fr m t).bind toPart with
    | some x, some y, some z => some (.tup [x, y, z])
    | _, _, _ => none
  | _ => none


/-- A piece of code that no way leaves but by its foot; ways meet again. -/
def runS (P : Program) (Γ : Ctx) (n : Nat) : (fuel loops : Nat) → List Item → Hyp → Fr → Mem → Option (List E × Hyp × Fr × Mem)
  | 0, _, _, _, _, _ => none
  | k + 1, u, todo, H, fr, m =>
    match todo with
    | [] => some ([], H, fr, m)
    | .code .skip :: r | .code (.label _) :: r | .inBlock _ :: r => runS P Γ n k u r H fr m
    | .code (.seq x y) :: r => runS P Γ n k u (.code x :: .code y :: r) H fr m
    | .code (.block id c) :: r => runS P Γ n k u (.code c :: .inBlock id :: r) H fr m
    | .code (.exit id) :: r => match exitTo id r with
      | some r' => runS P Γ n k u r' H fr m
      | none => none
    | .code (.cond c x y) :: r => match opnd [] fr c with
      | some (.s (.bool e0)) => match decB H e0 with
        | .blit t => runS P Γ n k u (.code (if t then x else y) :: r) H fr m
        | e => match runS P Γ n k u [.code x] (addF true e H) fr m, runS P Γ n k u [.code y] (addF false e H) fr m with
          | some (nd1, _, f1, m1), some (nd2, _, f2, m2) => match mergeMem e m1 m2 with
            | some m' => match runS P Γ n k u r H (mergeFr e fr f1 f2) m' with
              | some (nd, q) => some (needs (nd1.map (imp [e])) ++ (needs (nd2.map (imp [mkNot e])) ++ nd), q)
              | none => none
            | none => none
          | _, _ => none
      | _ => none
    | .code (.region id ops draw) :: r =>
      if draw && !(Region.lexB .any ops) then none else
      match rops P Γ draw n ops ops.toList H fr m with
      | some (nd, H', fr', m') => match runS P Γ n k u r H' fr' m' with
        | some (nd', q) => some (nd ++ nd', q)
        | none => none
      | none => none
    | .code (.loop c) :: r | .inLoop c :: r => match u with
      | 0 => none
      | u + 1 => runS P Γ n k u (.code c :: .inLoop c :: r) H fr m
    | _ => none

/-- two ways that meet again -/
def meetW (P : Program) (Γ : Ctx) (n k u : Nat) (e : E) (x y : Code) (H : Hyp) (fr : Fr) (m : Mem) : Option (List E × Fr × Mem) :=
  match runS P Γ n k u [.code x] (addF true e H) fr m, runS P Γ n k u [.code y] (addF false e H) fr m with
  | some (nd1, _, f1, m1), some (nd2, _, f2, m2) => match mergeMem e m1 m2 with
    | some m' => some (needs (nd1.map (imp [e])) ++ needs (nd2.map (imp [mkNot e])), mergeFr e fr f1 f2, m')
    | none => none
  | _, _ => none

/-- The run: 'loops' says how many rounds at most a loop is entered by itself. -/
def run (P : Program) (Γ : Ctx) (fn : Func) (n : Nat) : (fuel loops : Nat) → List Item → Hyp → Fr → Mem → Tree
  | 0, _, _, _, _, _ => .fail "fuel"
  | k + 1, u, todo, H, fr, m =>
    match todo with
    | [] | .code .ret :: _ => match resAll P H fr m fn.results.toList with
      | some v => .ret v m
      | none => .fail "results"
    | .code .skip :: r | .code (.label _) :: r | .inBlock _ :: r => run P Γ fn n k u r H fr m
    | .code (.seq x y) :: r => run P Γ fn n k u (.code x :: .code y :: r) H fr m
    | .code (.block id c) :: r => run P Γ fn n k u (.code c :: .inBlock id :: r) H fr m
    | .code (.exit id) :: r => match exitTo id r with
      | some r' => run P Γ fn n k u r' H fr m
      | none => .fail "exit"
    | .code (.cond c x y) :: r => match opnd [] fr c with
      | some (.s (.bool e0)) => match decB H e0 with
        | .blit t => run P Γ fn n k u (.code (if t then x else y) :: r) H fr m
        | e => match meetW P Γ n k u e x y H fr m with
          | some (nd, fr', m') => addNeeds nd (run P Γ fn n k u r H fr' m')
          | none => .ite e (run P Γ fn n k u (.code x :: r) (addF true e H) fr m) (run P Γ fn n k u (.code y :: r) (addF false e H) fr m)
      | _ => .fail "cond"
    | .code (.region id ops draw) :: r =>
      if draw && !(Region.lexB .any ops) then .fail "order" else
      match rops P Γ draw n ops ops.toList H fr m with
      | some (nd, H', fr', m') => addNeeds nd (run P Γ fn n k u r H' fr' m')
      | none => .fail "region"
    | .code (.loop c) :: r | .inLoop c :: r => match u with
      | 0 => .stop (.code c :: .inLoop c :: r) H fr m
      | u + 1 => run P Γ fn n k u (.code c :: .inLoop c :: r) H fr m
    | _ => .fail "code"

section
variable {ρ : Env} {ι : Nat → Nat} {H : Hyp} {P : Program} {Γ : Ctx} {w : World} {β : Base} {m : Mem} {fr : Fr} {n : Nat} {a : Act}
variable {f : FuncId} {fn : Func} {R : Ending → World → Prop} {k : List Item} {a' : Act} {w' : World}

theorem goes_step {todo todo' : List Item} (h : ∀ (b : Frame) cs, step P (lone (b.at a todo) cs w) = .next (lone (b.at a' todo') cs w')) (hg : Goes P f R todo' a' w') : Goes P f R todo a w :=
  fun b cs hb hk => let ⟨e, w2, fr, hr, hc, hl⟩ := hg b cs hb hk; ⟨e, w2, fr, hr, .of_steps (.one (h b cs)) hc, hl⟩

theorem goes_wp {c : Code} {Q : Exit → Act → World → Prop} (h : c.wp P Q a w) (hq : ∀ e a' w', Q e a' w' → e = .normal ∧ Goes P f R k a' w') : Goes P f R (.code c :: k) a w := by
  intro b cs hb hk
  obtain ⟨e, a1, w1, q, arr⟩ := h b k cs
  obtain ⟨rfl, hg⟩ := hq _ _ _ q
  obtain ⟨e2, w2, fr, hr, hc, hl⟩ := hg b cs hb hk
  exact ⟨e2, w2, fr, hr, .of_steps arr hc, hl⟩

theorem goes_leave {todo : List Item} {v : Value} (hd : a.defers = []) (hf : P.funcs[f]? = some fn) (hr : (results fn a.tmps).run P w = .ok v w) (hR : R (.returned v) w)
    (hs : ∀ (b : Frame) cs, step P (lone (b.at a todo) cs w) = .next (lone { b.at a todo with mode := .returning } cs w)) : Goes P f R todo a w :=
  fun b cs hb hk => ⟨.returned v, w, { b.at a todo with mode := .returning }, hR, Steps.one (hs b cs), hb, rfl, hd, hk, fn, by rw [show ({ b.at a todo with mode := .returning } : Frame).fn = f from hb]; exact hf, hr⟩

theorem calls_of_goes {c : Code} {args : Array Value} (hf : P.funcs[f]? = some fn) (hb : fn.body = some c)
    (h : Goes P f R [.code c] { tmps := args ++ Array.replicate (fn.ntmps - args.size) Go.undef, defers := [] } w) : Calls P f args w R := by
  intro cs
  have := h { (default : Frame) with fn := f, kind := .normal } cs rfl rfl
  have he : Frame.enter P f args .normal = ({ (default : Frame) with fn := f, kind := .normal } : Frame).at { tmps := args ++ Array.replicate (fn.ntmps - args.size) Go.undef, defers := [] } [.code c] := by
    simp [Frame.enter, Frame.at, hf, hb]
  rw [he]
  exact this

theorem toPart_ok {x : SV} {p : Bool × List Seg} (h : toPart x = some p) : (if p.1 then Value.agg (cellsOf ρ ι p.2).toArray else ((cellsOf ρ ι p.2)[0]?).getD Go.undef) = x.conc ρ ι := by
  unfold toPart at h
  split at h
  · split at h
    · simp only [Option.some.injEq] at h; subst h; simp [cellsOf, Seg.cells, SV.conc]
    · cases h
  · simp only [Option.some.injEq] at h; subst h; rfl
  · cases h
def resSem (tmps : Array Value) : ResultVar → Sem Value
  | .tmp t => pure (tmps[t]?.getD Go.undef)
  | .cell x t => do loadVar t (← asAddr (tmps[x]?.getD Go.undef))
theorem resOne_ok (hH : H.ok ρ) (hm : MRep ρ β ι m w) (hf : FRep ρ ι n fr a) {r : ResultVar} {v : SV} (h : resOne P H fr m r = some v) :
    (resSem a.tmps r).run P w = .ok (v.conc ρ ι) w := by
  have hG : allT ρ [] := fun e he => by cases he
  have ev : ∀ (t : Tmp) (u : SV), opnd [] fr (.tmp t) = some u → a.tmps[t]?.getD Go.undef = u.conc ρ ι := fun t u hu => by
    rw [← opnd_ok hf hG hu, Act.eval, Array.getD_eq_getD_getElem?]
  cases r with
  | tmp t =>
    simp only [resSem, Sem.run_pure, ev t v h]
  | cell x t =>
    simp only [resOne] at h
    split at h
    · rename_i u hu
      split at h
      · rename_i nd v' hq
        split at h
        · rename_i hnd
          simp only [Option.some.injEq] at h; subst h
          have hn : allN ρ nd := needs_ok (by rw [hnd]; intro e he; cases he)
          have := qLoad_ok (ι := ι) hH hm hq hn
          simp only [resSem, ev x u hu]
          simp only [Instr.loadAt] at this
          unfold qLoad at hq
          split at hq
          · simp only [SV.conc, S.conc, Instr.sureAddr, asAddr] at this ⊢; exact this
          · cases hq
        · cases h
      · cases h
    · cases h

theorem results_eq (fn : Func) (tmps : Array Value) : results fn tmps = (do
    let vs ← fn.results.mapM (resSem tmps)
    pure (if h : vs.size = 1 then vs[0] else .tuple vs)) := by
  unfold results
  have : (fun r : ResultVar => match r with | .tmp t => (pure (tmps.getD t Go.undef) : Sem Value) | .cell a t => do loadVar t (← asAddr (tmps.getD a Go.undef))) = resSem tmps := by
    funext r
    cases r <;> simp [resSem, Array.getD_eq_getD_getElem?]
  rw [← this]; rfl

theorem resAll_ok (hH : H.ok ρ) (hm : MRep ρ β ι m w) (hf : FRep ρ ι n fr a) {v : SV} (h : resAll P H fr m fn.results.toList = some v) :
    (results fn a.tmps).run P w = .ok (v.conc ρ ι) w := by
  rw [results_eq]
  cases hr : fn.results with
  | mk l =>
  rw [hr] at h
  unfold resAll at h
  have one : ∀ r v, resOne P H fr m r = some v → (resSem a.tmps r).run P w = .ok (v.conc ρ ι) w := fun r v h => resOne_ok hH hm hf h
  split at h
  · rename_i hl
    simp only [Option.some.injEq] at h; subst h
    simp only at hl; subst hl
    simp [SV.conc]
  · rename_i r hl
    simp only at hl; subst hl
    have := one r v h
    simp [this]
  · rename_i r s hl
    simp only at hl; subst hl
    split at h
    · rename_i x y hx hy
      simp only [Option.some.injEq] at h; subst h
      rw [Option.bind_eq_some_iff] at hx hy
      obtain ⟨u, hu, hx⟩ := hx
      obtain ⟨u', hu', hy⟩ := hy
      have e : SV.conc ρ ι (.tup [x, y]) = .tuple #[u.conc ρ ι, u'.conc ρ ι] := by
        show Value.tuple (List.map _ [x, y]).toArray = _
        simp only [List.map_cons, List.map_nil, toPart_ok (ρ := ρ) (ι := ι) hx, toPart_ok (ρ := ρ) (ι := ι) hy]
      rw [e]
      simp [one r u hu, one s u' hu']
    · cases h
  · rename_i r s t hl
    simp only at hl; subst hl
    split at h
    · rename_i x y z hx hy hz
      simp only [Option.some.injEq] at h; subst h
      rw [Option.bind_eq_some_iff] at hx hy hz
      obtain ⟨u, hu, hx⟩ := hx
      obtain ⟨u', hu', hy⟩ := hy
      obtain ⟨u2, hu2, hz⟩ := hz
      have e : SV.conc ρ ι (.tup [x, y, z]) = .tuple #[u.conc ρ ι, u'.conc ρ ι, u2.conc ρ ι] := by
        show Value.tuple (List.map _ [x, y, z]).toArray = _
        simp only [List.map_cons, List.map_nil, toPart_ok (ρ := ρ) (ι := ι) hx, toPart_ok (ρ := ρ) (ι := ι) hy, toPart_ok (ρ := ρ) (ι := ι) hz]
      rw [e]
      simp [one r u hu, one s u' hu', one t u2 hu2]
    · cases h
  · cases h

theorem addNeeds_ok {l : List E} {t : Tree} (h : (addNeeds l t).holds P f R ρ β n) : allN ρ l ∧ t.holds P f R ρ β n := by
  induction l with
  | nil => exact ⟨fun e he => (by cases he), h⟩
  | cons e l ih =>
    obtain ⟨h1, h2⟩ := h
    have := ih (h2 h1)
    exact ⟨fun x hx => by cases hx with | head => exact h1 | tail _ hx => exact this.1 x hx, this.2⟩


theorem opStep_fr {quiet : Bool} {ops : Array Oper} {o : Oper} {nd : List E} {H' : Hyp} {fr' : Fr} {m' : Mem} (h : opStep P Γ quiet n ops o H fr m = some (nd, H', fr', m')) : ∃ d, fr' = d ++ fr := by
  have hp : ∀ {dst : Option Tmp} {g : List E} {v : SV} {fr' : Fr}, put n fr dst g v = some fr' → ∃ d, fr' = d ++ fr := by
    intro dst g v fr' h
    unfold put at h
    split at h
    · simp only [Option.some.injEq] at h; subst h; exact ⟨[], rfl⟩
    · split at h
      · simp only [Option.some.injEq] at h; subst h; exact ⟨[_], rfl⟩
      · cases h
  unfold opStep at h
  split at h
  · cases h
  · simp only [Option.map_eq_some_iff, Prod.mk.injEq] at h
    obtain ⟨_, h, _, _, rfl, _⟩ := h; exact hp h
  · split at h
    · simp only [Option.map_eq_some_iff, Prod.mk.injEq] at h
      obtain ⟨_, h, _, _, rfl, _⟩ := h; exact hp h
    · cases h
  · split at h
    · simp only [Option.map_eq_some_iff, Prod.mk.injEq] at h
      obtain ⟨_, h, _, _, rfl, _⟩ := h; exact hp h
    · cases h
theorem rops_fr {quiet : Bool} {ops : Array Oper} : ∀ (l : List Oper) {H H' : Hyp} {nd : List E} {fr fr' : Fr} {m m' : Mem}, rops P Γ quiet n ops l H fr m = some (nd, H', fr', m') → ∃ d, fr' = d ++ fr
  | [], H, H', nd, fr, fr', m, m', h => by
    simp only [rops, Option.some.injEq, Prod.mk.injEq] at h; exact ⟨[], h.2.2.1.symm⟩
  | o :: l, H, H', nd, fr, fr', m, m', h => by
    simp only [rops] at h
    split at h
    · rename_i nd1 H1 fr1 m1 h1
      split at h
      · rename_i nd2 r h2
        simp only [Option.some.injEq, Prod.mk.injEq] at h
        obtain ⟨rfl, rfl⟩ := h
        obtain ⟨d, rfl⟩ := opStep_fr h1
        obtain ⟨d', rfl⟩ := rops_fr l h2
        exact ⟨d' ++ d, by simp⟩
      · cases h
    · cases h
theorem mergeFr_fr (e : E) (fr f1 f2 : Fr) : ∃ d, mergeFr e fr f1 f2 = d ++ fr := ⟨_, rfl⟩
theorem runS_fr : ∀ (k u : Nat) {todo : List Item} {H H' : Hyp} {nd : List E} {fr fr' : Fr} {m m' : Mem}, runS P Γ n k u todo H fr m = some (nd, H', fr', m') → ∃ d, fr' = d ++ fr := by
  intro k
  induction k with
  | zero => intro u todo H H' nd fr fr' m m' h; simp [runS] at h
  | succ k ih =>
    intro u todo H H' nd fr fr' m m' h
    unfold runS at h
    split at h
    · simp only [Option.some.injEq, Prod.mk.injEq] at h; exact ⟨[], h.2.2.1.symm⟩
    · exact ih _ h
    · exact ih _ h
    · exact ih _ h
    · exact ih _ h
    · exact ih _ h
    · split at h
      · exact ih _ h
      · cases h
    · split at h
      · split at h
        · exact ih _ h
        · split at h
          · split at h
            · split at h
              · rename_i nd' q hq
                obtain ⟨H2, f2, m2⟩ := q
                simp only [Option.some.injEq, Prod.mk.injEq] at h
                obtain ⟨_, rfl, rfl, rfl⟩ := h
                obtain ⟨d, hd⟩ := ih _ hq
                obtain ⟨d2, hd2⟩ := mergeFr_fr (decB H _) fr _ _
                exact ⟨d ++ d2, by rw [hd, hd2, List.append_assoc]⟩
              · cases h
            · cases h
          · cases h
      · cases h
    · split at h
      · cases h
      · split at h
        · rename_i h1
          split at h
          · rename_i nd' q hq
            obtain ⟨H2, f2, m2⟩ := q
            simp only [Option.some.injEq, Prod.mk.injEq] at h
            obtain ⟨_, rfl, rfl, rfl⟩ := h
            obtain ⟨d, rfl⟩ := rops_fr _ h1
            obtain ⟨d', rfl⟩ := ih _ hq
            exact ⟨d' ++ d, by simp⟩
          · cases h
        · cases h
    · split at h
      · cases h
      · exact ih _ h
    · split at h
      · cases h
      · exact ih _ h
    · cases h

theorem exitTo_append {id : Nat} : ∀ {k k' : List Item} (r : List Item), exitTo id k = some k' → exitTo id (k ++ r) = some (k' ++ r) := by
  intro k
  induction k with
  | nil => intro k' r h; simp [exitTo] at h
  | cons x k ih =>
    intro k' r h
    cases x <;> simp only [exitTo, List.cons_append] at h ⊢
    case inBlock i =>
      by_cases hc : (i == id) = true
      · rw [if_pos hc] at h ⊢; simp only [Option.some.injEq] at h; rw [h]
      · rw [if_neg hc] at h ⊢; exact ih r h
    all_goals exact ih r h

theorem goes_region {I : Interp} (hΓ : CtxOK P I Γ) (hI : ρ.I = I) (hP : P.follows .mixedOrders = true) {id : Nat} {ops : Array Oper} {draw : Bool} {r : List Item} (hd : ¬ (draw && !(Region.lexB .any ops)) = true)
    {nd : List E} {H' : Hyp} {fr' : Fr} {m' : Mem} (hr : rops P Γ draw n ops ops.toList H fr m = some (nd, H', fr', m')) (hn : allN ρ nd) (hH : H.ok ρ) (hf : FRep ρ ι n fr a) (hm : MRep ρ β ι m w)
    (hk : ∀ ι' a' w', H'.ok ρ → FRep ρ ι' n fr' a' → MRep ρ β ι' m' w' → Goes P f R r a' w') : Goes P f R (.code (.region id ops draw) :: r) a w := by
  cases draw with
  | false =>
    refine goes_wp (Q := fun e a' w' => e = .normal ∧ Goes P f R r a' w') (wp_region_list ?_) (fun _ _ _ hq => hq)
    exact rops_ok hΓ hI ops.toList hr hH hn hm hf fun ι' a' w' hH' hf' hm' => ⟨rfl, hk _ _ _ hH' hf' hm'⟩
  | true =>
    have hB : Region.lexB .any ops = true := by
      cases hb : Region.lexB .any ops
      · simp [hb] at hd
      · rfl
    have hmem := rops_mem _ hr
    subst hmem
    refine goes_wp (Q := fun e a' w' => e = .normal ∧ Goes P f R r a' w') (wp_region_quiet (C := fun w => MRep ρ β ι m' w) hP hB (hm.drew _) ?_) (fun _ _ _ hq => hq)
    exact rops_quiet hΓ hI ops.toList hr hH hn hf fun a' hH' hf' => fun w' hm' => ⟨rfl, hk _ _ _ hH' hf' hm'⟩

theorem runS_ok {I : Interp} (hΓ : CtxOK P I Γ) (hI : ρ.I = I) (hP : P.follows .mixedOrders = true) : ∀ (k u : Nat) (todo : List Item) (H H' : Hyp) (nd : List E) (fr fr' : Fr) (m m' : Mem) (ι : Nat → Nat) (a : Act) (w : World) (r : List Item),
    runS P Γ n k u todo H fr m = some (nd, H', fr', m') → allN ρ nd → H.ok ρ → FRep ρ ι n fr a → MRep ρ β ι m w →
    (∀ ι' a' w', H'.ok ρ → FRep ρ ι' n fr' a' → MRep ρ β ι' m' w' → Goes P f R r a' w') → Goes P f R (todo ++ r) a w := by
  intro k
  induction k with
  | zero => intro u todo H H' nd fr fr' m m' ι a w r h; simp [runS] at h
  | succ k ih =>
    intro u todo H H' nd fr fr' m m' ι a w r h hn hH hf hm hk
    have hG : allT ρ [] := fun e he => by cases he
    unfold runS at h
    split at h
    · simp only [Option.some.injEq, Prod.mk.injEq] at h
      obtain ⟨rfl, rfl, rfl, rfl⟩ := h
      exact hk ι a w hH hf hm
    · exact goes_step (fun b cs => step_skip) (ih _ _ _ _ _ _ _ _ _ _ _ _ r h hn hH hf hm hk)
    · exact goes_step (fun b cs => step_label) (ih _ _ _ _ _ _ _ _ _ _ _ _ r h hn hH hf hm hk)
    · exact goes_step (fun b cs => step_inBlock) (ih _ _ _ _ _ _ _ _ _ _ _ _ r h hn hH hf hm hk)
    · exact goes_step (fun b cs => step_seq) (ih _ _ _ _ _ _ _ _ _ _ _ _ r h hn hH hf hm hk)
    · exact goes_step (fun b cs => step_block) (ih _ _ _ _ _ _ _ _ _ _ _ _ r h hn hH hf hm hk)
    · split at h
      · rename_i hr
        exact goes_step (fun b cs => step_exit (exitTo_append r hr)) (ih _ _ _ _ _ _ _ _ _ _ _ _ r h hn hH hf hm hk)
      · cases h
    · rename_i c x y todo'
      split at h
      · rename_i e0 hc
        have hev := opnd_ok hf hG hc
        have hdec := decB_b hH e0
        split at h
        · rename_i t ht
          rw [ht, b_blit] at hdec
          refine goes_step (fun b cs => step_cond (t := t) ?_) (ih _ _ _ _ _ _ _ _ _ _ _ _ r h hn hH hf hm hk)
          rw [hev, SV.conc, S.conc, hdec]
        · split at h
          · rename_i nd1 H1 f1 m1 nd2 H2 f2 m2 h1 h2
            split at h
            · rename_i mm hmm
              split at h
              · rename_i nd' q hq
                obtain ⟨H3, f3, m3⟩ := q
                simp only [Option.some.injEq, Prod.mk.injEq] at h
                obtain ⟨rfl, rfl, rfl, rfl⟩ := h
                obtain ⟨hn1, hn⟩ := allN_append hn
                obtain ⟨hn2, hn3⟩ := allN_append hn
                refine goes_step (fun b cs => step_cond (t := e0.b ρ) hev) ?_
                obtain ⟨d1, rfl⟩ := runS_fr _ _ h1
                obtain ⟨d2, rfl⟩ := runS_fr _ _ h2
                cases he : e0.b ρ
                · rw [he] at hdec
                  have hG2 : allT ρ [mkNot (decB H e0)] := fun g hg => by
                    simp only [List.mem_singleton] at hg; subst hg; rw [mkNot_b, hdec]; rfl
                  refine ih u [.code y] _ _ _ _ _ _ _ ι a w (todo' ++ r) h2 (allN_imp (needs_ok hn2) hG2) (addF_ok _ _ _ hH hdec) hf hm fun ι' a' w' _ hf' hm' => ?_
                  exact ih u todo' _ _ _ _ _ _ _ ι' a' w' r hq hn3 hH (mergeFr_ok (by rw [hdec]; exact hf')) (mergeMem_ok hmm (by rw [hdec]; exact hm')) hk
                · rw [he] at hdec
                  have hG1 : allT ρ [decB H e0] := fun g hg => by
                    simp only [List.mem_singleton] at hg; subst hg; exact hdec
                  refine ih u [.code x] _ _ _ _ _ _ _ ι a w (todo' ++ r) h1 (allN_imp (needs_ok hn1) hG1) (addF_ok _ _ _ hH hdec) hf hm fun ι' a' w' _ hf' hm' => ?_
                  exact ih u todo' _ _ _ _ _ _ _ ι' a' w' r hq hn3 hH (mergeFr_ok (by rw [hdec]; exact hf')) (mergeMem_ok hmm (by rw [hdec]; exact hm')) hk
              · cases h
            · cases h
          · cases h
      · cases h
    · split at h
      · cases h
      · rename_i hd
        split at h
        · rename_i nd1 H1 f1 m1 h1
          split at h
          · rename_i nd' q hq
            obtain ⟨H3, f3, m3⟩ := q
            simp only [Option.some.injEq, Prod.mk.injEq] at h
            obtain ⟨rfl, rfl, rfl, rfl⟩ := h
            obtain ⟨hn1, hn2⟩ := allN_append hn
            exact goes_region hΓ hI hP hd h1 hn1 hH hf hm fun ι' a' w' hH' hf' hm' => ih _ _ _ _ _ _ _ _ _ _ _ _ r hq hn2 hH' hf' hm' hk
          · cases h
        · cases h
    · split at h
      · cases h
      · exact goes_step (fun b cs => step_loop) (ih _ _ _ _ _ _ _ _ _ _ _ _ r h hn hH hf hm hk)
    · split at h
      · cases h
      · exact goes_step (fun b cs => step_inLoop) (ih _ _ _ _ _ _ _ _ _ _ _ _ r h hn hH hf hm hk)
    · cases h

theorem meetW_ok {I : Interp} (hΓ : CtxOK P I Γ) (hI : ρ.I = I) (hP : P.follows .mixedOrders = true) {k u : Nat} {e : E} {x y : Code} {nd : List E} {fr' : Fr} {m' : Mem} {r : List Item}
    (h : meetW P Γ n k u e x y H fr m = some (nd, fr', m')) (hn : allN ρ nd) (hH : H.ok ρ) (hf : FRep ρ ι n fr a) (hm : MRep ρ β ι m w)
    (hk : ∀ ι' a' w', FRep ρ ι' n fr' a' → MRep ρ β ι' m' w' → Goes P f R r a' w') : Goes P f R (.code (if e.b ρ then x else y) :: r) a w := by
  unfold meetW at h
  split at h
  · rename_i nd1 H1 f1 m1 nd2 H2 f2 m2 h1 h2
    split at h
    · rename_i mm hmm
      simp only [Option.some.injEq, Prod.mk.injEq] at h
      obtain ⟨rfl, rfl, rfl⟩ := h
      obtain ⟨hn1, hn2⟩ := allN_append hn
      obtain ⟨d1, rfl⟩ := runS_fr _ _ h1
      obtain ⟨d2, rfl⟩ := runS_fr _ _ h2
      cases he : e.b ρ
      · have hG2 : allT ρ [mkNot e] := fun g hg => by
          simp only [List.mem_singleton] at hg; subst hg; rw [mkNot_b, he]; rfl
        refine runS_ok hΓ hI hP k u [.code y] _ _ _ _ _ _ _ ι a w r h2 (allN_imp (needs_ok hn2) hG2) (addF_ok _ _ _ hH he) hf hm fun ι' a' w' _ hf' hm' => ?_
        exact hk _ _ _ (mergeFr_ok (by rw [he]; exact hf')) (mergeMem_ok hmm (by rw [he]; exact hm'))
      · have hG1 : allT ρ [e] := fun g hg => by
          simp only [List.mem_singleton] at hg; subst hg; exact he
        refine runS_ok hΓ hI hP k u [.code x] _ _ _ _ _ _ _ ι a w r h1 (allN_imp (needs_ok hn1) hG1) (addF_ok _ _ _ hH he) hf hm fun ι' a' w' _ hf' hm' => ?_
        exact hk _ _ _ (mergeFr_ok (by rw [he]; exact hf')) (mergeMem_ok hmm (by rw [he]; exact hm'))
    · cases h
  · cases h

theorem run_ok {I : Interp} (hΓ : CtxOK P I Γ) (hI : ρ.I = I) (hP : P.follows .mixedOrders = true) (hfn : P.funcs[f]? = some fn) : ∀ (k u : Nat) (todo : List Item) (H : Hyp) (fr : Fr) (m : Mem) (ι : Nat → Nat) (a : Act) (w : World),
    (run P Γ fn n k u todo H fr m).holds P f R ρ β n → H.ok ρ → FRep ρ ι n fr a → MRep ρ β ι m w → Goes P f R todo a w := by
  intro k
  induction k with
  | zero => intro u todo H fr m ι a w h; exact h.elim
  | succ k ih =>
    intro u todo H fr m ι a w h hH hf hm
    have hG : allT ρ [] := fun e he => by cases he
    unfold run at h
    split at h
    · split at h
      · rename_i v hv
        exact goes_leave hf.defers hfn (resAll_ok hH hm hf hv) (h ι w hm) fun b cs => step_end
      · exact h.elim
    · split at h
      · rename_i v hv
        exact goes_leave hf.defers hfn (resAll_ok hH hm hf hv) (h ι w hm) fun b cs => step_ret
      · exact h.elim
    · exact goes_step (fun b cs => step_skip) (ih _ _ _ _ _ _ _ _ h hH hf hm)
    · exact goes_step (fun b cs => step_label) (ih _ _ _ _ _ _ _ _ h hH hf hm)
    · exact goes_step (fun b cs => step_inBlock) (ih _ _ _ _ _ _ _ _ h hH hf hm)
    · exact goes_step (fun b cs => step_seq) (ih _ _ _ _ _ _ _ _ h hH hf hm)
    · exact goes_step (fun b cs => step_block) (ih _ _ _ _ _ _ _ _ h hH hf hm)
    · split at h
      · rename_i r' hr
        exact goes_step (fun b cs => step_exit hr) (ih _ _ _ _ _ _ _ _ h hH hf hm)
      · exact h.elim
    · split at h
      · rename_i e0 hc
        have hev := opnd_ok hf hG hc
        have hdec := decB_b hH e0
        split at h
        · rename_i t ht
          rw [ht, b_blit] at hdec
          refine goes_step (fun b cs => step_cond (t := t) ?_) (ih _ _ _ _ _ _ _ _ h hH hf hm)
          rw [hev, SV.conc, S.conc, hdec]
        · refine goes_step (fun b cs => step_cond (t := (decB H e0).b ρ) (by rw [hdec]; exact hev)) ?_
          split at h
          · rename_i nd fr' m' hq
            obtain ⟨hn, h⟩ := addNeeds_ok h
            exact meetW_ok hΓ hI hP hq hn hH hf hm fun ι' a' w' hf' hm' => ih _ _ _ _ _ _ _ _ h hH hf' hm'
          · obtain ⟨h1, h2⟩ := h
            cases he : (decB H e0).b ρ
            · exact ih _ _ _ _ _ _ _ _ (h2 he) (addF_ok _ false H hH he) hf hm
            · exact ih _ _ _ _ _ _ _ _ (h1 he) (addF_ok _ true H hH he) hf hm
      · exact h.elim
    · split at h
      · exact h.elim
      · rename_i hd
        split at h
        · rename_i nd H' fr' m' hr
          obtain ⟨hn, h⟩ := addNeeds_ok h
          exact goes_region hΓ hI hP hd hr hn hH hf hm fun ι' a' w' hH' hf' hm' => ih _ _ _ _ _ _ _ _ h hH' hf' hm'
        · exact h.elim
    · split at h
      · exact goes_step (fun b cs => step_loop) (h hH ι a w hf hm)
      · exact goes_step (fun b cs => step_loop) (ih _ _ _ _ _ _ _ _ h hH hf hm)
    · split at h
      · exact goes_step (fun b cs => step_inLoop) (h hH ι a w hf hm)
      · exact goes_step (fun b cs => step_inLoop) (ih _ _ _ _ _ _ _ _ h hH hf hm)
    · exact h.elim
end

/-! ### all ways of a call together; calls walked into -/

abbrev Spec := Hyp → List SV → Mem → Option (List E × SV × Option Mem)

structure SpecOK (P : Program) (I : Interp) (f : FuncId) (s : Spec) : Prop where
  ok : ∀ H l m nd v om, s H l m = some (nd, v, om) → ∀ (ρ : Env) (β : Base) (ι : Nat → Nat) (w : World), ρ.I = I → H.ok ρ → allN ρ nd → MRep ρ β ι m w →
    Calls P f (l.map (SV.conc ρ ι)).toArray w fun e w' => match om with
      | none => e = .returned (v.conc ρ ι) ∧ MRep ρ β ι m w'
      | some m' => ∃ ι', (∀ i, i < m.length → ι i = ι' i) ∧ e = .returned (v.conc ρ ι') ∧ MRep ρ β ι' m' w'

def ctx (l : List (FuncId × Spec)) : Ctx := fun f => match l.find? (fun p => p.1 == f) with
  | some p => p.2
  | none => fun _ _ _ => none
theorem ctx_ok {P : Program} {I : Interp} {l : List (FuncId × Spec)} (h : ∀ p ∈ l, SpecOK P I p.1 p.2) : CtxOK P I (ctx l) := by
  constructor
  intro f H a m nd v om hs
  cases hp : l.find? (fun p => p.1 == f) with
  | none => simp [ctx, hp] at hs
  | some p =>
    simp only [ctx, hp] at hs
    have h1 := List.find?_some hp
    have h2 := List.mem_of_find?_eq_some hp
    simp only [beq_iff_eq] at h1
    subst h1
    exact (h p h2).ok H a m nd v om hs

/-- memory that the call made and that nothing shows is dropped -/
def trim (k : Nat) (v : SV) (m : Mem) : Mem := if v.sc k && (m.take k).all (fun B => B.segs.all (Seg.sc k)) then m.take k else m
def collapse (k : Nat) : Tree → Option (List E × SV × Mem)
  | .ret v m => some ([], v, trim k v m)
  | .need c t => (collapse k t).map fun r => (c :: r.1.map (imp [c]), r.2)
  | .ite c t e => match collapse k t, collapse k e with
    | some (nd1, v1, m1), some (nd2, v2, m2) => match mergeV c v1 v2, mergeMem c m1 m2 with
      | some v, some m => some (needs (nd1.map (imp [c])) ++ needs (nd2.map (imp [mkNot c])), v, m)
      | _, _ => none
    | _, _ => none
  | _ => none

def frameOf (l : List SV) : Fr := l.zipIdx.map fun p => ⟨p.2, [], p.1⟩

/-- a call, walked into -/
def enter (P : Program) (Γ : Ctx) (fuel loops : Nat) (f : FuncId) : Spec := fun H l m =>
  match P.funcs[f]? with
  | some fn => match fn.body with
    | some c =>
      if l.length ≤ fn.ntmps then
        match collapse m.length (run P Γ fn fn.ntmps fuel loops [.code c] H (frameOf l) m) with
        | some (nd, v, m') => if m'.take m.length = m && v.sc m.length && m.all (fun B => B.segs.all (Seg.sc m.length)) then some (nd, v, none) else some (nd, v, some m')
        | none => none
      else none
    | none => none
  | none => none

def inl (P : Program) (base : Ctx) (fuel loops : Nat) : Nat → Ctx
  | 0 => base
  | d + 1 => fun f H l m => match base f H l m with
    | some r => some r
    | none => enter P (inl P base fuel loops d) fuel loops f H l m

section
variable {P : Program} {I : Interp} {Γ : Ctx} {f : FuncId} {fn : Func} {ρ : Env} {β : Base} {n : Nat} {H : Hyp} {ι : Nat → Nat} {w : World} {m : Mem}

theorem MRep.trim (h : MRep ρ β ι m w) {k : Nat} (hk : β.k ≤ k) (v : SV) : MRep ρ β ι (trim k v m) w := by
  unfold Sx.trim
  split
  · refine ⟨fun i j hi hj he => h.inj i j (Nat.lt_of_lt_of_le hi (by simp; omega)) (Nat.lt_of_lt_of_le hj (by simp; omega)) he, fun i B hB => ?_, h.agr, by have := h.len; simp; omega, fun i h1 h2 => h.new i h1 (Nat.lt_of_lt_of_le h2 (by simp; omega)), h.size, fun b hb hi => h.old b hb fun i hi' => ?_, h.os, h.tape, h.output⟩
    · rw [List.getElem?_take] at hB
      split at hB
      · exact h.blk i B hB
      · cases hB
    · by_cases hc : i < (m.take k).length
      · exact hi i hc
      · have h1 : k ≤ i := by simp at hc; omega
        have := h.new i (Nat.le_trans hk h1) hi'
        omega
  · exact h

theorem collapse_ok {t : Tree} {K : Nat} (hK : β.k ≤ K) : ∀ {nd : List E} {v : SV} {m' : Mem} {R : Ending → World → Prop}, collapse K t = some (nd, v, m') → allN ρ nd →
    (∀ ι w, MRep ρ β ι m' w → R (.returned (v.conc ρ ι)) w) → t.holds P f R ρ β n := by
  induction t with
  | ret v m =>
    intro nd v' m' R h hn hR
    simp only [collapse, Option.some.injEq, Prod.mk.injEq] at h
    obtain ⟨rfl, rfl, rfl⟩ := h
    exact fun ι w hm => hR ι w (hm.trim hK _)
  | need c t ih =>
    intro nd v' m' R h hn hR
    simp only [collapse, Option.map_eq_some_iff, Prod.mk.injEq] at h
    obtain ⟨⟨nd', v2, m2⟩, hr, rfl, rfl, rfl⟩ := h
    have hc := hn c (.head _)
    exact ⟨hc, fun _ => ih hr (allN_imp (fun e he => hn e (.tail _ he)) (fun g hg => by simp only [List.mem_singleton] at hg; subst hg; exact hc)) hR⟩
  | ite c t e iht ihe =>
    intro nd v' m' R h hn hR
    simp only [collapse] at h
    split at h
    · rename_i nd1 v1 m1 nd2 v2 m2 h1 h2
      split at h
      · rename_i v m hv hm
        simp only [Option.some.injEq, Prod.mk.injEq] at h
        obtain ⟨rfl, rfl, rfl⟩ := h
        obtain ⟨hn1, hn2⟩ := allN_append hn
        refine ⟨fun hc => iht h1 (allN_imp (needs_ok hn1) (fun g hg => by simp only [List.mem_singleton] at hg; subst hg; exact hc)) fun ι w hmr => ?_,
          fun hc => ihe h2 (allN_imp (needs_ok hn2) (fun g hg => by simp only [List.mem_singleton] at hg; subst hg; rw [mkNot_b, hc]; rfl)) fun ι w hmr => ?_⟩
        · have := hR ι w (mergeMem_ok hm (by rw [hc]; exact hmr))
          rw [mergeV_ok (ρ := ρ) (ι := ι) hv, hc] at this
          exact this
        · have := hR ι w (mergeMem_ok hm (by rw [hc]; exact hmr))
          rw [mergeV_ok (ρ := ρ) (ι := ι) hv, hc] at this
          exact this
      · cases h
    · cases h
  | stop => intro nd v' m' R h; simp [collapse] at h
  | fail => intro nd v' m' R h; simp [collapse] at h

theorem look_frame (l : List SV) (k : Nat) : ∀ (t : Nat) (g : List E) (x : SV), look ((l.zipIdx k).map fun p => ⟨p.2, [], p.1⟩) t = some (g, x) → g = [] ∧ k ≤ t ∧ l[t - k]? = some x := by
  induction l generalizing k with
  | nil => intro t g x h; simp [look] at h
  | cons a l ih =>
    intro t g x h
    simp only [List.zipIdx_cons, List.map_cons, look] at h
    split at h
    · rename_i hk
      split at h
      · cases h
      · simp only [Option.some.injEq, Prod.mk.injEq] at h
        obtain ⟨rfl, rfl⟩ := h
        subst hk
        simp
    · rename_i hk
      obtain ⟨h1, h2, h3⟩ := ih (k + 1) t g x h
      refine ⟨h1, by omega, ?_⟩
      rw [show t - k = (t - (k + 1)) + 1 by omega, List.getElem?_cons_succ]; exact h3

/-- a function's first frame -/
theorem frame_ok (l : List SV) (hl : l.length ≤ n) : FRep ρ ι n (frameOf l) { tmps := (l.map (SV.conc ρ ι)).toArray ++ Array.replicate (n - (l.map (SV.conc ρ ι)).toArray.size) Go.undef, defers := [] } := by
  refine ⟨by simp; omega, rfl, fun t g x h hg => ?_, fun t g x h hg => ?_⟩
  · obtain ⟨rfl, _, hx⟩ := look_frame l 0 t g x h
    have hlt : t < l.length := by
      have := (List.getElem?_eq_some_iff.1 hx).1; omega
    simp only [Nat.sub_zero] at hx
    rw [Array.getElem?_append_left (by simpa using hlt)]
    simp [hx]
  · obtain ⟨rfl, _, hx⟩ := look_frame l 0 t g x h
    exact absurd (fun e he => by cases he) hg

theorem run_calls (hΓ : CtxOK P I Γ) (hI : ρ.I = I) (hP : P.follows .mixedOrders = true) (hfn : P.funcs[f]? = some fn) {c : Code} (hc : fn.body = some c) {l : List SV} (hl : l.length ≤ fn.ntmps) {k u : Nat} {R : Ending → World → Prop}
    (h : (run P Γ fn fn.ntmps k u [.code c] H (frameOf l) m).holds P f R ρ β fn.ntmps) (hH : H.ok ρ) (hm : MRep ρ β ι m w) : Calls P f (l.map (SV.conc ρ ι)).toArray w R :=
  calls_of_goes hfn hc (run_ok hΓ hI hP hfn k u _ H _ m ι _ w h hH (frame_ok l hl) hm)

theorem enter_ok (hΓ : CtxOK P I Γ) (hP : P.follows .mixedOrders = true) (k u : Nat) : SpecOK P I f (enter P Γ k u f) := by
  constructor
  intro H l m nd v om h ρ β ι w hI hH hn hm
  unfold enter at h
  split at h
  · rename_i fn hfn
    split at h
    · rename_i c hc
      split at h
      · rename_i hl
        split at h
        · rename_i nd' v' m' hcol
          let β2 : Base := ⟨w, m.length, ι⟩
          have hm2 : MRep ρ β2 ι m w := ⟨hm.inj, hm.blk, fun _ _ => rfl, Nat.le_refl _, fun i h1 h2 => absurd h2 (Nat.not_lt.2 h1), Nat.le_refl _, fun _ _ _ => rfl, rfl, rfl, rfl⟩
          have old : ∀ {ι' : Nat → Nat} {w' : World}, MRep ρ β2 ι' m' w' → ∀ b, b < β.w.heap.size → (∀ i, i < m.length → ι i ≠ b) → w'.heap[b]? = β.w.heap[b]? := by
            intro ι' w' h' b hb hi
            have hb' : b < w.heap.size := Nat.lt_of_lt_of_le hb hm.size
            rw [← hm.old b hb hi]
            refine h'.old b hb' fun i hi' => ?_
            by_cases hc : i < m.length
            · rw [h'.agr i hc]; exact hi i hc
            · have := h'.new i (Nat.not_lt.1 hc) hi'
              have hb2 : b < β2.w.heap.size := hb'
              omega
          split at h
          · rename_i hc2
            simp only [Bool.and_eq_true, decide_eq_true_eq] at hc2
            simp only [Option.some.injEq, Prod.mk.injEq] at h
            obtain ⟨rfl, rfl, rfl⟩ := h
            refine run_calls (β := β2) hΓ hI hP hfn hc hl (collapse_ok (Nat.le_refl _) hcol hn fun ι' w' h' => ?_) hH hm2
            have hagr : ∀ i, i < m.length → ι' i = ι i := h'.agr
            have hle := h'.len
            have hat : ∀ i, i < m.length → m'[i]? = m[i]? := fun i hi => by
              have := congrArg (fun l => l[i]?) hc2.1.1
              simp only [List.getElem?_take, if_pos hi] at this
              exact this
            refine ⟨by rw [SV.conc_congr hagr hc2.1.2], hm.inj, fun i B hB => ?_, hm.agr, hm.len, hm.new, Nat.le_trans hm.size h'.size, old h', h'.os.trans hm.os, h'.tape.trans hm.tape, h'.output.trans hm.output⟩
            have hi : i < m.length := (List.getElem?_eq_some_iff.1 hB).1
            obtain ⟨fz, k1, k2⟩ := h'.blk i B (by rw [hat i hi]; exact hB)
            have hsc : B.segs.all (Seg.sc m.length) = true := List.all_eq_true.1 hc2.2 B (List.mem_of_getElem? hB)
            exact ⟨fz, by rw [← hagr i hi, k1, cellsOf_congr hagr hsc], k2⟩
          · simp only [Option.some.injEq, Prod.mk.injEq] at h
            obtain ⟨rfl, rfl, rfl⟩ := h
            refine run_calls (β := β2) hΓ hI hP hfn hc hl (collapse_ok (Nat.le_refl _) hcol hn fun ι' w' h' => ?_) hH hm2
            refine ⟨ι', fun i hi => (h'.agr i hi).symm, rfl, h'.inj, h'.blk, fun i hi => by rw [h'.agr i (Nat.lt_of_lt_of_le hi hm.len)]; exact hm.agr i hi, Nat.le_trans hm.len h'.len, fun i h1 h2 => ?_, Nat.le_trans hm.size h'.size, fun b hb hi => ?_, h'.os.trans hm.os, h'.tape.trans hm.tape, h'.output.trans hm.output⟩
            · by_cases hc : i < m.length
              · rw [h'.agr i hc]; exact hm.new i h1 hc
              · exact Nat.le_trans hm.size (h'.new i (Nat.not_lt.1 hc) h2)
            · have hb' : b < w.heap.size := Nat.lt_of_lt_of_le hb hm.size
              rw [h'.old b hb' hi]
              exact hm.old b hb fun i hi' => by have e := h'.agr i hi'; have := hi i (Nat.lt_of_lt_of_le hi' h'.len); rw [e] at this; exact this
        · cases h
      · cases h
    · cases h
  · cases h

/-- A call that answers true, nothing known of memory. -/
theorem MRep.empty (w : World) (ι : Nat → Nat) : MRep ρ ⟨w, 0, ι⟩ ι [] w :=
  ⟨fun _ _ h => absurd h (Nat.not_lt_zero _), fun _ _ h => by simp at h, fun _ h => absurd h (Nat.not_lt_zero _), Nat.le_refl _, fun _ _ h => absurd h (Nat.not_lt_zero _), Nat.le_refl _, fun _ _ _ => rfl, rfl, rfl, rfl⟩
theorem MRep.toBelow {w w' : World} (h : MRep ρ ⟨w, 0, ι⟩ ι [] w') : RowKit.Below w.heap.size w w' :=
  ⟨h.os, h.tape, h.output, h.size, fun k hk => h.old k hk fun _ h => absurd h (Nat.not_lt_zero _)⟩

theorem law_true (hΓ : CtxOK P I Γ) (hP : P.follows .mixedOrders = true) {k u : Nat} {l : List SV} {nd : List E} {e : E} (h : enter P Γ k u f H l [] = some (nd, .s (.bool e), none))
    (hI : ρ.I = I) (hH : H.ok ρ) (hn : allN ρ nd) (he : e.b ρ = true) (w : World) :
    Calls P f (l.map (SV.conc ρ id)).toArray w fun r w' => r = .returned (.bool true) ∧ RowKit.Below w.heap.size w w' :=
  ((enter_ok hΓ hP k u).ok H l [] nd _ none h ρ ⟨w, 0, id⟩ id w hI hH hn (MRep.empty w id)).mono fun r w' hr => by
    obtain ⟨rfl, hm⟩ := hr
    exact ⟨by simp [SV.conc, S.conc, he], hm.toBelow⟩

theorem inl_ok {base : Ctx} (hb : CtxOK P I base) (hP : P.follows .mixedOrders = true) (k u : Nat) : ∀ d, CtxOK P I (inl P base k u d)
  | 0 => hb
  | d + 1 => by
    constructor
    intro f H l m nd v om h
    simp only [inl] at h
    split at h
    · rename_i r hr
      simp only [Option.some.injEq] at h; subst h
      exact hb.ok f H l m nd v om hr
    · exact (enter_ok (inl_ok hb hP k u d) hP k u).ok H l m nd v om h
end

theorem ite_tt (p : Prop) [Decidable p] (x y : Bool) : ((if p then x else y) = true) = ((p → x = true) ∧ (¬ p → y = true)) := by
  by_cases h : p <;> simp [h]
theorem ite_ff (p : Prop) [Decidable p] (x y : Bool) : ((if p then x else y) = false) = ((p → x = false) ∧ (¬ p → y = false)) := by
  by_cases h : p <;> simp [h]
theorem iff_tt (x y : Bool) : ((x == y) = true) = ((x = true) ↔ (y = true)) := by cases x <;> cases y <;> simp
theorem iff_ff (x y : Bool) : ((x == y) = false) = ¬ ((x = true) ↔ (y = true)) := by cases x <;> cases y <;> simp
/-! ### the frame of a law's statement -/
section
variable {H : Type} {enc : TypeId × Value → H} {P : Program}

theorem trodAll_below (hl : laidOutB P = true) {W W' : World} (hb : RowKit.Below W.heap.size W W') : ∀ {ts : List TypeId} {vs : List Value} {ds : List (DataW H)} {ps : List MemPlace},
    (∀ t ∈ ts, P.readableRec t = true ∧ t < P.types.size) → DataW.TrodAll enc P W 0 (fun _ => true) true ts vs ds ps → (∀ x ∈ ps, x.block < W.heap.size) →
    DataW.TrodAll enc P W' 0 (fun b => decide (b < W.heap.size)) true ts vs ds ps := by
  intro ts
  induction ts with
  | nil =>
    intro vs ds ps _ h _
    cases vs <;> cases ds <;> simp [DataW.TrodAll] at h ⊢
    exact h
  | cons t ts ih =>
    intro vs ds ps hr h hlt
    obtain ⟨v, vs', d, ds', p, q, rfl, rfl, rfl, h1, h2⟩ := ChangeShapes.trodAll_cons h
    refine ⟨p, q, RowKit.Below.trod hl (hr t (.head _)).1 (hr t (.head _)).2 h1 hb (fun x hx => hlt x (by simp [hx])), ih (fun u hu => hr u (.tail _ hu)) h2 (fun x hx => hlt x (by simp [hx])), rfl⟩

theorem law_post {f : Func} {s : ChangeSpec} {tb : TypeId} (hl : laidOutB P = true) (hr0 : (f.params.toList.all fun t => P.readableRec t && decide (t < P.types.size)) = true)
    (hvars : s.vars = []) (hres : f.resultTypes = #[tb]) (hb : P.underlying tb = some .bool)
    {W W' : World} {args : Array Value} {ds gs : List (DataW H)} {before : List MemPlace} (hs : s.fn H (ds ++ gs) = { results := [.lit (.bool true)], args := ds })
    (hW : DataW.Whole enc P f.params.toList s.vars false W args.toList ds gs before) (hB : RowKit.Below W.heap.size W W') : s.post enc P f false true false false W args (.bool true) W' := by
  have hr : ∀ t ∈ f.params.toList, P.readableRec t = true ∧ t < P.types.size := fun t ht => by
    have := List.all_eq_true.1 hr0 t ht
    simpa using this
  have hlt := hW.lt
  obtain ⟨p, q, h1, h2, rfl, hz, hn⟩ := id hW
  refine ⟨ds, gs, p ++ q, [], p, [], hW, ?_, ?_, ?_, hB.frame _, fun h => by cases h⟩
  · rw [hs, hres]
    exact ⟨[], [], RowKit.shut_bool hb true, rfl, rfl⟩
  · rw [hs]
    exact trodAll_below hl hB hr h1 (fun x hx => hlt x (by simp [hx]))
  · rw [hs, hvars]
    simp [DataW.TrodVars]
end

/-! ### arguments of struct and array types, by value -/

/-- the kind of cell i of a type: some (some k): an integer; some none: a bool -/
def kindAt (P : Program) : Nat → TypeId → Nat → Option (Option IntKind)
  | 0, _, _ => none
  | d + 1, t, i => match P.underlying t with
    | some (.int k) => if i = 0 then some (some k) else none
    | some .bool => if i = 0 then some none else none
    | some (.struct fs) => match fs.toList.find? (fun f => f.offset ≤ i && i < f.offset + P.cellsOf f.type) with
      | some f => kindAt P d f.type (i - f.offset)
      | none => none
    | some (.array n e) => if P.cellsOf e = 0 ∨ n * P.cellsOf e ≤ i then none else kindAt P d e (i % P.cellsOf e)
    | _ => none

def Fit : Option IntKind → Value → Prop
  | some k, v => ∃ z, v = .int k z ∧ inR (krng k) z
  | none, v => ∃ b, v = .bool b

theorem wf_inR {k : IntKind} {z : Int} (h : (Lit.int k z).wf = true) : inR (krng k) z := by
  cases k <;> simp [Lit.wf, IntKind.min, IntKind.max, IntKind.signed, IntKind.bits] at h <;> simp [inR, krng, kmin, kmax] <;> omega

section
variable {H : Type} {enc : TypeId × Value → H} {P : Program} {w : World} {base : Nat} {spare : Nat → Bool} {held : Bool}

theorem kind_ok : ∀ (d : Nat) (t : TypeId) (i : Nat) (k : Option IntKind) (fuel : Nat) (cs : List Value) (x : DataW H × List MemPlace), kindAt P d t i = some k →
    DataW.trod enc P w base spare held fuel t cs = some x → ∃ v, cs[i]? = some v ∧ Fit k v := by
  intro d
  induction d with
  | zero => intro t i k fuel cs x h; simp [kindAt] at h
  | succ d ih =>
    intro t i k fuel cs x h hx
    unfold kindAt at h
    split at h
    · rename_i kd hu
      split at h
      · rename_i hi; subst hi
        simp only [Option.some.injEq] at h; subst h
        obtain ⟨a, e0, _, wa⟩ := DataW.trod_int hu hx
        subst e0
        exact ⟨_, rfl, a, rfl, wf_inR wa⟩
      · cases h
    · rename_i hu
      split at h
      · rename_i hi; subst hi
        simp only [Option.some.injEq] at h; subst h
        obtain ⟨b, e0, _⟩ := DataW.trod_bool hu hx
        subst e0
        exact ⟨_, rfl, b, rfl⟩
      · cases h
    · rename_i fs hu
      split at h
      · rename_i f hf
        have h1 := List.find?_some hf
        have h2 := List.mem_of_find?_eq_some hf
        simp only [Bool.and_eq_true, decide_eq_true_eq] at h1
        obtain ⟨q, hq⟩ := List.mem_iff_getElem?.1 h2
        obtain ⟨xs, m, _, _, hlen, hxs, hall⟩ := DataW.trod_struct hu hx
        have hq' : fs[q]? = some f := by rw [← Array.getElem?_toList]; exact hq
        have hqlt : q < fs.size := by
          rw [Array.getElem?_eq_some_iff] at hq'; exact hq'.1
        have := hall q f hq'
        rw [List.getElem?_eq_getElem (by omega)] at this
        obtain ⟨v, hv, hk⟩ := ih f.type (i - f.offset) k m _ _ h this
        refine ⟨v, ?_, hk⟩
        rw [List.getElem?_take, List.getElem?_drop] at hv
        split at hv
        · rw [← hv]; congr 1; omega
        · cases hv
      · cases h
    · rename_i n e hu
      split at h
      · cases h
      · rename_i hc
        obtain ⟨xs, m, _, _, hlen, hxs, hall⟩ := DataW.trod_array hu hx
        have hs : 0 < P.cellsOf e := by omega
        have hq : i / P.cellsOf e < n := by
          rw [Nat.div_lt_iff_lt_mul hs]; omega
        have := hall _ hq
        rw [List.getElem?_eq_getElem (by omega)] at this
        obtain ⟨v, hv, hk⟩ := ih e (i % P.cellsOf e) k m _ _ h this
        refine ⟨v, ?_, hk⟩
        rw [List.getElem?_take, List.getElem?_drop] at hv
        split at hv
        · rw [← hv]; congr 1
          have := Nat.div_add_mod i (P.cellsOf e)
          rw [Nat.mul_comm] at this; omega
        · cases hv
    · cases h
end

/-- the parts of which such an argument is made: an array of integers, an integer, a bool -/
inductive Pc where
  | arr (k : IntKind) (n : Nat)
  | num (k : IntKind)
  | bit
  deriving DecidableEq, Repr

def Pc.len : Pc → Nat
  | .arr _ n => n
  | _ => 1
def pcTotal : List Pc → Nat
  | [] => 0
  | p :: l => p.len + pcTotal l
def pcKinds : List Pc → List (Option IntKind)
  | [] => []
  | .arr k n :: l => List.replicate n (some k) ++ pcKinds l
  | .num k :: l => some k :: pcKinds l
  | .bit :: l => none :: pcKinds l
def intV : Value → Int
  | .int _ z => z
  | _ => 0
def boolV : Value → Bool
  | .bool b => b
  | _ => false
def arrOf (cs : List Value) (lo n : Nat) : Nat → Int := fun i => if i < n then intV (cs.getD (lo + i) Go.undef) else 0
def pcA (cs : List Value) : Nat → List Pc → List (Nat → Int)
  | _, [] => []
  | lo, .arr _ n :: l => arrOf cs lo n :: pcA cs (lo + n) l
  | lo, .num _ :: l => pcA cs (lo + 1) l
  | lo, .bit :: l => pcA cs (lo + 1) l
def pcI (cs : List Value) : Nat → List Pc → List Int
  | _, [] => []
  | lo, .arr _ n :: l => pcI cs (lo + n) l
  | lo, .num _ :: l => intV (cs.getD lo Go.undef) :: pcI cs (lo + 1) l
  | lo, .bit :: l => pcI cs (lo + 1) l
def pcB (cs : List Value) : Nat → List Pc → List Bool
  | _, [] => []
  | lo, .arr _ n :: l => pcB cs (lo + n) l
  | lo, .num _ :: l => pcB cs (lo + 1) l
  | lo, .bit :: l => boolV (cs.getD lo Go.undef) :: pcB cs (lo + 1) l
def pcSegs : (ia ib ii : Nat) → List Pc → List Seg
  | _, _, _, [] => []
  | ia, ib, ii, .arr k n :: l => .run k (.lit n) (.av ia) 0 :: pcSegs (ia + 1) ib ii l
  | ia, ib, ii, .num k :: l => .one (.int k (.v ii)) :: pcSegs ia ib (ii + 1) l
  | ia, ib, ii, .bit :: l => .one (.bool (.bv ib)) :: pcSegs ia (ib + 1) ii l

/-- the cells are as the parts say -/
def PcFit (cs : List Value) (lo : Nat) (l : List Pc) : Prop := ∀ j k, (pcKinds l)[j]? = some k → ∃ v, cs[lo + j]? = some v ∧ Fit k v

theorem pcKinds_len (l : List Pc) : (pcKinds l).length = pcTotal l := by
  induction l with
  | nil => rfl
  | cons p l ih => cases p <;> simp [pcKinds, pcTotal, Pc.len, ih] <;> omega

theorem PcFit.tail {cs : List Value} {lo : Nat} {p : Pc} {l : List Pc} (h : PcFit cs lo (p :: l)) : PcFit cs (lo + p.len) l := by
  intro j k hj
  have h1 : (pcKinds (p :: l))[p.len + j]? = some k := by
    cases p with
    | arr kd n => simp only [pcKinds, Pc.len]; rw [List.getElem?_append_right (by simp)]; simpa using hj
    | num kd => simp only [pcKinds, Pc.len]; rw [Nat.add_comm, List.getElem?_cons_succ]; exact hj
    | bit => simp only [pcKinds, Pc.len]; rw [Nat.add_comm, List.getElem?_cons_succ]; exact hj
  have := h (p.len + j) k h1
  rwa [← Nat.add_assoc] at this

theorem arrOf_rng {cs : List Value} {lo n : Nat} {k : IntKind} {l : List Pc} (h : PcFit cs lo (.arr k n :: l)) (i : Nat) : inR (krng k) (arrOf cs lo n i) := by
  unfold arrOf
  split
  · rename_i hi
    obtain ⟨v, hv, z, rfl, hz⟩ := h i (some k) (by simp only [pcKinds]; rw [List.getElem?_append_left (by simpa using hi)]; simp [hi])
    simpa [List.getD_eq_getElem?_getD, hv, intV] using hz
  · cases k <;> simp [inR, krng, kmin, kmax]

theorem num_rng {cs : List Value} {lo : Nat} {k : IntKind} {l : List Pc} (h : PcFit cs lo (.num k :: l)) : inR (krng k) (intV (cs.getD lo Go.undef)) := by
  obtain ⟨v, hv, z, rfl, hz⟩ := h 0 (some k) rfl
  simp only [Nat.add_zero] at hv
  simpa [List.getD_eq_getElem?_getD, hv, intV] using hz

theorem pc_cells {ρ : Env} {ι : Nat → Nat} {cs : List Value} : ∀ (l : List Pc) (lo ia ib ii : Nat), PcFit cs lo l →
    (∀ j, j < (pcA cs lo l).length → ρ.a[ia + j]? = (pcA cs lo l)[j]?) → (∀ j, j < (pcB cs lo l).length → ρ.b[ib + j]? = (pcB cs lo l)[j]?) → (∀ j, j < (pcI cs lo l).length → ρ.i[ii + j]? = (pcI cs lo l)[j]?) →
    cellsOf ρ ι (pcSegs ia ib ii l) = (cs.drop lo).take (pcTotal l) := by
  intro l
  induction l with
  | nil => intro lo ia ib ii _ _ _ _; simp [pcSegs, pcTotal, cellsOf]
  | cons p l ih =>
    intro lo ia ib ii h ha hb hi
    have ht := h.tail
    cases p with
    | arr k n =>
      simp only [pcSegs, pcTotal, Pc.len, pcA, pcB, pcI] at *
      have h0 := ha 0 (by simp)
      rw [cells_cons, ih (lo + n) (ia + 1) ib ii ht (fun j hj => by have := ha (j + 1) (by simp; omega); simpa [Nat.add_assoc, Nat.add_comm 1 j] using this) hb hi]
      simp only [Nat.add_zero, List.getElem?_cons_zero] at h0
      apply List.ext_getElem?
      intro j
      by_cases hj : j < n
      · rw [List.getElem?_append_left (by rw [run_len, i_lit]; simpa using hj), run_at _ _ _ _ _ (by rw [i_lit]; simpa using hj), List.getElem?_take, if_pos (by omega), List.getElem?_drop]
        obtain ⟨v, hv, z, rfl, hz⟩ := h j (some k) (by simp only [pcKinds]; rw [List.getElem?_append_left (by simpa using hj)]; simp [hj])
        rw [hv, a_av, List.getD_eq_getElem?_getD, h0]
        simp [arrOf, hj, List.getD_eq_getElem?_getD, hv, intV]
      · rw [List.getElem?_append_right (by rw [run_len, i_lit]; simp; omega), run_len, i_lit, List.getElem?_take, List.getElem?_take, List.getElem?_drop, List.getElem?_drop]
        simp only [Int.toNat_natCast]
        by_cases hj2 : j - n < pcTotal l
        · rw [if_pos hj2, if_pos (by omega)]; congr 1; omega
        · rw [if_neg hj2, if_neg (by omega)]
    | num k =>
      simp only [pcSegs, pcTotal, Pc.len, pcA, pcB, pcI] at *
      have h0 := hi 0 (by simp)
      rw [cells_cons, ih (lo + 1) ia ib (ii + 1) ht ha hb (fun j hj => by have := hi (j + 1) (by simp; omega); simpa [Nat.add_assoc, Nat.add_comm 1 j] using this)]
      simp only [Nat.add_zero, List.getElem?_cons_zero] at h0
      obtain ⟨v, hv, z, rfl, hz⟩ := h 0 (some k) rfl
      simp only [Nat.add_zero] at hv
      have hd : cs.drop lo = .int k z :: cs.drop (lo + 1) := by
        rw [List.drop_eq_getElem?_toList_append, hv]; rfl
      rw [hd, Nat.add_comm 1, List.take_succ_cons, cells_one, List.singleton_append]
      congr 1
      simp [S.conc, i_v, List.getD_eq_getElem?_getD, h0, hv, intV]
    | bit =>
      simp only [pcSegs, pcTotal, Pc.len, pcA, pcB, pcI] at *
      have h0 := hb 0 (by simp)
      rw [cells_cons, ih (lo + 1) ia (ib + 1) ii ht ha (fun j hj => by have := hb (j + 1) (by simp; omega); simpa [Nat.add_assoc, Nat.add_comm 1 j] using this) hi]
      simp only [Nat.add_zero, List.getElem?_cons_zero] at h0
      obtain ⟨v, hv, b, rfl⟩ := h 0 none rfl
      simp only [Nat.add_zero] at hv
      have hd : cs.drop lo = .bool b :: cs.drop (lo + 1) := by
        rw [List.drop_eq_getElem?_toList_append, hv]; rfl
      rw [hd, Nat.add_comm 1, List.take_succ_cons, cells_one, List.singleton_append]
      congr 1
      simp [S.conc, b_bv, List.getD_eq_getElem?_getD, h0, hv, boolV]

/-- An argument of such a type, opened. -/
theorem open_pc {H : Type} {enc : TypeId × Value → H} {P : Program} {w W : World} {base b0 : Nat} {spare : Nat → Bool} {held : Bool} {r : Reach} {t : TypeId} {v : Value} {d : DataW H} {p : List MemPlace} (pcs : List Pc) (dep : Nat)
    (hagg : aggT P t = some true) (hk : (List.range (pcTotal pcs)).all (fun i => decide (kindAt P dep t i = (pcKinds pcs)[i]?)) = true) (hsz : P.cellsOf t = pcTotal pcs)
    (hv : Value.okWide P W r b0 t v) (hd : DataW.Trod enc P w base spare held t v d p) : ∃ cs : List Value, v = .agg cs.toArray ∧ cs.length = pcTotal pcs ∧ PcFit cs 0 pcs := by
  obtain ⟨cs, rfl, hcs, _⟩ : ∃ cs, v = .agg cs ∧ cs.size = P.cellsOf t ∧ Row.okWide P W r b0 t cs := by
    unfold Value.okWide at hv
    unfold aggT at hagg
    split at hagg
    · rename_i hu; rw [hu] at hv; exact hv
    · rename_i hu; rw [hu] at hv; exact hv
    · cases hagg
    · cases hagg
  refine ⟨cs.toList, by simp, by simp [hcs, hsz], fun j k hj => ?_⟩
  obtain ⟨fuel, hf⟩ := hd
  have hlt : j < pcTotal pcs := by
    have := (List.getElem?_eq_some_iff.1 hj).1
    rwa [pcKinds_len] at this
  have h1 := List.all_eq_true.1 hk j (List.mem_range.2 hlt)
  rw [decide_eq_true_eq, hj] at h1
  have := kind_ok dep t j k fuel _ _ h1 hf
  simpa [Value.cells] using this

end Go.Sx
