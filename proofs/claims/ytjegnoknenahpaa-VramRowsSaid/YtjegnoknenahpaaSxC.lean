/- A run of a program by symbols, proved sound, third part: calls, the frame of a law, arguments, loops, rows that came in. It imports no program. -/
import Derived.Test.YtjegnoknenahpaaSxG
set_option linter.unusedVariables false
set_option linter.unusedSimpArgs false
namespace Go.Sx
/-! ### all ways of a call together; calls walked into -/

abbrev Spec := Hyp → List SV → Mem → Option (List E × SV × Option Mem)

structure SpecOK (P : Program) (I : Interp) (f : FuncId) (s : Spec) : Prop where
  ok : ∀ H l m nd v om, s H l m = some (nd, v, om) → ∀ (ρ : Env) (β : Base) (ι : Loc) (w : World), ρ.I = I → H.ok ρ → allN ρ nd → MRep ρ β ι m w →
    Calls P f (l.map (SV.conc ρ ι)).toArray w fun e w' => match om with
      | none => e = .returned (v.conc ρ ι) ∧ MRep ρ β ι m w'
      | some m' => ∃ ι', Loc.agree m.length ι ι' ∧ e = .returned (v.conc ρ ι') ∧ MRep ρ β ι' m' w'

def ctx (l : List (FuncId × Spec)) : Ctx := fun f => match l.find? (fun p => p.1 == f) with
  | some p => p.2
  | none => fun _ _ _ => none
theorem ctx_ok {P : Program} {I : Interp} {l : List (FuncId × Spec)} (h : ∀ p ∈ l, SpecOK P I p.1 p.2) : CtxOK P I (ctx l) := by
  constructor
  intro f H a m nd v om hs
  cases hp : l.find? (fun p => p.1 == f) with
  | none => simp [ctx, hp] at hs
  | some p =>
    simp only [ctx, hp] at hs
    have h1 := List.find?_some hp
    have h2 := List.mem_of_find?_eq_some hp
    simp only [beq_iff_eq] at h1
    subst h1
    exact (h p h2).ok H a m nd v om hs

/-- memory that the call made and that nothing shows is dropped -/
def trim (k : Nat) (v : SV) (m : Mem) : Mem := if v.sc k && (m.take k).all (fun B => B.segs.all (Seg.sc k)) then m.take k else m
def addNew (L : List Nat) : List Nat → List Nat
  | [] => L
  | b :: r => addNew (if L.contains b then L else b :: L) r
def reach (m : Mem) : Nat → List Nat → List Nat
  | 0, L => L
  | f + 1, L =>
    let L' := addNew L (L.flatMap fun b => match m[b]? with
      | some B => if B.dead then [] else B.segs.flatMap refsSeg
      | none => [])
    if L'.length = L.length then L else reach m f L'
def gcPi (k : Nat) (v : SV) (m : Mem) : List Nat :=
  let R := reach m 8 (addNew (List.range k) (refsV v))
  List.range k ++ ((List.range m.length).drop k).filter fun b => R.contains b
def gcInv (m : Mem) (π : List Nat) : List Nat := (List.range m.length).map fun b => π.idxOf b
def gcM (m : Mem) (π : List Nat) : Mem := π.filterMap fun i => (m[i]?).map fun B => { B with segs := B.segs.map (renSeg (gcInv m π)) }
/-- new blocks that nothing shows are dropped, the others are counted anew -/
def gc (k : Nat) (v : SV) (m : Mem) : SV × Mem :=
  if m.length ≤ k then (v, m) else
  if (gcPi k v m).length < m.length && renMem k (gcPi k v m) m (gcM m (gcPi k v m)) && decide (v = renV (gcPi k v m) (renV (gcInv m (gcPi k v m)) v)) then (renV (gcInv m (gcPi k v m)) v, gcM m (gcPi k v m)) else (v, m)
def collapse (k : Nat) : Tree → Option (List E × SV × Mem)
  | .ret v m => some ([], gc k v (trim k v m))
  | .need c t => (collapse k t).map fun r => (c :: r.1.map (imp [c]), r.2)
  | .ite c t e => match collapse k t, collapse k e with
    | some (nd1, v1, m1), some (nd2, v2, m2) => match mergeV c v1 v2, mergeMem c m1 m2 with
      | some v, some m => some (needs (nd1.map (imp [c])) ++ needs (nd2.map (imp [mkNot c])), v, m)
      | _, _ => none
    | _, _ => none
  | _ => none

def hasRF : Code → Bool
  | .rangeFunc _ _ _ _ => true
  | .seq x y | .cond _ x y => hasRF x || hasRF y
  | .block _ c | .loop c | .scope c => hasRF c
  | _ => false
def runAll (P : Program) (Γ : Ctx) (hc : HintCtx) (fn : Func) (fuel loops : Nat) (c : Code) (H : Hyp) (fr : Fr) (m : Mem) : Tree :=
  if hasRF c then runX P Γ hc fn fn.ntmps fuel loops .out [.code c] H fr m else run P Γ hc fn fn.ntmps [] fuel loops none [.code c] H fr m
/-- a call, walked into -/
def enter (P : Program) (Γ : Ctx) (hc : HintCtx) (fuel loops : Nat) (f : FuncId) : Spec := fun H l m =>
  match P.funcs[f]? with
  | some fn => match fn.body with
    | some c =>
      if l.length ≤ fn.ntmps then
        match collapse m.length (runAll P Γ hc fn fuel loops c H (frameOf l) m) with
        | some (nd, v, m') => if m'.take m.length = m && v.sc m.length && m.all (fun B => B.segs.all (Seg.sc m.length)) then some (nd, v, none) else some (nd, v, some m')
        | none => none
      else none
    | none => none
  | none => none

/-- where the ways of a call part -/
def hintF (P : Program) (Γ : Ctx) (hc : HintCtx) (fuel loops : Nat) : HintCtx := fun f H l m =>
  match P.funcs[f]? with
  | some fn => match fn.body with
    | some c => treeHint (runAll P Γ hc fn fuel loops c H (frameOf l) m)
    | none => none
  | none => none
/-- calls walked into, to a depth -/
def inl2 (P : Program) (base : Ctx) (fuel loops : Nat) : Nat → Ctx × HintCtx
  | 0 => (base, fun _ _ _ _ => none)
  | d + 1 => let r := inl2 P base fuel loops d
    (fun f H l m => match base f H l m with
      | some r => some r
      | none => enter P r.1 r.2 fuel loops f H l m, hintF P r.1 r.2 fuel loops)
def inl (P : Program) (base : Ctx) (fuel loops d : Nat) : Ctx := (inl2 P base fuel loops d).1
def inlH (P : Program) (base : Ctx) (fuel loops d : Nat) : HintCtx := (inl2 P base fuel loops d).2
/-- one way alone -/
def oneWay : Tree → Bool
  | .ret _ _ => true
  | .need _ t => oneWay t
  | _ => false
def parts (P : Program) (Γ : Ctx) (hc : HintCtx) (fuel loops : Nat) (f : FuncId) (H : Hyp) (l : List SV) (m : Mem) : Bool :=
  match P.funcs[f]? with
  | some fn => match fn.body with
    | some c => !oneWay (runAll P Γ hc fn fuel loops c H (frameOf l) m)
    | none => true
  | none => true
/-- the same; the ways of calls of sp do not meet again: the caller parts -/
def inl2S (P : Program) (sp : List FuncId) (base : Ctx) (fuel loops : Nat) : Nat → Ctx × HintCtx
  | 0 => (base, fun _ _ _ _ => none)
  | d + 1 => let r := inl2S P sp base fuel loops d
    (fun f H l m => match base f H l m with
      | some r => some r
      | none => if sp.contains f && parts P r.1 r.2 fuel loops f H l m then none else enter P r.1 r.2 fuel loops f H l m, hintF P r.1 r.2 fuel loops)
def inlS (P : Program) (sp : List FuncId) (base : Ctx) (fuel loops d : Nat) : Ctx := (inl2S P sp base fuel loops d).1
def inlSH (P : Program) (sp : List FuncId) (base : Ctx) (fuel loops d : Nat) : HintCtx := (inl2S P sp base fuel loops d).2

section
variable {P : Program} {I : Interp} {Γ : Ctx} {f : FuncId} {fn : Func} {ρ : Env} {β : Base} {n : Nat} {H : Hyp} {ι : Loc} {w : World} {m : Mem}

theorem MRep.trim (h : MRep ρ β ι m w) {k : Nat} (hk : β.k ≤ k) (v : SV) : MRep ρ β ι (trim k v m) w := by
  unfold Sx.trim
  split
  · have at_ : ∀ {i : Nat} {B : Blk}, (m.take k)[i]? = some B → m[i]? = some B := by
      intro i B hB
      rw [List.getElem?_take] at hB
      split at hB
      · exact hB
      · cases hB
    refine ⟨fun i j B C hB hC => h.inj i j B C (at_ hB) (at_ hC), fun i B hB => h.blk i B (at_ hB), fun i B hB => h.nils i B (at_ hB), h.agr, by have := h.len; simp; omega, fun i h1 h2 => h.new i h1 (Nat.lt_of_lt_of_le h2 (by simp; omega)), h.size, fun b hb hi => h.old b hb fun i hi' => ?_, h.os, h.tape, h.output, h.xt, fun i j a n' c' hv h0 q hq => h.xd i j a n' c' hv h0 q (Nat.lt_of_lt_of_le hq (by simp; omega))⟩
    by_cases hc : i < (m.take k).length
    · exact hi i hc
    · have h1 : k ≤ i := by simp at hc; omega
      rcases h.new i (Nat.le_trans hk h1) hi' with hn | ⟨j, hj, hn⟩
      · omega
      · rw [hn]; exact hi j (by have := h.len; simp; omega)
  · exact h
theorem gc_ok {K : Nat} {v : SV} (hK : β.k ≤ K) (hm : MRep ρ β ι m w) : ∃ ι', MRep ρ β ι' (gc K v m).2 w ∧ (gc K v m).1.conc ρ ι' = v.conc ρ ι := by
  unfold gc
  split
  · exact ⟨ι, hm, rfl⟩
  · split
    · rename_i hc
      simp only [Bool.and_eq_true, decide_eq_true_eq] at hc
      refine ⟨piv (gcPi K v m) ι, renMem_ok hK hc.1.2 hm, ?_⟩
      simp only
      rw [← renV_ok, ← hc.2]
    · exact ⟨ι, hm, rfl⟩
theorem collapse_ok {bs : List Item} {t : Tree} {K : Nat} (hK : β.k ≤ K) : ∀ {nd : List E} {v : SV} {m' : Mem} {R : Ending → World → Prop}, collapse K t = some (nd, v, m') → allN ρ nd →
    (∀ ι w, MRep ρ β ι m' w → R (.returned (v.conc ρ ι)) w) → t.holds P f R ρ β n bs := by
  induction t with
  | ret v m =>
    intro nd v' m' R h hn hR
    simp only [collapse, Option.some.injEq, Prod.mk.injEq] at h
    obtain ⟨rfl, h⟩ := h
    intro ι w hm
    obtain ⟨ι', h1, h2⟩ := gc_ok (v := v) hK (hm.trim hK v)
    rw [h] at h1 h2
    rw [← h2]
    exact hR ι' w h1
  | need c t ih =>
    intro nd v' m' R h hn hR
    simp only [collapse, Option.map_eq_some_iff, Prod.mk.injEq] at h
    obtain ⟨⟨nd', v2, m2⟩, hr, rfl, rfl, rfl⟩ := h
    have hc := hn c (.head _)
    exact ⟨hc, fun _ => ih hr (allN_imp (fun e he => hn e (.tail _ he)) (fun g hg => by simp only [List.mem_singleton] at hg; subst hg; exact hc)) hR⟩
  | ite c t e iht ihe =>
    intro nd v' m' R h hn hR
    simp only [collapse] at h
    split at h
    · rename_i nd1 v1 m1 nd2 v2 m2 h1 h2
      split at h
      · rename_i v m hv hm
        simp only [Option.some.injEq, Prod.mk.injEq] at h
        obtain ⟨rfl, rfl, rfl⟩ := h
        obtain ⟨hn1, hn2⟩ := allN_append hn
        refine ⟨fun hc => iht h1 (allN_imp (needs_ok hn1) (fun g hg => by simp only [List.mem_singleton] at hg; subst hg; exact hc)) fun ι w hmr => ?_,
          fun hc => ihe h2 (allN_imp (needs_ok hn2) (fun g hg => by simp only [List.mem_singleton] at hg; subst hg; rw [mkNot_b, hc]; rfl)) fun ι w hmr => ?_⟩
        · have := hR ι w (mergeMem_ok hm (by rw [hc]; exact hmr))
          rw [mergeV_ok (ρ := ρ) (ι := ι) hv, hc] at this
          exact this
        · have := hR ι w (mergeMem_ok hm (by rw [hc]; exact hmr))
          rw [mergeV_ok (ρ := ρ) (ι := ι) hv, hc] at this
          exact this
      · cases h
    · cases h
  | stop => intro nd v' m' R h; simp [collapse] at h
  | again => intro nd v' m' R h; simp [collapse] at h
  | fail => intro nd v' m' R h; simp [collapse] at h

theorem run_calls {hc' : HintCtx} {cut : List Nat} (hΓ : CtxOK P I Γ) (hI : ρ.I = I) (hP : P.follows .mixedOrders = true) (hfn : P.funcs[f]? = some fn) {c : Code} (hc : fn.body = some c) {l : List SV} (hl : l.length ≤ fn.ntmps) {k u : Nat} {R : Ending → World → Prop}
    (h : (run P Γ hc' fn fn.ntmps cut k u none [.code c] H (frameOf l) m).holds P f R ρ β fn.ntmps []) (hH : H.ok ρ) (hm : MRep ρ β ι m w) : Calls P f (l.map (SV.conc ρ ι)).toArray w R :=
  calls_of_goes hfn hc (run_ok hΓ hI hP hfn k u none [.code c] H _ m ι _ w h (fun _ hb => by cases hb) hH (frame_ok l hl) hm)

theorem runAll_calls {hc' : HintCtx} (hΓ : CtxOK P I Γ) (hI : ρ.I = I) (hP : P.follows .mixedOrders = true) (hfn : P.funcs[f]? = some fn) {c : Code} (hc : fn.body = some c) {l : List SV} (hl : l.length ≤ fn.ntmps) {k u : Nat} {R : Ending → World → Prop}
    (h : (runAll P Γ hc' fn k u c H (frameOf l) m).holds P f R ρ β fn.ntmps []) (hH : H.ok ρ) (hm : MRep ρ β ι m w) : Calls P f (l.map (SV.conc ρ ι)).toArray w R := by
  unfold runAll at h
  split at h
  · intro cs
    have h1 := runX_ok (cs0 := cs) hΓ hI hP hfn k u .out [.code c] H (frameOf l) m ρ ι _ w [] [] [] ({ (default : Frame) with fn := f, kind := .normal, roundOf := none } : Frame) cs h hH
      ⟨[], List.nodup_nil, rfl, rfl, rfl, rfl, rfl, rfl, rfl, rfl⟩ ⟨hm, fun p hp => (by cases hp), fun q hq => (by cases hq)⟩ (frame_ok l hl)
    have he : Frame.enter P f (l.map (SV.conc ρ ι)).toArray .normal = ({ (default : Frame) with fn := f, kind := .normal, roundOf := none } : Frame).atR
        (wD { tmps := (l.map (SV.conc ρ ι)).toArray ++ Array.replicate (fn.ntmps - (l.map (SV.conc ρ ι)).toArray.size) Go.undef, defers := [] } []) [.code c] := by
      simp [Frame.enter, Frame.atR, wD, hfn, hc]
    rw [he]
    exact h1
  · exact run_calls hΓ hI hP hfn hc hl h hH hm

theorem enter_ok {hc' : HintCtx} (hΓ : CtxOK P I Γ) (hP : P.follows .mixedOrders = true) (k u : Nat) : SpecOK P I f (enter P Γ hc' k u f) := by
  constructor
  intro H l m nd v om h ρ β ι w hI hH hn hm
  unfold enter at h
  split at h
  · rename_i fn hfn
    split at h
    · rename_i c hc
      split at h
      · rename_i hl
        split at h
        · rename_i nd' v' m' hcol
          have hm2 := hm.now
          split at h
          · rename_i hc2
            simp only [Bool.and_eq_true, decide_eq_true_eq] at hc2
            simp only [Option.some.injEq, Prod.mk.injEq] at h
            obtain ⟨rfl, rfl, rfl⟩ := h
            refine runAll_calls (β := ⟨w, m.length, ι⟩) hΓ hI hP hfn hc hl (collapse_ok (Nat.le_refl _) hcol hn fun ι' w' h' => ?_) hH hm2
            have hagr : Loc.agree m.length ι' ι := h'.agr
            have h2 := hm.since h'
            have hat : ∀ {i : Nat} {B : Blk}, m[i]? = some B → m'[i]? = some B := fun {i B} hB => by
              have hi : i < m.length := (List.getElem?_eq_some_iff.1 hB).1
              have := congrArg (fun l => l[i]?) hc2.1.1
              simp only [List.getElem?_take, if_pos hi] at this
              rw [this]; exact hB
            have lt : ∀ {i : Nat} {B : Blk}, m[i]? = some B → i < m.length := fun hB => (List.getElem?_eq_some_iff.1 hB).1
            have sc : ∀ {i : Nat} {B : Blk}, m[i]? = some B → cellsOf ρ ι' B.segs = cellsOf ρ ι B.segs := fun hB => cellsOf_congr hagr (List.all_eq_true.1 hc2.2 _ (List.mem_of_getElem? hB))
            have old : ∀ b, b < β.w.heap.size → (∀ i, i < m.length → ι i ≠ b) → w'.heap[b]? = β.w.heap[b]? := by
              intro b hb hi
              have hb' : b < w.heap.size := Nat.lt_of_lt_of_le hb hm.size
              rw [← hm.old b hb hi]
              refine h'.old b hb' fun i hi' => ?_
              by_cases hc : i < m.length
              · rw [(hagr i hc).1]; exact hi i hc
              · rcases h'.new i (Nat.not_lt.1 hc) hi' with hn | ⟨j, hj, hn⟩
                · have : w.heap.size ≤ ι' i := hn
                  omega
                · have hj : j < m.length := hj
                  rw [hn, (hagr j hj).1]; exact hi j hj
            refine ⟨by rw [SV.conc_congr hagr hc2.1.2], hm.inj, fun i B hB hd hn' => ?_, hm.nils, hm.agr, hm.len, hm.new, Nat.le_trans hm.size h'.size, old, h'.os.trans hm.os, h'.tape.trans hm.tape, h'.output.trans hm.output, hm.xt, hm.xd⟩
            have hi := lt hB
            obtain ⟨fz, rest, k1, k2, k3, k4⟩ := h'.blk i B (hat hB) hd (by rw [(hagr i hi).2.2]; exact hn')
            rw [(hagr i hi).1, sc hB] at k1
            rw [(hagr i hi).2.1, sc hB] at k3
            exact ⟨fz, rest, k1, k2, k3, k4⟩
          · simp only [Option.some.injEq, Prod.mk.injEq] at h
            obtain ⟨rfl, rfl, rfl⟩ := h
            refine runAll_calls (β := ⟨w, m.length, ι⟩) hΓ hI hP hfn hc hl (collapse_ok (Nat.le_refl _) hcol hn fun ι' w' h' => ?_) hH hm2
            exact ⟨ι', h'.agr.symm, rfl, hm.since h'⟩
        · cases h
      · cases h
    · cases h
  · cases h

/-- A call that answers true, nothing known of memory. -/
theorem MRep.empty {w : World} (hx : ∀ i j, (ρ.I.xs i j).ok w) (ι : Loc) : MRep ρ ⟨w, 0, ι⟩ ι [] w :=
  ⟨fun _ _ _ _ h => by simp at h, fun _ _ h => by simp at h, fun _ _ h => by simp at h, Loc.agree.refl _ _, Nat.le_refl _, fun _ _ h => absurd h (Nat.not_lt_zero _), Nat.le_refl _, fun _ _ _ => rfl, rfl, rfl, rfl, hx, fun _ _ _ _ _ _ _ _ h => absurd h (Nat.not_lt_zero _)⟩
theorem MRep.toBelow {w w' : World} (h : MRep ρ ⟨w, 0, ι⟩ ι [] w') : RowKit.Below w.heap.size w w' :=
  ⟨h.os, h.tape, h.output, h.size, fun k hk => h.old k hk fun _ h => absurd h (Nat.not_lt_zero _)⟩
theorem Ext.none_ok (w : World) : Ext.none.ok w := ⟨.none, 0, rfl, Nat.le_refl _, fun _ => ⟨rfl, rfl⟩, fun _ h => by cases h⟩

theorem law_true (hΓ : CtxOK P I Γ) (hP : P.follows .mixedOrders = true) {k u : Nat} {l : List SV} {nd : List E} {e : E} {hc' : HintCtx} (h : enter P Γ hc' k u f H l [] = some (nd, .s (.bool e), none))
    (hI : ρ.I = I) (hH : H.ok ρ) (hn : allN ρ nd) (he : e.b ρ = true) (w : World) (hx : ∀ i j, (ρ.I.xs i j).ok w) :
    Calls P f (l.map (SV.conc ρ Loc.id)).toArray w fun r w' => r = .returned (.bool true) ∧ RowKit.Below w.heap.size w w' :=
  ((enter_ok hΓ hP k u).ok H l [] nd _ none h ρ ⟨w, 0, Loc.id⟩ Loc.id w hI hH hn (MRep.empty hx Loc.id)).mono fun r w' hr => by
    obtain ⟨rfl, hm⟩ := hr
    exact ⟨by simp [SV.conc, S.conc, he], hm.toBelow⟩

theorem inl_ok {base : Ctx} (hb : CtxOK P I base) (hP : P.follows .mixedOrders = true) (k u : Nat) : ∀ d, CtxOK P I (inl P base k u d)
  | 0 => hb
  | d + 1 => by
    constructor
    intro f H l m nd v om h
    simp only [inl, inl2] at h
    split at h
    · rename_i r hr
      simp only [Option.some.injEq] at h; subst h
      exact hb.ok f H l m nd v om hr
    · exact (enter_ok (inl_ok hb hP k u d) hP k u).ok H l m nd v om h
theorem inlS_ok {sp : List FuncId} {base : Ctx} (hb : CtxOK P I base) (hP : P.follows .mixedOrders = true) (k u : Nat) : ∀ d, CtxOK P I (inlS P sp base k u d)
  | 0 => hb
  | d + 1 => by
    constructor
    intro f H l m nd v om h
    simp only [inlS, inl2S] at h
    split at h
    · rename_i r hr
      simp only [Option.some.injEq] at h; subst h
      exact hb.ok f H l m nd v om hr
    · split at h
      · cases h
      · exact (enter_ok (inlS_ok hb hP k u d) hP k u).ok H l m nd v om h
end

theorem ite_tt (p : Prop) [Decidable p] (x y : Bool) : ((if p then x else y) = true) = ((p → x = true) ∧ (¬ p → y = true)) := by
  by_cases h : p <;> simp [h]
theorem ite_ff (p : Prop) [Decidable p] (x y : Bool) : ((if p then x else y) = false) = ((p → x = false) ∧ (¬ p → y = false)) := by
  by_cases h : p <;> simp [h]
theorem iff_tt (x y : Bool) : ((x == y) = true) = ((x = true) ↔ (y = true)) := by cases x <;> cases y <;> simp
theorem iff_ff (x y : Bool) : ((x == y) = false) = ¬ ((x = true) ↔ (y = true)) := by cases x <;> cases y <;> simp
/-! ### the frame of a law's statement -/
section
variable {H : Type} {enc : TypeId × Value → H} {P : Program}

theorem trodAll_below (hl : laidOutB P = true) {W W' : World} (hb : RowKit.Below W.heap.size W W') : ∀ {ts : List TypeId} {vs : List Value} {ds : List (DataW H)} {ps : List MemPlace},
    (∀ t ∈ ts, P.readableRec t = true ∧ t < P.types.size) → DataW.TrodAll enc P W 0 (fun _ => true) true ts vs ds ps → (∀ x ∈ ps, x.block < W.heap.size) →
    DataW.TrodAll enc P W' 0 (fun b => decide (b < W.heap.size)) true ts vs ds ps := by
  intro ts
  induction ts with
  | nil =>
    intro vs ds ps _ h _
    cases vs <;> cases ds <;> simp [DataW.TrodAll] at h ⊢
    exact h
  | cons t ts ih =>
    intro vs ds ps hr h hlt
    obtain ⟨v, vs', d, ds', p, q, rfl, rfl, rfl, h1, h2⟩ := ChangeShapes.trodAll_cons h
    refine ⟨p, q, RowKit.Below.trod hl (hr t (.head _)).1 (hr t (.head _)).2 h1 hb (fun x hx => hlt x (by simp [hx])), ih (fun u hu => hr u (.tail _ hu)) h2 (fun x hx => hlt x (by simp [hx])), rfl⟩

theorem law_post {f : Func} {s : ChangeSpec} {tb : TypeId} (hl : laidOutB P = true) (hr0 : (f.params.toList.all fun t => P.readableRec t && decide (t < P.types.size)) = true)
    (hvars : s.vars = []) (hres : f.resultTypes = #[tb]) (hb : P.underlying tb = some .bool)
    {W W' : World} {args : Array Value} {ds gs : List (DataW H)} {before : List MemPlace} (hs : s.fn H (ds ++ gs) = { results := [.lit (.bool true)], args := ds })
    (hW : DataW.Whole enc P f.params.toList s.vars false W args.toList ds gs before) (hB : RowKit.Below W.heap.size W W') : s.post enc P f false true false false W args (.bool true) W' := by
  have hr : ∀ t ∈ f.params.toList, P.readableRec t = true ∧ t < P.types.size := fun t ht => by
    have := List.all_eq_true.1 hr0 t ht
    simpa using this
  have hlt := hW.lt
  obtain ⟨p, q, h1, h2, rfl, hz, hn⟩ := id hW
  refine ⟨ds, gs, p ++ q, [], p, [], hW, ?_, ?_, ?_, hB.frame _, fun h => by cases h⟩
  · rw [hs, hres]
    exact ⟨[], [], RowKit.shut_bool hb true, rfl, rfl⟩
  · rw [hs]
    exact trodAll_below hl hB hr h1 (fun x hx => hlt x (by simp [hx]))
  · rw [hs, hvars]
    simp [DataW.TrodVars]
end

/-! ### arguments of struct and array types, by value -/

/-- the kind of cell i of a type: some (some k): an integer; some none: a bool -/
def kindAt (P : Program) : Nat → TypeId → Nat → Option (Option IntKind)
  | 0, _, _ => none
  | d + 1, t, i => match P.underlying t with
    | some (.int k) => if i = 0 then some (some k) else none
    | some .bool => if i = 0 then some none else none
    | some (.struct fs) => match fs.toList.find? (fun f => f.offset ≤ i && i < f.offset + P.cellsOf f.type) with
      | some f => kindAt P d f.type (i - f.offset)
      | none => none
    | some (.array n e) => if P.cellsOf e = 0 ∨ n * P.cellsOf e ≤ i then none else kindAt P d e (i % P.cellsOf e)
    | _ => none

def Fit : Option IntKind → Value → Prop
  | some k, v => ∃ z, v = .int k z ∧ inR (krng k) z
  | none, v => ∃ b, v = .bool b

theorem wf_inR {k : IntKind} {z : Int} (h : (Lit.int k z).wf = true) : inR (krng k) z := by
  cases k <;> simp [Lit.wf, IntKind.min, IntKind.max, IntKind.signed, IntKind.bits] at h <;> simp [inR, krng, kmin, kmax] <;> omega

section
variable {H : Type} {enc : TypeId × Value → H} {P : Program} {w : World} {base : Nat} {spare : Nat → Bool} {held : Bool}

theorem kind_ok : ∀ (d : Nat) (t : TypeId) (i : Nat) (k : Option IntKind) (fuel : Nat) (cs : List Value) (x : DataW H × List MemPlace), kindAt P d t i = some k →
    DataW.trod enc P w base spare held fuel t cs = some x → ∃ v, cs[i]? = some v ∧ Fit k v := by
  intro d
  induction d with
  | zero => intro t i k fuel cs x h; simp [kindAt] at h
  | succ d ih =>
    intro t i k fuel cs x h hx
    unfold kindAt at h
    split at h
    · rename_i kd hu
      split at h
      · rename_i hi; subst hi
        simp only [Option.some.injEq] at h; subst h
        obtain ⟨a, e0, _, wa⟩ := DataW.trod_int hu hx
        subst e0
        exact ⟨_, rfl, a, rfl, wf_inR wa⟩
      · cases h
    · rename_i hu
      split at h
      · rename_i hi; subst hi
        simp only [Option.some.injEq] at h; subst h
        obtain ⟨b, e0, _⟩ := DataW.trod_bool hu hx
        subst e0
        exact ⟨_, rfl, b, rfl⟩
      · cases h
    · rename_i fs hu
      split at h
      · rename_i f hf
        have h1 := List.find?_some hf
        have h2 := List.mem_of_find?_eq_some hf
        simp only [Bool.and_eq_true, decide_eq_true_eq] at h1
        obtain ⟨q, hq⟩ := List.mem_iff_getElem?.1 h2
        obtain ⟨xs, m, _, _, hlen, hxs, hall⟩ := DataW.trod_struct hu hx
        have hq' : fs[q]? = some f := by rw [← Array.getElem?_toList]; exact hq
        have hqlt : q < fs.size := by
          rw [Array.getElem?_eq_some_iff] at hq'; exact hq'.1
        have := hall q f hq'
        rw [List.getElem?_eq_getElem (by omega)] at this
        obtain ⟨v, hv, hk⟩ := ih f.type (i - f.offset) k m _ _ h this
        refine ⟨v, ?_, hk⟩
        rw [List.getElem?_take, List.getElem?_drop] at hv
        split at hv
        · rw [← hv]; congr 1; omega
        · cases hv
      · cases h
    · rename_i n e hu
      split at h
      · cases h
      · rename_i hc
        obtain ⟨xs, m, _, _, hlen, hxs, hall⟩ := DataW.trod_array hu hx
        have hs : 0 < P.cellsOf e := by omega
        have hq : i / P.cellsOf e < n := by
          rw [Nat.div_lt_iff_lt_mul hs]; omega
        have := hall _ hq
        rw [List.getElem?_eq_getElem (by omega)] at this
        obtain ⟨v, hv, hk⟩ := ih e (i % P.cellsOf e) k m _ _ h this
        refine ⟨v, ?_, hk⟩
        rw [List.getElem?_take, List.getElem?_drop] at hv
        split at hv
        · rw [← hv]; congr 1
          have := Nat.div_add_mod i (P.cellsOf e)
          rw [Nat.mul_comm] at this; omega
        · cases hv
    · cases h
end

/-- the parts of which such an argument is made: an array of integers, an integer, a bool -/
inductive Pc where
  | arr (k : IntKind) (n : Nat)
  | num (k : IntKind)
  | bit
  deriving DecidableEq, Repr

def Pc.len : Pc → Nat
  | .arr _ n => n
  | _ => 1
def pcTotal : List Pc → Nat
  | [] => 0
  | p :: l => p.len + pcTotal l
def pcKinds : List Pc → List (Option IntKind)
  | [] => []
  | .arr k n :: l => List.replicate n (some k) ++ pcKinds l
  | .num k :: l => some k :: pcKinds l
  | .bit :: l => none :: pcKinds l
def intV : Value → Int
  | .int _ z => z
  | _ => 0
def boolV : Value → Bool
  | .bool b => b
  | _ => false
def arrOf (cs : List Value) (lo n : Nat) : Nat → Int := fun i => if i < n then intV (cs.getD (lo + i) Go.undef) else 0
def pcA (cs : List Value) : Nat → List Pc → List (Nat → Int)
  | _, [] => []
  | lo, .arr _ n :: l => arrOf cs lo n :: pcA cs (lo + n) l
  | lo, .num _ :: l => pcA cs (lo + 1) l
  | lo, .bit :: l => pcA cs (lo + 1) l
def pcI (cs : List Value) : Nat → List Pc → List Int
  | _, [] => []
  | lo, .arr _ n :: l => pcI cs (lo + n) l
  | lo, .num _ :: l => intV (cs.getD lo Go.undef) :: pcI cs (lo + 1) l
  | lo, .bit :: l => pcI cs (lo + 1) l
def pcB (cs : List Value) : Nat → List Pc → List Bool
  | _, [] => []
  | lo, .arr _ n :: l => pcB cs (lo + n) l
  | lo, .num _ :: l => pcB cs (lo + 1) l
  | lo, .bit :: l => boolV (cs.getD lo Go.undef) :: pcB cs (lo + 1) l
def pcSegs : (ia ib ii : Nat) → List Pc → List Seg
  | _, _, _, [] => []
  | ia, ib, ii, .arr k n :: l => .run k (.lit n) (.av ia) 0 :: pcSegs (ia + 1) ib ii l
  | ia, ib, ii, .num k :: l => .one (.int k (.v ii)) :: pcSegs ia ib (ii + 1) l
  | ia, ib, ii, .bit :: l => .one (.bool (.bv ib)) :: pcSegs ia (ib + 1) ii l

/-- the cells are as the parts say -/
def PcFit (cs : List Value) (lo : Nat) (l : List Pc) : Prop := ∀ j k, (pcKinds l)[j]? = some k → ∃ v, cs[lo + j]? = some v ∧ Fit k v

theorem pcKinds_len (l : List Pc) : (pcKinds l).length = pcTotal l := by
  induction l with
  | nil => rfl
  | cons p l ih => cases p <;> simp [pcKinds, pcTotal, Pc.len, ih] <;> omega

theorem PcFit.tail {cs : List Value} {lo : Nat} {p : Pc} {l : List Pc} (h : PcFit cs lo (p :: l)) : PcFit cs (lo + p.len) l := by
  intro j k hj
  have h1 : (pcKinds (p :: l))[p.len + j]? = some k := by
    cases p with
    | arr kd n => simp only [pcKinds, Pc.len]; rw [List.getElem?_append_right (by simp)]; simpa using hj
    | num kd => simp only [pcKinds, Pc.len]; rw [Nat.add_comm, List.getElem?_cons_succ]; exact hj
    | bit => simp only [pcKinds, Pc.len]; rw [Nat.add_comm, List.getElem?_cons_succ]; exact hj
  have := h (p.len + j) k h1
  rwa [← Nat.add_assoc] at this

theorem arrOf_rng {cs : List Value} {lo n : Nat} {k : IntKind} {l : List Pc} (h : PcFit cs lo (.arr k n :: l)) (i : Nat) : inR (krng k) (arrOf cs lo n i) := by
  unfold arrOf
  split
  · rename_i hi
    obtain ⟨v, hv, z, rfl, hz⟩ := h i (some k) (by simp only [pcKinds]; rw [List.getElem?_append_left (by simpa using hi)]; simp [hi])
    simpa [List.getD_eq_getElem?_getD, hv, intV] using hz
  · cases k <;> simp [inR, krng, kmin, kmax]

theorem num_rng {cs : List Value} {lo : Nat} {k : IntKind} {l : List Pc} (h : PcFit cs lo (.num k :: l)) : inR (krng k) (intV (cs.getD lo Go.undef)) := by
  obtain ⟨v, hv, z, rfl, hz⟩ := h 0 (some k) rfl
  simp only [Nat.add_zero] at hv
  simpa [List.getD_eq_getElem?_getD, hv, intV] using hz

theorem pc_cells {ρ : Env} {ι : Loc} {cs : List Value} : ∀ (l : List Pc) (lo ia ib ii : Nat), PcFit cs lo l →
    (∀ j, j < (pcA cs lo l).length → ρ.a[ia + j]? = (pcA cs lo l)[j]?) → (∀ j, j < (pcB cs lo l).length → ρ.b[ib + j]? = (pcB cs lo l)[j]?) → (∀ j, j < (pcI cs lo l).length → ρ.i[ii + j]? = (pcI cs lo l)[j]?) →
    cellsOf ρ ι (pcSegs ia ib ii l) = (cs.drop lo).take (pcTotal l) := by
  intro l
  induction l with
  | nil => intro lo ia ib ii _ _ _ _; simp [pcSegs, pcTotal, cellsOf]
  | cons p l ih =>
    intro lo ia ib ii h ha hb hi
    have ht := h.tail
    cases p with
    | arr k n =>
      simp only [pcSegs, pcTotal, Pc.len, pcA, pcB, pcI] at *
      have h0 := ha 0 (by simp)
      rw [cells_cons, ih (lo + n) (ia + 1) ib ii ht (fun j hj => by have := ha (j + 1) (by simp; omega); simpa [Nat.add_assoc, Nat.add_comm 1 j] using this) hb hi]
      simp only [Nat.add_zero, List.getElem?_cons_zero] at h0
      apply List.ext_getElem?
      intro j
      by_cases hj : j < n
      · rw [List.getElem?_append_left (by rw [run_len, i_lit]; simpa using hj), run_at _ _ _ _ _ (by rw [i_lit]; simpa using hj), List.getElem?_take, if_pos (by omega), List.getElem?_drop]
        obtain ⟨v, hv, z, rfl, hz⟩ := h j (some k) (by simp only [pcKinds]; rw [List.getElem?_append_left (by simpa using hj)]; simp [hj])
        rw [hv, a_av, List.getD_eq_getElem?_getD, h0]
        simp [arrOf, hj, List.getD_eq_getElem?_getD, hv, intV]
      · rw [List.getElem?_append_right (by rw [run_len, i_lit]; simp; omega), run_len, i_lit, List.getElem?_take, List.getElem?_take, List.getElem?_drop, List.getElem?_drop]
        simp only [Int.toNat_natCast]
        by_cases hj2 : j - n < pcTotal l
        · rw [if_pos hj2, if_pos (by omega)]; congr 1; omega
        · rw [if_neg hj2, if_neg (by omega)]
    | num k =>
      simp only [pcSegs, pcTotal, Pc.len, pcA, pcB, pcI] at *
      have h0 := hi 0 (by simp)
      rw [cells_cons, ih (lo + 1) ia ib (ii + 1) ht ha hb (fun j hj => by have := hi (j + 1) (by simp; omega); simpa [Nat.add_assoc, Nat.add_comm 1 j] using this)]
      simp only [Nat.add_zero, List.getElem?_cons_zero] at h0
      obtain ⟨v, hv, z, rfl, hz⟩ := h 0 (some k) rfl
      simp only [Nat.add_zero] at hv
      have hd : cs.drop lo = .int k z :: cs.drop (lo + 1) := by
        rw [List.drop_eq_getElem?_toList_append, hv]; rfl
      rw [hd, Nat.add_comm 1, List.take_succ_cons, cells_one, List.singleton_append]
      congr 1
      simp [S.conc, i_v, List.getD_eq_getElem?_getD, h0, hv, intV]
    | bit =>
      simp only [pcSegs, pcTotal, Pc.len, pcA, pcB, pcI] at *
      have h0 := hb 0 (by simp)
      rw [cells_cons, ih (lo + 1) ia (ib + 1) ii ht ha (fun j hj => by have := hb (j + 1) (by simp; omega); simpa [Nat.add_assoc, Nat.add_comm 1 j] using this) hi]
      simp only [Nat.add_zero, List.getElem?_cons_zero] at h0
      obtain ⟨v, hv, b, rfl⟩ := h 0 none rfl
      simp only [Nat.add_zero] at hv
      have hd : cs.drop lo = .bool b :: cs.drop (lo + 1) := by
        rw [List.drop_eq_getElem?_toList_append, hv]; rfl
      rw [hd, Nat.add_comm 1, List.take_succ_cons, cells_one, List.singleton_append]
      congr 1
      simp [S.conc, b_bv, List.getD_eq_getElem?_getD, h0, hv, boolV]

/-- An argument of such a type, opened. -/
theorem open_pc {H : Type} {enc : TypeId × Value → H} {P : Program} {w W : World} {base b0 : Nat} {spare : Nat → Bool} {held : Bool} {r : Reach} {t : TypeId} {v : Value} {d : DataW H} {p : List MemPlace} (pcs : List Pc) (dep : Nat)
    (hagg : aggT P t = some true) (hk : (List.range (pcTotal pcs)).all (fun i => decide (kindAt P dep t i = (pcKinds pcs)[i]?)) = true) (hsz : P.cellsOf t = pcTotal pcs)
    (hv : Value.okWide P W r b0 t v) (hd : DataW.Trod enc P w base spare held t v d p) : ∃ cs : List Value, v = .agg cs.toArray ∧ cs.length = pcTotal pcs ∧ PcFit cs 0 pcs := by
  obtain ⟨cs, rfl, hcs, _⟩ : ∃ cs, v = .agg cs ∧ cs.size = P.cellsOf t ∧ Row.okWide P W r b0 t cs := by
    unfold Value.okWide at hv
    unfold aggT at hagg
    split at hagg
    · rename_i hu; rw [hu] at hv; exact hv
    · rename_i hu; rw [hu] at hv; exact hv
    · cases hagg
    · cases hagg
  refine ⟨cs.toList, by simp, by simp [hcs, hsz], fun j k hj => ?_⟩
  obtain ⟨fuel, hf⟩ := hd
  have hlt : j < pcTotal pcs := by
    have := (List.getElem?_eq_some_iff.1 hj).1
    rwa [pcKinds_len] at this
  have h1 := List.all_eq_true.1 hk j (List.mem_range.2 hlt)
  rw [decide_eq_true_eq, hj] at h1
  have := kind_ok dep t j k fuel _ _ h1 hf
  simpa [Value.cells] using this

/-! ### loops: what a round does to the loop's own unknowns -/

/-- new values of some unknowns, out of the old ones -/
structure Sg where
  i : List (Nat × E)
  b : List (Nat × E)
  a : List (Nat × E)
  deriving DecidableEq, Repr

def setAll {α : Type} (l : List α) : List (Nat × α) → List α
  | [] => l
  | (k, z) :: r => (setAll l r).set k z
def Env.app (σ : Sg) (ρ : Env) : Env :=
  { ρ with i := setAll ρ.i (σ.i.map fun p => (p.1, p.2.i ρ)), b := setAll ρ.b (σ.b.map fun p => (p.1, p.2.b ρ)), a := setAll ρ.a (σ.a.map fun p => (p.1, p.2.a ρ)) }

def keyIn (l : List (Nat × E)) (k : Nat) : Option E := (l.find? (fun p => p.1 == k)).map (·.2)

/-- an expression that no unknown of the loop's own stands in -/
def fx (σ : Sg) : E → Bool
  | .v k => (keyIn σ.i k).isNone
  | .bv k => (keyIn σ.b k).isNone
  | .av k => (keyIn σ.a k).isNone
  | .lit _ | .blit _ | .tab _ | .nil => true
  | .add a b | .sub a b | .mul a b | .div a b | .mod a b | .tdiv a b | .tmod a b | .bits _ _ a b | .sel a b | .lt a b | .le a b | .eq a b | .and a b | .or a b | .iff a b | .cons a b => fx σ a && fx σ b
  | .pow2 a | .wrap _ a | .not a | .app _ a => fx σ a
  | .ite a b c | .upd a b c => fx σ a && fx σ b && fx σ c
  | .blt a b c d e => fx σ a && fx σ b && fx σ c && fx σ d && fx σ e
  | .aeq _ a b c _ _ => fx σ a && fx σ b && fx σ c

section
variable {α : Type}
theorem setAll_len (l : List α) : ∀ r, (setAll l r).length = l.length
  | [] => rfl
  | (k, z) :: r => by simp [setAll, setAll_len l r]
theorem setAll_get (l : List α) : ∀ (r : List (Nat × α)) (k : Nat), k < l.length → (setAll l r)[k]? = match r.find? (fun p => p.1 == k) with | some p => some p.2 | none => l[k]?
  | [], k, h => rfl
  | (j, z) :: r, k, h => by
    simp only [setAll, List.getElem?_set, setAll_len]
    by_cases hj : j = k
    · subst hj; simp [h]
    · rw [if_neg hj, setAll_get l r k h]
      have : (j == k) = false := by simpa using hj
      simp [List.find?_cons, this]
theorem setAll_none (l : List α) : ∀ (r : List (Nat × α)) (k : Nat), r.find? (fun p => p.1 == k) = none → (setAll l r)[k]? = l[k]?
  | [], k, _ => rfl
  | (j, z) :: r, k, h => by
    rw [List.find?_cons] at h
    split at h
    · cases h
    · rename_i hj
      simp only [setAll, List.getElem?_set]
      rw [if_neg (by simpa using hj)]
      exact setAll_none l r k h
end

section
variable {ρ : Env} {σ : Sg}
theorem find_map {β : Type} (f : E → β) (l : List (Nat × E)) (k : Nat) : (l.map fun p => (p.1, f p.2)).find? (fun p => p.1 == k) = (keyIn l k).map fun e => (k, f e) := by
  unfold keyIn
  induction l with
  | nil => rfl
  | cons p l ih =>
    simp only [List.map_cons, List.find?_cons]
    by_cases hp : (p.1 == k) = true
    · have : p.1 = k := by simpa using hp
      simp [hp, this]
    · simp only [Bool.not_eq_true] at hp
      simp only [hp]
      exact ih

theorem fx_den : ∀ (e : E), fx σ e = true → den (ρ.app σ) e = den ρ e := by
  intro e
  induction e with
  | v k =>
    intro h
    simp only [fx, Option.isNone_iff_eq_none] at h
    simp only [den, Env.app, List.getD_eq_getElem?_getD]
    rw [setAll_none _ _ _ (by rw [find_map (fun e => e.i ρ), h]; rfl)]
  | bv k =>
    intro h
    simp only [fx, Option.isNone_iff_eq_none] at h
    simp only [den, Env.app, List.getD_eq_getElem?_getD]
    rw [setAll_none _ _ _ (by rw [find_map (fun e => e.b ρ), h]; rfl)]
  | av k =>
    intro h
    simp only [fx, Option.isNone_iff_eq_none] at h
    simp only [den, Env.app, List.getD_eq_getElem?_getD]
    rw [setAll_none _ _ _ (by rw [find_map (fun e => e.a ρ), h]; rfl)]
  | lit _ => intro _; rfl
  | blit _ => intro _; rfl
  | tab _ => intro _; rfl
  | nil => intro _; rfl
  | pow2 a ih => intro h; simp only [fx] at h; simp only [den, ih h]
  | wrap k a ih => intro h; simp only [fx] at h; simp only [den, ih h]
  | not a ih => intro h; simp only [fx] at h; simp only [den, ih h]
  | app f a ih => intro h; simp only [fx] at h; simp only [den, ih h]; rfl
  | ite a b c iha ihb ihc => intro h; simp only [fx, Bool.and_eq_true] at h; simp only [den, iha h.1.1, ihb h.1.2, ihc h.2]
  | upd a b c iha ihb ihc => intro h; simp only [fx, Bool.and_eq_true] at h; simp only [den, iha h.1.1, ihb h.1.2, ihc h.2]
  | blt a b c d e iha ihb ihc ihd ihe => intro h; simp only [fx, Bool.and_eq_true] at h; simp only [den, iha h.1.1.1.1, ihb h.1.1.1.2, ihc h.1.1.2, ihd h.1.2, ihe h.2]
  | aeq bit a b c o q iha ihb ihc => intro h; simp only [fx, Bool.and_eq_true] at h; simp only [den, iha h.1.1, ihb h.1.2, ihc h.2]
  | bits o k a b iha ihb => intro h; simp only [fx, Bool.and_eq_true] at h; simp only [den, iha h.1, ihb h.2]
  | _ a b iha ihb => intro h; simp only [fx, Bool.and_eq_true] at h; simp only [den, iha h.1, ihb h.2]

/-- the head's expression p, in the next round, is what e is now -/
def agI (σ : Sg) (p e : E) : Bool := match p with
  | .v k => match keyIn σ.i k with
    | some x => x == e
    | none => e == .v k
  | p => fx σ p && p == e
def agB (σ : Sg) (p e : E) : Bool := match p with
  | .bv k => match keyIn σ.b k with
    | some x => x == e
    | none => e == .bv k
  | p => fx σ p && p == e
def agA (σ : Sg) (p e : E) : Bool := match p with
  | .av k => match keyIn σ.a k with
    | some x => x == e
    | none => e == .av k
  | p => fx σ p && p == e

/-- the unknowns that are set are there -/
def sgFit (σ : Sg) (ni nb na : Nat) : Bool := σ.i.all (fun p => p.1 < ni) && σ.b.all (fun p => p.1 < nb) && σ.a.all (fun p => p.1 < na)
structure Sized (ρ : Env) (ni nb na : Nat) : Prop where
  i : ρ.i.length = ni
  b : ρ.b.length = nb
  a : ρ.a.length = na
theorem Sized.app {ni nb na : Nat} (h : Sized ρ ni nb na) : Sized (ρ.app σ) ni nb na :=
  ⟨by simp [Env.app, setAll_len, h.i], by simp [Env.app, setAll_len, h.b], by simp [Env.app, setAll_len, h.a]⟩

theorem keyIn_lt {l : List (Nat × E)} {n k : Nat} {e : E} (h : l.all (fun p => p.1 < n) = true) (hk : keyIn l k = some e) : k < n := by
  unfold keyIn at hk
  simp only [Option.map_eq_some_iff] at hk
  obtain ⟨p, hp, _⟩ := hk
  have h1 := List.find?_some hp
  have h2 := List.mem_of_find?_eq_some hp
  have h3 := List.all_eq_true.1 h p h2
  simp only [beq_iff_eq] at h1
  simp only [decide_eq_true_eq] at h3
  omega

variable {ni nb na : Nat}
theorem agI_ok (hz : Sized ρ ni nb na) (hs : sgFit σ ni nb na = true) {p e : E} (h : agI σ p e = true) : p.i (ρ.app σ) = e.i ρ := by
  simp only [sgFit, Bool.and_eq_true] at hs
  unfold agI at h
  split at h
  · rename_i k
    split at h
    · rename_i x hk
      simp only [beq_iff_eq] at h; subst h
      have hlt := keyIn_lt hs.1.1 hk
      simp only [i_v, Env.app, List.getD_eq_getElem?_getD]
      rw [setAll_get _ _ _ (by rw [hz.i]; exact hlt), find_map (fun e => e.i ρ), hk]; rfl
    · rename_i hk
      simp only [beq_iff_eq] at h; subst h
      have := fx_den (ρ := ρ) (σ := σ) (.v k) (by simp [fx, hk])
      simp only [E.i, this]
  · simp only [Bool.and_eq_true, beq_iff_eq] at h
    obtain ⟨h1, rfl⟩ := h
    simp only [E.i, fx_den _ h1]
theorem agB_ok (hz : Sized ρ ni nb na) (hs : sgFit σ ni nb na = true) {p e : E} (h : agB σ p e = true) : p.b (ρ.app σ) = e.b ρ := by
  simp only [sgFit, Bool.and_eq_true] at hs
  unfold agB at h
  split at h
  · rename_i k
    split at h
    · rename_i x hk
      simp only [beq_iff_eq] at h; subst h
      have hlt := keyIn_lt hs.1.2 hk
      simp only [b_bv, Env.app, List.getD_eq_getElem?_getD]
      rw [setAll_get _ _ _ (by rw [hz.b]; exact hlt), find_map (fun e => e.b ρ), hk]; rfl
    · rename_i hk
      simp only [beq_iff_eq] at h; subst h
      have := fx_den (ρ := ρ) (σ := σ) (.bv k) (by simp [fx, hk])
      simp only [E.b, this]
  · simp only [Bool.and_eq_true, beq_iff_eq] at h
    obtain ⟨h1, rfl⟩ := h
    simp only [E.b, fx_den _ h1]
theorem agA_ok (hz : Sized ρ ni nb na) (hs : sgFit σ ni nb na = true) {p e : E} (h : agA σ p e = true) : p.a (ρ.app σ) = e.a ρ := by
  simp only [sgFit, Bool.and_eq_true] at hs
  unfold agA at h
  split at h
  · rename_i k
    split at h
    · rename_i x hk
      simp only [beq_iff_eq] at h; subst h
      have hlt := keyIn_lt hs.2 hk
      simp only [a_av, Env.app, List.getD_eq_getElem?_getD]
      rw [setAll_get _ _ _ (by rw [hz.a]; exact hlt), find_map (fun e => e.a ρ), hk]; rfl
    · rename_i hk
      simp only [beq_iff_eq] at h; subst h
      have := fx_den (ρ := ρ) (σ := σ) (.av k) (by simp [fx, hk])
      simp only [E.a, this]
  · simp only [Bool.and_eq_true, beq_iff_eq] at h
    obtain ⟨h1, rfl⟩ := h
    simp only [E.a, fx_den _ h1]

/-! ### a round's foot fits the loop's head -/

/-- π: which block now is the head's -/
def agCaps (σ : Sg) (π : List Nat) : List (Nat × E) → List (Nat × E) → Bool
  | [], [] => true
  | p :: l, q :: r => decide (π[p.1]? = some q.1) && agI σ p.2 q.2 && agCaps σ π l r
  | _, _ => false
def agS (σ : Sg) (π : List Nat) : S → S → Bool
  | .int k x, .int j y => decide (k = j) && agI σ x y
  | .bool x, .bool y => agB σ x y
  | .nil, .nil | .nilSlc, .nilSlc | .nilFn, .nilFn | .undef, .undef | .nilIface, .nilIface => true
  | .ptr b o, .ptr c q => decide (π[b]? = some c) && agI σ o q
  | .slc b o l (.kn c), .slc b' o' l' (.kn c') => decide (π[b]? = some b') && agI σ o o' && agI σ l l' && agI σ c c'
  | .slc b o l (.op c), .slc b' o' l' (.op c') => decide (π[b]? = some b') && agI σ o o' && agI σ l l' && agI σ c c'
  | .xslc i j o l, .xslc i' j' o' l' => decide (i = i') && agI σ j j' && agI σ o o' && agI σ l l'
  | .xptr i j k f, .xptr i' j' k' f' => decide (i = i') && agI σ j j' && agI σ k k' && decide (f = f')
  | .str l, .str l' => decide (l = l')
  | .fn f l, .fn g r => decide (f = g) && agCaps σ π l r
  | .val n, .val m => decide (n = m)
  | _, _ => false
def agXF (σ : Sg) : List XF → List XF → Bool
  | [], [] => true
  | f :: l, g :: r => decide (f.1 = g.1) && agA σ f.2 g.2 && agXF σ l r
  | _, _ => false
def agSeg (σ : Sg) (π : List Nat) : Seg → Seg → Bool
  | .one x, .one y => agS σ π x y
  | .run k n A o, .run k' n' A' o' => decide (k = k') && agI σ n n' && agA σ A A' && decide (o = o')
  | .rows n fs o, .rows n' fs' o' => agI σ n n' && agXF σ fs fs' && decide (o = o')
  | _, _ => false
def agSegs (σ : Sg) (π : List Nat) : List Seg → List Seg → Bool
  | [], [] => true
  | p :: l, q :: r => agSeg σ π p q && agSegs σ π l r
  | _, _ => false
def agTup (σ : Sg) (π : List Nat) : List (Bool × List Seg) → List (Bool × List Seg) → Bool
  | [], [] => true
  | p :: l, q :: r => (p.1 == q.1) && agSegs σ π p.2 q.2 && agTup σ π l r
  | _, _ => false
def agV (σ : Sg) (π : List Nat) : SV → SV → Bool
  | .s x, .s y => agS σ π x y
  | .agg l, .agg r => agSegs σ π l r
  | .tup l, .tup r => agTup σ π l r
  | _, _ => false
def agFr (σ : Sg) (π : List Nat) (fr : Fr) (head : Fr) : Bool := head.all fun f => decide (f.g = []) && match look fr f.t with
  | some ([], y) => agV σ π f.x y
  | _ => false
def agBlks (σ : Sg) (π : List Nat) (m : Mem) : Mem → List Nat → Bool
  | [], [] => true
  | B :: l, p :: r => (match m[p]? with | some C => B.dead || (!C.dead && decide (B.ty = C.ty) && (!B.wr || C.wr) && decide (B.grow = C.grow) && agSegs σ π B.segs C.segs) | none => false) && agBlks σ π m l r
  | _, _ => false
def agMem (σ : Sg) (K : Nat) (π : List Nat) (m head : Mem) : Bool :=
  decide π.Nodup && decide (π.take K = List.range K) && π.all (fun b => decide (b < m.length)) && agBlks σ π m head π

section
variable {π : List Nat} {ι : Loc} {vs : List Value}
variable (hz : Sized ρ ni nb na) (hs : sgFit σ ni nb na = true)
include hz hs
theorem addr_ag {b c : Nat} {o q : E} (hb : π[b]? = some c) (ho : agI σ o q = true) : addr (ρ.app σ) (piv π ι) b o = addr ρ ι c q := by
  simp only [addr, piv_at hb, agI_ok hz hs ho]
theorem agCaps_ok : ∀ {l r : List (Nat × E)}, agCaps σ π l r = true → (l.map fun p => Value.pointer (some (addr (ρ.app σ) (piv π ι) p.1 p.2))) = r.map fun p => Value.pointer (some (addr ρ ι p.1 p.2))
  | [], [], _ => rfl
  | p :: l, q :: r, h => by
    simp only [agCaps, Bool.and_eq_true, decide_eq_true_eq] at h
    simp only [List.map_cons, addr_ag hz hs h.1.1 h.1.2, agCaps_ok h.2]
  | [], _ :: _, h => by simp [agCaps] at h
  | _ :: _, [], h => by simp [agCaps] at h
theorem agS_ok {x y : S} (h : agS σ π x y = true) : x.conc (ρ.app σ) (piv π ι) = y.conc ρ ι := by
  unfold agS at h
  split at h
  · simp only [Bool.and_eq_true, decide_eq_true_eq] at h
    simp only [S.conc, h.1, agI_ok hz hs h.2]
  · simp only [S.conc, agB_ok hz hs h]
  · rfl
  · rfl
  · rfl
  · rfl
  · rfl
  · simp only [Bool.and_eq_true, decide_eq_true_eq] at h
    simp only [S.conc, addr_ag hz hs h.1 h.2]
  · simp only [Bool.and_eq_true, decide_eq_true_eq] at h
    simp only [S.conc, addr_ag hz hs h.1.1.1 h.1.1.2, agI_ok hz hs h.1.2, agI_ok hz hs h.2]
  · simp only [Bool.and_eq_true, decide_eq_true_eq] at h
    simp only [S.conc, addr_ag hz hs h.1.1.1 h.1.1.2, agI_ok hz hs h.1.2, agI_ok hz hs h.2, (piv_all h.1.1.1).1, (piv_all h.1.1.1).2]
  · simp only [Bool.and_eq_true, decide_eq_true_eq] at h
    simp only [S.conc, h.1.1.1, agI_ok hz hs h.1.1.2, agI_ok hz hs h.1.2, agI_ok hz hs h.2]; rfl
  · simp only [Bool.and_eq_true, decide_eq_true_eq] at h
    simp only [S.conc, h.1.1.1, agI_ok hz hs h.1.1.2, agI_ok hz hs h.1.2, h.2]; rfl
  · simp only [decide_eq_true_eq] at h
    simp only [S.conc, h]
  · simp only [Bool.and_eq_true, decide_eq_true_eq] at h
    simp only [S.conc, h.1, agCaps_ok hz hs h.2]
  · simp only [decide_eq_true_eq] at h
    simp only [S.conc, h, Env.app]
  · cases h
theorem agXF_ok : ∀ {l r : List XF}, agXF σ l r = true → ∀ k, (l.map fun f => XF.conc (ρ.app σ) f k) = r.map fun f => XF.conc ρ f k
  | [], [], _, k => rfl
  | f :: l, g :: r, h, k => by
    simp only [agXF, Bool.and_eq_true, decide_eq_true_eq] at h
    have e : XF.conc (ρ.app σ) f k = XF.conc ρ g k := by simp only [XF.conc, h.1.1, agA_ok hz hs h.1.2]
    rw [List.map_cons, List.map_cons, e, agXF_ok h.2 k]
  | [], _ :: _, h, k => by simp [agXF] at h
  | _ :: _, [], h, k => by simp [agXF] at h
theorem agSeg_ok {x y : Seg} (h : agSeg σ π x y = true) : x.cells (ρ.app σ) (piv π ι) = y.cells ρ ι := by
  unfold agSeg at h
  split at h
  · simp only [Seg.cells, agS_ok hz hs h]
  · simp only [Bool.and_eq_true, decide_eq_true_eq] at h
    obtain ⟨⟨⟨rfl, h1⟩, h2⟩, rfl⟩ := h
    simp only [Seg.cells, agI_ok hz hs h1, agA_ok hz hs h2]
  · simp only [Bool.and_eq_true, decide_eq_true_eq] at h
    obtain ⟨⟨h1, h2⟩, rfl⟩ := h
    simp only [Seg.cells, agI_ok hz hs h1, agXF_ok hz hs h2]
  · cases h
theorem agSegs_ok : ∀ {l r : List Seg}, agSegs σ π l r = true → cellsOf (ρ.app σ) (piv π ι) l = cellsOf ρ ι r
  | [], [], _ => rfl
  | p :: l, q :: r, h => by
    simp only [agSegs, Bool.and_eq_true] at h
    rw [cells_cons, cells_cons, agSeg_ok hz hs h.1, agSegs_ok h.2]
  | [], _ :: _, h => by simp [agSegs] at h
  | _ :: _, [], h => by simp [agSegs] at h
theorem agTup_ok : ∀ {l r : List (Bool × List Seg)}, agTup σ π l r = true → SV.conc (ρ.app σ) (piv π ι) (.tup l) = SV.conc ρ ι (.tup r)
  | [], [], _ => rfl
  | p :: l, q :: r, h => by
    simp only [agTup, Bool.and_eq_true, beq_iff_eq] at h
    have := agTup_ok h.2
    simp only [SV.conc, Value.tuple.injEq, List.map_cons] at this ⊢
    rw [agSegs_ok hz hs h.1.2, h.1.1]
    congr 2
    simpa using this
  | [], _ :: _, h => by simp [agTup] at h
  | _ :: _, [], h => by simp [agTup] at h
theorem agV_ok {x y : SV} (h : agV σ π x y = true) : x.conc (ρ.app σ) (piv π ι) = y.conc ρ ι := by
  unfold agV at h
  split at h
  · exact agS_ok hz hs h
  · simp only [SV.conc, agSegs_ok hz hs h]
  · exact agTup_ok hz hs h
  · cases h
theorem agFr_ok {n : Nat} {a : Act} {fr head : Fr} (h : agFr σ π fr head = true) (hf : FRep ρ ι n fr a) : FRep (ρ.app σ) (piv π ι) n head a := by
  refine hf.sub fun t g' x' hl => ?_
  have key : ∀ (l : Fr), (∀ f ∈ l, f ∈ head) → look l t = some (g', x') → ∃ f ∈ head, f.t = t ∧ f.g = g' ∧ f.x = x' := by
    intro l
    induction l with
    | nil => intro _ h; simp [look_nil] at h
    | cons f l ih =>
      intro hm h
      simp only [look_nil, look_cons] at h
      split at h
      · rename_i ht
        split at h
        · cases h
        · simp only [Option.some.injEq, Prod.mk.injEq] at h
          exact ⟨f, hm f (.head _), ht, h.1, h.2⟩
      · exact ih (fun f' hf' => hm f' (.tail _ hf')) h
  obtain ⟨f, hf', rfl, rfl, rfl⟩ := key head (fun _ h => h) hl
  have h1 := List.all_eq_true.1 h f hf'
  simp only [Bool.and_eq_true, decide_eq_true_eq] at h1
  refine ⟨h1.1, ?_⟩
  have h2 := h1.2
  split at h2
  · rename_i y hy
    exact ⟨y, hy, (agV_ok hz hs h2).symm⟩
  · cases h2
theorem agBlks_ok {m : Mem} : ∀ {l : Mem} {r : List Nat}, agBlks σ π m l r = true → l.length = r.length ∧ ∀ (i : Nat) (B : Blk), l[i]? = some B → ∃ (p : Nat) (C : Blk), r[i]? = some p ∧ m[p]? = some C ∧ (B.dead = false → C.dead = false ∧ B.ty = C.ty ∧ (B.wr = true → C.wr = true) ∧ B.grow = C.grow ∧ cellsOf (ρ.app σ) (piv π ι) B.segs = cellsOf ρ ι C.segs)
  | [], [], _ => ⟨rfl, fun i B h => by simp at h⟩
  | B :: l, p :: r, h => by
    simp only [agBlks, Bool.and_eq_true] at h
    obtain ⟨h1, h2⟩ := agBlks_ok h.2
    refine ⟨by simp [h1], fun i D hD => ?_⟩
    cases i with
    | zero =>
      simp only [List.getElem?_cons_zero, Option.some.injEq] at hD; subst hD
      have h3 := h.1
      split at h3
      · rename_i C hC
        refine ⟨p, C, rfl, hC, fun hd => ?_⟩
        rw [hd, Bool.false_or] at h3
        simp only [Bool.and_eq_true, decide_eq_true_eq, Bool.or_eq_true, Bool.not_eq_true'] at h3
        obtain ⟨⟨⟨⟨a1, a2⟩, a3⟩, a4⟩, a5⟩ := h3
        exact ⟨a1, a2, fun hw => by rcases a3 with h | h; (rw [hw] at h; cases h); exact h, a4, agSegs_ok hz hs a5⟩
      · cases h3
    | succ i => simpa using h2 i D (by simpa using hD)
  | [], _ :: _, h => by simp [agBlks] at h
  | _ :: _, [], h => by simp [agBlks] at h
theorem agMem_ok {β : Base} {w : World} {K : Nat} {m head : Mem} (hK : β.k ≤ K) (hKh : K ≤ head.length) (h : agMem σ K π m head = true) (hm : MRep ρ β ι m w) : MRep (ρ.app σ) β (piv π ι) head w := by
  simp only [agMem, Bool.and_eq_true, decide_eq_true_eq] at h
  obtain ⟨⟨⟨hnd, hid⟩, hlt⟩, hb⟩ := h
  obtain ⟨hlen, hblk⟩ := agBlks_ok (ι := ι) hz hs hb
  have hlt : ∀ b ∈ π, b < m.length := fun b hb => by simpa using List.all_eq_true.1 hlt b hb
  have at_ : ∀ i, i < head.length → ∃ p, π[i]? = some p ∧ p < m.length := fun i hi => by
    have hi' : i < π.length := by omega
    exact ⟨π[i], List.getElem?_eq_getElem hi', hlt _ (List.getElem_mem hi')⟩
  have id_ : ∀ i, i < K → π[i]? = some i := fun i hi => by
    have := congrArg (fun l => l[i]?) hid
    simp only [List.getElem?_take, if_pos hi, List.getElem?_range hi] at this
    exact this
  have back : ∀ i j p, π[i]? = some p → π[j]? = some p → i = j := fun i j p hi hj => by
    have hi' := (List.getElem?_eq_some_iff.1 hi)
    have hj' := (List.getElem?_eq_some_iff.1 hj)
    exact (List.getElem_inj hnd).1 (hi'.2.trans hj'.2.symm)
  refine ⟨fun i j B D hB hD hBd hDd hBn hDn he => ?_, fun i B hB hBd hBn => ?_, fun i B hB hBd hBn => ?_, fun i hi => ?_, by omega, fun i h1 h2 => ?_, hm.size, fun b hb hi => ?_, hm.os, hm.tape, hm.output, hm.xt, fun i j a n c hv h0 k hk => ?_⟩
  · obtain ⟨p, C, hp, hC, h1⟩ := hblk i B hB
    obtain ⟨q, F, hq, hF, h2⟩ := hblk j D hD
    rw [piv_at hp, piv_at hq] at he
    rw [(piv_all hp).2] at hBn
    rw [(piv_all hq).2] at hDn
    have := hm.inj _ _ C F hC hF (h1 hBd).1 (h2 hDd).1 hBn hDn he
    subst this
    exact back i j p hp hq
  · obtain ⟨p, C, hp, hC, h1⟩ := hblk i B hB
    obtain ⟨hCd, ht, hw, hg, hc⟩ := h1 hBd
    rw [(piv_all hp).2] at hBn
    obtain ⟨fz, rest, k1, k2, k3, k4⟩ := hm.blk p C hC hCd hBn
    rw [(piv_all hp).1, piv_at hp, hc, ht, hg]
    exact ⟨fz, rest, k1, fun h => k2 (hw h), k3, k4⟩
  · obtain ⟨p, C, hp, hC, h1⟩ := hblk i B hB
    obtain ⟨hCd, ht, hw, hg, hc⟩ := h1 hBd
    rw [(piv_all hp).2] at hBn
    rw [hg, hc]; exact hm.nils p C hC hCd hBn
  · have := id_ i (by omega)
    rw [piv_at this, (piv_all this).1, (piv_all this).2]; exact hm.agr i hi
  · obtain ⟨p, hp, hp'⟩ := at_ i h2
    rw [piv_at hp]
    rcases hm.new p (by
      by_cases hc : p < K
      · have := back i p p hp (id_ p hc)
        omega
      · omega) hp' with hn | ⟨j, hj, hn⟩
    · exact .inl hn
    · exact .inr ⟨j, hj, by rw [piv_at (id_ j (by omega))]; exact hn⟩
  · refine hm.old b hb fun i hi' he => ?_
    by_cases hc : i ∈ π
    · obtain ⟨j, hj, hj'⟩ := List.getElem_of_mem hc
      exact hi j (by omega) (by rw [piv_at (List.getElem?_eq_some_iff.2 ⟨hj, hj'⟩)]; exact he)
    · by_cases hk : i < β.k
      · exact hc (List.mem_of_getElem? (id_ i (by omega)))
      · rcases hm.new i (by omega) hi' with hn | ⟨j, hj, hn⟩
        · omega
        · exact hi j (by omega) (by rw [piv_at (id_ j (by omega)), ← hn]; exact he)
  · obtain ⟨p, hp, hp'⟩ := at_ k hk
    rw [piv_at hp]; exact hm.xd i j a n c hv h0 p hp'
end
end

/-! ### runs with loops: a head each, what holds at it, what shrinks -/

structure Head where
  key : Nat
  todo : List Item
  H : Hyp
  fr : Fr
  m : Mem

/-- how many unknowns there are, from which on they are the loops' own, how many blocks are fixed -/
structure Dim where
  ni : Nat
  nb : Nat
  na : Nat
  ui : Nat
  ub : Nat
  ua : Nat
  K : Nat

/-! what the loops' own unknowns are at a place: found by laying the head's text beside what is there -/
structure So where
  s : Sg
  p : List (Nat × Nat)
def So.i (D : Dim) (o : So) : E → E → So
  | .v k, e => if D.ui ≤ k && (keyIn o.s.i k).isNone then { o with s := { o.s with i := (k, e) :: o.s.i } } else o
  | _, _ => o
def So.b (D : Dim) (o : So) : E → E → So
  | .bv k, e => if D.ub ≤ k && (keyIn o.s.b k).isNone then { o with s := { o.s with b := (k, e) :: o.s.b } } else o
  | _, _ => o
def So.a (D : Dim) (o : So) : E → E → So
  | .av k, e => if D.ua ≤ k && (keyIn o.s.a k).isNone then { o with s := { o.s with a := (k, e) :: o.s.a } } else o
  | _, _ => o
def So.at (o : So) (b c : Nat) : So := if o.p.any (fun q => q.1 == b) then o else { o with p := (b, c) :: o.p }
def So.caps (D : Dim) : So → List (Nat × E) → List (Nat × E) → So
  | o, p :: l, q :: r => So.caps D ((o.at p.1 q.1).i D p.2 q.2) l r
  | o, _, _ => o
def So.x (D : Dim) (o : So) : S → S → So
  | .int _ x, .int _ y => o.i D x y
  | .bool x, .bool y => o.b D x y
  | .ptr b x, .ptr c y => (o.at b c).i D x y
  | .slc b x l (.kn c), .slc b' x' l' (.kn c') => (((o.at b b').i D x x').i D l l').i D c c'
  | .slc b x l (.op c), .slc b' x' l' (.op c') => (((o.at b b').i D x x').i D l l').i D c c'
  | .xslc _ j x l, .xslc _ j' x' l' => ((o.i D j j').i D x x').i D l l'
  | .xptr _ j k _, .xptr _ j' k' _ => (o.i D j j').i D k k'
  | .fn _ l, .fn _ r => o.caps D l r
  | _, _ => o
def So.seg (D : Dim) (o : So) : Seg → Seg → So
  | .one x, .one y => o.x D x y
  | .run _ n A _, .run _ n' A' _ => (o.i D n n').a D A A'
  | .rows n fs _, .rows n' fs' _ => (fs.zip fs').foldl (fun o p => o.a D p.1.2 p.2.2) (o.i D n n')
  | _, _ => o
def So.segs (D : Dim) : So → List Seg → List Seg → So
  | o, p :: l, q :: r => So.segs D (o.seg D p q) l r
  | o, _, _ => o
def So.tup (D : Dim) : So → List (Bool × List Seg) → List (Bool × List Seg) → So
  | o, p :: l, q :: r => So.tup D (o.segs D p.2 q.2) l r
  | o, _, _ => o
def So.v (D : Dim) (o : So) : SV → SV → So
  | .s x, .s y => o.x D x y
  | .agg l, .agg r => o.segs D l r
  | .tup l, .tup r => o.tup D l r
  | _, _ => o
def So.fr (D : Dim) (fr : Fr) : So → Fr → So
  | o, f :: l => So.fr D fr (match look fr f.t with | some (_, y) => o.v D f.x y | none => o) l
  | o, [] => o
def So.pi (o : So) (b : Nat) : Nat := match o.p.find? (fun q => q.1 == b) with | some q => q.2 | none => b
def So.mem (D : Dim) (m : Mem) : Nat → So → Mem → So
  | b, o, B :: l => So.mem D m (b + 1) (match m[o.pi b]? with | some C => o.segs D B.segs C.segs | none => o) l
  | _, o, [] => o
def solve (D : Dim) (fr : Fr) (m : Mem) (h : Head) : So :=
  So.mem D m 0 (So.mem D m 0 (So.fr D fr ⟨⟨[], [], []⟩, (List.range D.K).map fun i => (i, i)⟩ h.fr) h.m) h.m

inductive LT where
  | ret (v : SV) (m : Mem)
  | jump (j : Nat) (todo : List Item) (σ : Sg)
  | need (c : E) (t : LT)
  | ite (c : E) (t e : LT)

def headAt (hs : List Head) (todo : List Item) : Option Nat := match todo with
  | .code c :: _ => hs.findIdx? (fun h => h.key == key c)
  | _ => none

def close (D : Dim) (hs : List Head) : Tree → Option LT
  | .ret v m => some (.ret v m)
  | .stop todo _ fr m => match headAt hs todo with
    | some j => match hs[j]? with
      | some h =>
        let o := solve D fr m h
        let π := (List.range h.m.length).map o.pi
        if agFr o.s π fr h.fr && agMem o.s D.K π m h.m && sgFit o.s D.ni D.nb D.na && decide (D.K ≤ h.m.length) then some (.jump j todo o.s) else none
      | none => none
    | none => none
  | .need c t => (close D hs t).map (.need c)
  | .ite c t e => match close D hs t, close D hs e with
    | some x, some y => some (.ite c x y)
    | _, _ => none
  | _ => none

def LT.holds (ρ : Env) (ret : SV → Mem → Prop) (jump : Nat → List Item → Env → Prop) : LT → Prop
  | .ret v m => ret v m
  | .jump j todo σ => jump j todo (ρ.app σ)
  | .need c t => c.b ρ = true ∧ (c.b ρ = true → t.holds ρ ret jump)
  | .ite c t e => (c.b ρ = true → t.holds ρ ret jump) ∧ (c.b ρ = false → e.holds ρ ret jump)

theorem LT.holds_imp {ρ : Env} {r r' : SV → Mem → Prop} {g g' : Nat → List Item → Env → Prop} (hr : ∀ v m, r v m → r' v m) (hg : ∀ j t e, g j t e → g' j t e) : ∀ {t : LT}, t.holds ρ r g → t.holds ρ r' g'
  | .ret _ _, h => hr _ _ h
  | .jump _ _ _, h => hg _ _ _ h
  | .need _ _, h => ⟨h.1, fun hc => LT.holds_imp hr hg (h.2 hc)⟩
  | .ite _ _ _, h => ⟨fun hc => LT.holds_imp hr hg (h.1 hc), fun hc => LT.holds_imp hr hg (h.2 hc)⟩

/-- the rest behind the first stop at a loop -/
def stopAt (k : Nat) : Tree → Option (List Item)
  | .stop (.code c :: r) _ _ _ => if key c = k then some (.code c :: r) else none
  | .need _ t => stopAt k t
  | .ite _ t e => (stopAt k t).orElse fun _ => stopAt k e
  | _ => none

section
variable {P : Program} {f : FuncId} {fn : Func} {R : Ending → World → Prop} {ρ : Env} {β : Base} {n : Nat} {D : Dim} {hs : List Head} {Γ : Ctx} {I : Interp}

def GoesAt (P : Program) (f : FuncId) (R : Ending → World → Prop) (β : Base) (n : Nat) (h : Head) (ρ : Env) : Prop :=
  ∀ ι a w, FRep ρ ι n h.fr a → MRep ρ β ι h.m w → Goes P f R h.todo a w

theorem close_ok (hK : β.k ≤ D.K) (hz : Sized ρ D.ni D.nb D.na) : ∀ {t : Tree} {lt : LT}, close D hs t = some lt →
    lt.holds ρ (fun v m => ∀ ι w, MRep ρ β ι m w → R (.returned (v.conc ρ ι)) w) (fun j todo ρ' => ∃ h, hs[j]? = some h ∧ todo = h.todo ∧ GoesAt P f R β n h ρ') → t.holds P f R ρ β n [] := by
  intro t
  induction t with
  | ret v m =>
    intro lt h hl
    simp only [close, Option.some.injEq] at h; subst h
    exact hl
  | stop todo H fr m =>
    intro lt h hl
    simp only [close] at h
    split at h
    · rename_i j hj
      split at h
      · rename_i hd hhd
        split at h
        · rename_i hc
          simp only [Bool.and_eq_true, decide_eq_true_eq] at hc
          simp only [Option.some.injEq] at h; subst h
          obtain ⟨h', hh', ht, hg⟩ := hl
          rw [hhd] at hh'
          simp only [Option.some.injEq] at hh'; subst hh'
          subst ht
          exact fun _ ι a w hf hm => hg _ a w (agFr_ok hz hc.1.2 hc.1.1.1 hf) (agMem_ok hz hc.1.2 hK hc.2 hc.1.1.2 hm)
        · cases h
      · cases h
    · cases h
  | need c t ih =>
    intro lt h hl
    simp only [close, Option.map_eq_some_iff] at h
    obtain ⟨x, hx, rfl⟩ := h
    exact ⟨hl.1, fun hc => ih hx (hl.2 hc)⟩
  | ite c t e iht ihe =>
    intro lt h hl
    simp only [close] at h
    split at h
    · rename_i x y hx hy
      simp only [Option.some.injEq] at h; subst h
      exact ⟨fun hc => iht hx (hl.1 hc), fun hc => ihe hy (hl.2 hc)⟩
    · cases h
  | again => intro lt h; simp [close] at h
  | fail => intro lt h; simp [close] at h

theorem floyd {hc' : HintCtx} (hΓ : CtxOK P I Γ) (hP : P.follows .mixedOrders = true) (hfn : P.funcs[f]? = some fn) (hK : β.k ≤ D.K) {k u : Nat} {cut : List Nat} {Inv : Nat → Env → Prop} {μ : Nat → Env → Nat}
    (hseg : ∀ j h ρ, hs[j]? = some h → ρ.I = I → Sized ρ D.ni D.nb D.na → Inv j ρ → h.H.ok ρ ∧ ∃ lt, close D hs (run P Γ hc' fn n cut k u none h.todo h.H h.fr h.m) = some lt ∧
      lt.holds ρ (fun v m => ∀ ι w, MRep ρ β ι m w → R (.returned (v.conc ρ ι)) w) (fun j' todo ρ' => (∃ h', hs[j']? = some h' ∧ todo = h'.todo) ∧ Inv j' ρ' ∧ μ j' ρ' < μ j ρ)) :
    ∀ N j h ρ, μ j ρ < N → hs[j]? = some h → ρ.I = I → Sized ρ D.ni D.nb D.na → Inv j ρ → GoesAt P f R β n h ρ := by
  intro N
  induction N with
  | zero => intro j h ρ hN; omega
  | succ N ih =>
    intro j h ρ hN hj hI hz hInv ι a w hf hm
    obtain ⟨hH, lt, hcl, hl⟩ := hseg j h ρ hj hI hz hInv
    have := run_ok (R := R) (bs := []) (cut := cut) hΓ hI hP hfn k u none h.todo h.H h.fr h.m ι a w (close_ok (R := R) (n := n) hK hz hcl ?_) (fun _ hb => by cases hb) hH hf hm
    · simpa using this
    · have key : ∀ (t : LT), t.holds ρ (fun v m => ∀ ι w, MRep ρ β ι m w → R (.returned (v.conc ρ ι)) w) (fun j' todo ρ' => (∃ h', hs[j']? = some h' ∧ todo = h'.todo) ∧ Inv j' ρ' ∧ μ j' ρ' < μ j ρ) →
          t.holds ρ (fun v m => ∀ ι w, MRep ρ β ι m w → R (.returned (v.conc ρ ι)) w) (fun j todo ρ' => ∃ h, hs[j]? = some h ∧ todo = h.todo ∧ GoesAt P f R β n h ρ') := by
        intro t
        induction t with
        | ret v m => exact fun h => h
        | jump j' todo σ =>
          intro h
          obtain ⟨⟨h', hh, ht⟩, h2, h3⟩ := h
          exact ⟨h', hh, ht, ih j' h' _ (by omega) hh (by simpa [Env.app] using hI) hz.app h2⟩
        | need c t ih => exact fun h => ⟨h.1, fun hc => ih (h.2 hc)⟩
        | ite c t e i1 i2 => exact fun h => ⟨fun hc => i1 (h.1 hc), fun hc => i2 (h.2 hc)⟩
      exact key lt hl

/-- a call of a function with loops -/
theorem floyd_calls {hc' : HintCtx} (hΓ : CtxOK P I Γ) (hP : P.follows .mixedOrders = true) (hfn : P.funcs[f]? = some fn) (hK : β.k ≤ D.K) {c : Code} (hc : fn.body = some c) {k u : Nat} {cut : List Nat} {Inv : Nat → Env → Prop} (μ : Nat → Env → Nat)
    {H : Hyp} {l : List SV} {m : Mem} {ι : Loc} {w : World} {lt : LT} (hl : l.length ≤ fn.ntmps)
    (hrun : close D hs (run P Γ hc' fn fn.ntmps cut k u none [.code c] H (frameOf l) m) = some lt)
    (hI : ρ.I = I) (hz : Sized ρ D.ni D.nb D.na) (hH : H.ok ρ) (hm : MRep ρ β ι m w)
    (hlt : lt.holds ρ (fun v m => ∀ ι w, MRep ρ β ι m w → R (.returned (v.conc ρ ι)) w) (fun j' todo ρ' => (∃ h', hs[j']? = some h' ∧ todo = h'.todo) ∧ Inv j' ρ'))
    (hseg : ∀ j h ρ, hs[j]? = some h → ρ.I = I → Sized ρ D.ni D.nb D.na → Inv j ρ → h.H.ok ρ ∧ ∃ lt, close D hs (run P Γ hc' fn fn.ntmps cut k u none h.todo h.H h.fr h.m) = some lt ∧
      lt.holds ρ (fun v m => ∀ ι w, MRep ρ β ι m w → R (.returned (v.conc ρ ι)) w) (fun j' todo ρ' => (∃ h', hs[j']? = some h' ∧ todo = h'.todo) ∧ Inv j' ρ' ∧ μ j' ρ' < μ j ρ)) :
    Calls P f (l.map (SV.conc ρ ι)).toArray w R := by
  refine run_calls hΓ hI hP hfn hc hl (close_ok (n := fn.ntmps) hK hz hrun ?_) hH hm
  have key : ∀ (t : LT), t.holds ρ (fun v m => ∀ ι w, MRep ρ β ι m w → R (.returned (v.conc ρ ι)) w) (fun j' todo ρ' => (∃ h', hs[j']? = some h' ∧ todo = h'.todo) ∧ Inv j' ρ') →
      t.holds ρ (fun v m => ∀ ι w, MRep ρ β ι m w → R (.returned (v.conc ρ ι)) w) (fun j todo ρ' => ∃ h, hs[j]? = some h ∧ todo = h.todo ∧ GoesAt P f R β fn.ntmps h ρ') := by
    intro t
    induction t with
    | ret v m => exact fun h => h
    | jump j' todo σ =>
      intro h
      obtain ⟨⟨h', hh, ht⟩, h2⟩ := h
      exact ⟨h', hh, ht, floyd hΓ hP hfn hK hseg _ j' h' _ (Nat.lt_succ_self _) hh (by simpa [Env.app] using hI) hz.app h2⟩
    | need c t ih => exact fun h => ⟨h.1, fun hc => ih (h.2 hc)⟩
    | ite c t e i1 i2 => exact fun h => ⟨fun hc => i1 (h.1 hc), fun hc => i2 (h.2 hc)⟩
  exact key lt hlt
end

/-! ### a law whose own function has loops -/

def startL (P : Program) (Γ : Ctx) (hc' : HintCtx) (D : Dim) (hs : List Head) (cut : List Nat) (k u : Nat) (f : FuncId) (H : Hyp) (l : List SV) (m : Mem) : Option LT := match P.funcs[f]? with
  | some fn => match fn.body with
    | some c => if l.length ≤ fn.ntmps then close D hs (run P Γ hc' fn fn.ntmps cut k u none [.code c] H (frameOf l) m) else none
    | none => none
  | none => none
def segL (P : Program) (Γ : Ctx) (hc' : HintCtx) (D : Dim) (hs : List Head) (cut : List Nat) (k u : Nat) (f : FuncId) (h : Head) : Option LT := match P.funcs[f]? with
  | some fn => close D hs (run P Γ hc' fn fn.ntmps cut k u none h.todo h.H h.fr h.m)
  | none => none
/-- where the run from the start first stops at a loop; where the run from a head does -/
def todoS (P : Program) (Γ : Ctx) (hc' : HintCtx) (cut : List Nat) (k u : Nat) (f : FuncId) (H : Hyp) (l : List SV) (m : Mem) (key : Nat) : List Item := match P.funcs[f]? with
  | some fn => match fn.body with
    | some c => (stopAt key (run P Γ hc' fn fn.ntmps cut k u none [.code c] H (frameOf l) m)).getD []
    | none => []
  | none => []
def todoH (P : Program) (Γ : Ctx) (hc' : HintCtx) (cut : List Nat) (k u : Nat) (f : FuncId) (h : Head) (key : Nat) : List Item := match P.funcs[f]? with
  | some fn => (stopAt key (run P Γ hc' fn fn.ntmps cut k u none h.todo h.H h.fr h.m)).getD []
  | none => []

def retTrue (ρ : Env) (v : SV) : Prop := match v with
  | .s (.bool e) => e.b ρ = true
  | _ => False

section
variable {P : Program} {f : FuncId} {ρ : Env} {D : Dim} {hs : List Head} {Γ : Ctx} {I : Interp}
theorem MRep.below0 {w w' : World} {ι ι' : Loc} {m : Mem} (h : MRep ρ ⟨w, 0, ι⟩ ι' m w') : RowKit.Below w.heap.size w w' :=
  ⟨h.os, h.tape, h.output, h.size, fun k hk => h.old k hk fun i hi he => by
    rcases h.new i (Nat.zero_le _) hi with h1 | ⟨j, hj, _⟩
    · simp only at h1; omega
    · exact absurd hj (Nat.not_lt_zero _)⟩

theorem calls_loops {β : Base} {R : Ending → World → Prop} {hc' : HintCtx} (hΓ : CtxOK P I Γ) (hP : P.follows .mixedOrders = true) (hK : β.k ≤ D.K) {k u : Nat} {cut : List Nat} (Inv : Nat → Env → Prop) (μ : Nat → Env → Nat) (ret : Env → SV → Mem → Prop)
    {H : Hyp} {l : List SV} {m : Mem} {ι : Loc} {w : World} {lt : LT}
    (hret : ∀ ρ v m, ρ.I = I → ret ρ v m → ∀ ι w, MRep ρ β ι m w → R (.returned (v.conc ρ ι)) w)
    (hrun : startL P Γ hc' D hs cut k u f H l m = some lt) (hm : MRep ρ β ι m w)
    (hI : ρ.I = I) (hz : Sized ρ D.ni D.nb D.na) (hH : H.ok ρ) (hlt : lt.holds ρ (ret ρ) (fun j' todo ρ' => (hs[j']?.map (·.todo)) = some todo ∧ Inv j' ρ'))
    (hseg : ∀ j h ρ, hs[j]? = some h → ρ.I = I → Sized ρ D.ni D.nb D.na → Inv j ρ → h.H.ok ρ ∧ ∃ lt, segL P Γ hc' D hs cut k u f h = some lt ∧
      lt.holds ρ (ret ρ) (fun j' todo ρ' => (hs[j']?.map (·.todo)) = some todo ∧ Inv j' ρ' ∧ μ j' ρ' < μ j ρ)) :
    Calls P f (l.map (SV.conc ρ ι)).toArray w R := by
  unfold startL at hrun
  split at hrun
  · rename_i fn hfn
    split at hrun
    · rename_i c hc
      split at hrun
      · rename_i hl
        have conv : ∀ {todo : List Item} {j : Nat}, (hs[j]?.map (·.todo)) = some todo → ∃ h', hs[j]? = some h' ∧ todo = h'.todo := by
          intro todo j h
          simp only [Option.map_eq_some_iff] at h
          obtain ⟨h', h1, h2⟩ := h
          exact ⟨h', h1, h2.symm⟩
        refine floyd_calls hΓ hP hfn hK hc μ hl hrun hI hz hH hm (LT.holds_imp (hret ρ · · hI) (fun j todo ρ' h => ⟨conv h.1, h.2⟩) hlt) fun j h ρ' hj hI' hz' hInv => ?_
        obtain ⟨h1, lt', h2, h3⟩ := hseg j h ρ' hj hI' hz' hInv
        refine ⟨h1, lt', ?_, LT.holds_imp (hret ρ' · · hI') (fun j todo ρ' h => ⟨conv h.1, h.2⟩) h3⟩
        simpa only [segL, hfn] using h2
      · cases hrun
    · cases hrun
  · cases hrun

theorem law_loops {hc' : HintCtx} (hΓ : CtxOK P I Γ) (hP : P.follows .mixedOrders = true) (hK : D.K = 0) {k u : Nat} {cut : List Nat} (Inv : Nat → Env → Prop) (μ : Nat → Env → Nat)
    {H : Hyp} {l : List SV} {lt : LT} (hrun : startL P Γ hc' D hs cut k u f H l [] = some lt)
    (hI : ρ.I = I) (hz : Sized ρ D.ni D.nb D.na) (hH : H.ok ρ) (hlt : lt.holds ρ (fun v _ => retTrue ρ v) (fun j' todo ρ' => (hs[j']?.map (·.todo)) = some todo ∧ Inv j' ρ'))
    (hseg : ∀ j h ρ, hs[j]? = some h → ρ.I = I → Sized ρ D.ni D.nb D.na → Inv j ρ → h.H.ok ρ ∧ ∃ lt, segL P Γ hc' D hs cut k u f h = some lt ∧
      lt.holds ρ (fun v _ => retTrue ρ v) (fun j' todo ρ' => (hs[j']?.map (·.todo)) = some todo ∧ Inv j' ρ' ∧ μ j' ρ' < μ j ρ)) (w : World) (hx : ∀ i j, (ρ.I.xs i j).ok w) :
    Calls P f (l.map (SV.conc ρ Loc.id)).toArray w fun r w' => r = .returned (.bool true) ∧ RowKit.Below w.heap.size w w' := by
  refine calls_loops (β := ⟨w, 0, Loc.id⟩) hΓ hP (by simp [hK]) Inv μ (fun ρ v _ => retTrue ρ v) (fun ρ v m _ hr ι w' hm => ?_) hrun (MRep.empty hx Loc.id) hI hz hH hlt hseg
  unfold retTrue at hr
  split at hr
  · exact ⟨by simp [SV.conc, S.conc, hr], hm.below0⟩
  · cases hr
end

/-! ### slices that came in, opened -/
structure XFit (x : Ext) (w : World) (ks : List (Option IntKind)) : Prop where
  ok : x.ok w
  sz : x.sz = ks.length
  fit : ∀ k f kd, k < x.n → ks[f]? = some kd → Fit kd (x.cell (k * ks.length + f))
  len : x.n ≤ maxLen
def numV : Value → Int
  | .int _ z => z
  | .bool b => if b then 1 else 0
  | _ => 0
/-- a field of all elements -/
def xArr (x : Ext) (s f : Nat) : Nat → Int := fun k => if k < x.n then numV (x.cell (k * s + f)) else 0
theorem mapM_at {α β : Type} {f : α → Option β} : ∀ {l : List α} {r : List β}, l.mapM f = some r → ∀ (i : Nat) (x : α), l[i]? = some x → ∃ y, f x = some y ∧ r[i]? = some y
  | [], r, h, i, x, hx => by simp at hx
  | a :: l, r, h, i, x, hx => by
    rw [List.mapM_cons, Option.bind_eq_bind, Option.bind_eq_some_iff] at h
    obtain ⟨y, hy, h⟩ := h
    rw [Option.bind_eq_bind, Option.bind_eq_some_iff] at h
    obtain ⟨ys, hys, h⟩ := h
    simp only [Option.pure_def, Option.some.injEq] at h
    subst h
    cases i with
    | zero => simp only [List.getElem?_cons_zero, Option.some.injEq] at hx; subst hx; exact ⟨y, hy, rfl⟩
    | succ i => simpa using mapM_at hys i x (by simpa using hx)
section
variable {H : Type} {enc : TypeId × Value → H} {P : Program} {w : World} {base : Nat} {spare : Nat → Bool} {held : Bool}
theorem open_xslc {t e : TypeId} (ks : List (Option IntKind)) (dep : Nat) (ht : P.underlying t = some (.slice e)) (hk : (List.range ks.length).all (fun i => decide (kindAt P dep e i = ks[i]?)) = true) (hsz : P.cellsOf e = ks.length) (hpos : 0 < ks.length)
    {fuel : Nat} {cs : List Value} {y : DataW H × List MemPlace} (h : DataW.trod enc P w base spare held fuel t cs = some y) : ∃ x : Ext, cs = [x.v] ∧ XFit x w ks := by
  rcases Go.Deep.open_slice ht h with ⟨rfl, _⟩ | ⟨a, len, cap, mm, nn, Dd, Pl, rfl, hb, hl, hm, hmm, _, hel0⟩
  · exact ⟨⟨.slice none 0 0, 0, ks.length, fun _ => Go.undef⟩, rfl, ⟨⟨none, 0, rfl, Nat.le_refl _, fun _ => ⟨rfl, rfl⟩, fun a ha => by cases ha⟩, rfl, fun k f kd hk => absurd hk (Nat.not_lt_zero _), Nat.zero_le _⟩⟩
  · have hle : len ≤ mm := by rw [hmm]; split <;> omega
    have hel : ∀ i, i < len → ∃ cs', w.cells? base (a.add (i * ks.length)) ks.length = some cs' ∧ ∃ z, DataW.trod enc P w base spare held nn e cs' = some z := by
      intro i hi
      obtain ⟨cs', h1, h2⟩ := hel0 i (by omega)
      rw [hsz] at h1
      exact ⟨cs', h1, _, h2⟩
    have hcell : ∀ i f, i < len → f < ks.length → ∃ v kd, w.cell? (a.add (i * ks.length + f)) = some v ∧ ks[f]? = some kd ∧ Fit kd v := by
      intro i f hi hf
      obtain ⟨cs', h1, z, h2⟩ := hel i hi
      have hkf := of_decide_eq_true (List.all_eq_true.1 hk f (by simpa using hf))
      rw [List.getElem?_eq_getElem hf] at hkf
      obtain ⟨v, hv, hfit⟩ := kind_ok dep e f _ nn cs' z hkf h2
      unfold World.cells? at h1
      split at h1
      · obtain ⟨v', h4, h5⟩ := mapM_at h1 f f (by simp [hf])
        rw [hv] at h5; cases h5
        exact ⟨v, ks[f], by rw [← add_add]; exact h4, List.getElem?_eq_getElem hf, hfit⟩
      · cases h1
    refine ⟨⟨.slice (some a) len cap, len, ks.length, fun k => ((w.cell? (a.add k)).getD Go.undef)⟩, rfl, ⟨⟨some a, cap, rfl, hl, fun h => by (cases h), fun a' ha' k hk' => ?_⟩, rfl, fun k f kd hk' hf => ?_, Nat.le_trans hl hm⟩⟩
    · simp only [Option.some.injEq] at ha'; subst ha'
      have hk2 : k < len * ks.length := hk'
      obtain ⟨v, kd, h1, _, _⟩ := hcell (k / ks.length) (k % ks.length) (Nat.div_lt_of_lt_mul (by rw [Nat.mul_comm]; exact hk2)) (Nat.mod_lt _ hpos)
      rw [Nat.div_add_mod'] at h1
      refine ⟨?_, by simp [h1]⟩
      unfold World.cell? at h1
      have hb : (a.add k).block = a.block := by unfold Addr.add; split <;> rfl
      rw [hb] at h1
      split at h1
      · rename_i hh; exact heap_lt hh
      · cases h1
    · have hf' : f < ks.length := (List.getElem?_eq_some_iff.1 hf).1
      obtain ⟨v, kd', h1, h2, h3⟩ := hcell k f hk' hf'
      rw [hf] at h2; cases h2
      simp only [h1, Option.getD_some]; exact h3
theorem trod_struct {t : TypeId} {fs : Array Field} (ht : P.underlying t = some (.struct fs)) {fuel : Nat} {cs : List Value} {y : DataW H × List MemPlace} (h : DataW.trod enc P w base spare held fuel t cs = some y) :
    cs.length = P.cellsOf t ∧ ∀ (j : Nat) (f : Field), fs[j]? = some f → ∃ fuel' z, DataW.trod enc P w base spare held fuel' f.type ((cs.drop f.offset).take (P.cellsOf f.type)) = some z := by
  cases fuel with
  | zero => simp [DataW.trod] at h
  | succ fuel =>
    unfold DataW.trod at h
    rw [ht] at h
    simp only at h
    split at h
    · rename_i hc
      refine ⟨hc, fun j f hj => ?_⟩
      rw [Option.map_eq_some_iff] at h
      obtain ⟨xs, hx, _⟩ := h
      obtain ⟨z, hz, _⟩ := mapM_at hx j f (by simpa using hj)
      exact ⟨fuel, z, hz⟩
    · cases h
/-- a struct of three slices of numbers -/
theorem open_slc {W : World} {b0 : Nat} {r : Reach} {t e : TypeId} {v : Value} {d : DataW H} {p : List MemPlace} (ks : List (Option IntKind)) (dep : Nat) (ht : P.underlying t = some (.slice e)) (hk : (List.range ks.length).all (fun i => decide (kindAt P dep e i = ks[i]?)) = true) (hsz : P.cellsOf e = ks.length) (hpos : 0 < ks.length)
    (hv : Value.okWide P W r b0 t v) (hd : DataW.Trod enc P w base spare held t v d p) : ∃ x : Ext, v = x.v ∧ XFit x w ks := by
  obtain ⟨fuel, hf⟩ := hd
  obtain ⟨x, hx, hfit⟩ := open_xslc ks dep ht hk hsz hpos hf
  refine ⟨x, ?_, hfit⟩
  cases v with
  | agg cs =>
    exfalso
    unfold Value.okWide at hv
    rw [ht] at hv
    simp only [Cell.okWide, ht, Cell.ok] at hv
  | _ =>
    simp only [Value.cells, List.cons.injEq, and_true] at hx
    exact hx
theorem open_rows {W : World} {b0 : Nat} {r : Reach} {t : TypeId} {v : Value} {d : DataW H} {p : List MemPlace} {f0 f1 f2 : Field} {e0 e1 e2 : TypeId} {k0 k1 k2 : Option IntKind} (dep : Nat)
    (ht : P.underlying t = some (.struct #[f0, f1, f2])) (hsz : P.cellsOf t = 3) (ho : f0.offset = 0 ∧ f1.offset = 1 ∧ f2.offset = 2)
    (hs0 : P.underlying f0.type = some (.slice e0)) (hs1 : P.underlying f1.type = some (.slice e1)) (hs2 : P.underlying f2.type = some (.slice e2))
    (hc : P.cellsOf f0.type = 1 ∧ P.cellsOf f1.type = 1 ∧ P.cellsOf f2.type = 1) (he : P.cellsOf e0 = 1 ∧ P.cellsOf e1 = 1 ∧ P.cellsOf e2 = 1)
    (hk : kindAt P dep e0 0 = some k0 ∧ kindAt P dep e1 0 = some k1 ∧ kindAt P dep e2 0 = some k2)
    (hv : Value.okWide P W r b0 t v) (hd : DataW.Trod enc P w base spare held t v d p) : ∃ x0 x1 x2 : Ext, v = .agg #[x0.v, x1.v, x2.v] ∧ XFit x0 w [k0] ∧ XFit x1 w [k1] ∧ XFit x2 w [k2] := by
  obtain ⟨cs, rfl, hcs, _⟩ : ∃ cs, v = .agg cs ∧ cs.size = P.cellsOf t ∧ Row.okWide P W r b0 t cs := by
    unfold Value.okWide at hv; rw [ht] at hv; exact hv
  obtain ⟨fuel, hf⟩ := hd
  obtain ⟨h1, h2⟩ := trod_struct ht hf
  have one : ∀ {e : TypeId} {k : Option IntKind}, kindAt P dep e 0 = some k → (List.range [k].length).all (fun i => decide (kindAt P dep e i = [k][i]?)) = true := by
    intro e k h
    rw [List.all_eq_true]
    intro i hi
    have : i = 0 := by simpa using hi
    subst this
    simp [h]
  obtain ⟨g0, z0, t0⟩ := h2 0 f0 rfl
  obtain ⟨g1, z1, t1⟩ := h2 1 f1 rfl
  obtain ⟨g2, z2, t2⟩ := h2 2 f2 rfl
  obtain ⟨x0, q0, y0⟩ := open_xslc [k0] dep hs0 (one hk.1) he.1 (by simp) t0
  obtain ⟨x1, q1, y1⟩ := open_xslc [k1] dep hs1 (one hk.2.1) he.2.1 (by simp) t1
  obtain ⟨x2, q2, y2⟩ := open_xslc [k2] dep hs2 (one hk.2.2) he.2.2 (by simp) t2
  refine ⟨x0, x1, x2, ?_, y0, y1, y2⟩
  rw [ho.1, hc.1] at q0
  rw [ho.2.1, hc.2.1] at q1
  rw [ho.2.2, hc.2.2] at q2
  obtain ⟨l⟩ := cs
  simp only [List.size_toArray, hsz] at hcs
  match l, hcs with
  | [a, b, c], _ =>
    simp only [Value.cells, List.drop_zero, List.take_succ_cons, List.take_zero, List.drop_succ_cons, List.cons.injEq, and_true] at q0 q1 q2
    rw [q0, q1, q2]
end
theorem cons_eq {α : Type} {a b : α} {l r : List α} (h : a = b) (h' : l = r) : a :: l = b :: r := by rw [h, h']
theorem conc_ext {ρ : Env} {ι : Loc} {i n : Nat} {x : Ext} {w : World} {ks : List (Option IntKind)} (g : XFit x w ks) (h1 : ρ.I.xs i 0 = x) (h2 : ρ.i.getD n 0 = x.n) : SV.conc ρ ι (.s (.xslc i (.lit 0) (.lit 0) (.v n))) = x.v := by
  obtain ⟨b, c, e1, _⟩ := g.ok.ok
  simp only [SV.conc, S.conc, i_lit, i_v, Int.toNat_zero, h1, h2, Int.toNat_natCast, Ext.sub, e1, Nat.zero_mul, Nat.sub_zero]
  congr 1
  cases b <;> simp [Addr.add]
theorem rows_eq {ρ : Env} {ι : Loc} {a b c : S} {va vb vc : Value} (ha : SV.conc ρ ι (.s a) = va) (hb : SV.conc ρ ι (.s b) = vb) (hc : SV.conc ρ ι (.s c) = vc) : SV.conc ρ ι (.agg [.one a, .one b, .one c]) = .agg #[va, vb, vc] := by
  subst ha; subst hb; subst hc; rfl
/-- what is known of a slice that came in, by its unknowns -/
theorem xi_ok {ρ : Env} {i a n : Nat} {x : Ext} {w : World} {k : IntKind} (hx : XFit x w [some k]) (h1 : ρ.I.xs i 0 = x) (h2 : ρ.i.getD n 0 = x.n) (h3 : (ρ.a.getD a fun _ => 0) = xArr x 1 0) : XI.ok ρ i ⟨.v n, [(some k, .av a)]⟩ := by
  refine ⟨by simp only [i_v, h2]; omega, by simp only [i_v, h1, h2]; omega, by rw [h1, hx.sz]; rfl, by simp, fun q hq f d hf => ?_⟩
  simp only [i_v, h2] at hq
  have hq : q < x.n := by omega
  cases f with
  | zero =>
    simp only [List.getElem?_cons_zero, Option.some.injEq] at hf; subst hf
    obtain ⟨z, hz, _⟩ := hx.fit q 0 _ hq rfl
    simp only [List.length_singleton, Nat.mul_one, Nat.add_zero] at hz
    simp only [List.length_singleton, Nat.mul_one, Nat.add_zero, h1, hz, XF.conc, a_av, h3, xArr, if_pos hq, numV]
  | succ f => simp at hf
theorem xArr_rng {x : Ext} {w : World} {k : IntKind} (hx : XFit x w [some k]) (j : Nat) : inR (krng k) (xArr x 1 0 j) := by
  unfold xArr
  split
  · rename_i h
    obtain ⟨z, hz, hr⟩ := hx.fit j 0 _ h rfl
    simp only [List.length_singleton, Nat.mul_one, Nat.add_zero] at hz
    simp only [Nat.mul_one, Nat.add_zero, hz, numV]; exact hr
  · cases k <;> simp [inR, krng, kmin, kmax]
theorem xlen_rng {x : Ext} {w : World} {ks : List (Option IntKind)} (hx : XFit x w ks) : inR (0, 9223372036854775807) (x.n : Int) := by
  have := hx.len
  unfold maxLen at this
  simp only [inR]; omega

/-! ### a call that makes one block of its own, seen from a larger memory -/
theorem MRep.join {ρ ρ' : Env} {β : Base} {ι ι0 ι' : Loc} {m : Mem} {w w' : World} {B B' : Blk} (hm : MRep ρ β ι m w) (h' : MRep ρ' ⟨w, 0, ι0⟩ ι' [B'] w') (hs : m.all (fun B => B.segs.all (Seg.sc m.length)) = true) (hs' : B.segs.all (Seg.sc m.length) = true)
    (hc : cellsOf ρ ι B.segs = cellsOf ρ' ι' B'.segs) (hB : B.ty = B'.ty ∧ B.wr = B'.wr ∧ B.grow = none ∧ B'.grow = none ∧ B.dead = false ∧ B'.dead = false) : MRep ρ β (updL ι m.length (ι' 0) 0 false) (m ++ [B]) w' := by
  obtain ⟨e1, e2, e3, e4, e5, e6⟩ := hB
  have hnil : ι'.nil 0 = false := by
    cases h : ι'.nil 0 with
    | false => rfl
    | true => have := (h'.nils 0 B' rfl e6 h).1; rw [e4] at this; cases this
  have hge : w.heap.size ≤ ι' 0 := (h'.new 0 (Nat.zero_le _) (by simp)).resolve_right (fun ⟨j, hj, _⟩ => absurd hj (Nat.not_lt_zero _))
  refine hm.push B (ι' 0) 0 false hs hs' (fun b hb => h'.old b hb fun i hi => ?_) h'.size h'.os h'.tape h'.output hge (fun _ _ => ?_) (fun _ h => by cases h)
  · have : i = 0 := by simpa using hi
    subst this; omega
  · obtain ⟨fz, rest, h1, h2, h3, h4⟩ := h'.blk 0 B' rfl e6 hnil
    rw [h4 e4, List.append_nil] at h1
    refine ⟨fz, [], by rw [hc, e1, List.append_nil]; exact h1, by rw [e2]; exact h2, ?_, fun _ => rfl⟩
    intro sz h
    rw [e3] at h; cases h

/-! ### a function that only reckons with numbers -/
theorem call_val {P : Program} {I : Interp} {Γ : Ctx} {f : FuncId} {H : Hyp} {ρ : Env} (hΓ : CtxOK P I Γ) (hP : P.follows .mixedOrders = true) {k u : Nat} {l : List SV} {nd : List E} {v : SV} {hc' : HintCtx} (h : enter P Γ hc' k u f H l [] = some (nd, v, none))
    (hI : ρ.I = I) (hH : H.ok ρ) (hn : allN ρ nd) (w : World) (hx : ∀ i j, (ρ.I.xs i j).ok w) :
    Calls P f (l.map (SV.conc ρ Loc.id)).toArray w fun r w' => r = .returned (v.conc ρ Loc.id) ∧ RowKit.Below w.heap.size w w' :=
  ((enter_ok hΓ hP k u).ok H l [] nd _ none h ρ ⟨w, 0, Loc.id⟩ Loc.id w hI hH hn (MRep.empty hx Loc.id)).mono fun r w' hr => ⟨hr.1, hr.2.toBelow⟩
def intArgs : List IntKind → List SV → Option (List E)
  | [], [] => some []
  | k :: ks, .s (.int k' e) :: l => if k = k' then (intArgs ks l).map (e :: ·) else none
  | _, _ => none
def intVals : List IntKind → List Int → List Value
  | k :: ks, z :: zs => .int k z :: intVals ks zs
  | _, _ => []
def fitsI : List IntKind → List Int → Prop
  | k :: ks, z :: zs => inR (krng k) z ∧ fitsI ks zs
  | [], [] => True
  | _, _ => False
def PureOK (P : Program) (F : FuncId) (ks : List IntKind) (kr : IntKind) (D : List Int → Prop) (G : List Int → Int) : Prop :=
  ∀ zs w, fitsI ks zs → D zs → Calls P F (intVals ks zs).toArray w fun e w' => e = .returned (.int kr (G zs)) ∧ RowKit.Below w.heap.size w w'
def withinAll (H : Hyp) : List IntKind → List E → Bool
  | k :: ks, e :: es => within H k e && withinAll H ks es
  | [], [] => true
  | _, _ => false
def specI (ks : List IntKind) (kr : IntKind) (dom : Hyp → List E → Bool) (g : Hyp → List E → E) : Spec := fun H l _ => match intArgs ks l with
  | some es => if withinAll H ks es && dom H es then some ([], .s (.int kr (g H es)), none) else none
  | none => none
theorem intArgs_ok {ρ : Env} {ι : Loc} : ∀ {ks : List IntKind} {l : List SV} {es : List E}, intArgs ks l = some es → l.map (SV.conc ρ ι) = intVals ks (es.map (E.i ρ))
  | [], [], es, h => by simp only [intArgs, Option.some.injEq] at h; subst h; rfl
  | [], _ :: _, es, h => by simp [intArgs] at h
  | k :: ks, [], es, h => by simp [intArgs] at h
  | k :: ks, x :: l, es, h => by
    unfold intArgs at h
    split at h
    · contradiction
    · rename_i k1 ks1 k' e l1 h1 h2
      cases h1; cases h2
      split at h
      · rename_i hk; subst hk
        simp only [Option.map_eq_some_iff] at h
        obtain ⟨es', he, rfl⟩ := h
        simp only [List.map_cons, intVals, intArgs_ok he]; rfl
      · cases h
    · cases h
theorem withinAll_ok {ρ : Env} {H : Hyp} (hH : H.ok ρ) : ∀ {ks : List IntKind} {es : List E}, withinAll H ks es = true → fitsI ks (es.map (E.i ρ))
  | [], [], _ => trivial
  | [], _ :: _, h => by simp [withinAll] at h
  | _ :: _, [], h => by simp [withinAll] at h
  | k :: ks, e :: es, h => by
    simp only [withinAll, Bool.and_eq_true] at h
    exact ⟨within_ok hH h.1, withinAll_ok hH h.2⟩
theorem specI_ok {P : Program} {I : Interp} {F : FuncId} {ks : List IntKind} {kr : IntKind} {D : List Int → Prop} {G : List Int → Int} {dom : Hyp → List E → Bool} {g : Hyp → List E → E} (h : PureOK P F ks kr D G)
    (hg : ∀ H ρ es, H.ok ρ → dom H es = true → fitsI ks (es.map (E.i ρ)) → D (es.map (E.i ρ)) ∧ (g H es).i ρ = G (es.map (E.i ρ))) : SpecOK P I F (specI ks kr dom g) := by
  constructor
  intro H l m nd v om hs ρ β ι w hI hH hn hm
  unfold specI at hs
  split at hs
  · rename_i es he
    split at hs
    · rename_i hc
      simp only [Bool.and_eq_true] at hc
      simp only [Option.some.injEq, Prod.mk.injEq] at hs
      obtain ⟨rfl, rfl, rfl⟩ := hs
      have hf := withinAll_ok hH hc.1
      obtain ⟨hD, hGv⟩ := hg H ρ es hH hc.2 hf
      rw [intArgs_ok he]
      exact (h _ w hf hD).mono fun e w' ⟨e1, e2⟩ => ⟨by rw [e1]; simp only [SV.conc, S.conc, hGv], hm.below e2⟩
    · cases hs
  · cases hs
/-! ### a function without arguments that says true -/
def trueSpec : Spec := fun _ l _ => match l with
  | [] => some ([], .s (.bool (.blit true)), none)
  | _ => none
theorem trueSpec_ok {P : Program} {I : Interp} {Γ : Ctx} {F : FuncId} {hc' : HintCtx} {k u : Nat} (hΓ : ∀ I, CtxOK P I Γ) (hP : P.follows .mixedOrders = true) (h : enter P Γ hc' k u F ⟨[], [], [], [], [], []⟩ [] [] = some ([], .s (.bool (.blit true)), none)) : SpecOK P I F trueSpec := by
  constructor
  intro H l m nd v om hs ρ β ι w hI hH hn hm
  unfold trueSpec at hs
  split at hs
  · simp only [Option.some.injEq, Prod.mk.injEq] at hs
    obtain ⟨rfl, rfl, rfl⟩ := hs
    let ρ0 : Env := ⟨[], [], [], [], ⟨fun _ _ _ _ => 0, fun _ _ _ _ => false, fun _ _ _ _ => fun _ => 0, fun _ _ => Ext.none⟩⟩
    have h0 : Hyp.ok ⟨[], [], [], [], [], []⟩ ρ0 := ⟨by simp, by simp, by simp, by simp, by simp, by simp⟩
    exact (call_val (hΓ _) hP h (ρ := ρ0) rfl h0 (by intro e he; cases he) w (fun _ _ => Ext.none_ok w)).mono fun e w' ⟨e1, e2⟩ => ⟨by rw [e1]; rfl, hm.below e2⟩
  · cases hs
/-! ### a call that was run once -/
def subE (l l' : List (E × Rng)) : Bool := l.all fun p => l'.any fun q => decide (q.1 = p.1) && decide (p.2.1 ≤ q.2.1 ∧ q.2.2 ≤ p.2.2)
def subN (l l' : List (Nat × Rng)) : Bool := l.all fun p => l'.any fun q => decide (q.1 = p.1) && decide (p.2.1 ≤ q.2.1 ∧ q.2.2 ≤ p.2.2)
def subH (H0 H : Hyp) : Bool := subE H0.e H.e && subN H0.a H.a && subN H0.fi H.fi && subN H0.fa H.fa && H0.b.all (fun p => H.b.any fun q => decide (q = p)) && H0.x.all (fun p => H.x.any fun q => decide (q = p))
theorem subE_ok {ρ : Env} {l l' : List (E × Rng)} (h : subE l l' = true) (hl : ∀ p ∈ l', inR p.2 (p.1.i ρ)) : ∀ p ∈ l, inR p.2 (p.1.i ρ) := fun p hp => by
  have h1 := List.all_eq_true.1 h p hp
  obtain ⟨q, hq, h2⟩ := List.any_eq_true.1 h1
  simp only [Bool.and_eq_true, decide_eq_true_eq] at h2
  have h3 := hl q hq
  rw [h2.1] at h3
  simp only [inR] at h3 ⊢
  exact ⟨Int.le_trans h2.2.1 h3.1, Int.le_trans h3.2 h2.2.2⟩
theorem subN_ok {l l' : List (Nat × Rng)} {T : Nat → Int → Prop} (h : subN l l' = true) (hl : ∀ p ∈ l', ∀ z, T p.1 z → inR p.2 z) : ∀ p ∈ l, ∀ z, T p.1 z → inR p.2 z := fun p hp z hz => by
  have h1 := List.all_eq_true.1 h p hp
  obtain ⟨q, hq, h2⟩ := List.any_eq_true.1 h1
  simp only [Bool.and_eq_true, decide_eq_true_eq] at h2
  have h3 := hl q hq z (by rw [h2.1]; exact hz)
  simp only [inR] at h3 ⊢
  exact ⟨Int.le_trans h2.2.1 h3.1, Int.le_trans h3.2 h2.2.2⟩
theorem subH_ok {ρ : Env} {H0 H : Hyp} (h : subH H0 H = true) (hH : H.ok ρ) : H0.ok ρ := by
  simp only [subH, Bool.and_eq_true] at h
  obtain ⟨⟨⟨⟨⟨h1, h2⟩, h3⟩, h4⟩, h5⟩, h6⟩ := h
  refine ⟨fun p hp => ?_, subE_ok h1 hH.e, fun p hp j => ?_, fun p hp is bs xs => ?_, fun p hp is bs xs j => ?_, fun p hp => ?_⟩
  · obtain ⟨q, hq, h7⟩ := List.any_eq_true.1 (List.all_eq_true.1 h6 p hp)
    rw [decide_eq_true_eq] at h7; subst h7; exact hH.x _ hq
  · exact subN_ok (T := fun n z => ∃ j, z = (E.av n).a ρ j) h2 (fun p hp z hz => by obtain ⟨j, rfl⟩ := hz; exact hH.a p hp j) p hp _ ⟨j, rfl⟩
  · exact subN_ok (T := fun n z => ∃ is bs xs, z = ρ.I.fi n is bs xs) h3 (fun p hp z hz => by obtain ⟨is, bs, xs, rfl⟩ := hz; exact hH.fi p hp is bs xs) p hp _ ⟨is, bs, xs, rfl⟩
  · exact subN_ok (T := fun n z => ∃ is bs xs j, z = ρ.I.fa n is bs xs j) h4 (fun p hp z hz => by obtain ⟨is, bs, xs, j, rfl⟩ := hz; exact hH.fa p hp is bs xs j) p hp _ ⟨is, bs, xs, j, rfl⟩
  · obtain ⟨q, hq, h7⟩ := List.any_eq_true.1 (List.all_eq_true.1 h5 p hp)
    rw [decide_eq_true_eq] at h7; subst h7; exact hH.b _ hq
/-- which block now is which block then -/
def piOf (n : Nat) (l0 l : List SV) : List Nat := (List.range n).map fun b => match (l0.zip l).find? (fun p => match p.1 with | .s (.ptr c _) => c == b | _ => false) with
  | some (_, .s (.ptr d _)) => d
  | _ => 0
def pickB (π0 : List Nat) (m : Mem) : Mem → List Nat → Bool
  | [], [] => true
  | B :: l, p :: r => (match m[p]? with | some C => !B.dead && !C.dead && decide (B.ty = C.ty) && decide (B.wr = C.wr) && decide (B.grow = none) && decide (C.grow = none) && decide (C.segs = B.segs.map (renSeg π0)) | none => false) && pickB π0 m l r
  | _, _ => false
def pickM (π : List Nat) (m m0 : Mem) : Bool := decide π.Nodup && pickB π m m0 π
/-- one contract, or else another -/
def orS (s t : Spec) : Spec := fun H l m => match s H l m with
  | some r => some r
  | none => t H l m
theorem orS_ok {P : Program} {I : Interp} {f : FuncId} {s t : Spec} (hs : SpecOK P I f s) (ht : SpecOK P I f t) : SpecOK P I f (orS s t) := by
  constructor
  intro H l m nd v om h
  unfold orS at h
  split at h
  · rename_i r hr
    simp only [Option.some.injEq] at h; subst h
    exact hs.ok H l m nd v om hr
  · exact ht.ok H l m nd v om h
def memoS (H0 : Hyp) (l0 : List SV) (m0 : Mem) (nd0 : List E) (v0 : SV) : Spec := fun H l m =>
  if decide (l = l0.map (renV (piOf m0.length l0 l))) && pickM (piOf m0.length l0 l) m m0 && subH H0 H && v0.sc 0 then some (nd0, v0, none) else none
section
variable {ρ : Env} {β : Base} {ι : Loc} {m m0 : Mem} {w w' : World} {π : List Nat}
theorem pickB_ok : ∀ {l : Mem} {r : List Nat}, pickB π m l r = true → l.length = r.length ∧ ∀ (i : Nat) (B : Blk), l[i]? = some B → ∃ (p : Nat) (C : Blk), r[i]? = some p ∧ m[p]? = some C ∧ B.dead = false ∧ C.dead = false ∧ B.ty = C.ty ∧ B.wr = C.wr ∧ B.grow = none ∧ C.grow = none ∧ cellsOf ρ (piv π ι) B.segs = cellsOf ρ ι C.segs
  | [], [], _ => ⟨rfl, fun i B h => by simp at h⟩
  | B :: l, p :: r, h => by
    simp only [pickB, Bool.and_eq_true] at h
    obtain ⟨h1, h2⟩ := pickB_ok h.2
    refine ⟨by simp [h1], fun i D hD => ?_⟩
    cases i with
    | zero =>
      simp only [List.getElem?_cons_zero, Option.some.injEq] at hD; subst hD
      have h3 := h.1
      split at h3
      · rename_i C hC
        simp only [Bool.and_eq_true, decide_eq_true_eq, Bool.not_eq_true'] at h3
        obtain ⟨⟨⟨⟨⟨⟨a1, a2⟩, a3⟩, a4⟩, a5⟩, a6⟩, a7⟩ := h3
        exact ⟨p, C, rfl, hC, a1, a2, a3, a4, a5, a6, by rw [a7, renSegs_ok]⟩
      · cases h3
    | succ i => simpa using h2 i D (by simpa using hD)
  | [], _ :: _, h => by simp [pickB] at h
  | _ :: _, [], h => by simp [pickB] at h
theorem pick_back {π : List Nat} (h : π.Nodup) : ∀ i j p : Nat, π[i]? = some p → π[j]? = some p → i = j := fun i j p hi hj => by
  have hi' := (List.getElem?_eq_some_iff.1 hi)
  have hj' := (List.getElem?_eq_some_iff.1 hj)
  exact (List.getElem_inj h).1 (hi'.2.trans hj'.2.symm)
theorem MRep.pick (h : pickM π m m0 = true) (hm : MRep ρ β ι m w) : MRep ρ ⟨w, m0.length, piv π ι⟩ (piv π ι) m0 w := by
  simp only [pickM, Bool.and_eq_true, decide_eq_true_eq] at h
  obtain ⟨hnd, hb⟩ := h
  obtain ⟨hlen, hblk⟩ := pickB_ok (ρ := ρ) (ι := ι) hb
  have nil_ : ∀ (p : Nat) (C : Blk), m[p]? = some C → C.dead = false → C.grow = none → ι.nil p = false := fun p C hC hd hg => by
    cases hn : ι.nil p with
    | false => rfl
    | true => have := (hm.nils p C hC hd hn).1; rw [hg] at this; cases this
  refine ⟨fun i j B D hB hD hBd hDd hBn hDn he => ?_, fun i B hB hBd hBn => ?_, fun i B hB hBd hBn => ?_, Loc.agree.refl _ _, Nat.le_refl _, fun i h1 h2 => absurd h2 (Nat.not_lt.2 h1), Nat.le_refl _, fun _ _ _ => rfl, rfl, rfl, rfl, hm.xnow, fun i j a n c hv h0 k hk => ?_⟩
  · obtain ⟨p, C, hp, hC, _, c1, _, _, _, c2, _⟩ := hblk i B hB
    obtain ⟨q, F, hq, hF, _, f1, _, _, _, f2, _⟩ := hblk j D hD
    rw [piv_at hp, piv_at hq] at he
    have := hm.inj _ _ C F hC hF c1 f1 (nil_ p C hC c1 c2) (nil_ q F hF f1 f2) he
    subst this
    exact pick_back hnd i j p hp hq
  · obtain ⟨p, C, hp, hC, _, c1, ht, hw, hg0, hg, hc⟩ := hblk i B hB
    obtain ⟨fz, rest, k1, k2, k3, k4⟩ := hm.blk p C hC c1 (nil_ p C hC c1 hg)
    rw [(piv_all hp).1, piv_at hp, hc, ht, hw, hg0]
    rw [hg] at k3 k4
    exact ⟨fz, rest, k1, k2, k3, k4⟩
  · obtain ⟨p, C, hp, hC, _, c1, ht, hw, hg0, hg, hc⟩ := hblk i B hB
    rw [(piv_all hp).2, nil_ p C hC c1 hg] at hBn; cases hBn
  · obtain ⟨p, C, hp, hC, _⟩ := hblk k m0[k] (List.getElem?_eq_getElem hk)
    rw [piv_at hp]; exact hm.xd i j a n c hv h0 p (List.getElem?_eq_some_iff.1 hC).1
theorem MRep.spread (h : pickM π m m0 = true) (hm : MRep ρ β ι m w) (h' : MRep ρ ⟨w, m0.length, piv π ι⟩ (piv π ι) m0 w') : MRep ρ β ι m w' := by
  simp only [pickM, Bool.and_eq_true, decide_eq_true_eq] at h
  obtain ⟨hnd, hb⟩ := h
  obtain ⟨hlen, hblk⟩ := pickB_ok (ρ := ρ) (ι := ι) hb
  have nil_ : ∀ (p : Nat) (C : Blk), m[p]? = some C → C.dead = false → C.grow = none → ι.nil p = false := fun p C hC hd hg => by
    cases hn : ι.nil p with
    | false => rfl
    | true => have := (hm.nils p C hC hd hn).1; rw [hg] at this; cases this
  have off : ∀ b, b < w.heap.size → (∀ j, j < m0.length → piv π ι j ≠ b) → w'.heap[b]? = w.heap[b]? := fun b hb hj => h'.old b hb hj
  have at0 : ∀ j, j < m0.length → ∃ p C, π[j]? = some p ∧ m[p]? = some C ∧ C.dead = false ∧ C.grow = none := fun j hj => by
    obtain ⟨p, C, hp, hC, _, c1, _, _, _, c2, _⟩ := hblk j m0[j] (List.getElem?_eq_getElem hj)
    exact ⟨p, C, hp, hC, c1, c2⟩
  refine ⟨hm.inj, fun i B hB hd hn => ?_, hm.nils, hm.agr, hm.len, hm.new, Nat.le_trans hm.size h'.size, fun b hb hi => ?_, h'.os.trans hm.os, h'.tape.trans hm.tape, h'.output.trans hm.output, hm.xt, hm.xd⟩
  · by_cases hj : ∃ j, j < m0.length ∧ π[j]? = some i
    · obtain ⟨j, hj, hp⟩ := hj
      obtain ⟨p, C, hp', hC, b1, c1, ht, hw, hg0, hg, hc⟩ := hblk j m0[j] (List.getElem?_eq_getElem hj)
      rw [hp, Option.some.injEq] at hp'; subst hp'
      rw [hB, Option.some.injEq] at hC; subst hC
      obtain ⟨fz, rest, k1, k2, k3, k4⟩ := h'.blk j m0[j] (List.getElem?_eq_getElem hj) b1 (by rw [(piv_all hp).2]; exact hn)
      rw [(piv_all hp).1] at k3
      rw [piv_at hp, hc, ht] at k1
      rw [hg0] at k3 k4
      rw [hw] at k2
      rw [hg]
      exact ⟨fz, rest, k1, k2, fun sz h => by (cases h), k4⟩
    · obtain ⟨fz, rest, k1, k2, k3, k4⟩ := hm.blk i B hB hd hn
      refine ⟨fz, rest, ?_, k2, k3, k4⟩
      have hlt : ι i < w.heap.size := (Array.getElem?_eq_some_iff.1 k1).1
      rw [off (ι i) hlt fun j hj' he => ?_]
      · exact k1
      · obtain ⟨p, C, hp, hC, c1, c2⟩ := at0 j hj'
        rw [piv_at hp] at he
        have := hm.inj p i C B hC hB c1 hd (nil_ p C hC c1 c2) hn he
        subst this
        exact hj ⟨j, hj', hp⟩
  · rw [← hm.old b hb hi]
    refine off b (Nat.lt_of_lt_of_le hb hm.size) fun j hj he => ?_
    obtain ⟨p, C, hp, hC, _⟩ := at0 j hj
    rw [piv_at hp] at he
    exact hi p (List.getElem?_eq_some_iff.1 hC).1 he
theorem memoS_ok {P : Program} {I : Interp} {f : FuncId} {s : Spec} {H0 : Hyp} {l0 : List SV} {nd0 : List E} {v0 : SV} (hs : SpecOK P I f s) (h0 : s H0 l0 m0 = some (nd0, v0, none)) : SpecOK P I f (memoS H0 l0 m0 nd0 v0) := by
  constructor
  intro H l m nd v om h ρ β ι w hI hH hn hm
  unfold memoS at h
  split at h
  · rename_i hc
    simp only [Bool.and_eq_true, decide_eq_true_eq] at hc
    obtain ⟨⟨⟨hl, hp⟩, hsub⟩, hv⟩ := hc
    simp only [Option.some.injEq, Prod.mk.injEq] at h
    obtain ⟨rfl, rfl, rfl⟩ := h
    generalize piOf m0.length l0 l = π at hl hp
    have h1 := hs.ok H0 l0 m0 _ _ none h0 ρ ⟨w, m0.length, piv π ι⟩ (piv π ι) w hI (subH_ok hsub hH) hn (hm.pick hp)
    have hargs : l.map (SV.conc ρ ι) = l0.map (SV.conc ρ (piv π ι)) := by
      rw [hl, List.map_map]
      exact List.map_congr_left fun x _ => renV_ok x
    rw [hargs]
    refine h1.mono fun e w' h2 => ?_
    exact ⟨by rw [h2.1, SV.conc_congr (n := 0) (ι := piv π ι) (ι' := ι) (fun i hi => absurd hi (Nat.not_lt_zero _)) hv], hm.spread hp h2.2⟩
  · cases h
end
/-! ### the picture unit's memories, made of rows -/
/-- a row's value at j: it comes again and again, counted on -/
def vidF (n : Int) (A : Nat → Int) (md : Int) (j : Nat) : Int := if 0 < n then (A ((j : Int) % n).toNat + (j : Int) / n) % md else 0
theorem vidF_congr {n : Int} {A B : Nat → Int} (md : Int) (h : ∀ j : Nat, (j : Int) < n → A j = B j) (j : Nat) : vidF n A md j = vidF n B md j := by
  unfold vidF
  split
  · rename_i hn
    have h0 := Int.emod_nonneg (j : Int) (show n ≠ 0 by omega)
    have h1 := Int.emod_lt_of_pos (j : Int) hn
    rw [h _ (by omega)]
  · rfl
def Ifa : Nat → List Int → List Bool → List (Nat → Int) → Nat → Int
  | 0, is, _, xs => vidF (is.getD 0 0) (xs.getD 1 fun _ => 0) 65536
  | 1, is, _, xs => vidF (is.getD 0 0) (xs.getD 1 fun _ => 0) 256
  | 2, is, _, xs => vidF (is.getD 0 0) (xs.getD 1 fun _ => 0) 32768
  | _, _, _, _ => fun _ => 0
theorem vidF_rng (n : Int) (A : Nat → Int) (md : Int) (hmd : 0 < md) (j : Nat) : 0 ≤ vidF n A md j ∧ vidF n A md j ≤ md - 1 := by
  unfold vidF
  split
  · have := Int.emod_nonneg (A ((j : Int) % n).toNat + (j : Int) / n) (show md ≠ 0 by omega)
    have := Int.emod_lt_of_pos (A ((j : Int) % n).toNat + (j : Int) / n) hmd
    omega
  · omega
def Iv (xs : Nat → Nat → Ext) : Interp := ⟨fun _ _ _ _ => 0, fun _ _ _ _ => false, Ifa, xs⟩
def vArg (H : Hyp) (k : IntKind) : SV → Option (E × E)
  | .s (.xslc i (.lit 0) (.lit 0) n) => match lookX H.x i with
    | some ⟨n', [(some k', .av a)]⟩ => match lookN H.a a with
      | some (p, q) => if n = n' ∧ k = k' ∧ kmin k ≤ p ∧ q ≤ kmax k ∧ atMost H maxLen n = true then some (n, .av a) else none
      | none => none
    | _ => none
  | .s .nilSlc => some (.lit 0, .tab [])
  | _ => none
def vidE (f : Nat) (p : E × E) : E := .app f (.cons p.1 (.cons p.2 .nil))
def specVideo (ty : TypeId) : Spec := fun H l m => match l with
  | [a, b, c] => match vArg H .u16 a, vArg H .u8 b, vArg H .u16 c with
    | some p, some q, some r => if m.all (fun B => B.segs.all (Seg.sc m.length)) then
        some ([], .s (.ptr m.length (.lit 0)), some (m ++ [⟨ty, [.run .u16 (.lit 32768) (vidE 0 p) 0, .run .u8 (.lit 544) (vidE 1 q) 0, .run .u16 (.lit 256) (vidE 2 r) 0], true, none, false⟩])) else none
    | _, _, _ => none
  | _ => none
/-- what is to be shown of the function itself -/
def VideoOK (P : Program) (F : FuncId) (ty : TypeId) : Prop := ∀ (x0 x1 x2 : Ext) (w : World), XFit x0 w [some .u16] → XFit x1 w [some .u8] → XFit x2 w [some .u16] →
  Calls P F #[x0.v, x1.v, x2.v] w fun e w' => ∃ (ρ' : Env) (ι' : Loc) (B' : Blk), e = .returned (.pointer (some ⟨ι'.pos 0, 0, none⟩)) ∧ MRep ρ' ⟨w, 0, Loc.id⟩ ι' [B'] w' ∧ B'.ty = ty ∧ B'.wr = true ∧ B'.grow = none ∧ B'.dead = false ∧
    cellsOf ρ' ι' B'.segs = ((List.range 32768).map fun j => Value.int .u16 (vidF x0.n (xArr x0 1 0) 65536 j)) ++ (((List.range 544).map fun j => Value.int .u8 (vidF x1.n (xArr x1 1 0) 256 j)) ++ ((List.range 256).map fun j => Value.int .u16 (vidF x2.n (xArr x2 1 0) 32768 j)))
section
variable {ρ : Env} {β : Base} {ι : Loc} {m : Mem} {w : World} {H : Hyp} {P : Program} {I : Interp}
theorem vArg_ok (hH : H.ok ρ) (hm : MRep ρ β ι m w) {k : IntKind} {v : SV} {p : E × E} (h : vArg H k v = some p) : ∃ x : Ext, XFit x w [some k] ∧ v.conc ρ ι = x.v ∧ (x.n : Int) = p.1.i ρ ∧ ∀ j : Nat, (j : Int) < x.n → xArr x 1 0 j = p.2.a ρ j := by
  unfold vArg at h
  split at h
  · rename_i i n
    split at h
    · rename_i n' k' a hx
      split at h
      · rename_i p0 q0 ha
        split at h
        · rename_i hc
          obtain ⟨rfl, rfl, h1, h2, h3⟩ := hc
          simp only [Option.some.injEq] at h; subst h
          have hX : XI.ok ρ i ⟨n, [(some k, .av a)]⟩ := hH.x _ (lookX_mem hx)
          have hmax := atMost_ok hH h3
          have hn : (ρ.I.xs i 0).n = (n.i ρ).toNat := hX.n
          have hpos : 0 ≤ n.i ρ := hX.pos
          have hcell : ∀ j, j < (n.i ρ).toNat → (ρ.I.xs i 0).cell j = .int k ((E.av a).a ρ j) := fun j hj => by
            have := hX.cell j hj 0 _ rfl
            simpa [XF.conc] using this
          have hr : ∀ j, inR (p0, q0) ((E.av a).a ρ j) := fun j => hH.a _ (lookN_mem ha) j
          obtain ⟨b, c, e1, e2, e3, e4⟩ := (hm.xnow i 0).ok
          refine ⟨ρ.I.xs i 0, ⟨hm.xnow i 0, hX.sz, fun j f kd hj hf => ?_, by rw [hn]; unfold maxLen at hmax ⊢; omega⟩, ?_, by simp only [hn]; omega, fun j hj => ?_⟩
          · cases f with
            | zero =>
              simp only [List.getElem?_cons_zero, Option.some.injEq] at hf; subst hf
              simp only [List.length_singleton, Nat.mul_one, Nat.add_zero]
              refine ⟨_, hcell j (by omega), ?_⟩
              have := hr j
              simp only [inR, krng] at this ⊢; omega
            | succ f => simp at hf
          · show (ρ.I.xs i (E.i ρ (.lit 0)).toNat).sub (E.i ρ (.lit 0)).toNat (n.i ρ).toNat = (ρ.I.xs i 0).v
            simp only [i_lit, Int.toNat_zero, Ext.sub, e1, Nat.zero_mul, Nat.sub_zero, ← hn]
            congr 1
            cases b <;> simp [Addr.add]
          · have hj' : j < (ρ.I.xs i 0).n := by omega
            simp only [xArr, if_pos hj', Nat.mul_one, Nat.add_zero, hcell j (by omega), numV]
        · cases h
      · cases h
    · cases h
  · simp only [Option.some.injEq] at h; subst h
    exact ⟨Ext.none, ⟨Ext.none_ok w, rfl, fun j f kd hj => absurd hj (Nat.not_lt_zero _), Nat.zero_le _⟩, rfl, rfl, fun j hj => by exfalso; simp only [Ext.none] at hj; omega⟩
  · cases h
theorem specVideo_ok {F : FuncId} {ty : TypeId} (hv : VideoOK P F ty) (hfa : I.fa = Ifa) : SpecOK P I F (specVideo ty) := by
  constructor
  intro H l m nd v om h ρ β ι w hI hH hn hm
  unfold specVideo at h
  split at h
  · rename_i a b c
    split at h
    · rename_i p q r ha hb hc
      split at h
      · rename_i hsc
        simp only [Option.some.injEq, Prod.mk.injEq] at h
        obtain ⟨rfl, rfl, rfl⟩ := h
        obtain ⟨x0, f0, v0, n0, a0⟩ := vArg_ok hH hm ha
        obtain ⟨x1, f1, v1, n1, a1⟩ := vArg_ok hH hm hb
        obtain ⟨x2, f2, v2, n2, a2⟩ := vArg_ok hH hm hc
        have hargs : ([a, b, c].map (SV.conc ρ ι)).toArray = #[x0.v, x1.v, x2.v] := by simp [v0, v1, v2]
        rw [hargs]
        refine (hv x0 x1 x2 w f0 f1 f2).mono fun e w' ⟨ρ', ι', B', he, hm', t1, t2, t3, t4, hcells⟩ => ?_
        have den_ : ∀ (f : Nat) (p : E × E), (vidE f p).a ρ = Ifa f [p.1.i ρ, p.2.i ρ] [p.1.b ρ, p.2.b ρ] [p.1.a ρ, p.2.a ρ] := fun f p => by
          unfold vidE
          rw [a_app, is_cons, is_cons, is_nil, bs_cons, bs_cons, bs_nil, as_cons, as_cons, as_nil, hI, hfa]
        refine ⟨updL ι m.length (ι'.pos 0) 0 false, updL_lt _ _ _ _ _, ?_, ?_⟩
        · rw [he]; simp [SV.conc, S.conc, addr, i_lit, updL]
        · refine hm.join hm' hsc (by simp [Seg.sc]) ?_ ⟨t1.symm, t2.symm, rfl, t3, rfl, t4⟩
          rw [hcells]
          simp only [cellsOf, List.flatMap_cons, List.flatMap_nil, List.append_nil, Seg.cells, i_lit, Nat.zero_add, den_, Ifa, List.getD_cons_zero, List.getD_cons_succ]
          have e0 : ∀ j, vidF (p.1.i ρ) (p.2.a ρ) 65536 j = vidF x0.n (xArr x0 1 0) 65536 j := fun j => by rw [← n0]; exact (vidF_congr _ (fun j hj => a0 j hj) j).symm
          have e1 : ∀ j, vidF (q.1.i ρ) (q.2.a ρ) 256 j = vidF x1.n (xArr x1 1 0) 256 j := fun j => by rw [← n1]; exact (vidF_congr _ (fun j hj => a1 j hj) j).symm
          have e2 : ∀ j, vidF (r.1.i ρ) (r.2.a ρ) 32768 j = vidF x2.n (xArr x2 1 0) 32768 j := fun j => by rw [← n2]; exact (vidF_congr _ (fun j hj => a2 j hj) j).symm
          simp only [e0, e1, e2]
          rfl
      · cases h
    · cases h
  · cases h
end
/-! ### a struct's first number by itself -/
theorem pc_split {c : List Value} {k : IntKind} {pcs : List Pc} (l : c.length = pcTotal (.num k :: pcs)) (f : PcFit c 0 (.num k :: pcs)) :
    ∃ (z : Int) (r : List Value), c = .int k z :: r ∧ inR (krng k) z ∧ r.length = pcTotal pcs ∧ PcFit r 0 pcs := by
  obtain ⟨v, h1, h2⟩ := f 0 (some k) rfl
  cases c with
  | nil => simp at h1
  | cons x r =>
    simp only [Nat.zero_add, List.getElem?_cons_zero, Option.some.injEq] at h1
    subst h1
    obtain ⟨z, rfl, hz⟩ : ∃ z, x = .int k z ∧ inR (krng k) z := h2
    refine ⟨z, r, rfl, hz, by simp only [List.length_cons, pcTotal, Pc.len] at l; omega, fun j k' hk => ?_⟩
    obtain ⟨v, h3, h4⟩ := f.tail j k' hk
    refine ⟨v, ?_, h4⟩
    rw [show 0 + Pc.len (.num k) + j = j + 1 by simp only [Pc.len]; omega, List.getElem?_cons_succ] at h3
    rw [Nat.zero_add]; exact h3
theorem cells_oneS {ρ : Env} {ι : Loc} {s : S} {v : Value} {l : List Seg} {c : List Value} (h : s.conc ρ ι = v) (h2 : cellsOf ρ ι l = c) : cellsOf ρ ι (.one s :: l) = v :: c := by
  rw [← h, ← h2]; rfl
/-- the same for each of some numbers -/
def memoK (H0 : Hyp) (a b : SV) (m0 : Mem) (R : Nat → SV) (N : Nat) : Spec := fun H l m => match l with
  | [x, y, .s (.int .i64 (.lit k))] => if 0 ≤ k ∧ k < N then memoS H0 [a, b, .s (.int .i64 (.lit k))] m0 [] (R k.toNat) H [x, y, .s (.int .i64 (.lit k))] m else none
  | _ => none
theorem memoK_ok {P : Program} {I : Interp} {f : FuncId} {s : Spec} {H0 : Hyp} {a b : SV} {m0 : Mem} {R : Nat → SV} {N : Nat} (hs : SpecOK P I f s)
    (h0 : ∀ k : Nat, k < N → s H0 [a, b, .s (.int .i64 (.lit k))] m0 = some ([], R k, none)) : SpecOK P I f (memoK H0 a b m0 R N) := by
  constructor
  intro H l m nd v om h
  unfold memoK at h
  split at h
  · rename_i x y k
    split at h
    · rename_i hk
      have h1 := h0 k.toNat (by omega)
      rw [show ((k.toNat : Nat) : Int) = k by omega] at h1
      exact (memoS_ok hs h1).ok H _ m nd v om h
    · cases h
  · cases h
/-! a long run, cut into pieces -/
structure XS where
  ph : Ph
  todo : List Item
  H : Hyp
  fr : Fr
  m : Mem
def leftX (lv : Lv) (H : Hyp) (m : Mem) : Option (XS × Bool) := match lv with
  | .go ph' t' fr' => some (⟨ph', t', H, fr', m⟩, false)
  | _ => none
def regX (ph : Ph) (r : List Item) (o : Option (List E × Hyp × Fr × Mem)) : Option (XS × Bool) := match o with
  | some ([], H', fr', m') => some (⟨ph, r, H', fr', m'⟩, false)
  | _ => none
/-- one step that does not part -/
def stepX (P : Program) (Γ : Ctx) (fn : Func) (n : Nat) (ph : Ph) (todo : List Item) (H : Hyp) (fr : Fr) (m : Mem) : Option (XS × Bool) :=
    match todo with
    | [] => leftX (leaveX P fn ph none H fr m) H m
    | .code .ret :: _ => leftX (leaveX P fn ph (some .ret) H fr m) H m
    | .code .skip :: r | .code (.label _) :: r | .inBlock _ :: r | .inScope _ :: r => some (⟨ph, r, H, fr, m⟩, false)
    | .code (.seq x y) :: r => some (⟨ph, .code x :: .code y :: r, H, fr, m⟩, false)
    | .code (.block id c) :: r => some (⟨ph, .code c :: .inBlock id :: r, H, fr, m⟩, false)
    | .code (.scope c) :: r => some (⟨ph, .code c :: .inScope c :: r, H, fr, m⟩, false)
    | .code (.exit id) :: r => match exitTo id r with
      | some r' => some (⟨ph, r', H, fr, m⟩, false)
      | none => none
    | .code (.cond c x y) :: r => match opnd [] fr c with
      | some (.s (.bool e0)) => match decB H e0 with
        | .blit t => some (⟨ph, .code (if t then x else y) :: r, H, fr, m⟩, false)
        | _ => none
      | _ => none
    | .code (.region id ops draw) :: r =>
      if noDefer ops then
        if !draw && isIt ph && dynOps ops then some (⟨ph, .inRegion ops (List.range ops.size) :: r, H, fr, m⟩, false) else
        regX ph r (regOps P Γ (ph.nt n) ops draw H fr m)
      else none
    | .inRegion _ [] :: r => some (⟨ph, r, H, fr, m⟩, false)
    | .inRegion ops (i :: rest) :: r => match ops[i]? with
      | none => none
      | some o => match guardH H ops fr o with
        | .skip => match put (ph.nt n) fr o.dst [] .undef with
          | some fr' => some (⟨ph, .inRegion ops rest :: r, H, fr', m⟩, false)
          | none => none
        | .now _ => match yieldOf fr o.op with
          | some l => match ph with
            | .it L none => if fr.all (fun f => f.x.sc m.length) && l.all (fun x => x.sc m.length) then match putAll n L.fr L.ps l with
              | some fr0 => some (⟨.rd L ⟨fr, .inRegion ops rest :: r, o.dst, m.length⟩ false, [.code L.as, .beginRound, .code L.bd], H, fr0, m⟩, false)
              | none => none
              else none
            | _ => none
          | none => if notDefer o then regX ph (.inRegion ops rest :: r) (opStep P Γ false (ph.nt n) ops o H fr m) else none
        | _ => none
    | .beginRound :: r => match ph with
      | .rd L Y false => some (⟨.rd L Y true, r, H, fr, m⟩, false)
      | _ => none
    | .code (.rangeFunc g ps as bd) :: r => match ph with
      | .out => match opnd [] fr g with
        | some (.s (.fn f caps)) => match P.funcs[f]? with
          | some fi => match fi.body with
            | some c => if okFn P f && frNoY fr && memNoY m && okMem m && fr.all (fun f => f.x.sc m.length) && decide (caps.length + 1 ≤ fi.ntmps) then
                some (⟨.it ⟨fr, r, m.length, ps.toList, as, bd, fi.ntmps, fi⟩ none, [.code c], H, frameOf (.s (.val yi) :: caps.map fun p => .s (.ptr p.1 p.2)), m⟩, false)
              else none
            | none => none
          | none => none
        | _ => none
      | _ => none
    | .code (.loop c) :: r => some (⟨ph, .code c :: .inLoop c :: r, H, atLoop ph fr m, m⟩, true)
    | .inLoop c :: r => some (⟨ph, .code c :: .inLoop c :: r, H, (atHead ph fr m).1, (atHead ph fr m).2⟩, true)
    | _ => none
theorem regX_some {ph : Ph} {r : List Item} {o : Option (List E × Hyp × Fr × Mem)} {s' : XS} {b : Bool} (h : regX ph r o = some (s', b)) : ∃ H' fr' m', o = some ([], H', fr', m') ∧ s' = ⟨ph, r, H', fr', m'⟩ ∧ b = false := by
  unfold regX at h
  split at h
  · simp only [Option.some.injEq, Prod.mk.injEq] at h
    exact ⟨_, _, _, rfl, h.1.symm, h.2.symm⟩
  · cases h
theorem leftX_some {lv : Lv} {H : Hyp} {m : Mem} {s' : XS} {b : Bool} (h : leftX lv H m = some (s', b)) : ∃ ph' t' fr', lv = .go ph' t' fr' ∧ s' = ⟨ph', t', H, fr', m⟩ ∧ b = false := by
  unfold leftX at h
  split at h
  · simp only [Option.some.injEq, Prod.mk.injEq] at h
    exact ⟨_, _, _, rfl, h.1.symm, h.2.symm⟩
  · cases h
theorem stepX_ok {P : Program} {Γ : Ctx} {hc : HintCtx} {fn : Func} {n k u : Nat} {ph : Ph} {todo : List Item} {H : Hyp} {fr : Fr} {m : Mem} {s' : XS} {b : Bool}
    (h : stepX P Γ fn n ph todo H fr m = some (s', b)) : runX P Γ hc fn n (k + 1) (u + b.toNat) ph todo H fr m = runX P Γ hc fn n k u s'.ph s'.todo s'.H s'.fr s'.m := by
  unfold stepX at h
  conv => lhs; unfold runX
  split at h
  case h_1 | h_2 =>
    obtain ⟨ph', t', fr', h1, rfl, rfl⟩ := leftX_some h
    simp only [h1]; rfl
  all_goals try (simp only [Option.some.injEq, Prod.mk.injEq] at h; obtain ⟨rfl, rfl⟩ := h; rfl)
  all_goals (repeat' (split at h)) <;> first
    | contradiction
    | (obtain ⟨H', fr', m', h1, rfl, rfl⟩ := regX_some h; simp_all [addNeeds]; done)
    | (simp only [Option.some.injEq, Prod.mk.injEq] at h; obtain ⟨rfl, rfl⟩ := h; simp_all; done)
    | skip
def iterX (P : Program) (Γ : Ctx) (fn : Func) (n : Nat) : Nat → XS → Nat → Option (XS × Nat)
  | 0, s, u => some (s, u)
  | k + 1, s, u => match stepX P Γ fn n s.ph s.todo s.H s.fr s.m with
    | some (s', false) => iterX P Γ fn n k s' u
    | some (s', true) => match u with
      | 0 => none
      | u + 1 => iterX P Γ fn n k s' u
    | none => none
theorem iterX_ok {P : Program} {Γ : Ctx} {hc : HintCtx} {fn : Func} {n k : Nat} : ∀ {N : Nat} {s s' : XS} {u u' : Nat}, iterX P Γ fn n N s u = some (s', u') →
    runX P Γ hc fn n (N + k) u s.ph s.todo s.H s.fr s.m = runX P Γ hc fn n k u' s'.ph s'.todo s'.H s'.fr s'.m
  | 0, s, s', u, u', h => by
    simp only [iterX, Option.some.injEq, Prod.mk.injEq] at h
    obtain ⟨rfl, rfl⟩ := h
    rw [Nat.zero_add]
  | N + 1, s, s', u, u', h => by
    unfold iterX at h
    rw [show N + 1 + k = (N + k) + 1 by omega]
    split at h
    · rename_i s1 h1
      have := stepX_ok (hc := hc) (k := N + k) (u := u) h1
      rw [show u + (false : Bool).toNat = u from rfl] at this
      rw [this]; exact iterX_ok h
    · rename_i s1 h1
      split at h
      · cases h
      · rename_i u1
        have := stepX_ok (hc := hc) (k := N + k) (u := u1) h1
        rw [show u1 + (true : Bool).toNat = u1 + 1 from rfl] at this
        rw [this]; exact iterX_ok h
    · cases h
/-- a call that was run once, from just this memory -/
def memoM (H0 : Hyp) (l0 : List SV) (m0 : Mem) (nd0 : List E) (v0 : SV) (m1 : Mem) : Spec := fun H l m =>
  if decide (l = l0) && decide (m = m0) && subH H0 H then some (nd0, v0, some m1) else none
theorem memoM_ok {P : Program} {I : Interp} {f : FuncId} {s : Spec} {H0 : Hyp} {l0 : List SV} {m0 m1 : Mem} {nd0 : List E} {v0 : SV} (hs : SpecOK P I f s) (h0 : s H0 l0 m0 = some (nd0, v0, some m1)) : SpecOK P I f (memoM H0 l0 m0 nd0 v0 m1) := by
  constructor
  intro H l m nd v om h ρ β ι w hI hH hn hm
  unfold memoM at h
  split at h
  · rename_i hc
    simp only [Bool.and_eq_true, decide_eq_true_eq] at hc
    obtain ⟨⟨rfl, rfl⟩, hsub⟩ := hc
    simp only [Option.some.injEq, Prod.mk.injEq] at h
    obtain ⟨rfl, rfl, rfl⟩ := h
    exact hs.ok H0 l m _ _ _ h0 ρ β ι w hI (subH_ok hsub hH) hn hm
  · cases h
theorem enter_of_runX {P : Program} {Γ : Ctx} {hc : HintCtx} {f : FuncId} {fn : Func} {c : Code} {fuel loops : Nat} {H : Hyp} {l : List SV} {m m' : Mem} {nd : List E} {v : SV} {T : Tree} (hf : P.funcs[f]? = some fn) (hb : fn.body = some c) (hr : hasRF c = true) (hl : l.length ≤ fn.ntmps)
    (h : runX P Γ hc fn fn.ntmps fuel loops .out [.code c] H (frameOf l) m = T) (hT : collapse m.length T = some (nd, v, m')) (hm : (m'.take m.length = m && v.sc m.length && m.all (fun B => B.segs.all (Seg.sc m.length))) = false) :
    enter P Γ hc fuel loops f H l m = some (nd, v, some m') := by
  unfold enter
  simp only [hf, hb, if_pos hl, runAll, if_pos hr, h, hT]
  rw [if_neg (by rw [hm]; simp)]

end Go.Sx
