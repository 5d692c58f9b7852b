/- A run of a program by symbols, proved sound: regions in whatever order, the code, ways that meet again. It imports no program. -/
import Derived.Test.YtjegnoknenahpaaSxB
import Derived.RangeFuncRecord
set_option linter.unusedVariables false
set_option linter.unusedSimpArgs false
namespace Go.Sx
/-! ### calls by what is known of them; regions -/

/-- What is known of functions: conditions, the value, the memory behind the call (none: as it was). -/
abbrev Ctx := FuncId → Hyp → List SV → Mem → Option (List E × SV × Option Mem)

structure CtxOK (P : Program) (I : Interp) (Γ : Ctx) : Prop where
  ok : ∀ f H l m nd v om, Γ f H l m = some (nd, v, om) → ∀ (ρ : Env) (β : Base) (ι : Loc) (w : World), ρ.I = I → H.ok ρ → allN ρ nd → MRep ρ β ι m w →
    Calls P f (l.map (SV.conc ρ ι)).toArray w fun e w' => match om with
      | none => e = .returned (v.conc ρ ι) ∧ MRep ρ β ι m w'
      | some m' => ∃ ι', Loc.agree m.length ι ι' ∧ e = .returned (v.conc ρ ι') ∧ MRep ρ β ι' m' w'

def okFn (P : Program) (f : FuncId) : Bool := match P.funcs[f]? with | some fn => !(fn.name == "runtime.NumGoroutine") && fn.body.isSome | none => false

def callOf (P : Program) (G : List E) (fr : Fr) : Op → Option (FuncId × List SV)
  | .call ⟨.value x, args, _⟩ => match opnd G fr x, opnds G fr args.toList with
    | some (.s (.fn f caps)), some l => if okFn P f then some (f, l ++ caps.map fun p => .s (.ptr p.1 p.2)) else none
    | _, _ => none
  | _ => none

def exec1 (P : Program) (Γ : Ctx) (quiet : Bool) (H : Hyp) (G : List E) (fr : Fr) (m : Mem) (o : Op) : Option (List E × SV × Option Mem) :=
  match qop P H G fr m o with
  | some (nd, v) => some (nd, v, none)
  | none => match callOf P G fr o with
    | some (f, l) => match Γ f H l m with
      | some (nd, v, none) => some (nd, v, none)
      | some (nd, v, some m') => if quiet then none else if fr.all (fun f => f.x.sc m.length) then some (nd, v, some m') else none
      | none => none
    | none => if quiet then none else match wop P H fr m o with
      | some (nd, v, m') => some (nd, v, some m')
      | none => none

inductive GS where
  | go (G : List E) | now (G : List E) | skip | bad
def guardOf (ops : Array Oper) (fr : Fr) (o : Oper) : GS :=
  match o.guard with
  | none => .go []
  | some (j, want) => match (ops[j]?).bind (·.dst) with
    | none => .bad
    | some t => match look fr t with
      | some (g, .s (.bool (.blit b))) => if b = want then .go g else .skip
      | some (g, .s (.bool e)) => .go ((if want then e else mkNot e) :: g)
      | some (_, .s .undef) => .skip
      | _ => .bad

/-- the guard, by what is known -/
def guardH (H : Hyp) (ops : Array Oper) (fr : Fr) (o : Oper) : GS := match guardOf ops fr o with
  | .go G => if G.any (fun g => decide (decB H g = .blit false)) then .skip else if G.all (fun g => decide (decB H g = .blit true)) then .now G else .go G
  | .now _ => .bad
  | x => x

def put (n : Nat) (fr : Fr) (dst : Option Tmp) (g : List E) (v : SV) : Option Fr :=
  match dst with
  | none => some fr
  | some t => if t < n then some (⟨t, g, v⟩ :: fr) else none

def imp (G : List E) (e : E) : E := G.foldr (fun g r => mkOr (mkNot g) r) e
def addFs (l : List E) (H : Hyp) : Hyp := l.foldl (fun H e => addF true e H) H

/-- what a step leaves: facts and memory are told at once (a chain of them would be gone through again and again) -/
def outN (l : List E) (H : Hyp) (fr : Fr) (om : Option Mem) (m : Mem) : List E × Hyp × Fr × Mem := match l with
  | [] => (match om with
    | none => ([], H, fr, m)
    | some m' => ([], H, fr, m'))
  | e :: l => (match om with
    | none => (e :: l, addFs (e :: l) H, fr, m)
    | some m' => (e :: l, addFs (e :: l) H, fr, m'))
theorem outN_eq (l : List E) (H : Hyp) (fr : Fr) (om : Option Mem) (m : Mem) : outN l H fr om m = (l, addFs l H, fr, om.getD m) := by
  cases l <;> cases om <;> rfl
def opStep (P : Program) (Γ : Ctx) (quiet : Bool) (n : Nat) (ops : Array Oper) (o : Oper) (H : Hyp) (fr : Fr) (m : Mem) : Option (List E × Hyp × Fr × Mem) :=
  match guardH H ops fr o with
  | .bad => none
  | .skip => (put n fr o.dst [] .undef).map fun fr' => ([], H, fr', m)
  | .now _ => match exec1 P Γ quiet H [] fr m o.op with
    | some (nd, v, om) => (put n fr o.dst [] v).map fun fr' => outN (needs nd) H fr' om m
    | none => none
  | .go G => match exec1 P Γ true (addFs G H) G fr m o.op with
    | some (nd, v, _) => (put n fr o.dst G v).map fun fr' => (needs (nd.map (imp G)), H, fr', m)
    | none => none

def rops (P : Program) (Γ : Ctx) (quiet : Bool) (n : Nat) (ops : Array Oper) : List Oper → Hyp → Fr → Mem → Option (List E × Hyp × Fr × Mem)
  | [], H, fr, m => some ([], H, fr, m)
  | o :: l, H, fr, m => match opStep P Γ quiet n ops o H fr m with
    | some (nd, H', fr', m') => match rops P Γ quiet n ops l H' fr' m' with
      | some (nd', r) => some (nd ++ nd', r)
      | none => none
    | none => none

section
variable {ρ : Env} {ι : Loc} {H : Hyp} {P : Program} {Γ : Ctx} {w : World} {β : Base} {m : Mem} {fr : Fr} {n : Nat} {a : Act} {G : List E} {ops : Array Oper}

theorem addFs_ok : ∀ (l : List E) (H : Hyp), H.ok ρ → allN ρ l → (addFs l H).ok ρ
  | [], _, hH, _ => hH
  | e :: l, H, hH, h => addFs_ok l _ (addF_ok e true H hH (h e (.head _))) (fun x hx => h x (.tail _ hx))
theorem imp_ok : ∀ (G : List E) (e : E), (imp G e).b ρ = true → allT ρ G → e.b ρ = true
  | [], e, h, _ => h
  | g :: G, e, h, hG => by
    simp only [imp, List.foldr_cons, mkOr_b, mkNot_b, hG g (.head _), Bool.not_true, Bool.false_or] at h
    exact imp_ok G e h (fun x hx => hG x (.tail _ hx))

theorem callOf_ok (hf : FRep ρ ι n fr a) (hG : allT ρ G) {o : Oper} {f : FuncId} {l : List SV} (h : callOf P G fr o.op = some (f, l)) :
    (execOp a.eval o).run P w = .ok (.enter f (l.map (SV.conc ρ ι)).toArray) w := by
  unfold callOf at h
  split at h
  · rename_i x args ts ho
    split at h
    · rename_i f' caps l' hx hl
      split at h
      · rename_i hok
        simp only [Option.some.injEq, Prod.mk.injEq] at h
        obtain ⟨rfl, rfl⟩ := h
        have e1 : args.map a.eval = (l'.map (SV.conc ρ ι)).toArray := by rw [← opnds_ok hf hG hl, ← Array.toList_map]
        unfold okFn at hok
        split at hok
        · rename_i fn hfn
          simp only [Bool.and_eq_true, Bool.not_eq_true'] at hok
          have hb : fn.body.isNone = false := by
            cases hbb : fn.body <;> simp_all
          have hc : ∀ vs : Array Value, (callFunc f' vs).run P w = .ok (.enter f' vs) w := by
            intro vs
            unfold callFunc
            rw [Sem.run_bind, run_program, Result.andThen_ok]
            simp only [hfn, hok.1, hb]
            rfl
          simp [execOp, ho, resolve, opnd_ok hf hG hx, SV.conc, S.conc, Deferred.ofValue, invoke, e1, hc, Function.comp_def]
        · cases hok
      · cases h
    · cases h
  · cases h

theorem upon_value {o : Oper} {K : Act → World → Prop} {Q : Exit → Act → World → Prop} {v : Value} {w' : World}
    (h : (execOp a.eval o).run P w = .ok (.value v) w') (hK : K (a.put o.dst v) w') : o.wp P a w K Q := by
  unfold Oper.wp; rw [h]; exact hK

theorem exec1_ok {I : Interp} (hΓ : CtxOK P I Γ) (hI : ρ.I = I) (hH : H.ok ρ) (hm : MRep ρ β ι m w) (hf : FRep ρ ι n fr a) {quiet : Bool} {o : Oper} {nd : List E} {v : SV} {om : Option Mem}
    (h : exec1 P Γ quiet H [] fr m o.op = some (nd, v, om)) (hn : allN ρ nd) {K : Act → World → Prop} {Q : Exit → Act → World → Prop}
    (hK : ∀ ι' w', FRep ρ ι' n fr a → MRep ρ β ι' (om.getD m) w' → K (a.put o.dst (v.conc ρ ι')) w') : o.wp P a w K Q := by
  have hG : allT ρ [] := fun e he => by cases he
  unfold exec1 at h
  split at h
  · rename_i nd' v' hq
    simp only [Option.some.injEq, Prod.mk.injEq] at h
    obtain ⟨rfl, rfl, rfl⟩ := h
    exact upon_value (qop_ok hH hm hf hG hq hn) (hK ι w hf hm)
  · split at h
    · rename_i f l hc
      have hcall := callOf_ok (w := w) hf hG hc
      unfold Oper.wp
      rw [hcall]
      show Calls P f _ w _
      split at h
      · rename_i nd' v' hg
        simp only [Option.some.injEq, Prod.mk.injEq] at h
        obtain ⟨rfl, rfl, rfl⟩ := h
        refine (hΓ.ok _ _ _ _ _ _ _ hg ρ β ι w hI hH hn hm).mono fun e w' hr => ?_
        obtain ⟨rfl, hm'⟩ := hr
        exact hK ι w' hf hm'
      · rename_i nd' v' m' hg
        split at h
        · cases h
        · split at h
          · rename_i hs
            simp only [Option.some.injEq, Prod.mk.injEq] at h
            obtain ⟨rfl, rfl, rfl⟩ := h
            refine (hΓ.ok _ _ _ _ _ _ _ hg ρ β ι w hI hH hn hm).mono fun e w' hr => ?_
            obtain ⟨ι', hι, rfl, hm'⟩ := hr
            exact hK ι' w' (hf.congr hι hs) hm'
          · cases h
      · cases h
    · split at h
      · cases h
      · split at h
        · rename_i nd' v' m' hw
          simp only [Option.some.injEq, Prod.mk.injEq] at h
          obtain ⟨rfl, rfl, rfl⟩ := h
          obtain ⟨x, w', h1, ι', rfl, h3, h4⟩ := wop_ok hH hm hf hw hn
          unfold Oper.wp
          rcases h1 with h1 | ⟨h1, hx⟩
          · rw [h1]; exact hK ι' w' h3 h4
          · rw [h1]
            show K (a.put o.dst Go.undef) w'
            rw [← hx]; exact hK ι' w' h3 h4
        · cases h

theorem exec1_quiet {I : Interp} (hΓ : CtxOK P I Γ) (hI : ρ.I = I) (hH : H.ok ρ) (hf : FRep ρ ι n fr a) (hG : allT ρ G) {o : Oper} {nd : List E} {v : SV} {om : Option Mem}
    (h : exec1 P Γ true H G fr m o.op = some (nd, v, om)) (hn : allN ρ nd) :
    om = none ∧ ∀ w, MRep ρ β ι m w → o.quietAt P a (fun w' => MRep ρ β ι m w') w (v.conc ρ ι) := by
  unfold exec1 at h
  split at h
  · rename_i nd' v' hq
    simp only [Option.some.injEq, Prod.mk.injEq] at h
    obtain ⟨rfl, rfl, rfl⟩ := h
    refine ⟨rfl, fun w hm => ?_⟩
    unfold Oper.quietAt
    rw [qop_ok hH hm hf hG hq hn]
    exact ⟨rfl, rfl⟩
  · split at h
    · rename_i f l hc
      split at h
      · rename_i nd' v' hg
        simp only [Option.some.injEq, Prod.mk.injEq] at h
        obtain ⟨rfl, rfl, rfl⟩ := h
        refine ⟨rfl, fun w hm => ?_⟩
        unfold Oper.quietAt
        rw [callOf_ok (w := w) hf hG hc]
        exact ⟨rfl, hΓ.ok _ _ _ _ _ _ _ hg ρ β ι w hI hH hn hm⟩
      · simp at h
      · cases h
    · simp at h

theorem wanted_go (hf : FRep ρ ι n fr a) {o : Oper} (h : guardOf ops fr o = .go G) :
    (allT ρ G → Region.wanted o (yielded ops a.tmps) = true) ∧ (¬ allT ρ G → Region.wanted o (yielded ops a.tmps) = false) := by
  unfold guardOf at h
  unfold Region.wanted
  split at h
  · rename_i hg
    simp only [GS.go.injEq] at h; subst h
    rw [hg]
    exact ⟨fun _ => rfl, fun h => absurd (fun e he => by cases he) h⟩
  · rename_i j want hg
    rw [hg]
    split at h
    · cases h
    · rename_i t ht
      have key : ∀ g x, look fr t = some (g, x) → (allT ρ g → yielded ops a.tmps j = (match x.conc ρ ι with | .bool b => some b | _ => none)) ∧ (¬ allT ρ g → yielded ops a.tmps j = none) := by
        intro g x hl
        constructor
        · intro hg'
          have := hf.yes _ _ _ hl hg'
          unfold yielded
          rw [ht]
          simp only [Option.bind_some, this]
          cases x.conc ρ ι <;> rfl
        · intro hg'
          have := hf.no _ _ _ hl hg'
          unfold yielded
          rw [ht]
          simp only [Option.bind_some, this, Go.undef]
      split at h
      · rename_i g b hl
        split at h
        · rename_i hb
          simp only [GS.go.injEq] at h; subst h; subst hb
          have k := key _ _ hl
          exact ⟨fun hg' => by simp [k.1 hg', SV.conc, S.conc, b_blit], fun hg' => by simp [k.2 hg']⟩
        · cases h
      · rename_i g e _ hl
        simp only [GS.go.injEq] at h; subst h
        have k := key _ _ hl
        have hw : (if want then e else mkNot e).b ρ = true ↔ e.b ρ = want := by
          cases want <;> simp [mkNot_b]
        refine ⟨fun hg' => ?_, fun hg' => ?_⟩
        · have h1 := hw.1 (hg' _ (.head _))
          have h2 : allT ρ g := fun x hx => hg' x (.tail _ hx)
          simp [k.1 h2, SV.conc, S.conc, h1]
        · by_cases h2 : allT ρ g
          · have h1 : ¬ e.b ρ = want := fun he => hg' (fun x hx => by cases hx with | head => exact hw.2 he | tail _ hx => exact h2 x hx)
            simp [k.1 h2, SV.conc, S.conc, h1]
          · simp [k.2 h2]
      · cases h
      · cases h

theorem wanted_skip (hf : FRep ρ ι n fr a) {o : Oper} (h : guardOf ops fr o = .skip) : Region.wanted o (yielded ops a.tmps) = false := by
  unfold guardOf at h
  unfold Region.wanted
  split at h
  · cases h
  · rename_i j want hg
    rw [hg]
    split at h
    · cases h
    · rename_i t ht
      have key : ∀ g x, look fr t = some (g, x) → yielded ops a.tmps j = (match x.conc ρ ι with | .bool b => some b | _ => none) ∨ yielded ops a.tmps j = none := by
        intro g x hl
        by_cases hg' : allT ρ g
        · left
          have := hf.yes _ _ _ hl hg'
          unfold yielded
          rw [ht]
          simp only [Option.bind_some, this]
          cases x.conc ρ ι <;> rfl
        · right
          have := hf.no _ _ _ hl hg'
          unfold yielded
          rw [ht]
          simp only [Option.bind_some, this, Go.undef]
      split at h
      · rename_i g b hl
        split at h
        · cases h
        · rename_i hb
          rcases key _ _ hl with k | k
          · simp [k, SV.conc, S.conc, b_blit, hb]
          · simp [k]
      · cases h
      · rename_i g hl
        rcases key _ _ hl with k | k
        · simp [k, SV.conc, S.conc, Go.undef]
        · simp [k]
      · cases h

theorem guardH_go {o : Oper} (h : guardH H ops fr o = .go G) : guardOf ops fr o = .go G := by
  unfold guardH at h
  split at h
  · rename_i G' hg
    split at h
    · cases h
    · split at h
      · cases h
      · rw [hg]; exact h
  · cases h
  · rename_i hg _
    exact absurd h (hg _)
theorem guardH_skip (hH : H.ok ρ) (hf : FRep ρ ι n fr a) {o : Oper} (h : guardH H ops fr o = .skip) : Region.wanted o (yielded ops a.tmps) = false := by
  unfold guardH at h
  split at h
  · rename_i G' hg
    split at h
    · rename_i hc
      refine (wanted_go hf hg).2 fun hG => ?_
      obtain ⟨g, hg1, hg2⟩ := List.any_eq_true.1 hc
      simp only [decide_eq_true_eq] at hg2
      have h1 := decB_b hH g
      rw [hg2, b_blit, hG g hg1] at h1
      cases h1
    · split at h <;> cases h
  · cases h
  · exact wanted_skip hf h
theorem guardH_now (hH : H.ok ρ) (hf : FRep ρ ι n fr a) {o : Oper} (h : guardH H ops fr o = .now G) : allT ρ G ∧ Region.wanted o (yielded ops a.tmps) = true := by
  unfold guardH at h
  split at h
  · rename_i G' hg
    split at h
    · cases h
    · split at h
      · rename_i hc
        simp only [GS.now.injEq] at h; subst h
        have hG : allT ρ G' := fun g hg1 => by
          have := List.all_eq_true.1 hc g hg1
          simp only [decide_eq_true_eq] at this
          have h1 := decB_b hH g
          rw [this, b_blit] at h1
          exact h1.symm
        exact ⟨hG, (wanted_go hf hg).1 hG⟩
      · cases h
  · cases h
  · rename_i x hx hg
    exact absurd h (hg _)

theorem put_ok (hf : FRep ρ ι n fr a) {dst : Option Tmp} {g : List E} {v : SV} {fr' : Fr} (h : put n fr dst g v = some fr') {x : Value} (hy : allT ρ g → x = v.conc ρ ι) (hn : ¬ allT ρ g → x = Go.undef) :
    FRep ρ ι n fr' (a.put dst x) := by
  unfold put at h
  split at h
  · simp only [Option.some.injEq] at h; subst h; exact hf
  · split at h
    · rename_i ht
      simp only [Option.some.injEq] at h; subst h
      exact hf.put ht hy hn
    · cases h

theorem allN_imp {G : List E} {nd : List E} (h : allN ρ (nd.map (imp G))) (hG : allT ρ G) : allN ρ nd := fun e he =>
  imp_ok G e (h _ (List.mem_map.2 ⟨e, he, rfl⟩)) hG

/-- one operation, in the text's order -/
theorem opStep_ok {I : Interp} (hΓ : CtxOK P I Γ) (hI : ρ.I = I) {quiet : Bool} {o : Oper} {nd : List E} {H' : Hyp} {fr' : Fr} {m' : Mem}
    (h : opStep P Γ quiet n ops o H fr m = some (nd, H', fr', m')) (hH : H.ok ρ) (hn : allN ρ nd) (hm : MRep ρ β ι m w) (hf : FRep ρ ι n fr a) {K : Act → World → Prop} {Q : Exit → Act → World → Prop}
    (hK : ∀ ι' a' w', H'.ok ρ → FRep ρ ι' n fr' a' → MRep ρ β ι' m' w' → K a' w') :
    if Region.wanted o (yielded ops a.tmps) then o.wp P a w K Q else K (a.put o.dst Go.undef) w := by
  unfold opStep at h
  try simp only [outN_eq] at h
  split at h
  · cases h
  · rename_i hg
    simp only [Option.map_eq_some_iff, Prod.mk.injEq] at h
    obtain ⟨fr2, hp, rfl, rfl, rfl, rfl⟩ := h
    rw [if_neg (by rw [guardH_skip hH hf hg]; simp)]
    exact hK ι _ w hH (put_ok hf hp (fun _ => rfl) (fun hx => absurd (fun e he => by cases he) hx)) hm
  · rename_i G hg
    obtain ⟨hG, hw⟩ := guardH_now hH hf hg
    split at h
    · rename_i nd' v om he
      simp only [Option.map_eq_some_iff, Prod.mk.injEq] at h
      obtain ⟨fr2, hp, rfl, rfl, rfl, rfl⟩ := h
      rw [if_pos hw]
      refine exec1_ok hΓ hI hH hm hf he (needs_ok hn) fun ι' w' hf' hm' => ?_
      exact hK ι' _ w' (addFs_ok _ _ hH hn) (put_ok hf' hp (fun _ => rfl) (fun hx => absurd (fun e he => by cases he) hx)) hm'
    · cases h
  · rename_i G hg
    replace hg := guardH_go hg
    split at h
    · rename_i nd' v om he
      simp only [Option.map_eq_some_iff, Prod.mk.injEq] at h
      obtain ⟨fr2, hp, rfl, rfl, rfl, rfl⟩ := h
      by_cases hG : allT ρ G
      · rw [if_pos ((wanted_go hf hg).1 hG)]
        have hq := exec1_quiet (β := β) hΓ hI (addFs_ok _ _ hH hG) hf hG he (allN_imp (needs_ok hn) hG)
        refine Oper.wp_of_quiet (C := fun w' => MRep ρ β ι m w') (K := fun a' => a' = a.put o.dst (v.conc ρ ι)) hm (fun a' w' hm' ha => ?_) ⟨_, hq.2, rfl⟩
        subst ha
        exact hK ι _ w' hH (put_ok hf hp (fun _ => rfl) (fun hx => absurd hG hx)) hm'
      · rw [if_neg (by rw [(wanted_go hf hg).2 hG]; simp)]
        exact hK ι _ w hH (put_ok hf hp (fun hx => absurd hx hG) (fun _ => rfl)) hm
    · cases h

theorem rops_ok {I : Interp} (hΓ : CtxOK P I Γ) (hI : ρ.I = I) {quiet : Bool} : ∀ (l : List Oper) {H H' : Hyp} {nd : List E} {fr fr' : Fr} {m m' : Mem} {ι : Loc} {a : Act} {w : World} {Q : Exit → Act → World → Prop},
    rops P Γ quiet n ops l H fr m = some (nd, H', fr', m') → H.ok ρ → allN ρ nd → MRep ρ β ι m w → FRep ρ ι n fr a →
    (∀ ι' a' w', H'.ok ρ → FRep ρ ι' n fr' a' → MRep ρ β ι' m' w' → Q .normal a' w') → wpList P ops Q l a w
  | [], H, H', nd, fr, fr', m, m', ι, a, w, Q, h, hH, hn, hm, hf, hQ => by
    simp only [rops, Option.some.injEq, Prod.mk.injEq] at h
    obtain ⟨rfl, rfl, rfl, rfl⟩ := h
    exact hQ ι a w hH hf hm
  | o :: l, H, H', nd, fr, fr', m, m', ι, a, w, Q, h, hH, hn, hm, hf, hQ => by
    simp only [rops] at h
    split at h
    · rename_i nd1 H1 fr1 m1 h1
      split at h
      · rename_i nd2 r h2
        simp only [Option.some.injEq, Prod.mk.injEq] at h
        obtain ⟨rfl, rfl⟩ := h
        have hn' := allN_append hn
        refine wpList_step fun K hK => ?_
        exact opStep_ok hΓ hI h1 hH hn'.1 hm hf fun ι' a' w' hH' hf' hm' => hK _ _ (rops_ok hΓ hI l h2 hH' hn'.2 hm' hf' hQ)
      · cases h
    · cases h

theorem exec1_none {o : Op} {nd : List E} {v : SV} {om : Option Mem} (h : exec1 P Γ true H G fr m o = some (nd, v, om)) : om = none := by
  unfold exec1 at h
  split at h
  · simp only [Option.some.injEq, Prod.mk.injEq] at h; exact h.2.2.symm
  · split at h
    · split at h
      · simp only [Option.some.injEq, Prod.mk.injEq] at h; exact h.2.2.symm
      · simp at h
      · cases h
    · simp at h
theorem opStep_mem {o : Oper} {nd : List E} {H' : Hyp} {fr' : Fr} {m' : Mem} (h : opStep P Γ true n ops o H fr m = some (nd, H', fr', m')) : m' = m := by
  unfold opStep at h
  try simp only [outN_eq] at h
  split at h
  · cases h
  · simp only [Option.map_eq_some_iff, Prod.mk.injEq] at h
    obtain ⟨_, _, _, _, _, rfl⟩ := h; rfl
  · split at h
    · rename_i nd' v om he
      simp only [Option.map_eq_some_iff, Prod.mk.injEq] at h
      obtain ⟨_, _, _, _, _, rfl⟩ := h
      rw [exec1_none he]; rfl
    · cases h
  · split at h
    · simp only [Option.map_eq_some_iff, Prod.mk.injEq] at h
      obtain ⟨_, _, _, _, _, rfl⟩ := h; rfl
    · cases h
theorem rops_mem : ∀ (l : List Oper) {H H' : Hyp} {nd : List E} {fr fr' : Fr} {m m' : Mem}, rops P Γ true n ops l H fr m = some (nd, H', fr', m') → m' = m
  | [], H, H', nd, fr, fr', m, m', h => by
    simp only [rops, Option.some.injEq, Prod.mk.injEq] at h; exact h.2.2.2.symm
  | o :: l, H, H', nd, fr, fr', m, m', h => by
    simp only [rops] at h
    split at h
    · rename_i nd1 H1 fr1 m1 h1
      split at h
      · rename_i nd2 r h2
        simp only [Option.some.injEq, Prod.mk.injEq] at h
        obtain ⟨rfl, rfl⟩ := h
        rw [rops_mem l h2, opStep_mem h1]
      · cases h
    · cases h

/-- one operation, in a region that draws its order -/
theorem opStep_quiet {I : Interp} (hΓ : CtxOK P I Γ) (hI : ρ.I = I) {o : Oper} {nd : List E} {H' : Hyp} {fr' : Fr} {m' : Mem}
    (h : opStep P Γ true n ops o H fr m = some (nd, H', fr', m')) (hH : H.ok ρ) (hn : allN ρ nd) (hf : FRep ρ ι n fr a) {K : Act → Prop}
    (hK : ∀ a', H'.ok ρ → FRep ρ ι n fr' a' → K a') :
    if Region.wanted o (yielded ops a.tmps) then o.quiet P a (fun w => MRep ρ β ι m w) K else K (a.put o.dst Go.undef) := by
  unfold opStep at h
  try simp only [outN_eq] at h
  split at h
  · cases h
  · rename_i hg
    simp only [Option.map_eq_some_iff, Prod.mk.injEq] at h
    obtain ⟨fr2, hp, rfl, rfl, rfl, rfl⟩ := h
    rw [if_neg (by rw [guardH_skip hH hf hg]; simp)]
    exact hK _ hH (put_ok hf hp (fun _ => rfl) (fun hx => absurd (fun e he => by cases he) hx))
  · rename_i G hg
    obtain ⟨hG, hw⟩ := guardH_now hH hf hg
    split at h
    · rename_i nd' v om he
      simp only [Option.map_eq_some_iff, Prod.mk.injEq] at h
      obtain ⟨fr2, hp, rfl, rfl, rfl, rfl⟩ := h
      have hq := exec1_quiet (β := β) hΓ hI hH hf (fun e he => by cases he) he (needs_ok hn)
      rw [if_pos hw]
      exact ⟨_, hq.2, hK _ (addFs_ok _ _ hH hn) (put_ok hf hp (fun _ => rfl) (fun hx => absurd (fun e he => by cases he) hx))⟩
    · cases h
  · rename_i G hg
    replace hg := guardH_go hg
    split at h
    · rename_i nd' v om he
      simp only [Option.map_eq_some_iff, Prod.mk.injEq] at h
      obtain ⟨fr2, hp, rfl, rfl, rfl, rfl⟩ := h
      by_cases hG : allT ρ G
      · rw [if_pos ((wanted_go hf hg).1 hG)]
        have hq := exec1_quiet (β := β) hΓ hI (addFs_ok _ _ hH hG) hf hG he (allN_imp (needs_ok hn) hG)
        exact ⟨_, hq.2, hK _ hH (put_ok hf hp (fun _ => rfl) (fun hx => absurd hG hx))⟩
      · rw [if_neg (by rw [(wanted_go hf hg).2 hG]; simp)]
        exact hK _ hH (put_ok hf hp (fun hx => absurd hx hG) (fun _ => rfl))
    · cases h

theorem rops_quiet {I : Interp} (hΓ : CtxOK P I Γ) (hI : ρ.I = I) : ∀ (l : List Oper) {H H' : Hyp} {nd : List E} {fr fr' : Fr} {m m' : Mem} {a : Act} {Q : Act → Prop},
    rops P Γ true n ops l H fr m = some (nd, H', fr', m') → H.ok ρ → allN ρ nd → FRep ρ ι n fr a →
    (∀ a', H'.ok ρ → FRep ρ ι n fr' a' → Q a') → wpQuiet P ops (fun w => MRep ρ β ι m w) Q l a
  | [], H, H', nd, fr, fr', m, m', a, Q, h, hH, hn, hf, hQ => by
    simp only [rops, Option.some.injEq, Prod.mk.injEq] at h
    obtain ⟨rfl, rfl, rfl, rfl⟩ := h
    exact hQ a hH hf
  | o :: l, H, H', nd, fr, fr', m, m', a, Q, h, hH, hn, hf, hQ => by
    simp only [rops] at h
    split at h
    · rename_i nd1 H1 fr1 m1 h1
      split at h
      · rename_i nd2 r h2
        simp only [Option.some.injEq, Prod.mk.injEq] at h
        obtain ⟨rfl, rfl⟩ := h
        have hn' := allN_append hn
        have hm1 : m1 = m := opStep_mem h1
        subst hm1
        refine wpQuiet_step fun K hK => ?_
        exact opStep_quiet (β := β) hΓ hI h1 hH hn'.1 hf fun a' hH' hf' => hK _ (rops_quiet hΓ hI l h2 hH' hn'.2 hf' hQ)
      · cases h
    · cases h
end

/-! ### regions that draw their order, with operations that write, make memory, or call -/
section
variable {P : Program} {ops : Array Oper} {Q : Exit → Act → World → Prop} {md : Region.Mode} {C C' : World → Prop}

/-- Whatever order is picked from here on; at each step the world is of the class. -/
def wpAnyC (P : Program) (md : Region.Mode) (ops : Array Oper) (Q : Exit → Act → World → Prop) (C : Array Bool → World → Prop) : Nat → Array Bool → Act → World → Prop
  | 0, listed, a, w => C listed w ∧ Region.ready md ops listed = [] ∧ Q .normal a w
  | fuel + 1, listed, a, w => C listed w ∧ (Region.ready md ops listed = [] → Q .normal a w) ∧
    ∀ i ∈ Region.ready md ops listed, wpOp P ops Q i (wpAnyC P md ops Q C fuel (listed.setIfInBounds i true)) a w
theorem wpAnyC.mono {K K' : Array Bool → World → Prop} {x : Nat} (hC : ∀ S w, S.getD x false = true → K S w → K' S w) : ∀ (fuel : Nat) (listed : Array Bool) (a : Act) (w : World), listed.getD x false = true → wpAnyC P md ops Q K fuel listed a w → wpAnyC P md ops Q K' fuel listed a w
  | 0, _, _, _, hx, h => ⟨hC _ _ hx h.1, h.2⟩
  | fuel + 1, _, _, _, hx, h => ⟨hC _ _ hx h.1, h.2.1, fun i hi => wpOp_mono (fun a w => wpAnyC.mono hC fuel _ a w (getD_set_true hx)) (h.2.2 i hi)⟩
theorem wpAnyC.any {K : Array Bool → World → Prop} : ∀ (fuel : Nat) (listed : Array Bool) (a : Act) (w : World), wpAnyC P md ops Q K fuel listed a w → wpAny P md ops Q fuel listed a w
  | 0, _, _, _, h => h.2
  | fuel + 1, _, _, _, h => ⟨h.2.1, fun i hi => wpOp_mono (fun a w => wpAnyC.any fuel _ a w) (h.2.2 i hi)⟩

/-- In state a, in every world of the class, o yields v and leaves the world alone. -/
def YieldsC (P : Program) (ops : Array Oper) (C : World → Prop) (o : Oper) (v : Value) (a : Act) : Prop :=
  (Region.wanted o (yielded ops a.tmps) = true ∧ ∀ w, C w → (execOp a.eval o).run P w = .ok (.value v) w) ∨ (Region.wanted o (yielded ops a.tmps) = false ∧ v = Go.undef)
theorem YieldsC.wpOp {i : Nat} {o : Oper} {v : Value} {a : Act} (hi : ops[i]? = some o) (hy : YieldsC P ops C o v a) {K : Act → World → Prop} {w : World} (hC : C w) (h : K (a.put o.dst v) w) : wpOp P ops Q i K a w := by
  unfold Go.wpOp
  simp only [hi]
  rcases hy with ⟨hw, hv⟩ | ⟨hw, rfl⟩
  · simp only [hw, if_true, Oper.wp, hv w hC, Oper.upon]; exact .inl h
  · simp only [hw, Bool.false_eq_true, if_false]; exact h
theorem YieldsC.of_same {o : Oper} {v : Value} {a a' : Act} (hy : YieldsC P ops C o v a) (he : execOp a'.eval o = execOp a.eval o)
    (hw : Region.wanted o (yielded ops a'.tmps) = Region.wanted o (yielded ops a.tmps)) : YieldsC P ops C o v a' := by
  unfold YieldsC at *
  rw [he, hw]
  exact hy
theorem wpOp_putC {j : Nat} {oi oj : Oper} {v : Value} (hj : ops[j]? = some oj) (hap : oi.apart ops oj = true)
    (hsi : ∀ cs b, oi.op ≠ .select cs b) (hsj : ∀ cs b, oj.op ≠ .select cs b)
    (hQ : ∀ c a w, ¬ Q (.panic c) a w) {K : Act → World → Prop} {a : Act} {w : World}
    (hy : YieldsC P ops C oi v a) (h : wpOp P ops Q j K (a.put oi.dst v) w) :
    wpOp P ops Q j (fun a' w' => YieldsC P ops C oi v a' ∧ K (a'.put oi.dst v) w') a w := by
  obtain ⟨h1, h2, h3⟩ := Oper.apart_spec hap
  have keep : ∀ (a : Act), YieldsC P ops C oi v a → ∀ u, YieldsC P ops C oi v (a.put oj.dst u) := fun a hy u =>
    hy.of_same (execOp_put oi hsi a oj.dst u h3) (wanted_put oi a oj.dst u h3)
  have keepD : ∀ d, YieldsC P ops C oi v { a with defers := d :: a.defers } := fun d => hy.of_same rfl rfl
  unfold wpOp at *
  simp only [hj] at *
  rw [wanted_put oj a oi.dst v h1] at h
  split
  · rename_i hw
    simp only [hw, if_true] at h
    rcases h with h | ⟨hasks, hlets⟩
    case inr => exact .inr ⟨by unfold Oper.asks at *; rw [execOp_put oj hsj a oi.dst v h1] at hasks; exact hasks, hlets⟩
    refine .inl ?_
    unfold Oper.wp at *
    rw [execOp_put oj hsj a oi.dst v h1] at h
    generalize (execOp a.eval oj).run P w = r at *
    cases r with
    | ok n w' =>
      cases n <;> simp only [Oper.upon] at h ⊢
      case value u => exact ⟨keep a hy u, by rw [← Act.put_comm a v u h2]; exact h⟩
      case skip => exact ⟨keep a hy _, by rw [← Act.put_comm a v Go.undef h2]; exact h⟩
      case defer d =>
        refine ⟨keep _ (keepD d) _, ?_⟩
        rw [← Act.put_comm _ v Go.undef h2, ← Act.put_defers]
        exact h
      case enter f args =>
        refine Calls.mono h fun e w'' he => ?_
        cases e with
        | returned u => exact ⟨keep a hy u, by rw [← Act.put_comm a v u h2]; exact he⟩
        | panicked c => exact (hQ _ _ _ he).elim
        | outgrown => exact he
      case row row args => exact Rows.mono h fun u w'' he => ⟨keep a hy u, by rw [← Act.put_comm a v u h2]; exact he⟩
    | halt x w' =>
      cases x <;> simp only [Oper.upon] at h ⊢
      case panic u => exact (hQ _ _ _ h).elim
  · rename_i hw
    simp only [hw] at h
    exact ⟨keep a hy _, by rw [← Act.put_comm a v Go.undef h2]; exact h⟩
/-- What comes up only after i. -/
def desc (md : Region.Mode) (ops : Array Oper) (listed : Array Bool) (i : Nat) : List Nat :=
  (List.range ops.size).foldl (fun T t => match ops[t]? with
    | some o => if !listed.getD t true && o.after.toList.any (fun e => Region.binds md e && (decide (e.on = i) || T.contains e.on)) then t :: T else T
    | none => T) []
theorem desc_ok {listed : Array Bool} {i : Nat} : ∀ t ∈ desc md ops listed i, listed.getD t true = false ∧ ∃ o, ops[t]? = some o ∧ ∃ e ∈ o.after, Region.binds md e = true ∧ (e.on = i ∨ e.on ∈ desc md ops listed i) := by
  unfold desc
  generalize List.range ops.size = l
  have key : ∀ (l : List Nat) (T : List Nat), (∀ t ∈ T, listed.getD t true = false ∧ ∃ o, ops[t]? = some o ∧ ∃ e ∈ o.after, Region.binds md e = true ∧ (e.on = i ∨ e.on ∈ T)) →
      ∀ t ∈ l.foldl (fun T t => match ops[t]? with
        | some o => if !listed.getD t true && o.after.toList.any (fun e => Region.binds md e && (decide (e.on = i) || T.contains e.on)) then t :: T else T
        | none => T) T, listed.getD t true = false ∧ ∃ o, ops[t]? = some o ∧ ∃ e ∈ o.after, Region.binds md e = true ∧ (e.on = i ∨ e.on ∈ l.foldl (fun T t => match ops[t]? with
        | some o => if !listed.getD t true && o.after.toList.any (fun e => Region.binds md e && (decide (e.on = i) || T.contains e.on)) then t :: T else T
        | none => T) T) := by
    intro l
    induction l with
    | nil => intro T h; exact h
    | cons x l ih =>
      intro T h
      rw [List.foldl_cons]
      refine ih _ ?_
      split
      · rename_i o ho
        split
        · rename_i hc
          simp only [Bool.and_eq_true, Bool.not_eq_true', List.any_eq_true, Bool.or_eq_true, decide_eq_true_eq, List.contains_iff_mem] at hc
          obtain ⟨h0, e, he, hb, hd⟩ := hc
          intro t ht
          rcases List.mem_cons.1 ht with rfl | ht
          · exact ⟨h0, o, ho, e, by simpa using he, hb, hd.imp id (List.mem_cons_of_mem _)⟩
          · obtain ⟨k1, o', k2, e', k3, k4, k5⟩ := h t ht
            exact ⟨k1, o', k2, e', k3, k4, k5.imp id (List.mem_cons_of_mem _)⟩
        · exact h
      · exact h
  exact key l [] (fun t ht => by cases ht)
/-- What yields the same in every world that may be while it waits may be taken first. -/
theorem wpAnyC_first {K : Array Bool → World → Prop} {i : Nat} {oi : Oper} {v : Value} (hi : ops[i]? = some oi) (hsel : ∀ (j : Nat) (o : Oper) cs b, ops[j]? = some o → o.op ≠ .select cs b)
    (hQ : ∀ c a w, ¬ Q (.panic c) a w) {T : List Nat} (hT : ∀ t ∈ T, ∃ o, ops[t]? = some o ∧ ∃ e ∈ o.after, Region.binds md e = true ∧ (e.on = i ∨ e.on ∈ T))
    (hC : ∀ S w, (∀ t ∈ T, S.getD t true = false) → K S w → C w) (hK : ∀ S w, K (S.setIfInBounds i true) w → K S w) :
    ∀ (fuel : Nat) (listed : Array Bool) (a : Act) (w : World),
      (∀ j oj, ops[j]? = some oj → j ≠ i → listed.getD j true = false → (∀ e ∈ oj.after, Region.binds md e = true → e.on ≠ i) → oi.apart ops oj = true) →
      (∀ t ∈ T, listed.getD t true = false) →
      i ∈ Region.ready md ops listed → YieldsC P ops C oi v a →
      wpAnyC P md ops Q K fuel (listed.setIfInBounds i true) (a.put oi.dst v) w → wpAnyC P md ops Q K (fuel + 1) listed a w := by
  have out : ∀ {listed : Array Bool} {n : Nat}, listed.getD n true = false → listed.getD n false = true → False := fun {listed n} h0 h1 => by
    rcases Nat.lt_or_ge n listed.size with h' | h'
    · simp [h'] at h0 h1; rw [h0] at h1; cases h1
    · simp [Array.getElem?_eq_none h'] at h1
  intro fuel
  induction fuel with
  | zero =>
    intro listed a w _ hdis hr hy H
    refine ⟨hK _ _ H.1, fun h => (by rw [h] at hr; cases hr), fun j hj => ?_⟩
    by_cases hji : j = i
    · subst hji; exact hy.wpOp hi (hC _ _ hdis (hK _ _ H.1)) H
    · have := ready_mono hj hji
      rw [H.2.1] at this
      cases this
  | succ fuel ih =>
    intro listed a w hfree hdis hr hy H
    refine ⟨hK _ _ H.1, fun h => (by rw [h] at hr; cases hr), fun j hj => ?_⟩
    by_cases hji : j = i
    · subst hji; exact hy.wpOp hi (hC _ _ hdis (hK _ _ H.1)) H
    · have h1 := H.2.2 j (ready_mono hj hji)
      obtain ⟨hjun, oj, hoj, hall⟩ := mem_ready.1 hj
      have hnot : ∀ e ∈ oj.after, Region.binds md e = true → e.on ≠ i := fun e he hb heq => by
        have h1 := hall e he hb
        rw [heq] at h1
        exact out (mem_ready.1 hr).1 h1
      have hjT : j ∉ T := fun hjT => by
        obtain ⟨o', ho', e, he, hb, hd⟩ := hT j hjT
        rw [hoj, Option.some.injEq] at ho'; subst ho'
        have h1 := hall e he hb
        rcases hd with hd | hd
        · exact hnot e he hb hd
        · exact out (hdis _ hd) h1
      have h2 := wpOp_putC hoj (hfree j oj hoj hji hjun hnot) (fun cs b => hsel i oi cs b hi) (fun cs b => hsel j oj cs b hoj) hQ hy h1
      have hfree' : ∀ k ok, ops[k]? = some ok → k ≠ i → (listed.setIfInBounds j true).getD k true = false →
          (∀ e ∈ ok.after, Region.binds md e = true → e.on ≠ i) → oi.apart ops ok = true := fun k ok hk hki hun hno => by
        refine hfree k ok hk hki ?_ hno
        by_cases hjk : j = k
        · subst hjk; exact hjun
        · rw [getD_set_ne true hjk] at hun; exact hun
      have hdis' : ∀ t ∈ T, (listed.setIfInBounds j true).getD t true = false := fun t ht => by
        rw [getD_set_ne true (show j ≠ t from fun h => hjT (by rw [h]; exact ht))]; exact hdis t ht
      refine wpOp_mono (fun a' w' h3 => ih (listed.setIfInBounds j true) a' w' hfree' hdis' (ready_mono hr (Ne.symm hji)) h3.1 ?_) h2
      rw [Array.setIfInBounds_comm _ _ hji]
      exact h3.2
/-- The only one that may come up. -/
theorem wpAnyC_only {K : Array Bool → World → Prop} {i fuel : Nat} {listed : Array Bool} {a : Act} {w : World} (hr : Region.ready md ops listed = [i]) (hC : K listed w)
    (h : wpOp P ops Q i (wpAnyC P md ops Q K fuel (listed.setIfInBounds i true)) a w) : wpAnyC P md ops Q K (fuel + 1) listed a w :=
  by
    refine ⟨hC, fun h0 => ?_, fun j hj => ?_⟩
    · rw [hr] at h0; cases h0
    · rw [hr, List.mem_singleton] at hj; subst hj; exact h
theorem wpAnyC_done {K : Array Bool → World → Prop} {listed : Array Bool} {a : Act} {w : World} (hr : Region.ready md ops listed = []) (hC : K listed w) (h : Q .normal a w) : ∀ fuel, wpAnyC P md ops Q K fuel listed a w
  | 0 => ⟨hC, hr, h⟩
  | _ + 1 => ⟨hC, fun _ => h, by rw [hr]; simp⟩
end

/-! the same by symbols: the blocks of D are not looked at by what is taken early -/
def kill (D : List Nat) (m : Mem) : Mem := m.zipIdx.map fun p => if D.contains p.2 then { p.1 with dead := true } else p.1
/-- which blocks an operation has turned -/
def stays (D D' : List Nat) (m m' : Mem) : Bool := decide (m.length ≤ m'.length) && (List.range m.length).all fun i => D.contains i || (!D'.contains i && decide (m[i]? = m'[i]?))
def outE (l : List E) (H : Hyp) (fr : Fr) : List E × Hyp × Fr := match l with
  | [] => ([], H, fr)
  | e :: l => (e :: l, addFs (e :: l) H, fr)
theorem outE_eq (l : List E) (H : Hyp) (fr : Fr) : outE l H fr = (l, addFs l H, fr) := by cases l <;> rfl
/-- one operation that is taken early -/
def early (P : Program) (n : Nat) (ops : Array Oper) (o : Oper) (H : Hyp) (fr : Fr) (m : Mem) : Option (List E × Hyp × Fr) :=
  match guardH H ops fr o with
  | .bad => none
  | .skip => (put n fr o.dst [] .undef).map fun fr' => ([], H, fr')
  | .now _ => match qop P H [] fr m o.op with
    | some (nd, v) => (put n fr o.dst [] v).map fun fr' => outE (needs nd) H fr'
    | none => none
  | .go G => match qop P (addFs G H) G fr m o.op with
    | some (nd, v) => (put n fr o.dst G v).map fun fr' => (needs (nd.map (imp G)), H, fr')
    | none => none
/-- What is looked at now stands until g is carried out; g waits for i. -/
def gateOk (ops : Array Oper) (listed : Array Bool) (i : Nat) : Option Nat → Bool
  | none => true
  | some x => (desc .any ops listed i).contains x
/-- g: the next operation that turns something. What it waits for may look at all there is now. -/
def firstEarly (P : Program) (n : Nat) (ops : Array Oper) (D : List Nat) (g : Option Nat) (listed : Array Bool) (H : Hyp) (fr : Fr) (m : Mem) : List Nat → Option (Nat × List E × Hyp × Fr)
  | [] => none
  | i :: l => match ops[i]? with
    | some o => if Region.free .any ops listed i && decide (g ≠ some i) then match early P n ops o H fr (kill D m) with
        | some r => some (i, r)
        | none => if gateOk ops listed i g then match early P n ops o H fr m with
            | some r => some (i, r)
            | none => firstEarly P n ops D g listed H fr m l
          else firstEarly P n ops D g listed H fr m l
      else firstEarly P n ops D g listed H fr m l
    | none => none
/-! the same blocks under other numbers -/
def renS (π : List Nat) : S → S
  | .ptr b o => .ptr (π.getD b 0) o
  | .slc b o l c => .slc (π.getD b 0) o l c
  | .fn f l => .fn f (l.map fun p => (π.getD p.1 0, p.2))
  | x => x
def renSeg (π : List Nat) : Seg → Seg
  | .one x => .one (renS π x)
  | x => x
def renV (π : List Nat) : SV → SV
  | .s x => .s (renS π x)
  | .agg l => .agg (l.map (renSeg π))
  | .tup l => .tup (l.map fun p => (p.1, p.2.map (renSeg π)))
  | .junk => .junk
def renFr (π : List Nat) (fr fr' : Fr) : Bool := fr'.all fun f => match look fr' f.t with
  | some (g', y') => (match look fr f.t with
    | some (g, y) => decide (g = g') && decide (y = renV π y')
    | none => false)
  | none => true
def renBlks (π : List Nat) (m : Mem) : Mem → List Nat → Bool
  | [], [] => true
  | B :: l, p :: r => (match m[p]? with | some C => B.dead || (!C.dead && decide (B.ty = C.ty) && (!B.wr || C.wr) && decide (B.grow = C.grow) && decide (C.segs = B.segs.map (renSeg π))) | none => false) && renBlks π m l r
  | _, _ => false
def renMem (K : Nat) (π : List Nat) (m m' : Mem) : Bool :=
  decide π.Nodup && decide (π.take K = List.range K) && π.all (fun b => decide (b < m.length)) && decide (K ≤ m'.length) && renBlks π m m' π
/-- what a value, a block shows -/
def refsS : S → List Nat
  | .ptr b _ => [b]
  | .slc b _ _ _ => [b]
  | .fn _ caps => caps.map (·.1)
  | _ => []
def refsSeg : Seg → List Nat
  | .one x => refsS x
  | _ => []
def refsV : SV → List Nat
  | .s x => refsS x
  | .agg l => l.flatMap refsSeg
  | .tup l => l.flatMap fun p => p.2.flatMap refsSeg
  | .junk => []
def pairUp (P : List (Nat × Nat)) : List Nat → List Nat → List (Nat × Nat)
  | b' :: r', b :: r => pairUp (if P.any (fun p => p.1 == b') then P else (b', b) :: P) r' r
  | _, _ => P
def pairStep (m m' : Mem) (P : List (Nat × Nat)) : List (Nat × Nat) := P.foldl (fun Q p => match m'[p.1]?, m[p.2]? with
  | some B', some B => if B'.dead then Q else pairUp Q (B'.segs.flatMap refsSeg) (B.segs.flatMap refsSeg)
  | _, _ => Q) P
/-- which block here is which block there: by what the frames show (no proof hangs on it) -/
def guessPi (K : Nat) (fr : Fr) (m : Mem) (fr' : Fr) (m' : Mem) : List Nat :=
  let P1 := fr'.foldl (fun P f => match look fr' f.t, look fr f.t with
    | some (_, y'), some (_, y) => pairUp P (refsV y') (refsV y)
    | _, _ => P) ((List.range K).map fun i => (i, i))
  let P2 := pairStep m m' (pairStep m m' (pairStep m m' P1))
  (List.range m'.length).foldl (fun π b' => π ++ [match P2.find? (fun p => p.1 == b') with
    | some p => p.2
    | none => match (List.range m.length).find? (fun b => !π.contains b && !(P2.any fun p => p.2 == b) && (match m'[b']?, m[b]? with | some B', some B => B'.dead || (decide (B'.ty = B.ty) && decide (B'.segs = B.segs)) | _, _ => false)) with
      | some b => b
      | none => 0]) []
def findRen (K : Nat) (fr : Fr) (m : Mem) (fr' : Fr) (m' : Mem) : Bool :=
  decide (m.length = m'.length) && renMem K (guessPi K fr m fr' m') m m' && renFr (guessPi K fr m fr' m') fr fr'
def sameFr (fr fr' : Fr) : Bool := fr'.all fun f => decide (look fr f.t = look fr' f.t)
def sameAs (K : Nat) (fr : Fr) (m : Mem) (fr' : Fr) (m' : Mem) : Bool := (sameFr fr fr' && decide (m = m')) || findRen K fr m fr' m'
/-- several that may come up: each of them first, and all the ways must say the same -/
def joinB (K : Nat) (step : Nat → Option (List E × Hyp × Fr × Mem)) : List Nat → Option (List E × Fr × Mem)
  | [] => none
  | [i] => match step i with
    | some (nd, _, fr, m) => some (nd, fr, m)
    | none => none
  | i :: l => match step i with
    | some (nd, _, fr, m) => match joinB K step l with
      | some (nd', fr', m') => if sameAs K fr m fr' m' then some (nd ++ nd', fr', m') else none
      | none => none
    | none => none
def diffs (m m' : Mem) : List Nat := (List.range m.length).filter fun i => decide (m[i]? ≠ m'[i]?)
/-- the blocks that the operations turn, in the text's order -/
def turned (P : Program) (Γ : Ctx) (n : Nat) (ops : Array Oper) : List Oper → Hyp → Fr → Mem → List Nat
  | [], _, _, _ => []
  | o :: l, H, fr, m => match opStep P Γ false n ops o H fr m with
    | some (_, H', fr', m') => diffs m m' ++ turned P Γ n ops l H' fr' m'
    | none => []
def unlisted (ops : Array Oper) (listed : Array Bool) : List Oper := (ops.toList.zipIdx.filter fun p => !listed.getD p.2 true).map (·.1)
def bstep (P : Program) (Γ : Ctx) (n : Nat) (ops : Array Oper) (nx : Array Bool → Hyp → Fr → Mem → List Nat) (D : List Nat) (L : List Nat) (listed : Array Bool) (H : Hyp) (fr : Fr) (m : Mem) (more : List Nat → List Nat → Array Bool → Hyp → Fr → Mem → Option (List E × Hyp × Fr × Mem)) (i : Nat) : Option (List E × Hyp × Fr × Mem) :=
  match ops[i]? with
  | some o => match opStep P Γ false n ops o H fr m with
    | some (nd, H', fr', m') =>
      if stays D (nx (listed.setIfInBounds i true) H' fr' m') m m' && (decide (L.head? = some i) || stays [] [] m m') && m.all (fun B => B.segs.all (Seg.sc m.length)) then
        match more (nx (listed.setIfInBounds i true) H' fr' m') (L.erase i) (listed.setIfInBounds i true) H' fr' m' with
        | some (nd', q) => some (nd ++ nd', q)
        | none => none
      else none
    | none => none
  | none => none
def dops (P : Program) (Γ : Ctx) (n : Nat) (ops : Array Oper) (nx : Array Bool → Hyp → Fr → Mem → List Nat) : List Nat → Nat → List Nat → Array Bool → Hyp → Fr → Mem → Option (List E × Hyp × Fr × Mem)
  | _, 0, _, listed, H, fr, m => match Region.ready .any ops listed with
    | [] => some ([], H, fr, m)
    | _ => none
  | D, k + 1, L, listed, H, fr, m =>
    let rd := Region.ready .any ops listed
    match rd with
    | [] => some ([], H, fr, m)
    | _ => match firstEarly P n ops D L.head? listed H fr m rd with
      | some (i, nd, H', fr') => match dops P Γ n ops nx D k L (listed.setIfInBounds i true) H' fr' m with
        | some (nd', q) => some (nd ++ nd', q)
        | none => none
      | none => match rd, L with
        | [i], x :: L' => if i = x then match ops[i]? with
          | some o => match opStep P Γ false n ops o H fr m with
            | some (nd, H', fr', m') => if stays D D m m' && m.all (fun B => B.segs.all (Seg.sc m.length)) then match dops P Γ n ops nx D k L' (listed.setIfInBounds i true) H' fr' m' with
                | some (nd', q) => some (nd ++ nd', q)
                | none => none
              else none
            | none => none
          | none => none
          else none
        | _, x :: L' => match joinB m.length (bstep P Γ n ops nx D (x :: L') listed H fr m (fun D' L'' S H' fr' m' => dops P Γ n ops nx D' k L'' S H' fr' m')) rd with
          | some (nd, fr', m') => some (nd, H, fr', m')
          | none => none
        | _, _ => none
/-- the operations that turn something, or may, in the text's order -/
def lates (P : Program) (Γ : Ctx) (n : Nat) (ops : Array Oper) : Nat → List Oper → Hyp → Fr → Mem → List Nat
  | _, [], _, _, _ => []
  | i, o :: l, H, fr, m => match early P n ops o H fr m with
    | some (_, H', fr') => lates P Γ n ops (i + 1) l H' fr' m
    | none => match opStep P Γ false n ops o H fr m with
      | some (_, H', fr', m') => i :: lates P Γ n ops (i + 1) l H' fr' m'
      | none => []
/-- both at once: which operations turn something, and which blocks are turned -/
def scan (P : Program) (Γ : Ctx) (n : Nat) (ops : Array Oper) : Nat → List Oper → Hyp → Fr → Mem → List Nat × List Nat
  | _, [], _, _, _ => ([], [])
  | i, o :: l, H, fr, m => match early P n ops o H fr m with
    | some (_, H', fr') => scan P Γ n ops (i + 1) l H' fr' m
    | none => match opStep P Γ false n ops o H fr m with
      | some (_, H', fr', m') => match scan P Γ n ops (i + 1) l H' fr' m' with
        | (L, D) => (i :: L, diffs m m' ++ D)
      | none => ([], [])
/-- by its text alone: an operation that may turn something -/
def isLate : Op → Bool
  | .store .. | .alloc .. | .box .. | .buildSlice .. | .makeSlice .. => true
  | .call ⟨.builtin .len, _, _⟩ | .call ⟨.builtin .max, _, _⟩ | .call ⟨.builtin .min, _, _⟩ | .call ⟨.builtin .cap, _, _⟩ => false
  | .call _ => true
  | _ => false
def latesT (ops : Array Oper) : List Nat := (ops.toList.zipIdx.filter fun p => isLate p.1.op).map (·.2)
/-- all that is looked at is looked at ahead of what may turn something -/
def lops (P : Program) (Γ : Ctx) (n : Nat) (ops : Array Oper) (H : Hyp) (fr : Fr) (m : Mem) : Option (List E × Hyp × Fr × Mem) :=
  dops P Γ n ops (fun _ _ _ m' => List.range m'.length) (List.range m.length) ops.size (latesT ops) (Array.replicate ops.size false) H fr m
def fops (P : Program) (Γ : Ctx) (n : Nat) (ops : Array Oper) (H : Hyp) (fr : Fr) (m : Mem) : Option (List E × Hyp × Fr × Mem) :=
  match scan P Γ n ops 0 ops.toList H fr m with
  | (L, D) => dops P Γ n ops (fun S H' fr' m' => turned P Γ n ops (unlisted ops S) H' fr' m') D ops.size L (Array.replicate ops.size false) H fr m
/-- a region, in whatever order it is carried out -/
def regOps (P : Program) (Γ : Ctx) (n : Nat) (ops : Array Oper) (draw : Bool) (H : Hyp) (fr : Fr) (m : Mem) : Option (List E × Hyp × Fr × Mem) :=
  if draw then
    match (if Region.lexB .any ops then rops P Γ true n ops ops.toList H fr m else none) with
    | some r => some r
    | none => if Region.noSelect ops then match lops P Γ n ops H fr m with
        | some r => some r
        | none => fops P Γ n ops H fr m
      else none
  else rops P Γ false n ops ops.toList H fr m
section
variable {ρ : Env} {ι ι' : Loc} {H : Hyp} {P : Program} {Γ : Ctx} {w : World} {β : Base} {m m' : Mem} {fr : Fr} {n : Nat} {a : Act} {G : List E} {ops : Array Oper}
theorem kill_at {D : List Nat} {i : Nat} {B : Blk} (h : (kill D m)[i]? = some B) : ∃ C, m[i]? = some C ∧ ((D.contains i = true ∧ B = { C with dead := true }) ∨ (D.contains i = false ∧ B = C)) := by
  unfold kill at h
  rw [List.getElem?_map, List.getElem?_zipIdx] at h
  cases hm : m[i]? with
  | none => rw [hm] at h; cases h
  | some C =>
    rw [hm] at h
    simp only [Option.map_some, Nat.zero_add, Option.some.injEq] at h
    refine ⟨C, rfl, ?_⟩
    split at h
    · rename_i hc; exact .inl ⟨hc, h.symm⟩
    · rename_i hc; exact .inr ⟨by simpa using hc, h.symm⟩
theorem kill_len (D : List Nat) (m : Mem) : (kill D m).length = m.length := by simp [kill]
theorem MRep.kill (hm : MRep ρ β ι m w) (D : List Nat) : MRep ρ β ι (kill D m) w := by
  have at_ : ∀ {i : Nat} {B : Blk}, (Sx.kill D m)[i]? = some B → B.dead = false → m[i]? = some B := by
    intro i B hB hd
    obtain ⟨C, hC, ⟨_, rfl⟩ | ⟨_, rfl⟩⟩ := kill_at hB
    · cases hd
    · exact hC
  exact ⟨fun i j B C hB hC hBd hCd => hm.inj i j B C (at_ hB hBd) (at_ hC hCd) hBd hCd, fun i B hB hd => hm.blk i B (at_ hB hd) hd, fun i B hB hd => hm.nils i B (at_ hB hd) hd, hm.agr, by rw [kill_len]; exact hm.len, by rw [kill_len]; exact hm.new, hm.size,
    by rw [kill_len]; exact hm.old, hm.os, hm.tape, hm.output, hm.xt, by rw [kill_len]; exact hm.xd⟩
/-- A world of the later class is one of the elder. -/
theorem stays_ok {D D' : List Nat} (hs : stays D D' m m' = true) (hsc : m.all (fun B => B.segs.all (Seg.sc m.length)) = true) (hag : Loc.agree m.length ι ι') (hk : β.k ≤ m.length) (h : MRep ρ β ι' (kill D' m') w) : MRep ρ β ι (kill D m) w := by
  simp only [stays, Bool.and_eq_true, decide_eq_true_eq, List.all_eq_true, List.mem_range, Bool.or_eq_true, Bool.not_eq_true'] at hs
  obtain ⟨hlen, hs⟩ := hs
  have lt : ∀ {i : Nat} {B : Blk}, (kill D m)[i]? = some B → i < m.length := fun {i B} hB => by
    obtain ⟨C, hC, _⟩ := kill_at hB; exact (List.getElem?_eq_some_iff.1 hC).1
  have at_ : ∀ {i : Nat} {B : Blk}, (kill D m)[i]? = some B → B.dead = false → (kill D' m')[i]? = some B ∧ cellsOf ρ ι' B.segs = cellsOf ρ ι B.segs := by
    intro i B hB hd
    have hi := lt hB
    obtain ⟨C, hC, ⟨_, rfl⟩ | ⟨hn, rfl⟩⟩ := kill_at hB
    · cases hd
    · have h1 := hs i hi
      rw [hn] at h1
      simp only [Bool.false_eq_true, false_or] at h1
      refine ⟨?_, (cellsOf_congr hag (List.all_eq_true.1 hsc _ (List.mem_of_getElem? hC))).symm⟩
      unfold kill
      rw [List.getElem?_map, List.getElem?_zipIdx, ← h1.2, hC]
      simp only [Option.map_some, Nat.zero_add, h1.1, Bool.false_eq_true, if_false]
  refine ⟨fun i j B C hB hC hBd hCd hBn hCn he => ?_, fun i B hB hd hn => ?_, fun i B hB hd hn => ?_, (hag.mono hk).trans h.agr, by rw [kill_len]; exact hk, fun i h1 h2 => ?_, h.size, fun b hb hi => ?_, h.os, h.tape, h.output, h.xt, fun i j q nn c hv h0 k hk' => ?_⟩
  · have e1 := hag i (lt hB); have e2 := hag j (lt hC)
    exact h.inj i j B C (at_ hB hBd).1 (at_ hC hCd).1 hBd hCd (by rw [← e1.2.2]; exact hBn) (by rw [← e2.2.2]; exact hCn) (by rw [← e1.1, ← e2.1]; exact he)
  · have e1 := hag i (lt hB)
    obtain ⟨fz, rest, k1, k2, k3, k4⟩ := h.blk i B (at_ hB hd).1 hd (by rw [← e1.2.2]; exact hn)
    rw [(at_ hB hd).2, ← e1.1] at k1
    rw [(at_ hB hd).2, ← e1.2.1] at k3
    exact ⟨fz, rest, k1, k2, k3, k4⟩
  · have e1 := hag i (lt hB)
    rw [← (at_ hB hd).2]; exact h.nils i B (at_ hB hd).1 hd (by rw [← e1.2.2]; exact hn)
  · rw [kill_len] at h2
    rw [(hag i h2).1]
    rcases h.new i h1 (by rw [kill_len]; omega) with hn | ⟨j, hj, hn⟩
    · exact .inl hn
    · exact .inr ⟨j, hj, by rw [hn]; exact (hag j (by omega)).1.symm⟩
  · refine h.old b hb fun i hi' => ?_
    rw [kill_len] at hi'
    by_cases hc : i < m.length
    · rw [← (hag i hc).1]; exact hi i (by rw [kill_len]; exact hc)
    · rcases h.new i (by omega) (by rw [kill_len]; exact hi') with hn | ⟨j, hj, hn⟩
      · omega
      · rw [hn, ← (hag j (by omega)).1]; exact hi j (by rw [kill_len]; omega)
  · rw [kill_len] at hk'
    rw [(hag k hk').1]; exact h.xd i j q nn c hv h0 k (by rw [kill_len]; omega)
theorem early_ok (hH : H.ok ρ) (hf : FRep ρ ι n fr a) {o : Oper} {nd : List E} {H' : Hyp} {fr' : Fr} (h : early P n ops o H fr m = some (nd, H', fr')) (hn : allN ρ nd) :
    ∃ v, YieldsC P ops (fun w => MRep ρ β ι m w) o v a ∧ H'.ok ρ ∧ FRep ρ ι n fr' (a.put o.dst v) := by
  unfold early at h
  try simp only [outE_eq] at h
  split at h
  · cases h
  · rename_i hg
    simp only [Option.map_eq_some_iff, Prod.mk.injEq] at h
    obtain ⟨fr2, hp, rfl, rfl, rfl⟩ := h
    exact ⟨_, .inr ⟨guardH_skip hH hf hg, rfl⟩, hH, put_ok hf hp (fun _ => rfl) (fun hx => absurd (fun e he => by cases he) hx)⟩
  · rename_i G hg
    obtain ⟨hG, hw⟩ := guardH_now hH hf hg
    split at h
    · rename_i nd' v he
      simp only [Option.map_eq_some_iff, Prod.mk.injEq] at h
      obtain ⟨fr2, hp, rfl, rfl, rfl⟩ := h
      exact ⟨v.conc ρ ι, .inl ⟨hw, fun w hm => qop_ok hH hm hf (fun e he => by cases he) he (needs_ok hn)⟩, addFs_ok _ _ hH hn, put_ok hf hp (fun _ => rfl) (fun hx => absurd (fun e he => by cases he) hx)⟩
    · cases h
  · rename_i G hg
    replace hg := guardH_go hg
    split at h
    · rename_i nd' v he
      simp only [Option.map_eq_some_iff, Prod.mk.injEq] at h
      obtain ⟨fr2, hp, rfl, rfl, rfl⟩ := h
      by_cases hG : allT ρ G
      · exact ⟨v.conc ρ ι, .inl ⟨(wanted_go hf hg).1 hG, fun w hm => qop_ok (addFs_ok _ _ hH hG) hm hf hG he (allN_imp (needs_ok hn) hG)⟩, hH, put_ok hf hp (fun _ => rfl) (fun hx => absurd hG hx)⟩
      · exact ⟨Go.undef, .inr ⟨(wanted_go hf hg).2 hG, rfl⟩, hH, put_ok hf hp (fun hx => absurd hx hG) (fun _ => rfl)⟩
    · cases h
/-- the class of worlds while the operation g waits -/
def cls (ρ : Env) (β : Base) (ι : Loc) (D : List Nat) (m : Mem) (g : Option Nat) (S : Array Bool) (w : World) : Prop :=
  match g with
  | none => MRep ρ β ι m w
  | some x => if S.getD x false = true then MRep ρ β ι (kill D m) w else MRep ρ β ι m w
theorem cls_now {D : List Nat} (hm : MRep ρ β ι m w) (g : Option Nat) (S : Array Bool) : cls ρ β ι D m g S w := by
  unfold cls
  split
  · exact hm
  · split
    · exact hm.kill D
    · exact hm
theorem cls_kill {D : List Nat} {g : Option Nat} {S : Array Bool} (h : cls ρ β ι D m g S w) : MRep ρ β ι (kill D m) w := by
  unfold cls at h
  split at h
  · exact h.kill D
  · split at h
    · exact h
    · exact h.kill D
theorem cls_set {D : List Nat} {g : Option Nat} {i : Nat} (hg : g ≠ some i) {S : Array Bool} (h : cls ρ β ι D m g (S.setIfInBounds i true) w) : cls ρ β ι D m g S w := by
  unfold cls at *
  split at h
  · exact h
  · rename_i x
    rw [getD_set_ne false (show i ≠ x from fun h => hg (by rw [h]))] at h
    exact h
theorem firstEarly_mem {D : List Nat} {g : Option Nat} {listed : Array Bool} {i : Nat} {r : List E × Hyp × Fr} : ∀ {l : List Nat}, firstEarly P n ops D g listed H fr m l = some (i, r) → i ∈ l ∧ g ≠ some i ∧ ∃ o, ops[i]? = some o ∧ Region.free .any ops listed i = true ∧
    (early P n ops o H fr (kill D m) = some r ∨ (early P n ops o H fr m = some r ∧ ∀ x, g = some x → x ∈ desc .any ops listed i))
  | [], h => by simp [firstEarly] at h
  | j :: l, h => by
    unfold firstEarly at h
    split at h
    · rename_i o ho
      split at h
      · rename_i hfr
        rw [Bool.and_eq_true, decide_eq_true_eq] at hfr
        split at h
        · rename_i q hq
          simp only [Option.some.injEq, Prod.mk.injEq] at h
          obtain ⟨rfl, rfl⟩ := h
          exact ⟨.head _, hfr.2, o, ho, hfr.1, .inl hq⟩
        · split at h
          · rename_i hx
            split at h
            · rename_i q hq
              simp only [Option.some.injEq, Prod.mk.injEq] at h
              obtain ⟨rfl, rfl⟩ := h
              refine ⟨.head _, hfr.2, o, ho, hfr.1, .inr ⟨hq, fun x hgx => ?_⟩⟩
              subst hgx
              exact List.contains_iff_mem.1 hx
            · obtain ⟨h1, h2⟩ := firstEarly_mem h; exact ⟨.tail _ h1, h2⟩
          · obtain ⟨h1, h2⟩ := firstEarly_mem h; exact ⟨.tail _ h1, h2⟩
      · obtain ⟨h1, h2⟩ := firstEarly_mem h; exact ⟨.tail _ h1, h2⟩
    · cases h
theorem kill_nil (m : Mem) : kill [] m = m := by
  unfold kill
  apply List.ext_getElem?
  intro i
  rw [List.getElem?_map, List.getElem?_zipIdx]
  cases m[i]? <;> simp
theorem look_at : ∀ {fr : Fr} {t : Nat} {g : List E} {x : SV}, look fr t = some (g, x) → ∃ f ∈ fr, f.t = t
  | [], _, _, _, h => by simp [look_nil] at h
  | f :: l, t, g, x, h => by
    rw [look_cons] at h
    split at h
    · rename_i he; exact ⟨f, .head _, he⟩
    · obtain ⟨f', h1, h2⟩ := look_at h; exact ⟨f', .tail _ h1, h2⟩
theorem sameFr_ok {fr fr' : Fr} (h : sameFr fr fr' = true) (hf : FRep ρ ι n fr a) : FRep ρ ι n fr' a := by
  have key : ∀ t g x, look fr' t = some (g, x) → look fr t = some (g, x) := fun t g x hl => by
    obtain ⟨f, h1, rfl⟩ := look_at hl
    have := List.all_eq_true.1 h f h1
    rw [decide_eq_true_eq] at this
    rw [this, hl]
  exact ⟨hf.size, hf.defers, fun t g x hl => hf.yes t g x (key t g x hl), fun t g x hl => hf.no t g x (key t g x hl)⟩
/-- the head's blocks in the world -/
def piv (π : List Nat) (ι : Loc) : Loc := ⟨fun b => ι.pos (π.getD b 0), fun b => ι.cap (π.getD b 0), fun b => ι.nil (π.getD b 0)⟩
theorem piv_all {π : List Nat} {ι : Loc} {b c : Nat} (h : π[b]? = some c) : (piv π ι).cap b = ι.cap c ∧ (piv π ι).nil b = ι.nil c := by
  simp [piv, List.getD_eq_getElem?_getD, h]
theorem piv_at {π : List Nat} {ι : Loc} {b c : Nat} (h : π[b]? = some c) : piv π ι b = ι c := by simp [piv, List.getD_eq_getElem?_getD, h]
theorem addr_ren {π : List Nat} (b : Nat) (o : E) : addr ρ ι (π.getD b 0) o = addr ρ (piv π ι) b o := rfl
theorem renS_ok {π : List Nat} : ∀ x : S, (renS π x).conc ρ ι = x.conc ρ (piv π ι)
  | .ptr b o => rfl
  | .slc b o l (.kn c) => rfl
  | .slc b o l (.op c) => rfl
  | .fn f l => by
    simp only [renS, S.conc, List.map_map]
    rfl
  | .int _ _ | .bool _ | .nil | .xslc _ _ _ _ | .xptr _ _ _ _ | .nilIface | .nilSlc | .str _ | .nilFn | .val _ | .undef => rfl
theorem renSeg_ok {π : List Nat} : ∀ x : Seg, (renSeg π x).cells ρ ι = x.cells ρ (piv π ι)
  | .one x => by simp only [renSeg, Seg.cells, renS_ok]
  | .run _ _ _ _ => rfl
  | .rows _ _ _ => rfl
theorem renSegs_ok {π : List Nat} : ∀ l : List Seg, cellsOf ρ ι (l.map (renSeg π)) = cellsOf ρ (piv π ι) l
  | [] => rfl
  | x :: l => by rw [List.map_cons, cells_cons, cells_cons, renSeg_ok, renSegs_ok l]
theorem renV_ok {π : List Nat} : ∀ x : SV, (renV π x).conc ρ ι = x.conc ρ (piv π ι)
  | .s x => renS_ok x
  | .agg l => by simp only [renV, SV.conc, renSegs_ok]
  | .tup l => by simp only [renV, SV.conc, List.map_map, Function.comp_def, renSegs_ok]
  | .junk => rfl
theorem renFr_ok {π : List Nat} {fr fr' : Fr} (h : renFr π fr fr' = true) (hf : FRep ρ ι n fr a) : FRep ρ (piv π ι) n fr' a := by
  have key : ∀ t g x, look fr' t = some (g, x) → ∃ y, look fr t = some (g, y) ∧ y.conc ρ ι = x.conc ρ (piv π ι) := fun t g x hl => by
    obtain ⟨f, h1, rfl⟩ := look_at hl
    have h2 := List.all_eq_true.1 h f h1
    rw [hl] at h2
    simp only at h2
    split at h2
    · rename_i g' y hy
      simp only [Bool.and_eq_true, decide_eq_true_eq] at h2
      obtain ⟨rfl, rfl⟩ := h2
      exact ⟨_, hy, renV_ok x⟩
    · cases h2
  refine ⟨hf.size, hf.defers, fun t g x hl hg => ?_, fun t g x hl hg => ?_⟩
  · obtain ⟨y, h1, h2⟩ := key t g x hl
    rw [hf.yes t g y h1 hg, h2]
  · obtain ⟨y, h1, h2⟩ := key t g x hl
    exact hf.no t g y h1 hg
theorem renBlks_ok {π : List Nat} {m : Mem} : ∀ {l : Mem} {r : List Nat}, renBlks π m l r = true → l.length = r.length ∧ ∀ (i : Nat) (B : Blk), l[i]? = some B → ∃ (p : Nat) (C : Blk), r[i]? = some p ∧ m[p]? = some C ∧ (B.dead = false → C.dead = false ∧ B.ty = C.ty ∧ (B.wr = true → C.wr = true) ∧ B.grow = C.grow ∧ cellsOf ρ (piv π ι) B.segs = cellsOf ρ ι C.segs)
  | [], [], _ => ⟨rfl, fun i B h => by simp at h⟩
  | B :: l, p :: r, h => by
    simp only [renBlks, Bool.and_eq_true] at h
    obtain ⟨h1, h2⟩ := renBlks_ok h.2
    refine ⟨by simp [h1], fun i D hD => ?_⟩
    cases i with
    | zero =>
      simp only [List.getElem?_cons_zero, Option.some.injEq] at hD; subst hD
      have h3 := h.1
      split at h3
      · rename_i C hC
        refine ⟨p, C, rfl, hC, fun hd => ?_⟩
        rw [hd, Bool.false_or] at h3
        simp only [Bool.and_eq_true, decide_eq_true_eq, Bool.or_eq_true, Bool.not_eq_true'] at h3
        obtain ⟨⟨⟨⟨a1, a2⟩, a3⟩, a4⟩, a5⟩ := h3
        exact ⟨a1, a2, fun hw => by rcases a3 with h | h; (rw [hw] at h; cases h); exact h, a4, by rw [a5, renSegs_ok]⟩
      · cases h3
    | succ i => simpa using h2 i D (by simpa using hD)
  | [], _ :: _, h => by simp [renBlks] at h
  | _ :: _, [], h => by simp [renBlks] at h
theorem renMem_ok {K : Nat} {π : List Nat} {m head : Mem} (hK : β.k ≤ K) (h : renMem K π m head = true) (hm : MRep ρ β ι m w) : MRep ρ β (piv π ι) head w := by
  simp only [renMem, Bool.and_eq_true, decide_eq_true_eq] at h
  obtain ⟨⟨⟨⟨hnd, hid⟩, hlt⟩, hKh⟩, hb⟩ := h
  obtain ⟨hlen, hblk⟩ := renBlks_ok (ρ := ρ) (ι := ι) hb
  have hlt : ∀ b ∈ π, b < m.length := fun b hb => by simpa using List.all_eq_true.1 hlt b hb
  have at_ : ∀ i, i < head.length → ∃ p, π[i]? = some p ∧ p < m.length := fun i hi => by
    have hi' : i < π.length := by omega
    exact ⟨π[i], List.getElem?_eq_getElem hi', hlt _ (List.getElem_mem hi')⟩
  have id_ : ∀ i, i < K → π[i]? = some i := fun i hi => by
    have := congrArg (fun l => l[i]?) hid
    simp only [List.getElem?_take, if_pos hi, List.getElem?_range hi] at this
    exact this
  have back : ∀ i j p, π[i]? = some p → π[j]? = some p → i = j := fun i j p hi hj => by
    have hi' := (List.getElem?_eq_some_iff.1 hi)
    have hj' := (List.getElem?_eq_some_iff.1 hj)
    exact (List.getElem_inj hnd).1 (hi'.2.trans hj'.2.symm)
  refine ⟨fun i j B D hB hD hBd hDd hBn hDn he => ?_, fun i B hB hBd hBn => ?_, fun i B hB hBd hBn => ?_, fun i hi => ?_, by omega, fun i h1 h2 => ?_, hm.size, fun b hb hi => ?_, hm.os, hm.tape, hm.output, hm.xt, fun i j a n c hv h0 k hk => ?_⟩
  · obtain ⟨p, C, hp, hC, h1⟩ := hblk i B hB
    obtain ⟨q, F, hq, hF, h2⟩ := hblk j D hD
    rw [piv_at hp, piv_at hq] at he
    rw [(piv_all hp).2] at hBn
    rw [(piv_all hq).2] at hDn
    have := hm.inj _ _ C F hC hF (h1 hBd).1 (h2 hDd).1 hBn hDn he
    subst this
    exact back i j p hp hq
  · obtain ⟨p, C, hp, hC, h1⟩ := hblk i B hB
    obtain ⟨hCd, ht, hw, hg, hc⟩ := h1 hBd
    rw [(piv_all hp).2] at hBn
    obtain ⟨fz, rest, k1, k2, k3, k4⟩ := hm.blk p C hC hCd hBn
    rw [(piv_all hp).1, piv_at hp, hc, ht, hg]
    exact ⟨fz, rest, k1, fun h => k2 (hw h), k3, k4⟩
  · obtain ⟨p, C, hp, hC, h1⟩ := hblk i B hB
    obtain ⟨hCd, ht, hw, hg, hc⟩ := h1 hBd
    rw [(piv_all hp).2] at hBn
    rw [hg, hc]; exact hm.nils p C hC hCd hBn
  · have := id_ i (by omega)
    rw [piv_at this, (piv_all this).1, (piv_all this).2]; exact hm.agr i hi
  · obtain ⟨p, hp, hp'⟩ := at_ i h2
    rw [piv_at hp]
    rcases hm.new p (by
      by_cases hc : p < K
      · have := back i p p hp (id_ p hc)
        omega
      · omega) hp' with hn | ⟨j, hj, hn⟩
    · exact .inl hn
    · exact .inr ⟨j, hj, by rw [piv_at (id_ j (by omega))]; exact hn⟩
  · refine hm.old b hb fun i hi' he => ?_
    by_cases hc : i ∈ π
    · obtain ⟨j, hj, hj'⟩ := List.getElem_of_mem hc
      exact hi j (by omega) (by rw [piv_at (List.getElem?_eq_some_iff.2 ⟨hj, hj'⟩)]; exact he)
    · by_cases hk : i < β.k
      · exact hc (List.mem_of_getElem? (id_ i (by omega)))
      · rcases hm.new i (by omega) hi' with hn | ⟨j, hj, hn⟩
        · omega
        · exact hi j (by omega) (by rw [piv_at (id_ j (by omega)), ← hn]; exact he)
  · obtain ⟨p, hp, hp'⟩ := at_ k hk
    rw [piv_at hp]; exact hm.xd i j a n c hv h0 p hp'
/-! two memories in one world -/
/-- no block of the one lies where a block of the other lies -/
def apartM (ι : Loc) (m : Mem) (ιS : Loc) (mS : Mem) : Prop := ∀ i B, m[i]? = some B → B.dead = false → ι.nil i = false → ∀ j, j < mS.length → ιS j ≠ ι i
def aboveM (k : Nat) (ιS : Loc) (mS : Mem) : Prop := ∀ j, j < mS.length → k ≤ ιS j
/-- What an operation does that knows the one memory only leaves the other as it is. -/
theorem MRep.frame (hm : MRep ρ β ι m w) {mS mS' : Mem} {ιS ιS' : Loc} {w' : World} (h' : MRep ρ ⟨w, mS.length, ιS⟩ ιS' mS' w') (hd : apartM ι m ιS mS) (hl : aboveM β.w.heap.size ιS mS) :
    MRep ρ β ι m w' ∧ apartM ι m ιS' mS' ∧ aboveM β.w.heap.size ιS' mS' := by
  have hag : Loc.agree mS.length ιS' ιS := h'.agr
  have hdis : apartM ι m ιS' mS' := by
    intro i B hB hBd hn j hj he
    have hlt := hm.live_lt hB hBd hn
    by_cases hc : j < mS.length
    · rw [(hag j hc).1] at he; exact hd i B hB hBd hn j hc he
    · rcases h'.new j (Nat.not_lt.1 hc) hj with hn' | ⟨q, hq, hn'⟩
      · have : w.heap.size ≤ ιS' j := hn'
        omega
      · have hq : q < mS.length := hq
        rw [hn', (hag q hq).1] at he; exact hd i B hB hBd hn q hq he
  have hab : aboveM β.w.heap.size ιS' mS' := by
    intro j hj
    by_cases hc : j < mS.length
    · rw [(hag j hc).1]; exact hl j hc
    · rcases h'.new j (Nat.not_lt.1 hc) hj with hn' | ⟨q, hq, hn'⟩
      · exact Nat.le_trans hm.size hn'
      · have hq : q < mS.length := hq
        rw [hn', (hag q hq).1]; exact hl q hq
  refine ⟨⟨hm.inj, fun i B hB hBd hn => ?_, hm.nils, hm.agr, hm.len, hm.new, Nat.le_trans hm.size h'.size, fun b hb hi => ?_, h'.os.trans hm.os, h'.tape.trans hm.tape, h'.output.trans hm.output, hm.xt, hm.xd⟩, hdis, hab⟩
  · obtain ⟨fz, rest, h1, h2⟩ := hm.blk i B hB hBd hn
    exact ⟨fz, rest, by rw [h'.old (ι i) (heap_lt h1) fun j hj => hdis i B hB hBd hn j hj]; exact h1, h2⟩
  · rw [← hm.old b hb hi]
    exact h'.old b (Nat.lt_of_lt_of_le hb hm.size) fun j hj he => by
      have := hab j hj
      omega
/-- both memories, the other behind the one -/
def sumL (ι : Loc) (k : Nat) (ιS : Loc) : Loc := ⟨fun i => if i < k then ι.pos i else ιS.pos (i - k), fun i => if i < k then ι.cap i else ιS.cap (i - k), fun i => if i < k then ι.nil i else ιS.nil (i - k)⟩
def shiftM (k : Nat) (mS : Mem) : Mem := mS.map fun B => { B with segs := B.segs.map (renSeg ((List.range mS.length).map (· + k))) }
theorem sumL_lo (k : Nat) (ιS : Loc) : Loc.agree k ι (sumL ι k ιS) := fun i h => by simp [sumL, h]
theorem sumL_hi (k n : Nat) (ιS : Loc) : Loc.agree n ιS (piv ((List.range n).map (· + k)) (sumL ι k ιS)) := fun i h => by
  have e : ((List.range n).map (· + k)).getD i 0 = i + k := by simp [List.getD_eq_getElem?_getD, h]
  simp only [piv, e, sumL]
  have : ¬ i + k < k := by omega
  simp [this]
theorem MRep.sum (hm : MRep ρ β ι m w) {mS : Mem} {ιS : Loc} {βS : Base} (hS : MRep ρ βS ιS mS w) (hd : apartM ι m ιS mS) (hl : aboveM β.w.heap.size ιS mS)
    (hs : m.all (fun B => B.segs.all (Seg.sc m.length)) = true) (hs' : mS.all (fun B => B.segs.all (Seg.sc mS.length)) = true) : MRep ρ β (sumL ι m.length ιS) (m ++ shiftM m.length mS) w := by
  have hlo := sumL_lo (ι := ι) m.length ιS
  have hhi : ∀ j, (sumL ι m.length ιS).pos (m.length + j) = ιS.pos j ∧ (sumL ι m.length ιS).cap (m.length + j) = ιS.cap j ∧ (sumL ι m.length ιS).nil (m.length + j) = ιS.nil j := fun j => by
    have : ¬ m.length + j < m.length := by omega
    refine ⟨?_, ?_, ?_⟩ <;> simp [sumL, this]
  have hlen : (m ++ shiftM m.length mS).length = m.length + mS.length := by simp [shiftM]
  have at_ : ∀ {i : Nat} {C : Blk}, (m ++ shiftM m.length mS)[i]? = some C → (i < m.length ∧ m[i]? = some C) ∨ (∃ j B, i = m.length + j ∧ j < mS.length ∧ mS[j]? = some B ∧ C = { B with segs := B.segs.map (renSeg ((List.range mS.length).map (· + m.length))) }) := by
    intro i C h
    by_cases hi : i < m.length
    · rw [List.getElem?_append_left hi] at h; exact .inl ⟨hi, h⟩
    · rw [List.getElem?_append_right (by omega)] at h
      simp only [shiftM, List.getElem?_map, Option.map_eq_some_iff] at h
      obtain ⟨B, hB, rfl⟩ := h
      exact .inr ⟨i - m.length, B, by omega, (List.getElem?_eq_some_iff.1 hB).1, hB, rfl⟩
  have scL : ∀ {i : Nat} {C : Blk}, m[i]? = some C → cellsOf ρ (sumL ι m.length ιS) C.segs = cellsOf ρ ι C.segs := fun hC =>
    (cellsOf_congr hlo (List.all_eq_true.1 hs _ (List.mem_of_getElem? hC))).symm
  have scH : ∀ {j : Nat} {B : Blk}, mS[j]? = some B → cellsOf ρ (sumL ι m.length ιS) (B.segs.map (renSeg ((List.range mS.length).map (· + m.length)))) = cellsOf ρ ιS B.segs := fun hB => by
    rw [renSegs_ok]
    exact (cellsOf_congr (sumL_hi m.length mS.length ιS) (List.all_eq_true.1 hs' _ (List.mem_of_getElem? hB))).symm
  refine ⟨fun i j C D hC hD hCd hDd hCn hDn he => ?_, fun i C hC hCd hCn => ?_, fun i C hC hCd hCn => ?_, (hlo.mono hm.len).symm.trans hm.agr, by rw [hlen]; have := hm.len; omega, fun i h1 h2 => ?_, hm.size, fun b hb hi => ?_, hm.os, hm.tape, hm.output, hm.xt, fun i j a n c hv h0 k hk => ?_⟩
  · rcases at_ hC with ⟨hi, hC2⟩ | ⟨p, B, rfl, hp, hB, rfl⟩ <;> rcases at_ hD with ⟨hj, hD2⟩ | ⟨q, F, rfl, hq, hF, rfl⟩
    · rw [← (hlo i hi).1, ← (hlo j hj).1] at he
      rw [← (hlo i hi).2.2] at hCn
      rw [← (hlo j hj).2.2] at hDn
      exact hm.inj i j C D hC2 hD2 hCd hDd hCn hDn he
    · rw [← (hlo i hi).1, (hhi q).1] at he
      rw [← (hlo i hi).2.2] at hCn
      exact absurd he.symm (hd i C hC2 hCd hCn q hq)
    · rw [← (hlo j hj).1, (hhi p).1] at he
      rw [← (hlo j hj).2.2] at hDn
      exact absurd he (hd j D hD2 hDd hDn p hp)
    · rw [(hhi p).1, (hhi q).1] at he
      rw [(hhi p).2.2] at hCn
      rw [(hhi q).2.2] at hDn
      rw [hS.inj p q B F hB hF hCd hDd hCn hDn he]
  · rcases at_ hC with ⟨hi, hC2⟩ | ⟨p, B, rfl, hp, hB, rfl⟩
    · rw [← (hlo i hi).2.2] at hCn
      obtain ⟨fz, rest, h1, h2⟩ := hm.blk i C hC2 hCd hCn
      rw [← (hlo i hi).1, ← (hlo i hi).2.1, scL hC2]
      exact ⟨fz, rest, h1, h2⟩
    · rw [(hhi p).2.2] at hCn
      obtain ⟨fz, rest, h1, h2⟩ := hS.blk p B hB hCd hCn
      rw [(hhi p).1, (hhi p).2.1, scH hB]
      exact ⟨fz, rest, h1, h2⟩
  · rcases at_ hC with ⟨hi, hC2⟩ | ⟨p, B, rfl, hp, hB, rfl⟩
    · rw [← (hlo i hi).2.2] at hCn
      rw [scL hC2]; exact hm.nils i C hC2 hCd hCn
    · rw [(hhi p).2.2] at hCn
      rw [scH hB]; exact hS.nils p B hB hCd hCn
  · by_cases hc : i < m.length
    · rw [← (hlo i hc).1]
      rcases hm.new i h1 hc with hn | ⟨j, hj, hn⟩
      · exact .inl hn
      · exact .inr ⟨j, hj, by rw [hn]; exact (hlo j (Nat.lt_of_lt_of_le hj hm.len)).1⟩
    · obtain ⟨q, rfl⟩ : ∃ q, i = m.length + q := ⟨i - m.length, by omega⟩
      rw [(hhi q).1]; exact .inl (hl q (by rw [hlen] at h2; omega))
  · refine hm.old b hb fun i hi' => ?_
    have := hi i (by rw [hlen]; omega)
    rwa [← (hlo i hi').1] at this
  · by_cases hc : k < m.length
    · rw [← (hlo k hc).1]; exact hm.xd i j a n c hv h0 k hc
    · obtain ⟨q, rfl⟩ : ∃ q, k = m.length + q := ⟨k - m.length, by omega⟩
      rw [(hhi q).1]; exact hS.xd i j a n c hv h0 q (by rw [hlen] at hk; omega)
/-- what holds of a frame stays when a place is filled that it does not name -/
theorem FRep.other {fr : Fr} (hf : FRep ρ ι n fr a) {dst : Option Tmp} {v : Value} (h : ∀ t, dst = some t → ∀ f ∈ fr, f.t ≠ t) : FRep ρ ι n fr (a.put dst v) := by
  cases dst with
  | none => exact hf
  | some t =>
    have hl : ∀ t' g x, look fr t' = some (g, x) → t' ≠ t := fun t' g x hl => by
      obtain ⟨f, h1, h2⟩ := look_at hl
      rw [← h2]; exact h t rfl f h1
    refine ⟨by simpa [Act.put] using hf.size, by simpa [Act.put] using hf.defers, fun t' g x hx hg => ?_, fun t' g x hx hg => ?_⟩
    · have := hf.yes t' g x hx hg
      simp only [Act.put]
      rw [Array.getElem?_setIfInBounds_ne (hl t' g x hx).symm]; exact this
    · have := hf.no t' g x hx hg
      simp only [Act.put]
      rw [Array.getElem?_setIfInBounds_ne (hl t' g x hx).symm]; exact this
/-- what holds of fr and m holds of fr' and m', where the blocks may lie elsewhere -/
def FitsAs (K : Nat) (fr : Fr) (m : Mem) (fr' : Fr) (m' : Mem) : Prop := ∀ {ρ : Env} {β : Base} {ι : Loc} {n : Nat} {a : Act} {w : World}, β.k ≤ K → FRep ρ ι n fr a → MRep ρ β ι m w → ∃ ι', FRep ρ ι' n fr' a ∧ MRep ρ β ι' m' w
theorem sameAs_ok {K : Nat} {fr fr' : Fr} {m m' : Mem} (h : sameAs K fr m fr' m' = true) : FitsAs K fr m fr' m' := by
  intro ρ β ι n a w hK hf hm
  unfold sameAs at h
  rw [Bool.or_eq_true] at h
  rcases h with h | h
  · simp only [Bool.and_eq_true, decide_eq_true_eq] at h
    obtain ⟨h, rfl⟩ := h
    exact ⟨ι, sameFr_ok h hf, hm⟩
  · simp only [findRen, Bool.and_eq_true] at h
    exact ⟨piv _ ι, renFr_ok h.2 hf, renMem_ok hK h.1.2 hm⟩
theorem joinB_ok {K : Nat} {step : Nat → Option (List E × Hyp × Fr × Mem)} : ∀ {l : List Nat} {nd : List E} {fr : Fr} {m : Mem}, joinB K step l = some (nd, fr, m) → ∀ i ∈ l, ∃ ndi Hi fri mi, step i = some (ndi, Hi, fri, mi) ∧ (∀ e ∈ ndi, e ∈ nd) ∧ FitsAs K fri mi fr m
  | [], _, _, _, h, _, hi => by cases hi
  | [j], nd, fr, m, h, i, hi => by
    simp only [List.mem_singleton] at hi; subst hi
    unfold joinB at h
    split at h
    · rename_i nd' H' fr' m' hs
      simp only [Option.some.injEq, Prod.mk.injEq] at h
      obtain ⟨rfl, rfl, rfl⟩ := h
      exact ⟨_, _, _, _, hs, fun e he => he, fun _ hf hm => ⟨_, hf, hm⟩⟩
    · cases h
  | j :: k :: l, nd, fr, m, h, i, hi => by
    unfold joinB at h
    split at h
    · rename_i nd1 H1 fr1 m1 hs
      split at h
      · rename_i nd2 fr2 m2 hj
        split at h
        · rename_i hc
          simp only [Option.some.injEq, Prod.mk.injEq] at h
          obtain ⟨rfl, rfl, rfl⟩ := h
          rcases List.mem_cons.1 hi with rfl | hi
          · exact ⟨_, _, _, _, hs, fun e he => List.mem_append_left _ he, sameAs_ok hc⟩
          · obtain ⟨ndi, Hi, fri, mi, h1, h2, h3⟩ := joinB_ok hj i hi
            exact ⟨ndi, Hi, fri, mi, h1, fun e he => List.mem_append_right _ (h2 e he), h3⟩
        · cases h
      · cases h
    · cases h
theorem dops_ok {nx : Array Bool → Hyp → Fr → Mem → List Nat} {I : Interp} (hΓ : CtxOK P I Γ) (hI : ρ.I = I) (hsel : Region.noSelect ops = true) {Q : Exit → Act → World → Prop} (hQ : ∀ c a w, ¬ Q (.panic c) a w) :
    ∀ (k : Nat) {D L : List Nat} {listed : Array Bool} {H H' : Hyp} {nd : List E} {fr fr' : Fr} {m m' : Mem} {ι : Loc} {a : Act} {w : World}, dops P Γ n ops nx D k L listed H fr m = some (nd, H', fr', m') →
      H.ok ρ → allN ρ nd → MRep ρ β ι m w → FRep ρ ι n fr a → (∀ ι' a' w', H'.ok ρ → FRep ρ ι' n fr' a' → MRep ρ β ι' m' w' → Q .normal a' w') →
      wpAnyC P .any ops Q (cls ρ β ι D m L.head?) k listed a w := by
  intro k
  induction k with
  | zero =>
    intro D L listed H H' nd fr fr' m m' ι a w h hH hn hm hf hK
    unfold dops at h
    split at h
    · rename_i hr
      simp only [Option.some.injEq, Prod.mk.injEq] at h
      obtain ⟨rfl, rfl, rfl, rfl⟩ := h
      exact ⟨cls_now hm _ _, hr, hK _ _ _ hH hf hm⟩
    · cases h
  | succ k ih =>
    intro D L listed H H' nd fr fr' m m' ι a w h hH hn hm hf hK
    unfold dops at h
    simp only at h
    split at h
    · rename_i hr
      simp only [Option.some.injEq, Prod.mk.injEq] at h
      obtain ⟨rfl, rfl, rfl, rfl⟩ := h
      exact wpAnyC_done hr (cls_now hm _ _) (hK _ _ _ hH hf hm) _
    · split at h
      · rename_i i nd1 H1 fr1 he
        split at h
        · rename_i nd2 q hd
          simp only [Option.some.injEq, Prod.mk.injEq] at h
          obtain ⟨rfl, rfl⟩ := h
          obtain ⟨hmem, hgi, o, ho, hfree, hea⟩ := firstEarly_mem he
          rcases hea with hea | ⟨hea, hx⟩
          · obtain ⟨v, hy, hH1, hf1⟩ := early_ok (β := β) hH hf hea (allN_append hn).1
            exact wpAnyC_first (K := cls ρ β ι D m L.head?) (T := []) ho (Region.noSelect_spec hsel) hQ (fun t ht => by cases ht) (fun S w _ hw => cls_kill hw) (fun S w hw => cls_set hgi hw)
              k listed a w (Region.free_spec ho hfree) (fun t ht => by cases ht) hmem hy (ih hd hH1 (allN_append hn).2 hm hf1 hK)
          · obtain ⟨v, hy, hH1, hf1⟩ := early_ok (β := β) hH hf hea (allN_append hn).1
            refine wpAnyC_first (K := cls ρ β ι D m L.head?) (T := desc .any ops listed i) ho (Region.noSelect_spec hsel) hQ (fun t ht => (desc_ok t ht).2) (fun S w hS hw => ?_) (fun S w hw => cls_set hgi hw)
              k listed a w (Region.free_spec ho hfree) (fun t ht => (desc_ok t ht).1) hmem hy (ih hd hH1 (allN_append hn).2 hm hf1 hK)
            unfold cls at hw
            split at hw
            · exact hw
            · rename_i x hgx
              have h0 := hS x (hx x hgx)
              split at hw
              · rename_i h1
                rcases Nat.lt_or_ge x S.size with h' | h'
                · simp [h'] at h0 h1; rw [h0] at h1; cases h1
                · simp [Array.getElem?_eq_none h'] at h1
              · exact hw
        · cases h
      · split at h
        · rename_i i x L' hr _
          split at h
          · rename_i hix
            subst hix
            split at h
            · rename_i o ho
              split at h
              · rename_i nd1 H1 fr1 m1 h1
                split at h
                · rename_i hst
                  simp only [Bool.and_eq_true] at hst
                  split at h
                  · rename_i nd2 q hd
                    simp only [Option.some.injEq, Prod.mk.injEq] at h
                    obtain ⟨rfl, rfl⟩ := h
                    have hin : listed.getD i true = false := (mem_ready.1 (by rw [hr]; exact .head _ : i ∈ Region.ready .any ops listed)).1
                    have hlt : (listed.setIfInBounds i true).getD i false = true := by
                      rcases Nat.lt_or_ge i listed.size with h' | h'
                      · simp [h']
                      · simp [Array.getElem?_eq_none h'] at hin
                    refine wpAnyC_only hr (cls_now hm _ _) ?_
                    have hop := opStep_ok (β := ⟨w, m.length, ι⟩) (Q := Q) hΓ hI h1 hH (allN_append hn).1 hm.now hf
                      (K := wpAnyC P .any ops Q (cls ρ β ι D m (some i)) k (listed.setIfInBounds i true))
                      (fun ι' a' w' hH' hf' hm' => by
                        have hag : Loc.agree m.length ι' ι := hm'.agr
                        have hs := hm.since hm'
                        refine wpAnyC.mono (x := i) (fun S w2 hS h2 => ?_) _ _ _ _ hlt (ih hd hH' (allN_append hn).2 hs hf' hK)
                        unfold cls
                        simp only [hS, if_true]
                        exact stays_ok hst.1 hst.2 hag.symm hm.len (cls_kill h2))
                    unfold wpOp
                    simp only [ho]
                    split
                    · rename_i hw; rw [if_pos hw] at hop; exact .inl hop
                    · rename_i hw; rw [if_neg hw] at hop; exact hop
                  · cases h
                · cases h
              · cases h
            · cases h
          · cases h
        · rename_i x L' _ _
          split at h
          · rename_i nd1 fr1 m1 hj
            simp only [Option.some.injEq, Prod.mk.injEq] at h
            obtain ⟨rfl, rfl, rfl, rfl⟩ := h
            refine ⟨cls_now hm _ _, fun h0 => ?_, fun i hi => ?_⟩
            · rw [h0] at hj; simp [joinB] at hj
            obtain ⟨ndi, Hi, fri, mi, hs, hsub, hfri⟩ := joinB_ok hj i hi
            have hni : allN ρ ndi := fun e he => hn e (hsub e he)
            unfold bstep at hs
            split at hs
            · rename_i o ho
              split at hs
              · rename_i nd2 H2 fr2 m2 h1
                split at hs
                · rename_i hst
                  simp only [Bool.and_eq_true] at hst
                  split at hs
                  · rename_i nd3 q hd
                    simp only [Option.some.injEq, Prod.mk.injEq] at hs
                    obtain ⟨rfl, rfl⟩ := hs
                    have hin : listed.getD i true = false := (mem_ready.1 hi).1
                    have hlt : (listed.setIfInBounds i true).getD i false = true := by
                      rcases Nat.lt_or_ge i listed.size with h' | h'
                      · simp [h']
                      · simp [Array.getElem?_eq_none h'] at hin
                    have hop := opStep_ok (β := ⟨w, m.length, ι⟩) (Q := Q) hΓ hI h1 hH (allN_append hni).1 hm.now hf
                      (K := wpAnyC P .any ops Q (cls ρ β ι D m (some x)) k (listed.setIfInBounds i true))
                      (fun ι' a' w' hH' hf' hm' => by
                        have hag : Loc.agree m.length ι' ι := hm'.agr
                        have hs := hm.since hm'
                        refine wpAnyC.mono (x := i) (fun S w2 hS h2 => ?_) _ _ _ _ hlt (ih hd hH' (allN_append hni).2 hs hf' (fun ι2 a2 w2 _ hf2 hm2 => (by
                          obtain ⟨ι3, hf3, hm3⟩ := hfri hm.len hf2 hm2
                          exact hK ι3 a2 w2 hH hf3 hm3)))
                        have hs0 := hst.1.1
                        by_cases hix : i = x
                        · subst hix
                          unfold cls
                          simp only [hS, if_true]
                          exact stays_ok hs0 hst.2 hag.symm hm.len (cls_kill h2)
                        · have h4 := hst.1.2
                          rw [Bool.or_eq_true, decide_eq_true_eq] at h4
                          replace h4 := h4.resolve_left (by simp; exact fun h => hix h.symm)
                          rw [show ((x :: L').erase i).head? = some x by rw [List.erase_cons_tail (by simp; exact fun h => hix h.symm)]; rfl] at h2
                          unfold cls at *
                          simp only at h2 ⊢
                          split
                          · rename_i hSx
                            rw [if_pos hSx] at h2
                            exact stays_ok hs0 hst.2 hag.symm hm.len h2
                          · rename_i hSx
                            rw [if_neg hSx] at h2
                            have h5 := stays_ok (D := []) (D' := []) (m := m) (m' := m2) h4 hst.2 hag.symm hm.len (by rw [kill_nil]; exact h2)
                            rw [kill_nil] at h5
                            exact h5)
                    unfold wpOp
                    simp only [ho]
                    split
                    · rename_i hw; rw [if_pos hw] at hop; exact .inl hop
                    · rename_i hw; rw [if_neg hw] at hop; exact hop
                  · cases hs
                · cases hs
              · cases hs
            · cases hs
          · cases h
        · cases h
theorem goes_reg0 {I : Interp} (hΓ : CtxOK P I Γ) (hI : ρ.I = I) (hP : P.follows .mixedOrders = true) {id : Nat} {draw : Bool} {R : Act → World → Prop}
    {nd : List E} {H' : Hyp} {fr' : Fr} {m' : Mem} (hr : regOps P Γ n ops draw H fr m = some (nd, H', fr', m')) (hn : allN ρ nd) (hH : H.ok ρ) (hf : FRep ρ ι n fr a) (hm : MRep ρ β ι m w)
    (hk : ∀ ι' a' w', H'.ok ρ → FRep ρ ι' n fr' a' → MRep ρ β ι' m' w' → R a' w') : (Code.region id ops draw).wp P (fun e a' w' => e = .normal ∧ R a' w') a w := by
  unfold regOps at hr
  cases draw with
  | false =>
    simp only [Bool.false_eq_true, if_false] at hr
    exact wp_region_list (rops_ok hΓ hI ops.toList hr hH hn hm hf fun ι' a' w' hH' hf' hm' => ⟨rfl, hk _ _ _ hH' hf' hm'⟩)
  | true =>
    simp only [if_true] at hr
    split at hr
    · rename_i r hq
      split at hq
      · rename_i hB
        simp only [Option.some.injEq] at hr; subst hr
        have hmem := rops_mem _ hq
        subst hmem
        refine wp_region_quiet (C := fun w => MRep ρ β ι m' w) hP hB (hm.drew _) ?_
        exact rops_quiet hΓ hI ops.toList hq hH hn hf fun a' hH' hf' => fun w' hm' => ⟨rfl, hk _ _ _ hH' hf' hm'⟩
      · cases hq
    · split at hr
      · rename_i hsel
        have key : ∀ {nx D L}, dops P Γ n ops nx D ops.size L (Array.replicate ops.size false) H fr m = some (nd, H', fr', m') → (Code.region id ops true).wp P (fun e a' w' => e = .normal ∧ R a' w') a w := fun hr =>
          wp_region_any hP (wpAnyC.any _ _ _ _ (dops_ok (Q := fun e a' w' => e = .normal ∧ R a' w') hΓ hI hsel (fun c a w hh => by cases hh.1) ops.size hr hH hn (hm.drew _) hf fun ι' a' w' hH' hf' hm' => ⟨rfl, hk _ _ _ hH' hf' hm'⟩))
        split at hr
        · rename_i r hq
          simp only [Option.some.injEq] at hr; subst hr
          exact key hq
        · unfold fops at hr
          exact key hr
      · cases hr
end

/-! ### where two ways meet again -/

def mergeS (e : E) (x y : S) : Option S :=
  if x = y then some x else
  match x, y with
  | .int k a, .int k' b => if k = k' then some (.int k (mkIteI e a b)) else none
  | .bool a, .bool b => some (.bool (mkIteB e a b))
  | .ptr b o, .ptr b' o' => if b = b' then some (.ptr b (mkIte e o o')) else none
  | .slc b o l (.kn c), .slc b' o' l' (.kn c') => if b = b' then some (.slc b (mkIte e o o') (mkIte e l l') (.kn (mkIte e c c'))) else none
  | .slc b o l (.op c), .slc b' o' l' (.op c') => if b = b' then some (.slc b (mkIte e o o') (mkIte e l l') (.op (mkIte e c c'))) else none
  | .xslc i j o l, .xslc i' j' o' l' => if i = i' ∧ j = j' then some (.xslc i j (mkIte e o o') (mkIte e l l')) else none
  | .xptr i j k f, .xptr i' j' k' f' => if i = i' ∧ j = j' ∧ f = f' then some (.xptr i j (mkIte e k k') f) else none
  | _, _ => none
/-- a row that was written, without what was written -/
def baseA : E → E
  | .upd A _ _ => baseA A
  | A => A
def pushB (c A : E) : E → E
  | .upd B j y => mkUpd (pushB c A B) j (mkIteI c (mkSel H0 A j) y)
  | B => mkIte c A B
def pushA (c : E) : E → E → E
  | .upd A i x, B => mkUpd (pushA c A B) i (mkIteI c x (mkSel H0 B i))
  | A, B => pushB c A B
/-- a choice of rows -/
def mkIteA (c A B : E) : E := if A = B then A else if baseA A = baseA B then pushA c A B else mkIte c A B
theorem pushB_a {ρ : Env} (c A : E) : ∀ B : E, (pushB c A B).a ρ = if c.b ρ then A.a ρ else B.a ρ := by
  intro B
  induction B with
  | upd B j y ihB _ _ =>
    unfold pushB
    rw [mkUpd_a, ihB, mkIteI_i, mkSel_i H0_ok, a_upd]
    funext k
    cases E.b ρ c
    · simp only [Bool.false_eq_true, if_false]
    · simp only [if_true]; split
      · rename_i h; rw [h]
      · rfl
  | _ => exact mkIte_a _ _ _
theorem pushA_a {ρ : Env} (c : E) : ∀ A B : E, (pushA c A B).a ρ = if c.b ρ then A.a ρ else B.a ρ := by
  intro A
  induction A with
  | upd A i x ihA _ _ =>
    intro B
    unfold pushA
    rw [mkUpd_a, ihA, mkIteI_i, mkSel_i H0_ok, a_upd]
    funext k
    cases E.b ρ c
    · simp only [Bool.false_eq_true, if_false]; split
      · rename_i h; rw [h]
      · rfl
    · simp only [if_true]
  | _ => intro B; exact pushB_a _ _ _
theorem mkIteA_a {ρ : Env} (c A B : E) : (mkIteA c A B).a ρ = if c.b ρ then A.a ρ else B.a ρ := by
  unfold mkIteA
  split
  · rename_i h; subst h; simp
  · split
    · exact pushA_a _ _ _
    · exact mkIte_a _ _ _
def mergeXF (e : E) : List XF → List XF → Option (List XF)
  | [], [] => some []
  | f :: l, g :: r => if f.1 = g.1 then (mergeXF e l r).map ((f.1, mkIteA e f.2 g.2) :: ·) else none
  | _, _ => none
def mergeSeg (e : E) (x y : Seg) : Option Seg :=
  match x, y with
  | .one a, .one b => (mergeS e a b).map .one
  | .run k n A o, .run k' n' A' o' => if k = k' ∧ o = o' then some (.run k (mkIte e n n') (mkIteA e A A') o) else none
  | .rows n fs o, .rows n' fs' o' => if o = o' then (mergeXF e fs fs').map fun gs => .rows (mkIte e n n') gs o else none
  | _, _ => none
def mergeSegs (e : E) : List Seg → List Seg → Option (List Seg)
  | [], [] => some []
  | x :: l, y :: r => match mergeSeg e x y, mergeSegs e l r with
    | some z, some s => some (z :: s)
    | _, _ => none
  | _, _ => none
def mergeTup (e : E) : List (Bool × List Seg) → List (Bool × List Seg) → Option (List (Bool × List Seg))
  | [], [] => some []
  | x :: l, y :: r => if x.1 = y.1 then match mergeSegs e x.2 y.2, mergeTup e l r with
      | some z, some s => some ((x.1, z) :: s)
      | _, _ => none
    else none
  | _, _ => none
def mergeV (e : E) (x y : SV) : Option SV :=
  match x, y with
  | .tup l, .tup r => (mergeTup e l r).map .tup
  | .s a, .s b => (mergeS e a b).map .s
  | .agg l, .agg r => (mergeSegs e l r).map .agg
  | x, y => if x = y then some x else none
def mergeBlk (e : E) (x y : Blk) : Option Blk :=
  if x.ty = y.ty ∧ x.wr = y.wr ∧ x.grow = y.grow then
    if x.dead || y.dead then some { x with segs := [], dead := true } else (mergeSegs e x.segs y.segs).map fun z => { x with segs := z }
  else none
def mergeMem (e : E) : Mem → Mem → Option Mem
  | [], [] => some []
  | x :: l, y :: r => match mergeBlk e x y, mergeMem e l r with
    | some z, some s => some (z :: s)
    | _, _ => none
  | _, _ => none
def mergeAt (e : E) (f1 f2 : Fr) (t : Nat) : FE :=
  match look f1 t, look f2 t with
  | some (g, x), some (g', y) => if g = g' then match mergeV e x y with
      | some z => ⟨t, g, z⟩
      | none => ⟨t, [], .junk⟩
    else ⟨t, [], .junk⟩
  | _, _ => ⟨t, [], .junk⟩
def mergeFr (e : E) (fr f1 f2 : Fr) : Fr :=
  ((f1.take (f1.length - fr.length)).map (·.t) ++ (f2.take (f2.length - fr.length)).map (·.t)).map (mergeAt e f1 f2) ++ fr

section
variable {e : E} {ι : Loc} {ρ : Env}
theorem mergeS_ok {x y z : S} (h : mergeS e x y = some z) : z.conc ρ ι = if e.b ρ then x.conc ρ ι else y.conc ρ ι := by
  unfold mergeS at h
  split at h
  · rename_i hxy; subst hxy
    simp only [Option.some.injEq] at h; subst h; simp
  · split at h
    · split at h
      · rename_i hk; subst hk
        simp only [Option.some.injEq] at h; subst h
        simp only [S.conc, mkIteI_i]; split <;> rfl
      · cases h
    · simp only [Option.some.injEq] at h; subst h
      simp only [S.conc, mkIteB_b]; split <;> rfl
    · split at h
      · rename_i hk; subst hk
        simp only [Option.some.injEq] at h; subst h
        simp only [S.conc, addr, mkIte_i]; split <;> rfl
      · cases h
    · split at h
      · rename_i hk; subst hk
        simp only [Option.some.injEq] at h; subst h
        simp only [S.conc, addr, mkIte_i]; split <;> rfl
      · cases h
    · split at h
      · rename_i hk; subst hk
        simp only [Option.some.injEq] at h; subst h
        simp only [S.conc, addr, mkIte_i]
        cases e.b ρ <;> simp
      · cases h
    · split at h
      · rename_i hk; obtain ⟨rfl, rfl⟩ := hk
        simp only [Option.some.injEq] at h; subst h
        simp only [S.conc, mkIte_i]; split <;> rfl
      · cases h
    · split at h
      · rename_i hk; obtain ⟨rfl, rfl, rfl⟩ := hk
        simp only [Option.some.injEq] at h; subst h
        simp only [S.conc, mkIte_i]; split <;> rfl
      · cases h
    · cases h
theorem mergeXF_ok : ∀ {x y z : List XF}, mergeXF e x y = some z → ∀ k, (z.map fun f => XF.conc ρ f k) = if e.b ρ then x.map fun f => XF.conc ρ f k else y.map fun f => XF.conc ρ f k
  | [], [], z, h, k => by simp only [mergeXF, Option.some.injEq] at h; subst h; simp
  | x :: l, [], z, h, k => by simp [mergeXF] at h
  | [], y :: r, z, h, k => by simp [mergeXF] at h
  | x :: l, y :: r, z, h, k => by
    simp only [mergeXF] at h
    split at h
    · rename_i hk
      simp only [Option.map_eq_some_iff] at h
      obtain ⟨w, hw, rfl⟩ := h
      simp only [List.map_cons, mergeXF_ok hw]
      have : XF.conc ρ (x.1, mkIteA e x.2 y.2) k = if e.b ρ then XF.conc ρ x k else XF.conc ρ y k := by
        simp only [XF.conc, mkIteA_a, ← hk]
        cases e.b ρ <;> simp
      rw [this]
      cases e.b ρ <;> simp
    · cases h
theorem mergeSeg_ok {x y z : Seg} (h : mergeSeg e x y = some z) : z.cells ρ ι = if e.b ρ then x.cells ρ ι else y.cells ρ ι := by
  unfold mergeSeg at h
  split at h
  · simp only [Option.map_eq_some_iff] at h
    obtain ⟨s, hs, rfl⟩ := h
    simp only [cells_one, mergeS_ok (ρ := ρ) (ι := ι) hs]; split <;> rfl
  · split at h
    · rename_i hk
      obtain ⟨rfl, rfl⟩ := hk
      simp only [Option.some.injEq] at h; subst h
      simp only [Seg.cells, mkIteA_a, mkIte_i]; cases e.b ρ <;> simp
    · cases h
  · split at h
    · rename_i hk
      subst hk
      simp only [Option.map_eq_some_iff] at h
      obtain ⟨gs, hg, rfl⟩ := h
      simp only [Seg.cells, mkIte_i, mergeXF_ok hg]; cases e.b ρ <;> simp
    · cases h
  · cases h
theorem mergeSegs_ok : ∀ {x y z : List Seg}, mergeSegs e x y = some z → cellsOf ρ ι z = if e.b ρ then cellsOf ρ ι x else cellsOf ρ ι y
  | [], [], z, h => by simp only [mergeSegs, Option.some.injEq] at h; subst h; simp
  | x :: l, [], z, h => by simp [mergeSegs] at h
  | [], y :: r, z, h => by simp [mergeSegs] at h
  | x :: l, y :: r, z, h => by
    simp only [mergeSegs] at h
    split at h
    · rename_i u s hu hs
      simp only [Option.some.injEq] at h; subst h
      rw [cells_cons, cells_cons, cells_cons, mergeSeg_ok (ρ := ρ) (ι := ι) hu, mergeSegs_ok hs]
      split <;> rfl
    · cases h
theorem mergeTup_ok : ∀ {x y z : List (Bool × List Seg)}, mergeTup e x y = some z → SV.conc ρ ι (.tup z) = if e.b ρ then SV.conc ρ ι (.tup x) else SV.conc ρ ι (.tup y) := by
  have key : ∀ {x y z : List (Bool × List Seg)}, mergeTup e x y = some z → (z.map fun p => if p.1 then Value.agg (cellsOf ρ ι p.2).toArray else ((cellsOf ρ ι p.2)[0]?).getD Go.undef) =
      if e.b ρ then (x.map fun p => if p.1 then Value.agg (cellsOf ρ ι p.2).toArray else ((cellsOf ρ ι p.2)[0]?).getD Go.undef) else (y.map fun p => if p.1 then Value.agg (cellsOf ρ ι p.2).toArray else ((cellsOf ρ ι p.2)[0]?).getD Go.undef) := by
    intro x
    induction x with
    | nil => intro y z h; cases y <;> simp [mergeTup] at h; subst h; simp
    | cons a l ih =>
      intro y z h
      cases y with
      | nil => simp [mergeTup] at h
      | cons b r =>
        simp only [mergeTup] at h
        split at h
        · rename_i hab
          split at h
          · rename_i u s hu hs
            simp only [Option.some.injEq] at h; subst h
            simp only [List.map_cons, ih hs, mergeSegs_ok (ρ := ρ) (ι := ι) hu, hab]
            cases e.b ρ <;> simp
          · cases h
        · cases h
  intro x y z h
  simp only [SV.conc, key h]
  split <;> rfl
theorem mergeV_ok {x y z : SV} (h : mergeV e x y = some z) : z.conc ρ ι = if e.b ρ then x.conc ρ ι else y.conc ρ ι := by
  unfold mergeV at h
  split at h
  · simp only [Option.map_eq_some_iff] at h
    obtain ⟨s, hs, rfl⟩ := h
    exact mergeTup_ok hs
  · simp only [Option.map_eq_some_iff] at h
    obtain ⟨s, hs, rfl⟩ := h
    exact mergeS_ok hs
  · simp only [Option.map_eq_some_iff] at h
    obtain ⟨s, hs, rfl⟩ := h
    simp only [SV.conc, mergeSegs_ok (ρ := ρ) (ι := ι) hs]; split <;> rfl
  · split at h
    · rename_i hxy; subst hxy
      simp only [Option.some.injEq] at h; subst h; simp
    · cases h
theorem mergeMem_at : ∀ {x y z : Mem}, mergeMem e x y = some z → x.length = z.length ∧ y.length = z.length ∧ ∀ (i : Nat) (C : Blk), z[i]? = some C → ∃ A B : Blk, x[i]? = some A ∧ y[i]? = some B ∧ mergeBlk e A B = some C
  | [], [], z, h => by simp only [mergeMem, Option.some.injEq] at h; subst h; simp
  | x :: l, [], z, h => by simp [mergeMem] at h
  | [], y :: r, z, h => by simp [mergeMem] at h
  | x :: l, y :: r, z, h => by
    simp only [mergeMem] at h
    split at h
    · rename_i u s hu hs
      simp only [Option.some.injEq] at h; subst h
      obtain ⟨h1, h2, h3⟩ := mergeMem_at hs
      refine ⟨by simp [h1], by simp [h2], fun i C hC => ?_⟩
      cases i with
      | zero =>
        simp only [List.getElem?_cons_zero, Option.some.injEq] at hC; subst hC
        exact ⟨x, y, rfl, rfl, hu⟩
      | succ i => simpa using h3 i C (by simpa using hC)
    · cases h
theorem mergeBlk_ok {A B C : Blk} (h : mergeBlk e A B = some C) (hd : C.dead = false) : A.dead = false ∧ B.dead = false ∧ A.ty = C.ty ∧ B.ty = C.ty ∧ A.wr = C.wr ∧ B.wr = C.wr ∧ A.grow = C.grow ∧ B.grow = C.grow ∧ cellsOf ρ ι C.segs = if e.b ρ then cellsOf ρ ι A.segs else cellsOf ρ ι B.segs := by
  unfold mergeBlk at h
  split at h
  · rename_i hk
    split at h
    · simp only [Option.some.injEq] at h; subst h; cases hd
    · rename_i hdd
      simp only [Bool.or_eq_true, not_or, Bool.not_eq_true] at hdd
      simp only [Option.map_eq_some_iff] at h
      obtain ⟨z, hz, rfl⟩ := h
      exact ⟨hdd.1, hdd.2, rfl, hk.1.symm, rfl, hk.2.1.symm, rfl, hk.2.2.symm, mergeSegs_ok hz⟩
  · cases h
theorem mergeMem_ok {β : Base} {w : World} {x y z : Mem} (h : mergeMem e x y = some z) (hm : if e.b ρ then MRep ρ β ι x w else MRep ρ β ι y w) : MRep ρ β ι z w := by
  obtain ⟨h1, h2, h3⟩ := mergeMem_at h
  cases he : e.b ρ
  · rw [he] at hm
    simp only [Bool.false_eq_true, if_false] at hm
    refine ⟨fun i j C D hC hD hCd hDd hCn hDn hq => ?_, fun i C hC hCd hCn => ?_, fun i C hC hCd hCn => ?_, hm.agr, by rw [← h2]; exact hm.len, by rw [← h2]; exact hm.new, hm.size, by rw [← h2]; exact hm.old, hm.os, hm.tape, hm.output, hm.xt, by rw [← h2]; exact hm.xd⟩
    · obtain ⟨A, B, ha, hb, hs⟩ := h3 i C hC
      obtain ⟨A', B', ha', hb', hs'⟩ := h3 j D hD
      exact hm.inj i j B B' hb hb' (mergeBlk_ok (ρ := ρ) (ι := ι) hs hCd).2.1 (mergeBlk_ok (ρ := ρ) (ι := ι) hs' hDd).2.1 hCn hDn hq
    · obtain ⟨A, B, ha, hb, hs⟩ := h3 i C hC
      obtain ⟨d1, d2, t1, t2, w1, w2, g1, g2, hc⟩ := mergeBlk_ok (ρ := ρ) (ι := ι) hs hCd
      rw [he] at hc; simp only [Bool.false_eq_true, if_false] at hc
      rw [hc, ← t2, ← w2, ← g2]; exact hm.blk i B hb d2 hCn
    · obtain ⟨A, B, ha, hb, hs⟩ := h3 i C hC
      obtain ⟨d1, d2, t1, t2, w1, w2, g1, g2, hc⟩ := mergeBlk_ok (ρ := ρ) (ι := ι) hs hCd
      rw [he] at hc; simp only [Bool.false_eq_true, if_false] at hc
      rw [hc, ← g2]; exact hm.nils i B hb d2 hCn
  · rw [he] at hm
    simp only [if_true] at hm
    refine ⟨fun i j C D hC hD hCd hDd hCn hDn hq => ?_, fun i C hC hCd hCn => ?_, fun i C hC hCd hCn => ?_, hm.agr, by rw [← h1]; exact hm.len, by rw [← h1]; exact hm.new, hm.size, by rw [← h1]; exact hm.old, hm.os, hm.tape, hm.output, hm.xt, by rw [← h1]; exact hm.xd⟩
    · obtain ⟨A, B, ha, hb, hs⟩ := h3 i C hC
      obtain ⟨A', B', ha', hb', hs'⟩ := h3 j D hD
      exact hm.inj i j A A' ha ha' (mergeBlk_ok (ρ := ρ) (ι := ι) hs hCd).1 (mergeBlk_ok (ρ := ρ) (ι := ι) hs' hDd).1 hCn hDn hq
    · obtain ⟨A, B, ha, hb, hs⟩ := h3 i C hC
      obtain ⟨d1, d2, t1, t2, w1, w2, g1, g2, hc⟩ := mergeBlk_ok (ρ := ρ) (ι := ι) hs hCd
      rw [he] at hc; simp only [if_true] at hc
      rw [hc, ← t1, ← w1, ← g1]; exact hm.blk i A ha d1 hCn
    · obtain ⟨A, B, ha, hb, hs⟩ := h3 i C hC
      obtain ⟨d1, d2, t1, t2, w1, w2, g1, g2, hc⟩ := mergeBlk_ok (ρ := ρ) (ι := ι) hs hCd
      rw [he] at hc; simp only [if_true] at hc
      rw [hc, ← g1]; exact hm.nils i A ha d1 hCn
theorem look_append (d fr : Fr) (t : Nat) : look (d ++ fr) t = if t ∈ d.map (·.t) then look d t else look fr t := by
  induction d with
  | nil => simp
  | cons f d ih =>
    simp only [List.cons_append, look_nil, look_cons, List.map_cons, List.mem_cons]
    by_cases hf : f.t = t
    · simp [hf]
    · rw [if_neg hf, if_neg hf, ih]
      have : (t = f.t ∨ t ∈ d.map (·.t)) ↔ t ∈ d.map (·.t) := ⟨fun h => h.resolve_left (fun h => hf h.symm), .inr⟩
      simp only [this]
theorem look_map (g : Nat → FE) (hg : ∀ t, (g t).t = t) (l : List Nat) (t : Nat) (h : t ∈ l) : look (l.map g) t = if (g t).x = .junk then none else some ((g t).g, (g t).x) := by
  induction l with
  | nil => cases h
  | cons u l ih =>
    simp only [List.map_cons, look_nil, look_cons, hg]
    by_cases hu : u = t
    · subst hu; simp
    · rw [if_neg hu]
      exact ih (by cases h with | head => exact absurd rfl hu | tail _ h => exact h)
theorem mergeAt_t (f1 f2 : Fr) (t : Nat) : (mergeAt e f1 f2 t).t = t := by
  unfold mergeAt; repeat' split
  all_goals rfl
theorem mergeFr_ok {n : Nat} {a : Act} {fr d1 d2 : Fr} (h : if e.b ρ then FRep ρ ι n (d1 ++ fr) a else FRep ρ ι n (d2 ++ fr) a) : FRep ρ ι n (mergeFr e fr (d1 ++ fr) (d2 ++ fr)) a := by
  have hk : mergeFr e fr (d1 ++ fr) (d2 ++ fr) = (d1.map (·.t) ++ d2.map (·.t)).map (mergeAt e (d1 ++ fr) (d2 ++ fr)) ++ fr := by
    simp [mergeFr]
  have hkeys : ((d1.map (·.t) ++ d2.map (·.t)).map (mergeAt e (d1 ++ fr) (d2 ++ fr))).map (·.t) = d1.map (·.t) ++ d2.map (·.t) := by
    rw [List.map_map]
    exact List.map_id'' (fun t => mergeAt_t _ _ t) _
  have key : ∀ t g z, look (mergeFr e fr (d1 ++ fr) (d2 ++ fr)) t = some (g, z) →
      ∃ x, look (if e.b ρ then d1 ++ fr else d2 ++ fr) t = some (g, x) ∧ z.conc ρ ι = x.conc ρ ι := by
    intro t g z hl
    rw [hk, look_append, hkeys] at hl
    split at hl
    · rename_i ht
      rw [look_map _ (fun t => mergeAt_t _ _ t) _ _ ht] at hl
      split at hl
      · cases hl
      · rename_i hj
        simp only [Option.some.injEq, Prod.mk.injEq] at hl
        unfold mergeAt at hl hj
        split at hl
        · rename_i g1 x g2 y h1 h2
          rw [h1, h2] at hj
          simp only at hj
          split at hl
          · rename_i hg; subst hg
            split at hl
            · rename_i z' hz
              obtain ⟨rfl, rfl⟩ := hl
              have := mergeV_ok (ρ := ρ) (ι := ι) hz
              cases he : e.b ρ
              · exact ⟨y, by simpa using h2, by rw [this, he]; simp⟩
              · exact ⟨x, by simpa using h1, by rw [this, he]; simp⟩
            · simp_all
          · simp_all
        · simp_all
    · rename_i ht
      simp only [List.mem_append, not_or] at ht
      refine ⟨z, ?_, rfl⟩
      cases he : e.b ρ
      · simp only [Bool.false_eq_true, if_false]; rw [look_append, if_neg ht.2]; exact hl
      · simp only [if_true]; rw [look_append, if_neg ht.1]; exact hl
  have h' : FRep ρ ι n (if e.b ρ then d1 ++ fr else d2 ++ fr) a := by
    cases he : e.b ρ <;> simp only [he] at h <;> simpa using h
  refine ⟨h'.size, h'.defers, fun t g z hl hg => ?_, fun t g z hl hg => ?_⟩
  · obtain ⟨x, hx, hz⟩ := key t g z hl
    rw [hz]; exact h'.yes _ _ _ hx hg
  · obtain ⟨x, hx, hz⟩ := key t g z hl
    exact h'.no _ _ _ hx hg
end

/-! ### the code -/

def Goes (P : Program) (f : FuncId) (R : Ending → World → Prop) (todo : List Item) (a : Act) (w : World) : Prop :=
  ∀ (b : Frame) (cs : List Frame), b.fn = f → b.kind = .normal → ∃ e w' fr, R e w' ∧ Comes P (lone (b.at a todo) cs w) (lone fr cs w') e ∧ fr.fn = f ∧ fr.leaving P w' e

inductive Tree where
  | ret (v : SV) (m : Mem)
  | stop (todo : List Item) (H : Hyp) (fr : Fr) (m : Mem)
  | again (H : Hyp) (fr : Fr) (m : Mem)
  | need (c : E) (t : Tree)
  | ite (c : E) (t e : Tree)
  | fail (why : String)

/-- what is to be shown of a run -/
def Tree.holds (P : Program) (f : FuncId) (R : Ending → World → Prop) (ρ : Env) (β : Base) (n : Nat) (bs : List Item) : Tree → Prop
  | .ret v m => ∀ ι w, MRep ρ β ι m w → R (.returned (v.conc ρ ι)) w
  | .stop todo H fr m => H.ok ρ → ∀ ι a w, FRep ρ ι n fr a → MRep ρ β ι m w → Goes P f R todo a w
  | .again H fr m => H.ok ρ → ∀ ι a w, FRep ρ ι n fr a → MRep ρ β ι m w → Goes P f R bs a w
  | .need c t => c.b ρ = true ∧ (c.b ρ = true → t.holds P f R ρ β n bs)
  | .ite c t e => (c.b ρ = true → t.holds P f R ρ β n bs) ∧ (c.b ρ = false → e.holds P f R ρ β n bs)
  | .fail _ => False

def addNeeds (l : List E) (t : Tree) : Tree := l.foldr .need t

def toPart : SV → Option (Bool × List Seg)
  | .s x => if x.plain then some (false, [.one x]) else none
  | .agg l => some (true, l)
  | _ => none

def resOne (P : Program) (H : Hyp) (fr : Fr) (m : Mem) : ResultVar → Option SV
  | .tmp t => opnd [] fr (.tmp t)
  | .cell t ty => match opnd [] fr (.tmp t) with
    | some (.s (.ptr b off)) => match qLoad P H m ty (.s (.ptr b off)) with
      | some (nd, v) => if needs nd = [] then some v else none
      | none => none
    | _ => none
def resAll (P : Program) (H : Hyp) (fr : Fr) (m : Mem) : List ResultVar → Option SV
  | [] => some (.tup [])
  | [r] => resOne P H fr m r
  | [r, s] => match (resOne P H fr m r).bind toPart, (resOne P H fr m s).bind toPart with
    | some x, some y => some (.tup [x, y])
    | _, _ => none
  | [r, s, t] => match (resOne P H fr m r).bind toPart, (resOne P H fr m s).bind toPart, (resOne P H fr m t).bind toPart with
    | some x, some y, some z => some (.tup [x, y, z])
    | _, _, _ => none
  | _ => none


/-- A piece of code that no way leaves but by its foot; ways meet again. -/
def runS (P : Program) (Γ : Ctx) (n : Nat) : (fuel loops : Nat) → List Item → Hyp → Fr → Mem → Option (List E × Hyp × Fr × Mem)
  | 0, _, _, _, _, _ => none
  | k + 1, u, todo, H, fr, m =>
    match todo with
    | [] => some ([], H, fr, m)
    | .code .skip :: r | .code (.label _) :: r | .inBlock _ :: r | .inScope _ :: r => runS P Γ n k u r H fr m
    | .code (.seq x y) :: r => runS P Γ n k u (.code x :: .code y :: r) H fr m
    | .code (.block id c) :: r => runS P Γ n k u (.code c :: .inBlock id :: r) H fr m
    | .code (.scope c) :: r => runS P Γ n k u (.code c :: .inScope c :: r) H fr m
    | .code (.exit id) :: r => match exitTo id r with
      | some r' => runS P Γ n k u r' H fr m
      | none => none
    | .code (.cond c x y) :: r => match opnd [] fr c with
      | some (.s (.bool e0)) => match decB H e0 with
        | .blit t => runS P Γ n k u (.code (if t then x else y) :: r) H fr m
        | e => match runS P Γ n k u [.code x] (addF true e H) fr m, runS P Γ n k u [.code y] (addF false e H) fr m with
          | some (nd1, _, f1, m1), some (nd2, _, f2, m2) => match mergeMem e m1 m2 with
            | some m' => match runS P Γ n k u r H (mergeFr e fr f1 f2) m' with
              | some (nd, q) => some (needs (nd1.map (imp [e])) ++ (needs (nd2.map (imp [mkNot e])) ++ nd), q)
              | none => none
            | none => none
          | _, _ => none
      | _ => none
    | .code (.region id ops draw) :: r =>
      match regOps P Γ n ops draw H fr m with
      | some (nd, H', fr', m') => match runS P Γ n k u r H' fr' m' with
        | some (nd', q) => some (nd ++ nd', q)
        | none => none
      | none => none
    | .code (.loop c) :: r | .inLoop c :: r => match u with
      | 0 => none
      | u + 1 => runS P Γ n k u (.code c :: .inLoop c :: r) H fr m
    | _ => none

/-- two ways that meet again -/
def meetW (P : Program) (Γ : Ctx) (n k u : Nat) (e : E) (x y : Code) (H : Hyp) (fr : Fr) (m : Mem) : Option (List E × Fr × Mem) :=
  match runS P Γ n k u [.code x] (addF true e H) fr m, runS P Γ n k u [.code y] (addF false e H) fr m with
  | some (nd1, _, f1, m1), some (nd2, _, f2, m2) => match mergeMem e m1 m2 with
    | some m' => some (needs (nd1.map (imp [e])) ++ needs (nd2.map (imp [mkNot e])), mergeFr e fr f1 f2, m')
    | none => none
  | _, _ => none

/-! a frame, told what is known -/
def pickS (H : Hyp) : S → S
  | .int k e => .int k (pickI H e)
  | .ptr b off => .ptr b (pickI H off)
  | x => x
def pickSeg (H : Hyp) : Seg → Seg
  | .one x => .one (pickS H x)
  | s => s
def pickV (H : Hyp) : SV → SV
  | .s x => .s (pickS H x)
  | .agg l => .agg (l.map (pickSeg H))
  | v => v
def pickFr (H : Hyp) (fr : Fr) : Fr := fr.map fun f => { f with x := pickV H f.x }
theorem pickS_conc {ρ : Env} {ι : Loc} {H : Hyp} (hH : H.ok ρ) (x : S) : (pickS H x).conc ρ ι = x.conc ρ ι := by
  cases x <;> simp [pickS, S.conc, pickI_i hH, decB_b hH, addr]
theorem pickV_conc {ρ : Env} {ι : Loc} {H : Hyp} (hH : H.ok ρ) (v : SV) : (pickV H v).conc ρ ι = v.conc ρ ι := by
  cases v with
  | s x => exact pickS_conc hH x
  | agg l =>
    have : cellsOf ρ ι (l.map (pickSeg H)) = cellsOf ρ ι l := by
      unfold cellsOf
      rw [List.flatMap_map]
      congr 1; funext s
      cases s with
      | one x => simp only [pickSeg, Seg.cells, pickS_conc hH]
      | _ => rfl
    simp only [pickV, SV.conc, this]
  | _ => rfl
theorem look_pick {H : Hyp} : ∀ {fr : Fr} {t : Nat} {g : List E} {x : SV}, look (pickFr H fr) t = some (g, x) → ∃ y, look fr t = some (g, y) ∧ x = pickV H y
  | [], t, g, x, h => by cases h
  | f :: l, t, g, x, h => by
    simp only [pickFr, List.map_cons, look_nil, look_cons] at h ⊢
    by_cases ht : f.t = t
    · simp only [if_pos ht] at h ⊢
      have hj : ∀ v : SV, pickV H v = .junk ↔ v = .junk := fun v => by cases v <;> simp [pickV]
      by_cases hx : f.x = .junk
      · rw [if_pos ((hj _).2 hx)] at h; cases h
      · rw [if_neg (fun e => hx ((hj _).1 e))] at h
        simp only [Option.some.injEq, Prod.mk.injEq] at h
        exact ⟨f.x, by rw [if_neg hx, h.1], h.2.symm⟩
    · simp only [if_neg ht] at h ⊢
      exact look_pick h
theorem FRep.pick {ρ : Env} {ι : Loc} {n : Nat} {fr : Fr} {a : Act} {H : Hyp} (hH : H.ok ρ) (h : FRep ρ ι n fr a) : FRep ρ ι n (pickFr H fr) a :=
  ⟨h.size, h.defers, fun t g x hl hg => by
    obtain ⟨y, hy, rfl⟩ := look_pick hl
    rw [pickV_conc hH]; exact h.yes t g y hy hg, fun t g x hl hg => by
    obtain ⟨y, hy, rfl⟩ := look_pick hl
    exact h.no t g y hy hg⟩
/-- a test within a number -/
def findIte : E → Option E
  | .ite c _ _ => some c
  | .add a b | .mul a b | .sub a b => match findIte a with
    | some c => some c
    | none => findIte b
  | _ => none
def iteOf : SV → Option E
  | .s (.ptr _ off) => findIte off
  | .s (.int _ e) => findIte e
  | _ => none

/-- a condition by which a call's ways part (no proof hangs on it) -/
abbrev HintCtx := FuncId → Hyp → List SV → Mem → Option E
def hintOps (P : Program) (Γ : Ctx) (hc : HintCtx) (quiet : Bool) (n : Nat) (ops : Array Oper) : List Oper → Hyp → Fr → Mem → Option E
  | [], _, _, _ => none
  | o :: l, H, fr, m => match opStep P Γ quiet n ops o H fr m with
    | some (_, H', fr', m') => hintOps P Γ hc quiet n ops l H' fr' m'
    | none => match guardH H ops fr o with
      | .go G => G.find? (fun g => match decB H g with | .blit _ => false | _ => true)
      | .now _ => match callOf P [] fr o.op with
        | some (f, l) => hc f H l m
        | none => match o.op with
          | .load _ x => (opnd [] fr x).bind iteOf
          | _ => none
      | _ => none
def treeHint : Tree → Option E
  | .need _ t => treeHint t
  | .ite c _ _ => some c
  | _ => none

/-- a loop's name: the first region within it -/
def key : Code → Nat
  | .region id _ _ => id + 1
  | .seq a b | .cond _ a b => if key a = 0 then key b else key a
  | .block _ b | .loop b | .scope b => key b
  | _ => 0

/-- The run: 'loops' says how many rounds at most a loop is entered by itself. 'base': what lies behind the code that is run (a loop's next round); none: the function's end. -/
def run (P : Program) (Γ : Ctx) (hc : HintCtx) (fn : Func) (n : Nat) (cut : List Nat) : (fuel loops : Nat) → Option (List Item) → List Item → Hyp → Fr → Mem → Tree
  | 0, _, _, _, _, _, _ => .fail "fuel"
  | k + 1, u, base, todo, H, fr, m =>
    match todo with
    | [] => match base with
      | some _ => .again H fr m
      | none => match resAll P H fr m fn.results.toList with
        | some v => .ret v m
        | none => .fail "results"
    | .code .ret :: _ => match resAll P H fr m fn.results.toList with
      | some v => .ret v m
      | none => .fail "results"
    | .code .skip :: r | .code (.label _) :: r | .inBlock _ :: r | .inScope _ :: r => run P Γ hc fn n cut k u base r H fr m
    | .code (.seq x y) :: r => run P Γ hc fn n cut k u base (.code x :: .code y :: r) H fr m
    | .code (.block id c) :: r => run P Γ hc fn n cut k u base (.code c :: .inBlock id :: r) H fr m
    | .code (.scope c) :: r => run P Γ hc fn n cut k u base (.code c :: .inScope c :: r) H fr m
    | .code (.exit id) :: r => match exitTo id r with
      | some r' => run P Γ hc fn n cut k u base r' H fr m
      | none => match base with
        | some b => match exitTo id b with
          | some r' => run P Γ hc fn n cut k u none r' H fr m
          | none => .fail "exit"
        | none => .fail "exit"
    | .code (.cond c x y) :: r => match opnd [] fr c with
      | some (.s (.bool e0)) => match decB H e0 with
        | .blit t => run P Γ hc fn n cut k u base (.code (if t then x else y) :: r) H fr m
        | e => match meetW P Γ n k u e x y H fr m with
          | some (nd, fr', m') => addNeeds nd (run P Γ hc fn n cut k u base r H fr' m')
          | none => .ite e (run P Γ hc fn n cut k u base (.code x :: r) (addF true e H) fr m) (run P Γ hc fn n cut k u base (.code y :: r) (addF false e H) fr m)
      | _ => .fail "cond"
    | .code (.region id ops draw) :: r =>
      match regOps P Γ n ops draw H fr m with
      | some (nd, H', fr', m') => addNeeds nd (run P Γ hc fn n cut k u base r H' fr' m')
      | none => match hintOps P Γ hc draw n ops ops.toList H fr m with
        | some c => match decB H c with
          | .blit _ => .fail "region (hint)"
          | _ => .ite c (run P Γ hc fn n cut k u base todo (addF true c H) (pickFr (addF true c H) fr) m) (run P Γ hc fn n cut k u base todo (addF false c H) (pickFr (addF false c H) fr) m)
        | none => .fail "region"
    | .code (.loop c) :: r | .inLoop c :: r =>
      if cut.contains (key c) then .stop (.code c :: .inLoop c :: (r ++ base.getD [])) H fr m else
      match u with
      | 0 => .stop (.code c :: .inLoop c :: (r ++ base.getD [])) H fr m
      | u + 1 => run P Γ hc fn n cut k u base (.code c :: .inLoop c :: r) H (tidy fr) m
    | _ => .fail "code"

section
variable {ρ : Env} {ι : Loc} {H : Hyp} {P : Program} {Γ : Ctx} {w : World} {β : Base} {m : Mem} {fr : Fr} {n : Nat} {a : Act}
variable {f : FuncId} {fn : Func} {R : Ending → World → Prop} {k : List Item} {a' : Act} {w' : World}

theorem goes_step {todo todo' : List Item} (h : ∀ (b : Frame) cs, step P (lone (b.at a todo) cs w) = .next (lone (b.at a' todo') cs w')) (hg : Goes P f R todo' a' w') : Goes P f R todo a w :=
  fun b cs hb hk => let ⟨e, w2, fr, hr, hc, hl⟩ := hg b cs hb hk; ⟨e, w2, fr, hr, .of_steps (.one (h b cs)) hc, hl⟩

theorem goes_wp {c : Code} {Q : Exit → Act → World → Prop} (h : c.wp P Q a w) (hq : ∀ e a' w', Q e a' w' → e = .normal ∧ Goes P f R k a' w') : Goes P f R (.code c :: k) a w := by
  intro b cs hb hk
  obtain ⟨e, a1, w1, q, arr⟩ := h b k cs
  obtain ⟨rfl, hg⟩ := hq _ _ _ q
  obtain ⟨e2, w2, fr, hr, hc, hl⟩ := hg b cs hb hk
  exact ⟨e2, w2, fr, hr, .of_steps arr hc, hl⟩

theorem goes_leave {todo : List Item} {v : Value} (hd : a.defers = []) (hf : P.funcs[f]? = some fn) (hr : (results fn a.tmps).run P w = .ok v w) (hR : R (.returned v) w)
    (hs : ∀ (b : Frame) cs, step P (lone (b.at a todo) cs w) = .next (lone { b.at a todo with mode := .returning } cs w)) : Goes P f R todo a w :=
  fun b cs hb hk => ⟨.returned v, w, { b.at a todo with mode := .returning }, hR, Steps.one (hs b cs), hb, rfl, hd, hk, fn, by rw [show ({ b.at a todo with mode := .returning } : Frame).fn = f from hb]; exact hf, hr⟩

theorem calls_of_goes {c : Code} {args : Array Value} (hf : P.funcs[f]? = some fn) (hb : fn.body = some c)
    (h : Goes P f R [.code c] { tmps := args ++ Array.replicate (fn.ntmps - args.size) Go.undef, defers := [] } w) : Calls P f args w R := by
  intro cs
  have := h { (default : Frame) with fn := f, kind := .normal } cs rfl rfl
  have he : Frame.enter P f args .normal = ({ (default : Frame) with fn := f, kind := .normal } : Frame).at { tmps := args ++ Array.replicate (fn.ntmps - args.size) Go.undef, defers := [] } [.code c] := by
    simp [Frame.enter, Frame.at, hf, hb]
  rw [he]
  exact this

theorem toPart_ok {x : SV} {p : Bool × List Seg} (h : toPart x = some p) : (if p.1 then Value.agg (cellsOf ρ ι p.2).toArray else ((cellsOf ρ ι p.2)[0]?).getD Go.undef) = x.conc ρ ι := by
  unfold toPart at h
  split at h
  · split at h
    · simp only [Option.some.injEq] at h; subst h; simp [cellsOf, Seg.cells, SV.conc]
    · cases h
  · simp only [Option.some.injEq] at h; subst h; rfl
  · cases h
def resSem (tmps : Array Value) : ResultVar → Sem Value
  | .tmp t => pure (tmps[t]?.getD Go.undef)
  | .cell x t => do loadVar t (← asAddr (tmps[x]?.getD Go.undef))
theorem resOne_ok (hH : H.ok ρ) (hm : MRep ρ β ι m w) (hf : FRep ρ ι n fr a) {r : ResultVar} {v : SV} (h : resOne P H fr m r = some v) :
    (resSem a.tmps r).run P w = .ok (v.conc ρ ι) w := by
  have hG : allT ρ [] := fun e he => by cases he
  have ev : ∀ (t : Tmp) (u : SV), opnd [] fr (.tmp t) = some u → a.tmps[t]?.getD Go.undef = u.conc ρ ι := fun t u hu => by
    rw [← opnd_ok hf hG hu, Act.eval, Array.getD_eq_getD_getElem?]
  cases r with
  | tmp t =>
    simp only [resSem, Sem.run_pure, ev t v h]
  | cell x t =>
    simp only [resOne] at h
    split at h
    · rename_i b off hu
      split at h
      · rename_i nd v' hq
        split at h
        · rename_i hnd
          simp only [Option.some.injEq] at h; subst h
          have hn : allN ρ nd := needs_ok (by rw [hnd]; intro e he; cases he)
          have := qLoad_ok (ι := ι) hH hm hq hn
          simp only [resSem, ev x _ hu]
          simp only [Instr.loadAt] at this
          simp only [SV.conc, S.conc, Instr.sureAddr, asAddr] at this ⊢; exact this
        · cases h
      · cases h
    · cases h

theorem results_eq (fn : Func) (tmps : Array Value) : results fn tmps = (do
    let vs ← fn.results.mapM (resSem tmps)
    pure (if h : vs.size = 1 then vs[0] else .tuple vs)) := by
  unfold results
  have : (fun r : ResultVar => match r with | .tmp t => (pure (tmps.getD t Go.undef) : Sem Value) | .cell a t => do loadVar t (← asAddr (tmps.getD a Go.undef))) = resSem tmps := by
    funext r
    cases r <;> simp [resSem, Array.getD_eq_getD_getElem?]
  rw [← this]; rfl

theorem resAll_ok (hH : H.ok ρ) (hm : MRep ρ β ι m w) (hf : FRep ρ ι n fr a) {v : SV} (h : resAll P H fr m fn.results.toList = some v) :
    (results fn a.tmps).run P w = .ok (v.conc ρ ι) w := by
  rw [results_eq]
  cases hr : fn.results with
  | mk l =>
  rw [hr] at h
  unfold resAll at h
  have one : ∀ r v, resOne P H fr m r = some v → (resSem a.tmps r).run P w = .ok (v.conc ρ ι) w := fun r v h => resOne_ok hH hm hf h
  split at h
  · rename_i hl
    simp only [Option.some.injEq] at h; subst h
    simp only at hl; subst hl
    simp [SV.conc]
  · rename_i r hl
    simp only at hl; subst hl
    have := one r v h
    simp [this]
  · rename_i r s hl
    simp only at hl; subst hl
    split at h
    · rename_i x y hx hy
      simp only [Option.some.injEq] at h; subst h
      rw [Option.bind_eq_some_iff] at hx hy
      obtain ⟨u, hu, hx⟩ := hx
      obtain ⟨u', hu', hy⟩ := hy
      have e : SV.conc ρ ι (.tup [x, y]) = .tuple #[u.conc ρ ι, u'.conc ρ ι] := by
        show Value.tuple (List.map _ [x, y]).toArray = _
        simp only [List.map_cons, List.map_nil, toPart_ok (ρ := ρ) (ι := ι) hx, toPart_ok (ρ := ρ) (ι := ι) hy]
      rw [e]
      simp [one r u hu, one s u' hu']
    · cases h
  · rename_i r s t hl
    simp only at hl; subst hl
    split at h
    · rename_i x y z hx hy hz
      simp only [Option.some.injEq] at h; subst h
      rw [Option.bind_eq_some_iff] at hx hy hz
      obtain ⟨u, hu, hx⟩ := hx
      obtain ⟨u', hu', hy⟩ := hy
      obtain ⟨u2, hu2, hz⟩ := hz
      have e : SV.conc ρ ι (.tup [x, y, z]) = .tuple #[u.conc ρ ι, u'.conc ρ ι, u2.conc ρ ι] := by
        show Value.tuple (List.map _ [x, y, z]).toArray = _
        simp only [List.map_cons, List.map_nil, toPart_ok (ρ := ρ) (ι := ι) hx, toPart_ok (ρ := ρ) (ι := ι) hy, toPart_ok (ρ := ρ) (ι := ι) hz]
      rw [e]
      simp [one r u hu, one s u' hu', one t u2 hu2]
    · cases h
  · cases h

theorem addNeeds_ok {bs : List Item} {l : List E} {t : Tree} (h : (addNeeds l t).holds P f R ρ β n bs) : allN ρ l ∧ t.holds P f R ρ β n bs := by
  induction l with
  | nil => exact ⟨fun e he => (by cases he), h⟩
  | cons e l ih =>
    obtain ⟨h1, h2⟩ := h
    have := ih (h2 h1)
    exact ⟨fun x hx => by cases hx with | head => exact h1 | tail _ hx => exact this.1 x hx, this.2⟩


theorem opStep_fr {quiet : Bool} {ops : Array Oper} {o : Oper} {nd : List E} {H' : Hyp} {fr' : Fr} {m' : Mem} (h : opStep P Γ quiet n ops o H fr m = some (nd, H', fr', m')) : ∃ d, fr' = d ++ fr := by
  have hp : ∀ {dst : Option Tmp} {g : List E} {v : SV} {fr' : Fr}, put n fr dst g v = some fr' → ∃ d, fr' = d ++ fr := by
    intro dst g v fr' h
    unfold put at h
    split at h
    · simp only [Option.some.injEq] at h; subst h; exact ⟨[], rfl⟩
    · split at h
      · simp only [Option.some.injEq] at h; subst h; exact ⟨[_], rfl⟩
      · cases h
  unfold opStep at h
  try simp only [outN_eq] at h
  split at h
  · cases h
  · simp only [Option.map_eq_some_iff, Prod.mk.injEq] at h
    obtain ⟨_, h, _, _, rfl, _⟩ := h; exact hp h
  · split at h
    · simp only [Option.map_eq_some_iff, Prod.mk.injEq] at h
      obtain ⟨_, h, _, _, rfl, _⟩ := h; exact hp h
    · cases h
  · split at h
    · simp only [Option.map_eq_some_iff, Prod.mk.injEq] at h
      obtain ⟨_, h, _, _, rfl, _⟩ := h; exact hp h
    · cases h
theorem rops_fr {quiet : Bool} {ops : Array Oper} : ∀ (l : List Oper) {H H' : Hyp} {nd : List E} {fr fr' : Fr} {m m' : Mem}, rops P Γ quiet n ops l H fr m = some (nd, H', fr', m') → ∃ d, fr' = d ++ fr
  | [], H, H', nd, fr, fr', m, m', h => by
    simp only [rops, Option.some.injEq, Prod.mk.injEq] at h; exact ⟨[], h.2.2.1.symm⟩
  | o :: l, H, H', nd, fr, fr', m, m', h => by
    simp only [rops] at h
    split at h
    · rename_i nd1 H1 fr1 m1 h1
      split at h
      · rename_i nd2 r h2
        simp only [Option.some.injEq, Prod.mk.injEq] at h
        obtain ⟨rfl, rfl⟩ := h
        obtain ⟨d, rfl⟩ := opStep_fr h1
        obtain ⟨d', rfl⟩ := rops_fr l h2
        exact ⟨d' ++ d, by simp⟩
      · cases h
    · cases h
theorem put_fr {dst : Option Tmp} {g : List E} {v : SV} {fr' : Fr} (h : put n fr dst g v = some fr') : ∃ d, fr' = d ++ fr := by
  unfold put at h
  split at h
  · simp only [Option.some.injEq] at h; subst h; exact ⟨[], rfl⟩
  · split at h
    · simp only [Option.some.injEq] at h; subst h; exact ⟨[_], rfl⟩
    · cases h
theorem early_fr {ops : Array Oper} {o : Oper} {nd : List E} {H' : Hyp} {fr' : Fr} (h : early P n ops o H fr m = some (nd, H', fr')) : ∃ d, fr' = d ++ fr := by
  unfold early at h
  try simp only [outE_eq] at h
  split at h
  · cases h
  · simp only [Option.map_eq_some_iff, Prod.mk.injEq] at h
    obtain ⟨_, h, _, _, rfl⟩ := h; exact put_fr h
  · split at h
    · simp only [Option.map_eq_some_iff, Prod.mk.injEq] at h
      obtain ⟨_, h, _, _, rfl⟩ := h; exact put_fr h
    · cases h
  · split at h
    · simp only [Option.map_eq_some_iff, Prod.mk.injEq] at h
      obtain ⟨_, h, _, _, rfl⟩ := h; exact put_fr h
    · cases h
theorem joinB_one {K : Nat} {step : Nat → Option (List E × Hyp × Fr × Mem)} : ∀ {l : List Nat} {nd : List E} {fr : Fr} {m : Mem}, joinB K step l = some (nd, fr, m) → ∃ i nd' H', step i = some (nd', H', fr, m)
  | [], nd, fr, m, h => by simp [joinB] at h
  | [i], nd, fr, m, h => by
    unfold joinB at h
    split at h
    · rename_i nd' H' fr' m' hs
      simp only [Option.some.injEq, Prod.mk.injEq] at h
      obtain ⟨rfl, rfl, rfl⟩ := h
      exact ⟨_, _, _, hs⟩
    · cases h
  | i :: k :: l, nd, fr, m, h => by
    unfold joinB at h
    split at h
    · split at h
      · rename_i nd2 fr2 m2 hj
        split at h
        · simp only [Option.some.injEq, Prod.mk.injEq] at h
          obtain ⟨rfl, rfl, rfl⟩ := h
          exact joinB_one hj
        · cases h
      · cases h
    · cases h
theorem dops_fr {ops : Array Oper} {nx : Array Bool → Hyp → Fr → Mem → List Nat} : ∀ (k : Nat) {D L : List Nat} {listed : Array Bool} {H H' : Hyp} {nd : List E} {fr fr' : Fr} {m m' : Mem}, dops P Γ n ops nx D k L listed H fr m = some (nd, H', fr', m') → ∃ d, fr' = d ++ fr := by
  intro k
  induction k with
  | zero =>
    intro D L listed H H' nd fr fr' m m' h
    unfold dops at h
    split at h
    · simp only [Option.some.injEq, Prod.mk.injEq] at h; exact ⟨[], h.2.2.1.symm⟩
    · cases h
  | succ k ih =>
    intro D L listed H H' nd fr fr' m m' h
    unfold dops at h
    simp only at h
    split at h
    · simp only [Option.some.injEq, Prod.mk.injEq] at h; exact ⟨[], h.2.2.1.symm⟩
    · split at h
      · rename_i i nd1 H1 f1 he
        split at h
        · rename_i nd2 q hd
          obtain ⟨H2, f2, m2⟩ := q
          simp only [Option.some.injEq, Prod.mk.injEq] at h
          obtain ⟨_, rfl, rfl, rfl⟩ := h
          obtain ⟨_, _, o, _, _, hea⟩ := firstEarly_mem he
          obtain ⟨d, rfl⟩ : ∃ d, f1 = d ++ fr := hea.elim early_fr (fun h => early_fr h.1)
          obtain ⟨d', rfl⟩ := ih hd
          exact ⟨d' ++ d, by simp⟩
        · cases h
      · split at h
        · split at h
          · split at h
            · split at h
              · rename_i h1
                split at h
                · split at h
                  · rename_i nd2 q hd
                    obtain ⟨H2, f2, m2⟩ := q
                    simp only [Option.some.injEq, Prod.mk.injEq] at h
                    obtain ⟨_, rfl, rfl, rfl⟩ := h
                    obtain ⟨d, rfl⟩ := opStep_fr h1
                    obtain ⟨d', rfl⟩ := ih hd
                    exact ⟨d' ++ d, by simp⟩
                  · cases h
                · cases h
              · cases h
            · cases h
          · cases h
        · split at h
          · rename_i nd1 fr1 m1 hj
            simp only [Option.some.injEq, Prod.mk.injEq] at h
            obtain ⟨_, rfl, rfl, rfl⟩ := h
            obtain ⟨i, nd2, H2, hs⟩ := joinB_one hj
            unfold bstep at hs
            split at hs
            · split at hs
              · rename_i h1
                split at hs
                · split at hs
                  · rename_i nd3 q hd
                    obtain ⟨H3, f3, m3⟩ := q
                    simp only [Option.some.injEq, Prod.mk.injEq] at hs
                    obtain ⟨_, rfl, rfl, rfl⟩ := hs
                    obtain ⟨d, rfl⟩ := opStep_fr h1
                    obtain ⟨d', rfl⟩ := ih hd
                    exact ⟨d' ++ d, by simp⟩
                  · cases hs
                · cases hs
              · cases hs
            · cases hs
          · cases h
        · cases h
theorem regOps_fr {ops : Array Oper} {draw : Bool} {H' : Hyp} {nd : List E} {fr' : Fr} {m' : Mem} (h : regOps P Γ n ops draw H fr m = some (nd, H', fr', m')) : ∃ d, fr' = d ++ fr := by
  unfold regOps at h
  split at h
  · split at h
    · rename_i hq
      split at hq
      · simp only [Option.some.injEq] at h; subst h; exact rops_fr _ hq
      · cases hq
    · split at h
      · split at h
        · rename_i hq
          simp only [Option.some.injEq] at h; subst h
          exact dops_fr _ hq
        · unfold fops at h; exact dops_fr _ h
      · cases h
  · exact rops_fr _ h
theorem mergeFr_fr (e : E) (fr f1 f2 : Fr) : ∃ d, mergeFr e fr f1 f2 = d ++ fr := ⟨_, rfl⟩
theorem runS_fr : ∀ (k u : Nat) {todo : List Item} {H H' : Hyp} {nd : List E} {fr fr' : Fr} {m m' : Mem}, runS P Γ n k u todo H fr m = some (nd, H', fr', m') → ∃ d, fr' = d ++ fr := by
  intro k
  induction k with
  | zero => intro u todo H H' nd fr fr' m m' h; simp [runS] at h
  | succ k ih =>
    intro u todo H H' nd fr fr' m m' h
    unfold runS at h
    split at h
    · simp only [Option.some.injEq, Prod.mk.injEq] at h; exact ⟨[], h.2.2.1.symm⟩
    · exact ih _ h
    · exact ih _ h
    · exact ih _ h
    · exact ih _ h
    · exact ih _ h
    · exact ih _ h
    · exact ih _ h
    · split at h
      · exact ih _ h
      · cases h
    · split at h
      · split at h
        · exact ih _ h
        · split at h
          · split at h
            · split at h
              · rename_i nd' q hq
                obtain ⟨H2, f2, m2⟩ := q
                simp only [Option.some.injEq, Prod.mk.injEq] at h
                obtain ⟨_, rfl, rfl, rfl⟩ := h
                obtain ⟨d, hd⟩ := ih _ hq
                obtain ⟨d2, hd2⟩ := mergeFr_fr (decB H _) fr _ _
                exact ⟨d ++ d2, by rw [hd, hd2, List.append_assoc]⟩
              · cases h
            · cases h
          · cases h
      · cases h
    · split at h
      · rename_i h1
        split at h
        · rename_i nd' q hq
          obtain ⟨H2, f2, m2⟩ := q
          simp only [Option.some.injEq, Prod.mk.injEq] at h
          obtain ⟨_, rfl, rfl, rfl⟩ := h
          obtain ⟨d, rfl⟩ := regOps_fr h1
          obtain ⟨d', rfl⟩ := ih _ hq
          exact ⟨d' ++ d, by simp⟩
        · cases h
      · cases h
    · split at h
      · cases h
      · exact ih _ h
    · split at h
      · cases h
      · exact ih _ h
    · cases h

theorem step_scope' {b : Frame} {cs : List Frame} {c : Code} : step P (lone (b.at a (.code (.scope c) :: k)) cs w) = .next (lone (b.at a (.code c :: .inScope c :: k)) cs w) :=
  step_lone_go (by simp [stepG, stepG.exec, Frame.at])
theorem step_inScope' {b : Frame} {cs : List Frame} {c : Code} : step P (lone (b.at a (.inScope c :: k)) cs w) = .next (lone (b.at a k) cs w) :=
  step_lone_go (by simp [stepG, stepG.exec, Frame.at])
theorem exitTo_append {id : Nat} : ∀ {k k' : List Item} (r : List Item), exitTo id k = some k' → exitTo id (k ++ r) = some (k' ++ r) := by
  intro k
  induction k with
  | nil => intro k' r h; simp [exitTo] at h
  | cons x k ih =>
    intro k' r h
    cases x <;> simp only [exitTo, List.cons_append] at h ⊢
    case inBlock i =>
      by_cases hc : (i == id) = true
      · rw [if_pos hc] at h ⊢; simp only [Option.some.injEq] at h; rw [h]
      · rw [if_neg hc] at h ⊢; exact ih r h
    all_goals exact ih r h

theorem goes_region {I : Interp} (hΓ : CtxOK P I Γ) (hI : ρ.I = I) (hP : P.follows .mixedOrders = true) {id : Nat} {ops : Array Oper} {draw : Bool} {r : List Item}
    {nd : List E} {H' : Hyp} {fr' : Fr} {m' : Mem} (hr : regOps P Γ n ops draw H fr m = some (nd, H', fr', m')) (hn : allN ρ nd) (hH : H.ok ρ) (hf : FRep ρ ι n fr a) (hm : MRep ρ β ι m w)
    (hk : ∀ ι' a' w', H'.ok ρ → FRep ρ ι' n fr' a' → MRep ρ β ι' m' w' → Goes P f R r a' w') : Goes P f R (.code (.region id ops draw) :: r) a w :=
  goes_wp (goes_reg0 hΓ hI hP hr hn hH hf hm hk) (fun _ _ _ hq => hq)

theorem runS_ok {I : Interp} (hΓ : CtxOK P I Γ) (hI : ρ.I = I) (hP : P.follows .mixedOrders = true) : ∀ (k u : Nat) (todo : List Item) (H H' : Hyp) (nd : List E) (fr fr' : Fr) (m m' : Mem) (ι : Loc) (a : Act) (w : World) (r : List Item),
    runS P Γ n k u todo H fr m = some (nd, H', fr', m') → allN ρ nd → H.ok ρ → FRep ρ ι n fr a → MRep ρ β ι m w →
    (∀ ι' a' w', H'.ok ρ → FRep ρ ι' n fr' a' → MRep ρ β ι' m' w' → Goes P f R r a' w') → Goes P f R (todo ++ r) a w := by
  intro k
  induction k with
  | zero => intro u todo H H' nd fr fr' m m' ι a w r h; simp [runS] at h
  | succ k ih =>
    intro u todo H H' nd fr fr' m m' ι a w r h hn hH hf hm hk
    have hG : allT ρ [] := fun e he => by cases he
    unfold runS at h
    split at h
    · simp only [Option.some.injEq, Prod.mk.injEq] at h
      obtain ⟨rfl, rfl, rfl, rfl⟩ := h
      exact hk ι a w hH hf hm
    · exact goes_step (fun b cs => step_skip) (ih _ _ _ _ _ _ _ _ _ _ _ _ r h hn hH hf hm hk)
    · exact goes_step (fun b cs => step_label) (ih _ _ _ _ _ _ _ _ _ _ _ _ r h hn hH hf hm hk)
    · exact goes_step (fun b cs => step_inBlock) (ih _ _ _ _ _ _ _ _ _ _ _ _ r h hn hH hf hm hk)
    · exact goes_step (fun b cs => step_inScope') (ih _ _ _ _ _ _ _ _ _ _ _ _ r h hn hH hf hm hk)
    · exact goes_step (fun b cs => step_seq) (ih _ _ _ _ _ _ _ _ _ _ _ _ r h hn hH hf hm hk)
    · exact goes_step (fun b cs => step_block) (ih _ _ _ _ _ _ _ _ _ _ _ _ r h hn hH hf hm hk)
    · exact goes_step (fun b cs => step_scope') (ih _ _ _ _ _ _ _ _ _ _ _ _ r h hn hH hf hm hk)
    · split at h
      · rename_i hr
        exact goes_step (fun b cs => step_exit (exitTo_append r hr)) (ih _ _ _ _ _ _ _ _ _ _ _ _ r h hn hH hf hm hk)
      · cases h
    · rename_i c x y todo'
      split at h
      · rename_i e0 hc
        have hev := opnd_ok hf hG hc
        have hdec := decB_b hH e0
        split at h
        · rename_i t ht
          rw [ht, b_blit] at hdec
          refine goes_step (fun b cs => step_cond (t := t) ?_) (ih _ _ _ _ _ _ _ _ _ _ _ _ r h hn hH hf hm hk)
          rw [hev, SV.conc, S.conc, hdec]
        · split at h
          · rename_i nd1 H1 f1 m1 nd2 H2 f2 m2 h1 h2
            split at h
            · rename_i mm hmm
              split at h
              · rename_i nd' q hq
                obtain ⟨H3, f3, m3⟩ := q
                simp only [Option.some.injEq, Prod.mk.injEq] at h
                obtain ⟨rfl, rfl, rfl, rfl⟩ := h
                obtain ⟨hn1, hn⟩ := allN_append hn
                obtain ⟨hn2, hn3⟩ := allN_append hn
                refine goes_step (fun b cs => step_cond (t := e0.b ρ) hev) ?_
                obtain ⟨d1, rfl⟩ := runS_fr _ _ h1
                obtain ⟨d2, rfl⟩ := runS_fr _ _ h2
                cases he : e0.b ρ
                · rw [he] at hdec
                  have hG2 : allT ρ [mkNot (decB H e0)] := fun g hg => by
                    simp only [List.mem_singleton] at hg; subst hg; rw [mkNot_b, hdec]; rfl
                  refine ih u [.code y] _ _ _ _ _ _ _ ι a w (todo' ++ r) h2 (allN_imp (needs_ok hn2) hG2) (addF_ok _ _ _ hH hdec) hf hm fun ι' a' w' _ hf' hm' => ?_
                  exact ih u todo' _ _ _ _ _ _ _ ι' a' w' r hq hn3 hH (mergeFr_ok (by rw [hdec]; exact hf')) (mergeMem_ok hmm (by rw [hdec]; exact hm')) hk
                · rw [he] at hdec
                  have hG1 : allT ρ [decB H e0] := fun g hg => by
                    simp only [List.mem_singleton] at hg; subst hg; exact hdec
                  refine ih u [.code x] _ _ _ _ _ _ _ ι a w (todo' ++ r) h1 (allN_imp (needs_ok hn1) hG1) (addF_ok _ _ _ hH hdec) hf hm fun ι' a' w' _ hf' hm' => ?_
                  exact ih u todo' _ _ _ _ _ _ _ ι' a' w' r hq hn3 hH (mergeFr_ok (by rw [hdec]; exact hf')) (mergeMem_ok hmm (by rw [hdec]; exact hm')) hk
              · cases h
            · cases h
          · cases h
      · cases h
    · split at h
      · rename_i nd1 H1 f1 m1 h1
        split at h
        · rename_i nd' q hq
          obtain ⟨H3, f3, m3⟩ := q
          simp only [Option.some.injEq, Prod.mk.injEq] at h
          obtain ⟨rfl, rfl, rfl, rfl⟩ := h
          obtain ⟨hn1, hn2⟩ := allN_append hn
          exact goes_region hΓ hI hP h1 hn1 hH hf hm fun ι' a' w' hH' hf' hm' => ih _ _ _ _ _ _ _ _ _ _ _ _ r hq hn2 hH' hf' hm' hk
        · cases h
      · cases h
    · split at h
      · cases h
      · exact goes_step (fun b cs => step_loop) (ih _ _ _ _ _ _ _ _ _ _ _ _ r h hn hH hf hm hk)
    · split at h
      · cases h
      · exact goes_step (fun b cs => step_inLoop) (ih _ _ _ _ _ _ _ _ _ _ _ _ r h hn hH hf hm hk)
    · cases h

theorem meetW_ok {I : Interp} (hΓ : CtxOK P I Γ) (hI : ρ.I = I) (hP : P.follows .mixedOrders = true) {k u : Nat} {e : E} {x y : Code} {nd : List E} {fr' : Fr} {m' : Mem} {r : List Item}
    (h : meetW P Γ n k u e x y H fr m = some (nd, fr', m')) (hn : allN ρ nd) (hH : H.ok ρ) (hf : FRep ρ ι n fr a) (hm : MRep ρ β ι m w)
    (hk : ∀ ι' a' w', FRep ρ ι' n fr' a' → MRep ρ β ι' m' w' → Goes P f R r a' w') : Goes P f R (.code (if e.b ρ then x else y) :: r) a w := by
  unfold meetW at h
  split at h
  · rename_i nd1 H1 f1 m1 nd2 H2 f2 m2 h1 h2
    split at h
    · rename_i mm hmm
      simp only [Option.some.injEq, Prod.mk.injEq] at h
      obtain ⟨rfl, rfl, rfl⟩ := h
      obtain ⟨hn1, hn2⟩ := allN_append hn
      obtain ⟨d1, rfl⟩ := runS_fr _ _ h1
      obtain ⟨d2, rfl⟩ := runS_fr _ _ h2
      cases he : e.b ρ
      · have hG2 : allT ρ [mkNot e] := fun g hg => by
          simp only [List.mem_singleton] at hg; subst hg; rw [mkNot_b, he]; rfl
        refine runS_ok hΓ hI hP k u [.code y] _ _ _ _ _ _ _ ι a w r h2 (allN_imp (needs_ok hn2) hG2) (addF_ok _ _ _ hH he) hf hm fun ι' a' w' _ hf' hm' => ?_
        exact hk _ _ _ (mergeFr_ok (by rw [he]; exact hf')) (mergeMem_ok hmm (by rw [he]; exact hm'))
      · have hG1 : allT ρ [e] := fun g hg => by
          simp only [List.mem_singleton] at hg; subst hg; exact he
        refine runS_ok hΓ hI hP k u [.code x] _ _ _ _ _ _ _ ι a w r h1 (allN_imp (needs_ok hn1) hG1) (addF_ok _ _ _ hH he) hf hm fun ι' a' w' _ hf' hm' => ?_
        exact hk _ _ _ (mergeFr_ok (by rw [he]; exact hf')) (mergeMem_ok hmm (by rw [he]; exact hm'))
    · cases h
  · cases h

theorem exitTo_skip {id : Nat} : ∀ {k : List Item} (r : List Item), exitTo id k = none → exitTo id (k ++ r) = exitTo id r := by
  intro k
  induction k with
  | nil => intro r _; rfl
  | cons x k ih =>
    intro r h
    cases x <;> simp only [exitTo, List.cons_append] at h ⊢
    case inBlock i =>
      by_cases hc : (i == id) = true
      · rw [if_pos hc] at h; cases h
      · rw [if_neg hc] at h ⊢; exact ih r h
    all_goals exact ih r h

theorem run_ok {bs : List Item} {hc : HintCtx} {cut : List Nat} {I : Interp} (hΓ : CtxOK P I Γ) (hI : ρ.I = I) (hP : P.follows .mixedOrders = true) (hfn : P.funcs[f]? = some fn) : ∀ (k u : Nat) (base : Option (List Item)) (todo : List Item) (H : Hyp) (fr : Fr) (m : Mem) (ι : Loc) (a : Act) (w : World),
    (run P Γ hc fn n cut k u base todo H fr m).holds P f R ρ β n bs → (∀ b, base = some b → bs = b) → H.ok ρ → FRep ρ ι n fr a → MRep ρ β ι m w → Goes P f R (todo ++ base.getD []) a w := by
  intro k
  induction k with
  | zero => intro u base todo H fr m ι a w h; exact h.elim
  | succ k ih =>
    intro u base todo H fr m ι a w h hbs hH hf hm
    have hG : allT ρ [] := fun e he => by cases he
    unfold run at h
    split at h
    · split at h
      · rename_i bb
        have e := hbs bb rfl
        subst e
        exact h hH ι a w hf hm
      · split at h
        · rename_i v hv
          exact goes_leave hf.defers hfn (resAll_ok hH hm hf hv) (h ι w hm) fun b cs => step_end
        · exact h.elim
    · split at h
      · rename_i v hv
        exact goes_leave hf.defers hfn (resAll_ok hH hm hf hv) (h ι w hm) fun b cs => step_ret
      · exact h.elim
    · exact goes_step (fun b cs => step_skip) (ih _ base _ _ _ _ _ _ _ h hbs hH hf hm)
    · exact goes_step (fun b cs => step_label) (ih _ base _ _ _ _ _ _ _ h hbs hH hf hm)
    · exact goes_step (fun b cs => step_inBlock) (ih _ base _ _ _ _ _ _ _ h hbs hH hf hm)
    · exact goes_step (fun b cs => step_inScope') (ih _ base _ _ _ _ _ _ _ h hbs hH hf hm)
    · exact goes_step (fun b cs => step_seq) (ih _ base _ _ _ _ _ _ _ h hbs hH hf hm)
    · exact goes_step (fun b cs => step_block) (ih _ base _ _ _ _ _ _ _ h hbs hH hf hm)
    · exact goes_step (fun b cs => step_scope') (ih _ base _ _ _ _ _ _ _ h hbs hH hf hm)
    · rename_i id rr
      split at h
      · rename_i r' hr
        exact goes_step (fun b cs => step_exit (exitTo_append _ hr)) (ih _ base _ _ _ _ _ _ _ h hbs hH hf hm)
      · rename_i hr
        split at h
        · rename_i bb
          split at h
          · rename_i r' hr'
            have hx : exitTo id (rr ++ (some bb).getD []) = some r' := by rw [exitTo_skip _ hr]; exact hr'
            have := ih u none r' _ _ _ _ a w h (fun _ hb => by cases hb) hH hf hm
            simp only [Option.getD_none, List.append_nil] at this
            exact goes_step (fun b cs => step_exit hx) this
          · exact h.elim
        · exact h.elim
    · split at h
      · rename_i e0 hc
        have hev := opnd_ok hf hG hc
        have hdec := decB_b hH e0
        split at h
        · rename_i t ht
          rw [ht, b_blit] at hdec
          refine goes_step (fun b cs => step_cond (t := t) ?_) (ih _ base _ _ _ _ _ _ _ h hbs hH hf hm)
          rw [hev, SV.conc, S.conc, hdec]
        · refine goes_step (fun b cs => step_cond (t := (decB H e0).b ρ) (by rw [hdec]; exact hev)) ?_
          split at h
          · rename_i nd fr' m' hq
            obtain ⟨hn, h⟩ := addNeeds_ok h
            exact meetW_ok hΓ hI hP hq hn hH hf hm fun ι' a' w' hf' hm' => ih _ base _ _ _ _ _ _ _ h hbs hH hf' hm'
          · obtain ⟨h1, h2⟩ := h
            cases he : (decB H e0).b ρ
            · exact ih _ base _ _ _ _ _ _ _ (h2 he) hbs (addF_ok _ false H hH he) hf hm
            · exact ih _ base _ _ _ _ _ _ _ (h1 he) hbs (addF_ok _ true H hH he) hf hm
      · exact h.elim
    · split at h
      · rename_i nd H' fr' m' hr
        obtain ⟨hn, h⟩ := addNeeds_ok h
        exact goes_region hΓ hI hP hr hn hH hf hm fun ι' a' w' hH' hf' hm' => ih _ base _ _ _ _ _ _ _ h hbs hH' hf' hm'
      · split at h
        · rename_i c _
          split at h
          · exact h.elim
          · obtain ⟨h1, h2⟩ := h
            cases he : c.b ρ
            · exact ih _ base _ _ _ _ _ _ _ (h2 he) hbs (addF_ok _ false H hH he) (hf.pick (addF_ok _ false H hH he)) hm
            · exact ih _ base _ _ _ _ _ _ _ (h1 he) hbs (addF_ok _ true H hH he) (hf.pick (addF_ok _ true H hH he)) hm
        · exact h.elim
    · split at h
      · exact goes_step (fun b cs => step_loop) (h hH ι a w hf hm)
      split at h
      · exact goes_step (fun b cs => step_loop) (h hH ι a w hf hm)
      · exact goes_step (fun b cs => step_loop) (ih _ base _ _ _ _ _ _ _ h hbs hH hf.tidy hm)
    · split at h
      · exact goes_step (fun b cs => step_inLoop) (h hH ι a w hf hm)
      split at h
      · exact goes_step (fun b cs => step_inLoop) (h hH ι a w hf hm)
      · exact goes_step (fun b cs => step_inLoop) (ih _ base _ _ _ _ _ _ _ h hbs hH hf.tidy hm)
    · exact h.elim
end

/-! ### a range over a function: the loop's record lies outside the memory that is known; yield is a value of its own; frames lie on one another -/

def yi : Nat := 1000
def S.noY : S → Bool
  | .val n => n != yi
  | _ => true
def Seg.noY : Seg → Bool
  | .one x => x.noY
  | _ => true
def SV.noY : SV → Bool
  | .s x => x.noY
  | .agg l => l.all Seg.noY
  | .tup l => l.all fun p => p.2.all Seg.noY
  | .junk => true
def frNoY (fr : Fr) : Bool := fr.all fun f => f.x.noY
def memNoY (m : Mem) : Bool := m.all fun B => B.segs.all Seg.noY

def Env.setY (ρ : Env) (y : Value) : Env := { ρ with vs := (ρ.vs ++ List.replicate (yi + 1 - ρ.vs.length) Go.undef).set yi y }
structure Env.like (ρ ρ' : Env) : Prop where
  i : ρ.i = ρ'.i
  b : ρ.b = ρ'.b
  a : ρ.a = ρ'.a
  I : ρ.I = ρ'.I
  v : ∀ n, n ≠ yi → ρ.vs.getD n Go.undef = ρ'.vs.getD n Go.undef

section
variable {ρ ρ' : Env} {ι : Loc}
theorem Env.like.refl (ρ : Env) : ρ.like ρ := ⟨rfl, rfl, rfl, rfl, fun _ _ => rfl⟩
theorem Env.like.symm (h : ρ.like ρ') : ρ'.like ρ := ⟨h.i.symm, h.b.symm, h.a.symm, h.I.symm, fun n hn => (h.v n hn).symm⟩
theorem setY_like (ρ : Env) (y : Value) : ρ.like (ρ.setY y) := by
  refine ⟨rfl, rfl, rfl, rfl, fun n hn => ?_⟩
  simp only [Env.setY, List.getD_eq_getElem?_getD]
  rw [List.getElem?_set_ne (Ne.symm hn)]
  by_cases h : n < ρ.vs.length
  · rw [List.getElem?_append_left h]
  · rw [List.getElem?_append_right (Nat.not_lt.1 h), List.getElem?_replicate, List.getElem?_eq_none (Nat.not_lt.1 h)]
    split <;> rfl
theorem setY_at (ρ : Env) (y : Value) : (ρ.setY y).vs.getD yi Go.undef = y := by
  simp only [Env.setY, List.getD_eq_getElem?_getD]
  rw [List.getElem?_set_self (by simp; omega)]; rfl
theorem den_like (h : ρ.like ρ') : ∀ e : E, den ρ e = den ρ' e := by
  intro e
  induction e <;> simp only [den, *, h.i, h.b, h.a, h.I]
theorem i_like (h : ρ.like ρ') (e : E) : e.i ρ = e.i ρ' := by simp only [E.i, den_like h]
theorem b_like (h : ρ.like ρ') (e : E) : e.b ρ = e.b ρ' := by simp only [E.b, den_like h]
theorem a_like (h : ρ.like ρ') (e : E) : e.a ρ = e.a ρ' := by simp only [E.a, den_like h]
theorem allT_like (h : ρ.like ρ') {l : List E} (hl : allT ρ l) : allT ρ' l := fun e he => by rw [← b_like h]; exact hl e he
theorem XF.conc_like (h : ρ.like ρ') (f : XF) (k : Nat) : XF.conc ρ f k = XF.conc ρ' f k := by simp only [XF.conc, a_like h]
theorem S.conc_like (h : ρ.like ρ') (x : S) (hx : x.noY = true) : x.conc ρ ι = x.conc ρ' ι := by
  cases x with
  | slc b o l c => cases c <;> simp only [S.conc, addr, i_like h]
  | val n => simp only [S.noY, bne_iff_ne, ne_eq] at hx; exact h.v n hx
  | _ => simp only [S.conc, addr, i_like h, b_like h, h.I]
theorem Seg.cells_like (h : ρ.like ρ') (x : Seg) (hx : x.noY = true) : x.cells ρ ι = x.cells ρ' ι := by
  cases x with
  | one x => simp only [Seg.cells, S.conc_like h x hx]
  | _ => simp only [Seg.cells, i_like h, a_like h, XF.conc_like h]
theorem cellsOf_like (h : ρ.like ρ') : ∀ (l : List Seg), l.all Seg.noY = true → cellsOf ρ ι l = cellsOf ρ' ι l
  | [], _ => rfl
  | x :: l, hl => by
    simp only [List.all_cons, Bool.and_eq_true] at hl
    rw [cells_cons, cells_cons, Seg.cells_like h x hl.1, cellsOf_like h l hl.2]
theorem SV.conc_like (h : ρ.like ρ') (x : SV) (hx : x.noY = true) : x.conc ρ ι = x.conc ρ' ι := by
  cases x with
  | s x => exact S.conc_like h x hx
  | agg l => simp only [SV.conc, cellsOf_like h l hx]
  | junk => rfl
  | tup l =>
    simp only [SV.conc]
    congr 2
    refine List.map_congr_left fun p hp => ?_
    rw [cellsOf_like h p.2 (List.all_eq_true.1 hx p hp)]
theorem Hyp.ok_like (h : ρ.like ρ') {H : Hyp} (hH : H.ok ρ) : H.ok ρ' := by
  refine ⟨fun p hp => ?_, fun p hp => by rw [← i_like h]; exact hH.e p hp, fun p hp j => by rw [← a_like h]; exact hH.a p hp j, fun p hp => by rw [← h.I]; exact hH.fi p hp, fun p hp => by rw [← h.I]; exact hH.fa p hp, fun p hp => by rw [← b_like h]; exact hH.b p hp⟩
  obtain ⟨h1, h2, h3, h4, h5⟩ := hH.x p hp
  rw [i_like h] at h1
  rw [h.I, i_like h] at h2
  rw [h.I] at h3
  refine ⟨h1, h2, h3, h4, fun k hk f d hd => ?_⟩
  rw [← h.I, h5 k (by rw [i_like h]; exact hk) f d hd, XF.conc_like h]
theorem FRep.like (h : ρ.like ρ') {n : Nat} {fr : Fr} {a : Act} (hf : FRep ρ ι n fr a) (hy : frNoY fr = true) : FRep ρ' ι n fr a := by
  refine ⟨hf.size, hf.defers, fun t g x hl hg => ?_, fun t g x hl hg => ?_⟩
  · have hx := hl
    obtain ⟨f, hm, rfl⟩ := look_mem hx
    rw [hf.yes _ _ _ hl (allT_like h.symm hg), SV.conc_like h _ (List.all_eq_true.1 hy f hm)]
  · exact hf.no _ _ _ hl fun hc => hg (allT_like h hc)
theorem MRep.like (h : ρ.like ρ') {β : Base} {m : Mem} {w : World} (hm : MRep ρ β ι m w) (hy : memNoY m = true) : MRep ρ' β ι m w := by
  have hc : ∀ {i : Nat} {B : Blk}, m[i]? = some B → cellsOf ρ ι B.segs = cellsOf ρ' ι B.segs := fun hB => cellsOf_like h _ (List.all_eq_true.1 hy _ (List.mem_of_getElem? hB))
  refine ⟨hm.inj, fun i B hB hd hn => by rw [← hc hB]; exact hm.blk i B hB hd hn, fun i B hB hd hn => by rw [← hc hB]; exact hm.nils i B hB hd hn, hm.agr, hm.len, hm.new, hm.size, hm.old, hm.os, hm.tape, hm.output, ?_, ?_⟩
  · rw [← h.I]; exact hm.xt
  · rw [← h.I]; exact hm.xd
end

/-! the machine, where a frame is of whatever make -/

/-- an activation with some marks behind its own deferred calls -/
def wD (a : Act) (ds : List Deferred) : Act := ⟨a.tmps, a.defers ++ ds⟩
theorem wD_eval (a : Act) (ds : List Deferred) : (wD a ds).eval = a.eval := by funext o; cases o <;> rfl
theorem wD_put (a : Act) (ds : List Deferred) (dst : Option Tmp) (v : Value) : (wD a ds).put dst v = wD (a.put dst v) ds := by cases dst <;> rfl

section
variable {P : Program} {b : Frame} {a : Act} {k : List Item} {cs : List Frame} {w : World} {ops : Array Oper} {ds : List Deferred}
theorem opR {o : Oper} {i : Nat} {rest : List Nat} (ho : ops[i]? = some o) (hw : Region.wanted o (yielded ops a.tmps) = true) (hnd : ∀ c, o.op ≠ .defer c)
    {K : Act → World → Prop} {Q : Exit → Act → World → Prop} (hQ : ∀ c a w, ¬ Q (.panic c) a w) (hL : ¬ LetsOut Q) (h : o.wp P a w K Q) :
    ∃ a' w', K a' w' ∧ Steps P (lone (b.atR (wD a ds) (.inRegion ops (i :: rest) :: k)) cs w) (lone (b.atR (wD a' ds) (.inRegion ops rest :: k)) cs w') := by
  unfold Oper.wp at h
  simp only [Oper.upon] at h
  have hg := stepGR_op (P := P) (b := b) (a := wD a ds) (k := k) (cs := cs) (w := w) (rest := rest) ho hw
  rw [Oper.semAt_eq _ _ _ hnd, wD_eval] at hg
  have hfin : ∀ v, (b.atR (wD a ds) (.inRegion ops (i :: rest) :: k)).finish v = b.atR (wD (a.put o.dst v) ds) (.inRegion ops rest :: k) := by
    intro v; rw [Frame.finish_atR, ho, ← wD_put]; rfl
  split at h
  · rename_i v w' hr
    exact ⟨_, _, h, .one (step_lone_go (by rw [hg, ← hfin]; simp [stepG.apply, hr]))⟩
  · rename_i w' hr
    exact ⟨_, _, h, .one (step_lone_go (by rw [hg, ← hfin]; simp [stepG.apply, hr]))⟩
  · rename_i d w' hr
    refine ⟨_, _, h, .one (step_lone_go ?_)⟩
    have : ({ b.atR (wD a ds) (.inRegion ops (i :: rest) :: k) with defers := d :: (wD a ds).defers } : Frame).finish undef =
        b.atR (wD ({ a with defers := d :: a.defers }.put o.dst undef) ds) (.inRegion ops rest :: k) := by
      have := Frame.finish_atR b { wD a ds with defers := d :: (wD a ds).defers } ops i rest k undef
      rw [ho] at this
      rw [← wD_put]; exact this
    rw [hg]; simp only [stepG.apply, Sem.runT_eq, hr, GStep.bare_after]
    exact congrArg (fun fr => GStep.go { frame := fr, callers := cs, status := .running, dying := none } w') this
  · rename_i f args w' hr
    obtain ⟨e, w'', fr, hR, hsteps, hfn, hleave⟩ := h (b.atR (wD a ds) (.inRegion ops (i :: rest) :: k) :: cs)
    have henter : step P (lone (b.atR (wD a ds) (.inRegion ops (i :: rest) :: k)) cs w) =
        .next (lone (Frame.enter P f args .normal) (b.atR (wD a ds) (.inRegion ops (i :: rest) :: k) :: cs) w') :=
      step_lone_go (by rw [hg]; simp [stepG.apply, hr, Frame.atR])
    cases e with
    | returned v =>
      refine ⟨_, _, hR, .head henter (Steps.trans hsteps (.one ?_))⟩
      rw [← hfin]; exact step_leave_returned hleave
    | panicked chain => exact absurd hR (hQ _ _ _)
    | outgrown => exact absurd hR hL
  · rename_i row args w' hr
    obtain ⟨v, w'', hR, hsteps⟩ := h (b.atR (wD a ds) (.inRegion ops (i :: rest) :: k)) cs
    have henter : step P (lone (b.atR (wD a ds) (.inRegion ops (i :: rest) :: k)) cs w) =
        .next (lone (Frame.ofRow P row args .normal) (b.atR (wD a ds) (.inRegion ops (i :: rest) :: k) :: cs) w') :=
      step_lone_go (by rw [hg]; simp [stepG.apply, hr, Frame.atR])
    refine ⟨_, _, hR, .head henter ?_⟩
    rw [← hfin]; exact hsteps
  · exact absurd h (hQ _ _ _)
  · exact h.elim
theorem opsR (hnd : ∀ (i : Nat) (o : Oper), ops[i]? = some o → ∀ c, o.op ≠ .defer c) {Q : Exit → Act → World → Prop} (hQ : ∀ c a w, ¬ Q (.panic c) a w) (hL : ¬ LetsOut Q) : ∀ (l : List Nat) (a : Act) (w : World), wpOps P ops Q l a w →
    ∃ a' w', Q .normal a' w' ∧ Steps P (lone (b.atR (wD a ds) (.inRegion ops l :: k)) cs w) (lone (b.atR (wD a' ds) k) cs w') := by
  intro l
  induction l with
  | nil => exact fun a w h => ⟨a, w, h, .one stepR_region_end⟩
  | cons i rest ih =>
    intro a w h
    simp only [wpOps] at h
    cases ho : ops[i]? with
    | none =>
      simp only [ho] at h
      obtain ⟨a', w', hq, hs⟩ := ih a w h
      have h1 := stepR_op_skip (P := P) (b := b) (a := wD a ds) (k := k) (cs := cs) (w := w) (ops := ops) (i := i) (rest := rest) (by simp [ho])
      simp only [ho, Option.bind_none, Act.put] at h1
      exact ⟨a', w', hq, .head h1 hs⟩
    | some o =>
      simp only [ho] at h
      by_cases hw : Region.wanted o (yielded ops a.tmps) = true
      · simp only [hw, if_true] at h
        rcases h with h | ⟨_, h⟩
        · obtain ⟨a1, w1, hk, hs⟩ := opR (b := b) (k := k) (cs := cs) (ds := ds) (rest := rest) ho hw (hnd i o ho) hQ hL h
          obtain ⟨a', w', hq, hs'⟩ := ih a1 w1 hk
          exact ⟨a', w', hq, Steps.trans hs hs'⟩
        · exact absurd h hL
      · simp only [hw, if_false, Bool.false_eq_true] at h
        obtain ⟨a', w', hq, hs⟩ := ih _ _ h
        have h1 := stepR_op_skip (P := P) (b := b) (a := wD a ds) (k := k) (cs := cs) (w := w) (ops := ops) (i := i) (rest := rest)
          (by simp only [ho, Option.map_some, Option.getD_some]; simpa [wD] using hw)
        simp only [ho, Option.bind_some, wD_put] at h1
        exact ⟨a', w', hq, .head h1 hs⟩
end

def noDefer (ops : Array Oper) : Bool := ops.toList.all fun o => match o.op with | .defer _ => false | _ => true
theorem noDefer_ok {ops : Array Oper} (h : noDefer ops = true) : ∀ (i : Nat) (o : Oper), ops[i]? = some o → ∀ c, o.op ≠ .defer c := by
  intro i o ho c hc
  have h1 := List.all_eq_true.1 h o (by
    have := Array.mem_of_getElem? ho
    exact Array.mem_toList_iff.2 this)
  rw [hc] at h1
  cases h1

section
variable {P : Program} {b : Frame} {a : Act} {k : List Item} {cs : List Frame} {w : World} {ops : Array Oper} {ds : List Deferred}
variable {ρ : Env} {ι : Loc} {H : Hyp} {Γ : Ctx} {β : Base} {m : Mem} {fr : Fr} {n : Nat}
theorem regR {I : Interp} (hΓ : CtxOK P I Γ) (hI : ρ.I = I) (hP : P.follows .mixedOrders = true) {id : Nat} {draw : Bool}
    {nd : List E} {H' : Hyp} {fr' : Fr} {m' : Mem} (hnd : noDefer ops = true) (hr : regOps P Γ n ops draw H fr m = some (nd, H', fr', m')) (hn : allN ρ nd) (hH : H.ok ρ) (hf : FRep ρ ι n fr a) (hm : MRep ρ β ι m w) :
    ∃ ι' a' w', (H'.ok ρ ∧ FRep ρ ι' n fr' a' ∧ MRep ρ β ι' m' w') ∧ Steps P (lone (b.atR (wD a ds) (.code (.region id ops draw) :: k)) cs w) (lone (b.atR (wD a' ds) k) cs w') := by
  let Q : Exit → Act → World → Prop := fun e a' w' => e = .normal ∧ ∃ ι', H'.ok ρ ∧ FRep ρ ι' n fr' a' ∧ MRep ρ β ι' m' w'
  have hQ : ∀ c a w, ¬ Q (.panic c) a w := fun c a w hq => by cases hq.1
  have hL : ¬ LetsOut Q := fun ⟨_, _, hq⟩ => by cases hq.1
  unfold regOps at hr
  cases draw with
  | false =>
    simp only [Bool.false_eq_true, if_false] at hr
    have h1 : wpList P ops Q ops.toList a w := rops_ok hΓ hI ops.toList hr hH hn hm hf fun ι' a' w' hH' hf' hm' => ⟨rfl, ι', hH', hf', hm'⟩
    have h2 : wpOps P ops Q (List.range ops.size) a w := by
      rw [List.range_eq_range', ← Array.length_toList, wpOps_eq_wpList ops.toList 0 (by simp)]; exact h1
    obtain ⟨a', w', ⟨_, ι', hq⟩, hs⟩ := opsR (b := b) (k := k) (cs := cs) (ds := ds) (noDefer_ok hnd) hQ hL _ a w h2
    exact ⟨ι', a', w', hq, .head stepR_region hs⟩
  | true =>
    simp only [if_true] at hr
    have h1 : wpAny P .any ops Q ops.size (Array.replicate ops.size false) a { w with drawn := w.drawn + 1 } := by
      split at hr
      · rename_i r hq
        split at hq
        · rename_i hB
          simp only [Option.some.injEq] at hr; subst hr
          have hmem := rops_mem _ hq
          subst hmem
          have hquiet := rops_quiet (β := β) (Q := fun a' => ∀ w', MRep ρ β ι m' w' → Q .normal a' w') hΓ hI ops.toList hq hH hn hf fun a' hH' hf' => fun w' hm' => ⟨rfl, ι, hH', hf', hm'⟩
          simp only [Region.lexB, Bool.and_eq_true] at hB
          refine wpAny_of_quiet (C := fun w => MRep ρ β ι m' w) (Q := fun a' => ∀ w', MRep ρ β ι m' w' → Q .normal a' w') (fun _ w' hw' h => h w' hw') _ _ _ _ (hm.drew _) ?_
          have := wpAnyQ_lex (C := fun w => MRep ρ β ι m' w) (md := .any) hB.1 ops.toList 0 (Array.replicate ops.size false) a (by simp) (by simpa using hB.2) hquiet
          simpa using this
        · cases hq
      · split at hr
        · rename_i hsel
          have key : ∀ {nx D L}, dops P Γ n ops nx D ops.size L (Array.replicate ops.size false) H fr m = some (nd, H', fr', m') → wpAny P .any ops Q ops.size (Array.replicate ops.size false) a { w with drawn := w.drawn + 1 } := fun hr =>
            wpAnyC.any _ _ _ _ (dops_ok (Q := Q) hΓ hI hsel hQ ops.size hr hH hn (hm.drew _) hf fun ι' a' w' hH' hf' hm' => ⟨rfl, ι', hH', hf', hm'⟩)
          split at hr
          · rename_i r hq
            simp only [Option.some.injEq] at hr; subst hr
            exact key hq
          · unfold fops at hr; exact key hr
        · cases hr
    have h2 : ∀ t, wpOps P ops Q (Region.schedule (P.follows .mixedOrders) ops t) a { w with drawn := w.drawn + 1 } := fun t => by
      simp only [Region.schedule, hP, Bool.true_or, if_true]
      exact wpAny_sound ops.size t _ a _ h1
    obtain ⟨a', w', ⟨_, ι', hq⟩, hs⟩ := opsR (b := b) (k := k) (cs := cs) (ds := ds) (noDefer_ok hnd) hQ hL _ a _ (h2 (w.tape w.drawn (.order b.fn id)))
    exact ⟨ι', a', w', hq, .head stepR_region_draw hs⟩
end

def frameOf (l : List SV) : Fr := l.zipIdx.map fun p => ⟨p.2, [], p.1⟩

section
variable {ρ : Env} {ι : Loc} {n : Nat}
theorem look_frame (l : List SV) (k : Nat) : ∀ (t : Nat) (g : List E) (x : SV), look ((l.zipIdx k).map fun p => ⟨p.2, [], p.1⟩) t = some (g, x) → g = [] ∧ k ≤ t ∧ l[t - k]? = some x := by
  induction l generalizing k with
  | nil => intro t g x h; simp [look_nil] at h
  | cons a l ih =>
    intro t g x h
    simp only [List.zipIdx_cons, List.map_cons, look_nil, look_cons] at h
    split at h
    · rename_i hk
      split at h
      · cases h
      · simp only [Option.some.injEq, Prod.mk.injEq] at h
        obtain ⟨rfl, rfl⟩ := h
        subst hk
        simp
    · rename_i hk
      obtain ⟨h1, h2, h3⟩ := ih (k + 1) t g x h
      refine ⟨h1, by omega, ?_⟩
      rw [show t - k = (t - (k + 1)) + 1 by omega, List.getElem?_cons_succ]; exact h3

/-- a function's first frame -/
theorem frame_ok (l : List SV) (hl : l.length ≤ n) : FRep ρ ι n (frameOf l) { tmps := (l.map (SV.conc ρ ι)).toArray ++ Array.replicate (n - (l.map (SV.conc ρ ι)).toArray.size) Go.undef, defers := [] } := by
  refine ⟨by simp; omega, rfl, fun t g x h hg => ?_, fun t g x h hg => ?_⟩
  · obtain ⟨rfl, _, hx⟩ := look_frame l 0 t g x h
    have hlt : t < l.length := by
      have := (List.getElem?_eq_some_iff.1 hx).1; omega
    simp only [Nat.sub_zero] at hx
    rw [Array.getElem?_append_left (by simpa using hlt)]
    simp [hx]
  · obtain ⟨rfl, _, hx⟩ := look_frame l 0 t g x h
    exact absurd (fun e he => by cases he) hg

end

/-! a run with rounds -/

/-- a loop that goes on: the frame it stands in, what is behind it, how many blocks the frame knows; the loop's own; the function that is ranged over -/
structure LI where
  fr : Fr
  k : List Item
  K : Nat
  ps : List Tmp
  as : Code
  bd : Code
  ni : Nat
  fi : Func
/-- a call of yield that goes on -/
structure YI where
  fr : Fr
  todo : List Item
  dst : Option Tmp
  K : Nat
inductive Ph where
  | out
  | it (L : LI) (J : Option Code)
  | rd (L : LI) (Y : YI) (begun : Bool)
def Ph.nt (n : Nat) : Ph → Nat
  | .out => n
  | .it L _ => L.ni
  | .rd _ _ _ => n
inductive Lv where
  | ret (v : SV)
  | go (ph : Ph) (todo : List Item) (fr : Fr)
  | bad
/-- a frame is left -/
def leaveX (P : Program) (fn : Func) (ph : Ph) (J : Option Code) (H : Hyp) (fr : Fr) (m : Mem) : Lv :=
  match ph with
  | .out => match resAll P H fr m fn.results.toList with
    | some v => .ret v
    | none => .bad
  | .it L J0 => match resAll P H fr m L.fi.results.toList with
    | some _ => if memNoY m then .go .out ((J0.map Item.code).toList ++ L.k) L.fr else .bad
    | none => .bad
  | .rd L Y true => match put L.ni Y.fr Y.dst [] (.s (.bool (.blit J.isNone))) with
    | some fr' => .go (.it L J) Y.todo fr'
    | none => .bad
  | .rd _ _ false => .bad
def dynOps (ops : Array Oper) : Bool := ops.toList.any fun o => match o.op with
  | .call ⟨.value (.tmp _), _, _⟩ => true
  | _ => false
def isIt : Ph → Bool
  | .it _ _ => true
  | _ => false
def yieldOf (fr : Fr) : Op → Option (List SV)
  | .call ⟨.value x, args, _⟩ => match opnd [] fr x with
    | some (.s (.val n)) => if n = yi then opnds [] fr args.toList else none
    | _ => none
  | _ => none
def notDefer (o : Oper) : Bool := match o.op with | .defer _ => false | _ => true
def putAll (n : Nat) : Fr → List Tmp → List SV → Option Fr
  | fr, [], [] => some fr
  | fr, t :: ts, x :: xs => match put n fr (some t) [] x with
    | some fr' => putAll n fr' ts xs
    | none => none
  | _, _, _ => none
/-! at a loop's head, in an iterator: what was made within the last round of it is dropped -/
def loopMark : Fr → Option Nat
  | [] => none
  | f :: l => cond (Nat.ble 5000 f.t) (some (f.t - 5000)) (loopMark l)
def topRef : List Nat → Nat → Nat
  | [], k => k
  | b :: l, k => topRef l (cond (Nat.ble k b) (b + 1) k)
def topBlks : Mem → Nat → Nat
  | [], k => k
  | B :: l, k => topBlks l (topRef (B.segs.flatMap refsSeg) k)
def topFr : Fr → Nat → Nat
  | [], k => k
  | f :: l, k => topFr l (topRef (refsV f.x) k)
def cutAt (L : LI) (m : Mem) (M1 : Nat) : Nat :=
  let k1 := topBlks (m.take M1) (topFr L.fr M1)
  let k2 := topBlks ((m.take k1).drop M1) k1
  topBlks ((m.take k2).drop k1) k2
def dropV (M1 : Nat) (x : SV) : SV := cond (Nat.ble (topRef (refsV x) M1) M1) x .junk
def dropTmps (M1 : Nat) (fr : Fr) : Fr := fr.map fun f => { f with x := dropV M1 f.x }
def atHead (ph : Ph) (fr : Fr) (m : Mem) : Fr × Mem := match ph with
  | .it L _ => match loopMark fr with
    | some M1 => if L.K ≤ cutAt L m M1 then (dropTmps M1 (tidy fr), m.take (cutAt L m M1)) else (tidy fr, m)
    | none => (tidy fr, m)
  | _ => (tidy fr, m)
def atLoop (ph : Ph) (fr : Fr) (m : Mem) : Fr := match ph with
  | .it _ _ => ⟨5000 + m.length, [], .junk⟩ :: tidy fr
  | _ => tidy fr
theorem look_drop {M1 : Nat} : ∀ {fr : Fr} {t : Nat} {g : List E} {x : SV}, look (dropTmps M1 fr) t = some (g, x) → look fr t = some (g, x)
  | [], _, _, _, h => by cases h
  | f :: l, t, g, x, h => by
    simp only [dropTmps, List.map_cons, look_cons] at h ⊢
    by_cases ht : f.t = t
    · simp only [if_pos ht] at h ⊢
      unfold dropV at h
      cases hb : Nat.ble (topRef (refsV f.x) M1) M1 with
      | true => rw [hb] at h; exact h
      | false => rw [hb] at h; simp at h
    · simp only [if_neg ht] at h ⊢
      exact look_drop h
theorem FRep.drop {ρ : Env} {ι : Loc} {n : Nat} {fr : Fr} {a : Act} (h : FRep ρ ι n fr a) (M1 : Nat) : FRep ρ ι n (dropTmps M1 fr) a :=
  ⟨h.size, h.defers, fun t g x hl => h.yes t g x (look_drop hl), fun t g x hl => h.no t g x (look_drop hl)⟩
theorem FRep.mark {ρ : Env} {ι : Loc} {n : Nat} {fr : Fr} {a : Act} (h : FRep ρ ι n fr a) (T : Nat) : FRep ρ ι n (⟨T, [], .junk⟩ :: fr) a := by
  have hl : ∀ {t g x}, look (⟨T, [], .junk⟩ :: fr) t = some (g, x) → look fr t = some (g, x) := fun {t g x} hl => by
    rw [look_cons] at hl
    split at hl
    · simp at hl
    · exact hl
  exact ⟨h.size, h.defers, fun t g x hx => h.yes t g x (hl hx), fun t g x hx => h.no t g x (hl hx)⟩
theorem FRep.atLoop {ρ : Env} {ι : Loc} {n : Nat} {fr : Fr} {a : Act} (h : FRep ρ ι n fr a) (ph : Ph) (m : Mem) : FRep ρ ι n (atLoop ph fr m) a := by
  unfold Sx.atLoop
  split
  · exact h.tidy.mark _
  · exact h.tidy
theorem MRep.takeK {ρ : Env} {β : Base} {ι : Loc} {m : Mem} {w : World} (h : MRep ρ β ι m w) {k : Nat} (hk : β.k ≤ k) : MRep ρ β ι (m.take k) w := by
  have at_ : ∀ {i : Nat} {B : Blk}, (m.take k)[i]? = some B → m[i]? = some B := by
    intro i B hB
    rw [List.getElem?_take] at hB
    split at hB
    · exact hB
    · cases hB
  refine ⟨fun i j B C hB hC => h.inj i j B C (at_ hB) (at_ hC), fun i B hB => h.blk i B (at_ hB), fun i B hB => h.nils i B (at_ hB), h.agr, by have := h.len; simp; omega, fun i h1 h2 => h.new i h1 (Nat.lt_of_lt_of_le h2 (by simp; omega)), h.size, fun b hb hi => h.old b hb fun i hi' => ?_, h.os, h.tape, h.output, h.xt, fun i j a n' c' hv h0 q hq => h.xd i j a n' c' hv h0 q (Nat.lt_of_lt_of_le hq (by simp; omega))⟩
  by_cases hc : i < (m.take k).length
  · exact hi i hc
  · have h1 : k ≤ i := by simp at hc; omega
    rcases h.new i (Nat.le_trans hk h1) hi' with hn | ⟨j, hj, hn⟩
    · omega
    · rw [hn]; exact hi j (by have := h.len; simp; omega)

/-- memory whose blocks lie where something lies -/
def okMem (m : Mem) : Bool := m.all fun B => !B.dead && (B.grow.isNone || match B.segs with | .one _ :: _ => true | _ => false)

def runX (P : Program) (Γ : Ctx) (hc : HintCtx) (fn : Func) (n : Nat) : (fuel loops : Nat) → Ph → List Item → Hyp → Fr → Mem → Tree
  | 0, _, _, _, _, _, _ => .fail "fuel"
  | k + 1, u, ph, todo, H, fr, m =>
    match todo with
    | [] => match leaveX P fn ph none H fr m with
      | .ret v => .ret v m
      | .go ph' t' fr' => runX P Γ hc fn n k u ph' t' H fr' m
      | .bad => .fail "leave"
    | .code .ret :: _ => match leaveX P fn ph (some .ret) H fr m with
      | .ret v => .ret v m
      | .go ph' t' fr' => runX P Γ hc fn n k u ph' t' H fr' m
      | .bad => .fail "leave"
    | .code .skip :: r | .code (.label _) :: r | .inBlock _ :: r | .inScope _ :: r => runX P Γ hc fn n k u ph r H fr m
    | .code (.seq x y) :: r => runX P Γ hc fn n k u ph (.code x :: .code y :: r) H fr m
    | .code (.block id c) :: r => runX P Γ hc fn n k u ph (.code c :: .inBlock id :: r) H fr m
    | .code (.scope c) :: r => runX P Γ hc fn n k u ph (.code c :: .inScope c :: r) H fr m
    | .code (.exit id) :: r => match exitTo id r with
      | some r' => runX P Γ hc fn n k u ph r' H fr m
      | none => match ph with
        | .rd L Y bg => match leaveX P fn (.rd L Y bg) (some (.exit id)) H fr m with
          | .go ph' t' fr' => runX P Γ hc fn n k u ph' t' H fr' m
          | _ => .fail "leave"
        | _ => .fail "exit"
    | .code (.cond c x y) :: r => match opnd [] fr c with
      | some (.s (.bool e0)) => match decB H e0 with
        | .blit t => runX P Γ hc fn n k u ph (.code (if t then x else y) :: r) H fr m
        | e => .ite e (runX P Γ hc fn n k u ph (.code x :: r) (addF true e H) fr m) (runX P Γ hc fn n k u ph (.code y :: r) (addF false e H) fr m)
      | _ => .fail "cond"
    | .code (.region id ops draw) :: r =>
      if noDefer ops then
        if !draw && isIt ph && dynOps ops then runX P Γ hc fn n k u ph (.inRegion ops (List.range ops.size) :: r) H fr m else
        match regOps P Γ (ph.nt n) ops draw H fr m with
        | some (nd, H', fr', m') => addNeeds nd (runX P Γ hc fn n k u ph r H' fr' m')
        | none => match hintOps P Γ hc draw (ph.nt n) ops ops.toList H fr m with
          | some c => match decB H c with
            | .blit _ => .fail "region (hint)"
            | _ => .ite c (runX P Γ hc fn n k u ph todo (addF true c H) fr m) (runX P Γ hc fn n k u ph todo (addF false c H) fr m)
          | none => .fail "region"
      else .fail "defer"
    | .inRegion _ [] :: r => runX P Γ hc fn n k u ph r H fr m
    | .inRegion ops (i :: rest) :: r => match ops[i]? with
      | none => .fail "operation"
      | some o => match guardH H ops fr o with
        | .bad => .fail "guard"
        | .skip => match put (ph.nt n) fr o.dst [] .undef with
          | some fr' => runX P Γ hc fn n k u ph (.inRegion ops rest :: r) H fr' m
          | none => .fail "put"
        | .go G => match G.find? (fun g => match decB H g with | .blit _ => false | _ => true) with
          | some g => .ite g (runX P Γ hc fn n k u ph todo (addF true g H) fr m) (runX P Γ hc fn n k u ph todo (addF false g H) fr m)
          | none => .fail "guard (go)"
        | .now _ => match yieldOf fr o.op with
          | some l => match ph with
            | .it L none => if fr.all (fun f => f.x.sc m.length) && l.all (fun x => x.sc m.length) then match putAll n L.fr L.ps l with
              | some fr0 => runX P Γ hc fn n k u (.rd L ⟨fr, .inRegion ops rest :: r, o.dst, m.length⟩ false) [.code L.as, .beginRound, .code L.bd] H fr0 m
              | none => .fail "yield"
              else .fail "yield (sc)"
            | _ => .fail "yield (phase)"
          | none => if notDefer o then match opStep P Γ false (ph.nt n) ops o H fr m with
            | some (nd, H', fr', m') => addNeeds nd (runX P Γ hc fn n k u ph (.inRegion ops rest :: r) H' fr' m')
            | none => match callOf P [] fr o.op with
              | some (f, l) => match hc f H l m with
                | some c => match decB H c with
                  | .blit _ => .fail "operation (hint)"
                  | _ => .ite c (runX P Γ hc fn n k u ph todo (addF true c H) fr m) (runX P Γ hc fn n k u ph todo (addF false c H) fr m)
                | none => .fail "operation (call)"
              | none => .fail "operation"
            else .fail "defer"
    | .beginRound :: r => match ph with
      | .rd L Y false => runX P Γ hc fn n k u (.rd L Y true) r H fr m
      | _ => .fail "begin"
    | .code (.rangeFunc g ps as bd) :: r => match ph with
      | .out => match opnd [] fr g with
        | some (.s (.fn f caps)) => match P.funcs[f]? with
          | some fi => match fi.body with
            | some c => if okFn P f && frNoY fr && memNoY m && okMem m && fr.all (fun f => f.x.sc m.length) && decide (caps.length + 1 ≤ fi.ntmps) then
                runX P Γ hc fn n k u (.it ⟨fr, r, m.length, ps.toList, as, bd, fi.ntmps, fi⟩ none) [.code c] H (frameOf (.s (.val yi) :: caps.map fun p => .s (.ptr p.1 p.2))) m
              else .fail "range"
            | none => .fail "range"
          | none => .fail "range"
        | _ => .fail "range"
      | _ => .fail "range"
    | .code (.loop c) :: r | .inLoop c :: r => match u with
      | 0 => .fail "loop"
      | u + 1 => runX P Γ hc fn n k u ph (.code c :: .inLoop c :: r) H (match todo with | .code _ :: _ => atLoop ph fr m | _ => (atHead ph fr m).1) (match todo with | .code _ :: _ => m | _ => (atHead ph fr m).2)
    | _ => .fail "code"

/-! what is outside the memory -/
def Keep (β : Base) (ι : Loc) (m : Mem) (w : World) (b : Nat) (o : Obj) : Prop := w.heap[b]? = some o ∧ β.w.heap.size ≤ b ∧ ∀ i, i < m.length → ι i ≠ b
structure SvF where
  fr : Fr
  a : Act
  n : Nat
  K : Nat
structure Inv (ρ : Env) (β : Base) (ι : Loc) (m : Mem) (w : World) (X : List (Nat × Obj)) (F : List SvF) : Prop where
  mem : MRep ρ β ι m w
  keep : ∀ p ∈ X, Keep β ι m w p.1 p.2
  frs : ∀ q ∈ F, FRep ρ ι q.n q.fr q.a ∧ q.fr.all (fun f => f.x.sc q.K) = true ∧ q.K ≤ m.length ∧ β.k ≤ q.K

section
variable {ρ : Env} {β : Base} {ι ι' : Loc} {m m' : Mem} {w w' : World} {X : List (Nat × Obj)} {F : List SvF} {b : Nat} {o : Obj}
theorem Keep.step (h : Keep β ι m w b o) (h' : MRep ρ ⟨w, m.length, ι⟩ ι' m' w') : Keep β ι' m' w' b o := by
  obtain ⟨h1, h2, h3⟩ := h
  have hb : b < w.heap.size := (Array.getElem?_eq_some_iff.1 h1).1
  have hag : Loc.agree m.length ι' ι := h'.agr
  have key : ∀ i, i < m'.length → ι' i ≠ b := by
    intro i hi
    by_cases hc : i < m.length
    · rw [(hag i hc).1]; exact h3 i hc
    · rcases h'.new i (Nat.not_lt.1 hc) hi with hn | ⟨j, hj, hn⟩
      · have : w.heap.size ≤ ι' i := hn
        omega
      · have hj : j < m.length := hj
        rw [hn, (hag j hj).1]; exact h3 j hj
  exact ⟨by rw [h'.old b hb key]; exact h1, h2, key⟩
theorem FRep.keepSc {fr : Fr} {n K : Nat} {a : Act} (hf : FRep ρ ι n fr a) (hs : fr.all (fun f => f.x.sc K) = true) (hK : K ≤ m.length) (h' : MRep ρ ⟨w, m.length, ι⟩ ι' m' w') : FRep ρ ι' n fr a :=
  have hag : Loc.agree m.length ι' ι := h'.agr
  hf.congr (Loc.agree.mono hag.symm hK) hs
theorem Inv.step (h : Inv ρ β ι m w X F) (h' : MRep ρ ⟨w, m.length, ι⟩ ι' m' w') : Inv ρ β ι' m' w' X F :=
  ⟨h.mem.since h', fun p hp => (h.keep p hp).step h', fun q hq => ⟨(h.frs q hq).1.keepSc (h.frs q hq).2.1 (h.frs q hq).2.2.1 h', (h.frs q hq).2.1, Nat.le_trans (h.frs q hq).2.2.1 h'.len, (h.frs q hq).2.2.2⟩⟩
theorem MRep.poke (h : MRep ρ β ι m w) (hb : β.w.heap.size ≤ b) (hi : ∀ i, i < m.length → ι i ≠ b) (o : Obj) : MRep ρ β ι m (w.putObj b o) := by
  refine ⟨h.inj, fun i B hB hd hn => ?_, h.nils, h.agr, h.len, h.new, by rw [World.putObj_size]; exact h.size, fun c hc hi' => ?_, h.os, h.tape, h.output, h.xt, h.xd⟩
  · rw [World.putObj_heap_other (hi i (List.getElem?_eq_some_iff.1 hB).1)]; exact h.blk i B hB hd hn
  · rw [World.putObj_heap_other (by omega)]; exact h.old c hc hi'
theorem Keep.other (h : Keep β ι m w b o) {c : Nat} (hc : b ≠ c) (o' : Obj) : Keep β ι m (w.putObj c o') b o :=
  ⟨by rw [World.putObj_heap_other hc]; exact h.1, h.2⟩
theorem Keep.self (h : Keep β ι m w b o) (o' : Obj) : Keep β ι m (w.putObj b o') b o' :=
  ⟨World.putObj_heap_same (Array.getElem?_eq_some_iff.1 h.1).1, h.2⟩
/-- what is outside turns -/
theorem Inv.poke (h : Inv ρ β ι m w ((b, o) :: X) F) (hX : ∀ p ∈ X, p.1 ≠ b) (o' : Obj) : Inv ρ β ι m (w.putObj b o') ((b, o') :: X) F := by
  have hb := h.keep (b, o) (.head _)
  refine ⟨h.mem.poke hb.2.1 hb.2.2 o', fun p hp => ?_, h.frs⟩
  cases hp with
  | head => exact hb.self o'
  | tail _ hp => exact (h.keep p (.tail _ hp)).other (hX p hp) o'
theorem Inv.takeK (h : Inv ρ β ι m w X F) {k : Nat} (hβ : β.k ≤ k) (hk : ∀ q ∈ F, q.K ≤ k) : Inv ρ β ι (m.take k) w X F :=
  ⟨h.mem.takeK hβ, fun p hp => ⟨(h.keep p hp).1, (h.keep p hp).2.1, fun i hi => (h.keep p hp).2.2 i (Nat.lt_of_lt_of_le hi (by simp; omega))⟩, fun q hq => ⟨(h.frs q hq).1, (h.frs q hq).2.1, by have h1 := hk q hq; have h2 := (h.frs q hq).2.2.1; simp only [List.length_take]; omega, (h.frs q hq).2.2.2⟩⟩
theorem Inv.tail {p : Nat × Obj} (h : Inv ρ β ι m w (p :: X) F) : Inv ρ β ι m w X F := ⟨h.mem, fun q hq => h.keep q (.tail _ hq), h.frs⟩
theorem Inv.like {ρ' : Env} (hl : ρ.like ρ') (h : Inv ρ β ι m w X F) (hm : memNoY m = true) (hF : ∀ q ∈ F, frNoY q.fr = true) : Inv ρ' β ι m w X F :=
  ⟨h.mem.like hl hm, h.keep, fun q hq => ⟨(h.frs q hq).1.like hl (hF q hq), (h.frs q hq).2⟩⟩
theorem MRep.lt_okMem (hm : MRep ρ β ι m w) (h : okMem m = true) {i : Nat} (hi : i < m.length) : ι i < w.heap.size := by
  obtain ⟨B, hB⟩ : ∃ B, m[i]? = some B := ⟨m[i], by simp [hi]⟩
  have h1 := List.all_eq_true.1 h B (List.mem_of_getElem? hB)
  simp only [Bool.and_eq_true, Bool.not_eq_true', Bool.or_eq_true] at h1
  obtain ⟨hd, h2⟩ := h1
  have hn : ι.nil i = false := by
    cases hn : ι.nil i with
    | false => rfl
    | true =>
      obtain ⟨h3, h4⟩ := hm.nils i B hB hd hn
      rcases h2 with h2 | h2
      · rw [Option.isNone_iff_eq_none] at h2; rw [h2] at h3; cases h3
      · split at h2
        · rename_i x l hs
          rw [hs, cells_cons] at h4
          simp [Seg.cells] at h4
        · cases h2
  obtain ⟨fz, rest, h3, _⟩ := hm.blk i B hB hd hn
  exact (Array.getElem?_eq_some_iff.1 h3).1
end

/-! ### a run with rounds is sound -/

def Fin (P : Program) (f : FuncId) (R : Ending → World → Prop) (cs0 : List Frame) (M : Machine) : Prop :=
  ∃ e w' fr, R e w' ∧ Comes P M (lone fr cs0 w') e ∧ fr.fn = f ∧ fr.leaving P w' e
theorem Fin.back {P : Program} {f : FuncId} {R : Ending → World → Prop} {cs0 : List Frame} {M M' : Machine} (hs : Steps P M M') (h : Fin P f R cs0 M') : Fin P f R cs0 M :=
  let ⟨e, w', fr, h1, h2, h3⟩ := h; ⟨e, w', fr, h1, h2.of_steps hs, h3⟩
theorem Fin.one {P : Program} {f : FuncId} {R : Ending → World → Prop} {cs0 : List Frame} {M M' : Machine} (hs : step P M = .next M') (h : Fin P f R cs0 M') : Fin P f R cs0 M := h.back (.one hs)

def mkD (r : Nat) : Deferred := { target := .collected r, args := #[] }
def mks (rs : List Nat) : List (Nat × Obj) := rs.map fun r => (r, .deferred (some []))
def recO (lp : Loop) (s : LoopState) (J : Option Code) : Obj := .loop { lp with state := s, pending := J }
def stJ (J : Option Code) : LoopState := if J.isNone then .ready else .done

/-- what is fixed while a loop goes on -/
structure LS (f : FuncId) (ρ : Env) (cs0 : List Frame) (L : LI) (ρ' : Env) (rs : List Nat) (l D : Nat) (lp : Loop) (aA : Act) (bA : Frame) (csI : List Frame) : Prop where
  nd : (D :: rs).Nodup
  ps : lp.params = L.ps.toArray
  as : lp.assign = L.as
  bd : lp.body = L.bd
  tm : lp.tmps = aA.tmps
  fn : lp.fn = f
  env : ρ' = ρ.setY (.func (.yield l) #[] #[])
  ro : bA.roundOf = none
  bf : bA.fn = f
  kd : bA.kind = .normal
  cs : csI = bA.atR (wD aA ((D :: rs).map mkD)) (.inRangeFunc l :: L.k) :: cs0
  ny : frNoY L.fr = true

def Shape (P : Program) (f : FuncId) (n : Nat) (ρ : Env) (cs0 : List Frame) : Ph → Env → List (Nat × Obj) → List SvF → List Deferred → Frame → List Frame → Prop
  | .out, ρ', X, F, ds, b, cs => ∃ rs : List Nat, rs.Nodup ∧ X = mks rs ∧ F = [] ∧ ds = rs.map mkD ∧ ρ' = ρ ∧ b.roundOf = none ∧ b.fn = f ∧ b.kind = .normal ∧ cs = cs0
  | .it L J, ρ', X, F, ds, b, cs => ∃ (rs : List Nat) (l D : Nat) (lp : Loop) (aA : Act) (bA : Frame), LS f ρ cs0 L ρ' rs l D lp aA bA cs ∧ X = (l, recO lp (stJ J) J) :: mks (D :: rs) ∧ F = [⟨L.fr, aA, n, L.K⟩] ∧ ds = [] ∧
      b.roundOf = none ∧ b.kind = .normal ∧ P.funcs[b.fn]? = some L.fi
  | .rd L Y bg, ρ', X, F, ds, b, cs => ∃ (rs : List Nat) (l D : Nat) (lp : Loop) (aA : Act) (bA : Frame) (csI : List Frame) (aI : Act) (bI : Frame) (ops : Array Oper) (i : Nat) (rest : List Nat) (r : List Item), LS f ρ cs0 L ρ' rs l D lp aA bA csI ∧ X = (l, recO lp (if bg then .busy else .ready) none) :: mks (D :: rs) ∧
      F = [⟨Y.fr, aI, L.ni, Y.K⟩, ⟨L.fr, aA, n, L.K⟩] ∧ ds = [] ∧ b.roundOf = some l ∧ b.kind = .normal ∧ bI.roundOf = none ∧ bI.kind = .normal ∧ P.funcs[bI.fn]? = some L.fi ∧
      cs = bI.atR (wD aI []) (.inRegion ops (i :: rest) :: r) :: csI ∧ Y.todo = .inRegion ops rest :: r ∧ (ops[i]?).bind (·.dst) = Y.dst

section
variable {P : Program} {Γ : Ctx} {f : FuncId} {fn : Func} {R : Ending → World → Prop} {cs0 : List Frame} {ρ ρ' : Env} {β : Base} {n : Nat}

theorem Shape.like : ∀ {ph : Ph} {X : List (Nat × Obj)} {F : List SvF} {ds : List Deferred} {b : Frame} {cs : List Frame}, Shape P f n ρ cs0 ph ρ' X F ds b cs → ρ.like ρ'
  | .out, _, _, _, _, _, h => by obtain ⟨rs, _, _, _, _, rfl, _⟩ := h; exact .refl _
  | .it L J, _, _, _, _, _, h => by obtain ⟨rs, l, D, lp, aA, bA, h, _⟩ := h; rw [h.env]; exact setY_like _ _
  | .rd L Y bg, _, _, _, _, _, h => by obtain ⟨rs, l, D, lp, aA, bA, csI, aI, bI, ops, i, rest, r, h, _⟩ := h; rw [h.env]; exact setY_like _ _

theorem allN_like (h : ρ.like ρ') {l : List E} (hl : allN ρ l) : allN ρ' l := fun e he => by rw [← b_like h]; exact hl e he

/-- the function is left: its marks are taken up -/
theorem leaveT {ι : Loc} {m : Mem} {tmps : Array Value} (hfn : P.funcs[f]? = some fn) (hR : ∀ w, MRep ρ β ι m w → ∃ v, (results fn tmps).run P w = .ok v w ∧ R (.returned v) w) :
    ∀ (rs : List Nat) (fr : Frame) (w : World), fr.mode = .returning → fr.defers = rs.map mkD → fr.tmps = tmps → fr.fn = f → fr.kind = .normal → rs.Nodup → (∀ r ∈ rs, Keep β ι m w r (.deferred (some []))) → MRep ρ β ι m w →
    Fin P f R cs0 (lone fr cs0 w) := by
  intro rs
  induction rs with
  | nil =>
    intro fr w hm hd ht hf hk _ _ hmem
    obtain ⟨v, h1, h2⟩ := hR w hmem
    exact ⟨.returned v, w, fr, h2, Steps.refl _ _, hf, hm, hd, hk, fn, by rw [hf]; exact hfn, by rw [ht]; exact h1⟩
  | cons r rs ih =>
    intro fr w hm hd ht hf hk hnd hkp hmem
    rw [List.nodup_cons] at hnd
    have h0 := hkp r (.head _)
    refine Fin.one (step_collected (by rw [hm]; exact fun h => by cases h) hd rfl (run_takeDeferred h0.1)) ?_
    exact ih { fr with defers := [] ++ rs.map mkD } _ hm rfl ht hf hk hnd.2 (fun q hq => (hkp q (.tail _ hq)).other (fun h => hnd.1 (show r ∈ rs by rw [← h]; exact hq)) _) (hmem.poke h0.2.1 h0.2.2 _)

theorem mks_ne {ι : Loc} {m : Mem} {w : World} {X : List (Nat × Obj)} {F : List SvF} {l : Nat} {o : Obj} {rs : List Nat} (h : Inv ρ' β ι m w ((l, o) :: mks rs) F) (ho : ∀ x, o ≠ .deferred x) : ∀ p ∈ mks rs, p.1 ≠ l := by
  intro p hp he
  have h1 := (h.keep (l, o) (.head _)).1
  have h2 := (h.keep p (.tail _ hp)).1
  simp only [mks, List.mem_map] at hp
  obtain ⟨r, _, rfl⟩ := hp
  simp only at he h2 h1
  subst he
  rw [h2] at h1
  injection h1 with h1
  exact ho _ h1.symm

/-- off the foot of a frame, or by a jump: leaving it -/
def Lv.holds (P : Program) (f : FuncId) (R : Ending → World → Prop) (n : Nat) (ρ : Env) (β : Base) (cs0 : List Frame) (H : Hyp) (m : Mem) : Lv → Prop
  | .ret v => ∀ ι w, MRep ρ β ι m w → R (.returned (v.conc ρ ι)) w
  | .go ph todo fr => ∀ ρ' ι a w X F ds b cs, H.ok ρ → Shape P f n ρ cs0 ph ρ' X F ds b cs → Inv ρ' β ι m w X F → FRep ρ' ι (ph.nt n) fr a → Fin P f R cs0 (lone (b.atR (wD a ds) todo) cs w)
  | .bad => False

theorem leaveX_ok {ph : Ph} {J : Option Code} {H : Hyp} {fr : Fr} {m : Mem} {ι : Loc} {a : Act} {w : World} {X : List (Nat × Obj)} {F : List SvF} {ds : List Deferred} {b : Frame} {cs : List Frame} {todo : List Item}
    (hfn : P.funcs[f]? = some fn) (h : (leaveX P fn ph J H fr m).holds P f R n ρ β cs0 H m) (hH : H.ok ρ) (hsh : Shape P f n ρ cs0 ph ρ' X F ds b cs) (hinv : Inv ρ' β ι m w X F) (hf : FRep ρ' ι (ph.nt n) fr a)
    (hret : b.roundOf = none → step P (lone (b.atR (wD a ds) todo) cs w) = .next (lone { b.atR (wD a ds) todo with mode := .returning } cs w))
    (hrd : ∀ l c cs' v w', b.roundOf = some l → b.kind = .normal → cs = c :: cs' → (Instr.endRound l J).run P w = .ok v w' → step P (lone (b.atR (wD a ds) todo) cs w) = .next (lone (c.finish v) cs' w')) :
    Fin P f R cs0 (lone (b.atR (wD a ds) todo) cs w) := by
  have hlike := hsh.like
  unfold leaveX at h
  split at h
  · -- the function itself
    obtain ⟨rs, hnd, rfl, rfl, rfl, rfl, hro, hbf, hkd, rfl⟩ := hsh
    split at h
    · rename_i v hv
      refine Fin.one (hret hro) ?_
      refine leaveT (ρ := ρ') (β := β) (ι := ι) (m := m) (tmps := a.tmps) hfn (fun w' hm' => ⟨_, resAll_ok hH hm' hf hv, h ι w' hm'⟩) rs _ w rfl ?_ rfl hbf hkd hnd (fun r hr => hinv.keep (r, _) (List.mem_map.2 ⟨r, hr, rfl⟩)) hinv.mem
      show a.defers ++ rs.map mkD = rs.map mkD
      rw [hf.defers]; rfl
    · exact h.elim
  · -- the function that is ranged over
    rename_i L J0
    obtain ⟨rs, l, D, lp, aA, bA, ls, rfl, rfl, rfl, hro, hkd, hbf⟩ := hsh
    split at h
    · rename_i v hv
      split at h
      · rename_i hmy
        refine Fin.one (hret hro) ?_
        have hres := resAll_ok (Hyp.ok_like hlike hH) hinv.mem hf hv
        have hleave : ({ b.atR (wD a []) todo with mode := .returning } : Frame).leaving P w (.returned (v.conc ρ' ι)) :=
          ⟨rfl, by show a.defers ++ [] = []; rw [hf.defers]; rfl, hkd, L.fi, hbf, hres⟩
        have hcs := ls.cs
        subst hcs
        refine Fin.one (step_leave_returned hleave) ?_
        rw [finish_atR_inRangeFunc]
        have hrec : w.heap[l]? = some (recO lp (stJ J0) J0) := (hinv.keep (l, _) (.head _)).1
        have hb : ({ lp with state := stJ J0, pending := J0 } : Loop).state ≠ .busy := by
          unfold stJ; cases J0 <;> simp
        refine Fin.one (stepR_endRangeFunc (run_endLoop hrec hb)) ?_
        have hinv2 := (hinv.poke (mks_ne (X := []) hinv fun x hx => by cases hx) (.loop { lp with state := .exhausted, pending := J0 })).tail
        have hA := hinv2.frs ⟨L.fr, aA, n, L.K⟩ (.head _)
        refine h ρ ι aA _ (mks (D :: rs)) [] _ bA cs0 hH ⟨D :: rs, ls.nd, rfl, rfl, rfl, rfl, ls.ro, ls.bf, ls.kd, rfl⟩ ?_ (hA.1.like hlike.symm ls.ny)
        exact ⟨hinv2.mem.like hlike.symm hmy, hinv2.keep, fun q hq => by cases hq⟩
      · exact h.elim
    · exact h.elim
  · -- a round
    rename_i L Y
    obtain ⟨rs, l, D, lp, aA, bA, csI, aI, bI, ops, i, rest, r, ls, rfl, rfl, rfl, hro, hkd, hroI, hkI, hbI, rfl, hY, hdst⟩ := hsh
    split at h
    · rename_i fr' hp
      have hrec : w.heap[l]? = some (recO lp .busy none) := by
        have := (hinv.keep (l, _) (.head _)).1
        exact this
      have hend := run_endRound (P := P) J hrec
      refine Fin.one (hrd l _ _ _ _ hro hkd rfl hend) ?_
      rw [Frame.finish_atR, hdst]
      have hinv2 := hinv.poke (mks_ne (X := []) hinv fun x hx => by cases hx) (recO lp (stJ J) J)
      have hI := hinv2.frs ⟨Y.fr, aI, L.ni, Y.K⟩ (.head _)
      have hfr' : FRep ρ' ι L.ni fr' (aI.put Y.dst (.bool J.isNone)) := put_ok hI.1 hp (fun _ => rfl) (fun hx => absurd (fun e he => by cases he) hx)
      rw [wD_put]
      rw [hY] at h
      refine h ρ' ι (aI.put Y.dst (.bool J.isNone)) _ _ [⟨L.fr, aA, n, L.K⟩] [] bI csI hH ⟨rs, l, D, lp, aA, bA, ls, rfl, rfl, rfl, hroI, hkI, hbI⟩ ?_ hfr'
      exact ⟨hinv2.mem, hinv2.keep, fun q hq => hinv2.frs q (.tail _ hq)⟩
    · exact h.elim
  · exact h.elim

theorem putAll_ok {ι : Loc} {k : Nat} : ∀ {ps : List Tmp} {l : List SV} {fr fr' : Fr} {a : Act}, FRep ρ ι k fr a → putAll k fr ps l = some fr' →
    ps.length = l.length ∧ FRep ρ ι k fr' ⟨(ps.zip (l.map (SV.conc ρ ι))).foldl (fun tmps p => tmps.setIfInBounds p.1 p.2) a.tmps, a.defers⟩
  | [], [], fr, fr', a, hf, h => by
    simp only [putAll, Option.some.injEq] at h; subst h
    exact ⟨rfl, hf⟩
  | t :: ts, x :: xs, fr, fr', a, hf, h => by
    simp only [putAll] at h
    split at h
    · rename_i fr2 hp
      have h2 := put_ok (x := x.conc ρ ι) hf hp (fun _ => rfl) (fun hx => absurd (fun e he => by cases he) hx)
      obtain ⟨h3, h4⟩ := putAll_ok h2 h
      exact ⟨by simp [h3], h4⟩
    · cases h
  | [], _ :: _, _, _, _, _, h => by simp [putAll] at h
  | _ :: _, [], _, _, _, _, h => by simp [putAll] at h

theorem yieldOf_ok {ι : Loc} {k : Nat} {fr : Fr} {a : Act} {o : Oper} {l : List SV} {ll : Nat} {w : World} {r : Loop} (hf : FRep ρ ι k fr a) (hy : ρ.vs.getD yi Go.undef = .func (.yield ll) #[] #[]) (h : yieldOf fr o.op = some l)
    (hr : w.heap[ll]? = some (.loop r)) (hs : l.length = r.params.size) :
    (execOp a.eval o).run P w = .ok (.round ll r.fn ((r.params.zip (l.map (SV.conc ρ ι)).toArray).foldl (fun tmps (t, a) => tmps.setIfInBounds t a) r.tmps) r.assign r.body) w := by
  have hG : allT ρ [] := fun e he => by cases he
  unfold yieldOf at h
  split at h
  · rename_i x args ts ho
    split at h
    · rename_i n hx
      split at h
      · rename_i hn
        subst hn
        have e1 : args.map a.eval = (l.map (SV.conc ρ ι)).toArray := by rw [← opnds_ok hf hG h, ← Array.toList_map]
        have ex : a.eval x = .func (.yield ll) #[] #[] := by
          rw [opnd_ok hf hG hx]; exact hy
        have := run_yield (P := P) (args := (l.map (SV.conc ρ ι)).toArray) hr (by simp [hs])
        simp [execOp, ho, resolve, ex, Deferred.ofValue, invoke, e1, this, Function.comp_def]
      · cases h
    · cases h
  · cases h
theorem notDefer_ok {o : Oper} (h : notDefer o = true) : ∀ c, o.op ≠ .defer c := by
  intro c hc
  unfold notDefer at h
  rw [hc] at h
  cases h

theorem stepR_scopeX {b : Frame} {a : Act} {k : List Item} {cs : List Frame} {w : World} {c : Code} : step P (lone (b.atR a (.code (.scope c) :: k)) cs w) = .next (lone (b.atR a (.code c :: .inScope c :: k)) cs w) :=
  step_lone_go (by simp [stepG, stepG.exec, Frame.atR])
theorem stepR_inScopeX {b : Frame} {a : Act} {k : List Item} {cs : List Frame} {w : World} {c : Code} : step P (lone (b.atR a (.inScope c :: k)) cs w) = .next (lone (b.atR a k) cs w) :=
  step_lone_go (by simp [stepG, stepG.exec, Frame.atR])
theorem callFunc_ok {f : FuncId} {w : World} (hok : okFn P f = true) (vs : Array Value) : (callFunc f vs).run P w = .ok (.enter f vs) w := by
  unfold okFn at hok
  split at hok
  · rename_i fn hfn
    simp only [Bool.and_eq_true, Bool.not_eq_true'] at hok
    have hb : fn.body.isNone = false := by
      cases hbb : fn.body <;> simp_all
    unfold callFunc
    rw [Sem.run_bind, run_program, Result.andThen_ok]
    simp only [hfn, hok.1, hb]
    rfl
  · cases hok

theorem atHead_ok {ph : Ph} {X : List (Nat × Obj)} {F : List SvF} {ds : List Deferred} {b : Frame} {cs : List Frame} {ι : Loc} {a : Act} {w : World} {fr : Fr} {m : Mem} (hsh : Shape P f n ρ cs0 ph ρ' X F ds b cs) (hinv : Inv ρ' β ι m w X F) (hf : FRep ρ' ι (ph.nt n) fr a) :
    Inv ρ' β ι (atHead ph fr m).2 w X F ∧ FRep ρ' ι (ph.nt n) (atHead ph fr m).1 a := by
  unfold atHead
  split
  · rename_i L J
    split
    · split
      · rename_i hk
        obtain ⟨rs, l, D, lp, aA, bA, ls, rfl, rfl, _⟩ := hsh
        have h1 := (hinv.frs _ (.head _)).2.2.2
        exact ⟨hinv.takeK (Nat.le_trans h1 hk) (fun q hq => by simp only [List.mem_singleton] at hq; subst hq; exact hk), hf.tidy.drop _⟩
      · exact ⟨hinv, hf.tidy⟩
    · exact ⟨hinv, hf.tidy⟩
  · exact ⟨hinv, hf.tidy⟩
theorem runX_ok {I : Interp} {hc : HintCtx} (hΓ : CtxOK P I Γ) (hI : ρ.I = I) (hP : P.follows .mixedOrders = true) (hfn : P.funcs[f]? = some fn) : ∀ (k u : Nat) (ph : Ph) (todo : List Item) (H : Hyp) (fr : Fr) (m : Mem) (ρ' : Env) (ι : Loc) (a : Act) (w : World) (X : List (Nat × Obj)) (F : List SvF) (ds : List Deferred) (b : Frame) (cs : List Frame),
    (runX P Γ hc fn n k u ph todo H fr m).holds P f R ρ β n [] → H.ok ρ → Shape P f n ρ cs0 ph ρ' X F ds b cs → Inv ρ' β ι m w X F → FRep ρ' ι (ph.nt n) fr a → Fin P f R cs0 (lone (b.atR (wD a ds) todo) cs w) := by
  intro k
  induction k with
  | zero => intro u ph todo H fr m ρ' ι a w X F ds b cs h; exact h.elim
  | succ k ih =>
    intro u ph todo H fr m ρ' ι a w X F ds b cs h hH hsh hinv hf
    have hG : allT ρ' [] := fun e he => by cases he
    have hlike := hsh.like
    have hI' : ρ'.I = I := hlike.I.symm.trans hI
    have hH' : H.ok ρ' := Hyp.ok_like hlike hH
    have hds : ∀ {L Y bg}, ph = .rd L Y bg → b.kind = .normal := fun {L Y bg} he => by
      subst he
      obtain ⟨rs, l, D, lp, aA, bA, csI, aI, bI, ops, i, rest, r, ls, _, _, _, _, hk, _⟩ := hsh
      exact hk
    have hleave : ∀ {J : Option Code} {lv : Lv}, leaveX P fn ph J H fr m = lv → (match lv with | .ret v => Tree.holds P f R ρ β n [] (.ret v m) | .go ph' t' fr' => (runX P Γ hc fn n k u ph' t' H fr' m).holds P f R ρ β n [] | .bad => False) →
        (leaveX P fn ph J H fr m).holds P f R n ρ β cs0 H m := by
      intro J lv he hl
      rw [he]
      cases lv with
      | ret v => exact hl
      | go ph' t' fr' => exact fun ρ2 ι2 a2 w2 X2 F2 ds2 b2 cs2 hH2 hs2 hi2 hf2 => ih u ph' t' H fr' m ρ2 ι2 a2 w2 X2 F2 ds2 b2 cs2 hl hH2 hs2 hi2 hf2
      | bad => exact hl
    unfold runX at h
    split at h
    · refine leaveX_ok (J := none) hfn (hleave rfl ?_) hH hsh hinv hf (fun hb => stepR_end hb) (fun l c cs' v w' hb hk hc hr => by subst hc; exact stepR_round_end hb hk hr)
      split at h <;> (rename_i hl; first | (simp only [hl]; exact h) | exact h | (rw [hl]; exact h))
    · refine leaveX_ok (J := some .ret) hfn (hleave rfl ?_) hH hsh hinv hf (fun hb => stepR_ret hb) (fun l c cs' v w' hb hk hc hr => by subst hc; exact stepR_round_ret hb hk hr)
      split at h <;> (rename_i hl; first | (simp only [hl]; exact h) | exact h | (rw [hl]; exact h))
    · exact Fin.one stepR_skip (ih _ _ _ _ _ _ _ _ _ _ _ _ _ _ _ h hH hsh hinv hf)
    · exact Fin.one stepR_label (ih _ _ _ _ _ _ _ _ _ _ _ _ _ _ _ h hH hsh hinv hf)
    · exact Fin.one stepR_inBlock (ih _ _ _ _ _ _ _ _ _ _ _ _ _ _ _ h hH hsh hinv hf)
    · exact Fin.one stepR_inScopeX (ih _ _ _ _ _ _ _ _ _ _ _ _ _ _ _ h hH hsh hinv hf)
    · exact Fin.one stepR_seq (ih _ _ _ _ _ _ _ _ _ _ _ _ _ _ _ h hH hsh hinv hf)
    · exact Fin.one stepR_block (ih _ _ _ _ _ _ _ _ _ _ _ _ _ _ _ h hH hsh hinv hf)
    · exact Fin.one stepR_scopeX (ih _ _ _ _ _ _ _ _ _ _ _ _ _ _ _ h hH hsh hinv hf)
    · rename_i id0 r0
      split at h
      · rename_i r' hr
        exact Fin.one (stepR_exit hr) (ih _ _ _ _ _ _ _ _ _ _ _ _ _ _ _ h hH hsh hinv hf)
      · rename_i hr
        split at h
        · rename_i L Y bg
          refine leaveX_ok (J := some (.exit id0)) hfn (hleave rfl ?_) hH hsh hinv hf (fun hb => ?_) (fun l c cs' v w' hb hk hc hr' => by subst hc; exact stepR_round_exit hb hk hr hr')
          · split at h
            · rename_i hl; simp only [hl]; exact h
            · exact h.elim
          · obtain ⟨rs, l, D, lp, aA, bA, csI, aI, bI, ops, i, rest, r, ls, _, _, _, hk, _⟩ := hsh
            rw [hk] at hb; cases hb
        · exact h.elim
    · split at h
      · rename_i e0 hc
        have hev := opnd_ok hf hG hc
        have hdec := decB_b hH' e0
        split at h
        · rename_i t ht
          rw [ht, b_blit] at hdec
          refine Fin.one (stepR_cond (t := t) ?_) (ih _ _ _ _ _ _ _ _ _ _ _ _ _ _ _ h hH hsh hinv hf)
          rw [wD_eval, hev, SV.conc, S.conc, hdec]
        · refine Fin.one (stepR_cond (t := (decB H e0).b ρ) (by rw [wD_eval, b_like hlike, hdec]; exact hev)) ?_
          obtain ⟨h1, h2⟩ := h
          cases he : (decB H e0).b ρ
          · exact ih _ _ _ _ _ _ _ _ _ _ _ _ _ _ _ (h2 he) (addF_ok _ false H hH he) hsh hinv hf
          · exact ih _ _ _ _ _ _ _ _ _ _ _ _ _ _ _ (h1 he) (addF_ok _ true H hH he) hsh hinv hf
      · exact h.elim
    · split at h
      · rename_i hnd
        split at h
        · rename_i hc
          simp only [Bool.and_eq_true, Bool.not_eq_true'] at hc
          obtain ⟨⟨rfl, _⟩, _⟩ := hc
          exact Fin.one stepR_region (ih _ _ _ _ _ _ _ _ _ _ _ _ _ _ _ h hH hsh hinv hf)
        · split at h
          · rename_i nd H2 fr2 m2 hr
            obtain ⟨hn, h⟩ := addNeeds_ok h
            obtain ⟨ι2, a2, w2, ⟨hH2, hf2, hm2⟩, hs⟩ := regR (b := b) (cs := cs) (ds := ds) hΓ hI' hP hnd hr (allN_like hlike hn) hH' hf hinv.mem.now
            exact Fin.back hs (ih _ _ _ _ _ _ _ _ _ _ _ _ _ _ _ h (Hyp.ok_like hlike.symm hH2) hsh (hinv.step hm2) hf2)
          · split at h
            · rename_i c _
              split at h
              · exact h.elim
              · obtain ⟨h1, h2⟩ := h
                cases he : c.b ρ
                · exact ih _ _ _ _ _ _ _ _ _ _ _ _ _ _ _ (h2 he) (addF_ok _ false H hH he) hsh hinv hf
                · exact ih _ _ _ _ _ _ _ _ _ _ _ _ _ _ _ (h1 he) (addF_ok _ true H hH he) hsh hinv hf
            · exact h.elim
      · exact h.elim
    · exact Fin.one stepR_region_end (ih _ _ _ _ _ _ _ _ _ _ _ _ _ _ _ h hH hsh hinv hf)
    · rename_i ops i rest r
      split at h
      · exact h.elim
      · rename_i o ho
        split at h
        · exact h.elim
        · rename_i hg
          split at h
          · rename_i fr2 hp
            have hw := guardH_skip hH' hf hg
            have h1 := stepR_op_skip (P := P) (b := b) (a := wD a ds) (k := r) (cs := cs) (w := w) (ops := ops) (i := i) (rest := rest)
              (by simp only [ho, Option.map_some, Option.getD_some]; exact hw)
            simp only [ho, Option.bind_some, wD_put] at h1
            exact Fin.one h1 (ih _ _ _ _ _ _ _ _ _ _ _ _ _ _ _ h hH hsh hinv (put_ok hf hp (fun _ => rfl) (fun hx => absurd (fun e he => by cases he) hx)))
          · exact h.elim
        · split at h
          · rename_i g _
            obtain ⟨h1, h2⟩ := h
            cases he : g.b ρ
            · exact ih _ _ _ _ _ _ _ _ _ _ _ _ _ _ _ (h2 he) (addF_ok _ false H hH he) hsh hinv hf
            · exact ih _ _ _ _ _ _ _ _ _ _ _ _ _ _ _ (h1 he) (addF_ok _ true H hH he) hsh hinv hf
          · exact h.elim
        · rename_i G hg
          obtain ⟨_, hw⟩ := guardH_now hH' hf hg
          split at h
          · rename_i l hy
            split at h
            · rename_i L
              split at h
              · rename_i hsc
                simp only [Bool.and_eq_true] at hsc
                split at h
                · rename_i fr0 hpa
                  obtain ⟨rs, ll, D, lp, aA, bA, ls, rfl, rfl, rfl, hro, hkd, hbf⟩ := hsh
                  have hA := hinv.frs ⟨L.fr, aA, n, L.K⟩ (.head _)
                  obtain ⟨hlen, hfr0⟩ := putAll_ok hA.1 hpa
                  have hrec : w.heap[ll]? = some (.loop { lp with state := stJ none, pending := none }) := (hinv.keep (ll, _) (.head _)).1
                  have hx := yieldOf_ok (P := P) (o := o) hf (by rw [ls.env]; exact setY_at _ _) hy hrec (by simp [ls.ps, hlen])
                  simp only [ls.ps, ls.as, ls.bd, ls.tm, ls.fn] at hx
                  have hz : (L.ps.toArray.zip (l.map (SV.conc ρ' ι)).toArray).foldl (fun tmps p => tmps.setIfInBounds p.1 p.2) aA.tmps = (L.ps.zip (l.map (SV.conc ρ' ι))).foldl (fun tmps p => tmps.setIfInBounds p.1 p.2) aA.tmps := by
                    rw [← Array.foldl_toList, Array.toList_zip]
                  have hg := stepGR_op (P := P) (b := b) (a := wD a []) (k := r) (cs := cs) (w := w) (rest := rest) ho hw
                  have hnd : ∀ c, o.op ≠ .defer c := fun c hc => by unfold yieldOf at hy; rw [hc] at hy; cases hy
                  rw [Oper.semAt_eq _ _ _ hnd, wD_eval] at hg
                  have hst : step P (lone (b.atR (wD a []) (.inRegion ops (i :: rest) :: r)) cs w) =
                      .next (lone (Frame.round ll f ((L.ps.zip (l.map (SV.conc ρ' ι))).foldl (fun tmps p => tmps.setIfInBounds p.1 p.2) aA.tmps) L.as L.bd .normal) (b.atR (wD a []) (.inRegion ops (i :: rest) :: r) :: cs) w) :=
                    step_lone_go (by
                      rw [hg, ← hz]
                      simp only [stepG.apply, Sem.runT_eq]
                      simp [hx, Frame.atR])
                  refine Fin.one hst ?_
                  have hfrm : ∀ (tm : Array Value), Frame.round ll f tm L.as L.bd .normal = ({ (default : Frame) with fn := f, kind := .normal, roundOf := some ll } : Frame).atR (wD ⟨tm, []⟩ []) [.code L.as, .beginRound, .code L.bd] := fun tm => by
                    simp [Frame.round, Frame.atR, wD]
                  rw [hfrm]
                  have hdA := hA.1.defers
                  simp only at hdA
                  simp only [hdA] at hfr0
                  refine ih u (.rd L ⟨fr, .inRegion ops rest :: r, o.dst, m.length⟩ false) _ H fr0 m ρ' ι _ w ((ll, recO lp .ready none) :: mks (D :: rs)) [⟨fr, a, L.ni, m.length⟩, ⟨L.fr, aA, n, L.K⟩] [] _ _ h hH
                    ⟨rs, ll, D, lp, aA, bA, cs, a, b, ops, i, rest, r, ls, rfl, rfl, rfl, rfl, rfl, hro, hkd, hbf, rfl, rfl, by rw [ho]; rfl⟩ ?_ hfr0
                  exact ⟨hinv.mem, hinv.keep, fun q hq => by
                    cases hq with
                    | head => exact ⟨hf, hsc.1, Nat.le_refl _, hinv.mem.len⟩
                    | tail _ hq => exact hinv.frs q hq⟩
                · exact h.elim
              · exact h.elim
            · exact h.elim
          · split at h
            · rename_i hnd
              split at h
              · rename_i nd H2 fr2 m2 hop
                obtain ⟨hn, h⟩ := addNeeds_ok h
                have h1 := opStep_ok (β := ⟨w, m.length, ι⟩) (Q := fun _ _ _ => False) hΓ hI' hop hH' (allN_like hlike hn) hinv.mem.now hf (K := fun a' w' => ∃ ι', H2.ok ρ' ∧ FRep ρ' ι' (ph.nt n) fr2 a' ∧ MRep ρ' ⟨w, m.length, ι⟩ ι' m2 w')
                  (fun ι' a' w' hH2 hf2 hm2 => ⟨ι', hH2, hf2, hm2⟩)
                rw [if_pos hw] at h1
                obtain ⟨a2, w2, ⟨ι2, hH2, hf2, hm2⟩, hs⟩ := opR (b := b) (k := r) (cs := cs) (ds := ds) (rest := rest) ho hw (notDefer_ok hnd) (fun _ _ _ hq => hq) (fun ⟨_, _, hq⟩ => hq) h1
                exact Fin.back hs (ih _ _ _ _ _ _ _ _ _ _ _ _ _ _ _ h (Hyp.ok_like hlike.symm hH2) hsh (hinv.step hm2) hf2)
              · split at h
                · split at h
                  · rename_i c _
                    split at h
                    · exact h.elim
                    · obtain ⟨h1, h2⟩ := h
                      cases he : c.b ρ
                      · exact ih _ _ _ _ _ _ _ _ _ _ _ _ _ _ _ (h2 he) (addF_ok _ false H hH he) hsh hinv hf
                      · exact ih _ _ _ _ _ _ _ _ _ _ _ _ _ _ _ (h1 he) (addF_ok _ true H hH he) hsh hinv hf
                  · exact h.elim
                · exact h.elim
            · exact h.elim
    · split at h
      · rename_i L Y
        obtain ⟨rs, l, D, lp, aA, bA, csI, aI, bI, ops, i, rest, r, ls, rfl, hF, rfl, hro, hkd, hrest⟩ := hsh
        have hrec : w.heap[l]? = some (.loop { lp with state := .ready, pending := none }) := (hinv.keep (l, _) (.head _)).1
        refine Fin.one (stepR_beginRound hro (run_beginRound hrec rfl)) ?_
        exact ih u (.rd L Y true) _ H fr m ρ' ι a _ ((l, recO lp .busy none) :: mks (D :: rs)) F [] b cs h hH ⟨rs, l, D, lp, aA, bA, csI, aI, bI, ops, i, rest, r, ls, rfl, hF, rfl, hro, hkd, hrest⟩
          (hinv.poke (mks_ne (X := []) hinv fun x hx => by cases hx) _) hf
      · exact h.elim
    · rename_i g ps as bd r
      split at h
      · split at h
        · rename_i f' caps hg
          split at h
          · rename_i fi hfi
            split at h
            · rename_i c hcb
              split at h
              · rename_i hc
                simp only [Bool.and_eq_true, decide_eq_true_eq] at hc
                obtain ⟨⟨⟨⟨⟨hok, hfy⟩, hmy⟩, hom⟩, hsc⟩, hcap⟩ := hc
                obtain ⟨rs, hnd, rfl, rfl, rfl, rfl, hro, hbf, hkd, rfl⟩ := hsh
                let D := w.heap.size
                let l := w.heap.size + 1
                let lp : Loop := { state := .ready, pending := none, fn := f, tmps := a.tmps, params := ps, assign := as, body := bd, defers := D }
                let w1 := (w.alloc (.deferred (some []))).alloc (.loop lp)
                let yv : Value := .func (.yield l) #[] #[]
                let cv : Array Value := (caps.map fun p => Value.pointer (some (addr ρ' ι p.1 p.2))).toArray
                have hlk := setY_like ρ' yv
                have he : (Instr.enterLoop b.fn (wD a (rs.map mkD)).tmps ps as bd b.roundOf).run P w = .ok (l, [mkD D]) w1 := by
                  rw [hbf, hro]; exact run_enterLoop_outer f a.tmps ps as bd
                have hev : a.eval g = .func (.func f') #[] cv := opnd_ok hf hG hg
                have hres : (resolve (wD a (rs.map mkD)).eval (rangeCall g l) 0).run P w1 = .ok { target := .fn (.func f') cv, args := #[yv] } w1 := by
                  rw [wD_eval]
                  simp only [rangeCall, resolve, hev, Deferred.ofValue]
                  have e0 : Array.map a.eval #[Operand.const (Value.func (Fn.yield l) #[] #[])] = #[yv] := by simp [Act.eval, yv]
                  rw [e0]
                  simp
                have hinvk : (invoke (.fn (.func f') cv) #[yv]).run P w1 = .ok (.enter f' (#[yv] ++ cv)) w1 := by
                  simp only [invoke]; exact callFunc_ok hok _
                refine Fin.one (stepR_rangeFunc he hres hinvk) ?_
                have hargs : (#[yv] ++ cv : Array Value) = ((SV.s (.val yi) :: caps.map fun p => SV.s (.ptr p.1 p.2)).map (SV.conc (ρ'.setY yv) ι)).toArray := by
                  have e1 : SV.conc (ρ'.setY yv) ι (.s (.val yi)) = yv := setY_at _ _
                  simp only [List.map_cons, List.map_map, e1]
                  have e2 : (caps.map ((SV.conc (ρ'.setY yv) ι) ∘ fun p => SV.s (.ptr p.1 p.2))) = caps.map fun p => Value.pointer (some (addr ρ' ι p.1 p.2)) :=
                    List.map_congr_left fun p _ => by simp only [Function.comp, SV.conc, S.conc, addr, i_like hlk]
                  rw [e2]
                  simp [cv]
                have hfr := frame_ok (ρ := ρ'.setY yv) (ι := ι) (n := fi.ntmps) (SV.s (.val yi) :: caps.map fun p => SV.s (.ptr p.1 p.2)) (by simpa using hcap)
                have hent : Frame.enter P f' (#[yv] ++ cv) .normal = ({ (default : Frame) with fn := f', kind := .normal, roundOf := none } : Frame).atR
                    (wD ⟨((SV.s (.val yi) :: caps.map fun p => SV.s (.ptr p.1 p.2)).map (SV.conc (ρ'.setY yv) ι)).toArray ++ Array.replicate (fi.ntmps - ((SV.s (.val yi) :: caps.map fun p => SV.s (.ptr p.1 p.2)).map (SV.conc (ρ'.setY yv) ι)).toArray.size) Go.undef, []⟩ []) [.code c] := by
                  rw [hargs]
                  simp [Frame.enter, Frame.atR, wD, hfi, hcb]
                rw [hent]
                have hbel : RowKit.Below w.heap.size w w1 := ((RowKit.Below.refl _ w).alloc (Nat.le_refl _) _).alloc (by simp) _
                have hcs : ({ wD a (rs.map mkD) with defers := [mkD D] ++ (wD a (rs.map mkD)).defers } : Act) = wD a ((D :: rs).map mkD) := by
                  simp [wD, hf.defers]
                rw [hcs]
                have hltD : ∀ r ∈ rs, r < D := fun r hr => (Array.getElem?_eq_some_iff.1 (hinv.keep (r, _) (List.mem_map.2 ⟨r, hr, rfl⟩)).1).1
                refine ih u (.it ⟨fr, r, m.length, ps.toList, as, bd, fi.ntmps, fi⟩ none) [.code c] H _ m (ρ'.setY yv) ι _ w1 ((l, recO lp (stJ none) none) :: mks (D :: rs)) [⟨fr, a, n, m.length⟩] [] _ _ h hH
                  ⟨rs, l, D, lp, a, b, ⟨?_, rfl, rfl, rfl, rfl, rfl, rfl, hro, hbf, hkd, rfl, hfy⟩, rfl, rfl, rfl, rfl, rfl, hfi⟩ ⟨(hinv.mem.below hbel).like hlk hmy, fun p hp => ?_, fun q hq => ?_⟩ hfr
                · rw [List.nodup_cons]; exact ⟨fun hh => Nat.lt_irrefl _ (hltD D hh), hnd⟩
                · have hlt : ∀ i, i < m.length → ι i < w.heap.size := fun i hi => hinv.mem.lt_okMem hom hi
                  have hsz := hinv.mem.size
                  cases hp with
                  | head =>
                    refine ⟨?_, by show β.w.heap.size ≤ w.heap.size + 1; omega, fun i hi => by have := hlt i hi; show ι i ≠ w.heap.size + 1; omega⟩
                    have := World.alloc_heap_new (w.alloc (.deferred (some []))) (.loop lp)
                    have e : (w.alloc (.deferred (some []))).heap.size = w.heap.size + 1 := by simp
                    rw [e] at this
                    exact this
                  | tail _ hp =>
                    cases hp with
                    | head =>
                      refine ⟨?_, hsz, fun i hi => by have := hlt i hi; show ι i ≠ w.heap.size; omega⟩
                      have h1 := World.alloc_heap_new w (.deferred (some []))
                      have h2 : w1.heap[w.heap.size]? = (w.alloc (.deferred (some []))).heap[w.heap.size]? := by
                        show ((w.alloc (.deferred (some []))).heap.push _)[w.heap.size]? = _
                        rw [Array.getElem?_push_lt (by simp)]; simp
                      rw [h2]; exact h1
                    | tail _ hp =>
                      have hk := hinv.keep p hp
                      exact ⟨by rw [hbel.block _ (Array.getElem?_eq_some_iff.1 hk.1).1]; exact hk.1, hk.2⟩
                · simp only [List.mem_singleton] at hq; subst hq
                  exact ⟨hf.like hlk hfy, hsc, Nat.le_refl _, hinv.mem.len⟩
              · exact h.elim
            · exact h.elim
          · exact h.elim
        · exact h.elim
      · exact h.elim
    · split at h
      · exact h.elim
      · exact Fin.one stepR_loop (ih _ _ _ _ _ _ _ _ _ _ _ _ _ _ _ h hH hsh hinv (hf.atLoop _ _))
    · split at h
      · exact h.elim
      · exact Fin.one stepR_inLoop (ih _ _ _ _ _ _ _ _ _ _ _ _ _ _ _ h hH hsh (atHead_ok hsh hinv hf).1 (atHead_ok hsh hinv hf).2)
    · exact h.elim
end

end Go.Sx
