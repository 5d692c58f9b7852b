/- A run of a program by symbols, proved sound, third part: the frame of a law, arguments, loops, rows that came in. It imports no program. -/
import Derived.Test.YtcckecfjjccffaaSxH
set_option linter.unusedVariables false
set_option linter.unusedSimpArgs false
namespace Go.Sx
theorem cX (p:Prop) [Decidable p] (x y:Bool):((if p then x else y)=true)=((p→x=true)∧(¬ p→y=true)):=by
 by_cases h:p <;> simp [h]
theorem cW (p:Prop) [Decidable p] (x y:Bool):((if p then x else y)=false)=((p→x=false)∧(¬ p→y=false)):=by
 by_cases h:p <;> simp [h]
theorem cV (x y:Bool):((x == y)=true)=((x=true)↔(y=true)):=by cases x <;> cases y <;> simp
theorem cU (x y:Bool):((x == y)=false)=¬ ((x=true)↔(y=true)):=by cases x <;> cases y <;> simp
section
variable {H:Type} {enc:TypeId × Value→H} {P:Program}
theorem aGQ (hl:laidOutB P=true) {W W':World} (hb:RowKit.Below W.heap.size W W'):∀ {ts:List TypeId} {vs:List Value} {ds:List (DataW H)} {ps:List MemPlace},
 (∀ t ∈ ts,P.readableRec t=true∧t<P.types.size)→DataW.TrodAll enc P W 0 (fun _=>true) true ts vs ds ps→(∀ x ∈ ps,x.block<W.heap.size) →
 DataW.TrodAll enc P W' 0 (fun b=>decide (b<W.heap.size)) true ts vs ds ps:=by
 intro ts
 induction ts with
 | nil =>
   intro vs ds ps _ h _
   cases vs <;> cases ds <;> simp [DataW.TrodAll] at h ⊢
   exact h
 | cons t ts ih =>
   intro vs ds ps hr h hlt
   obtain ⟨v,vs',d,ds',p,q,rfl,rfl,rfl,h1,h2⟩:=ChangeShapes.trodAll_cons h
   refine ⟨p,q,RowKit.Below.trod hl (hr t (.head _)).1 (hr t (.head _)).2 h1 hb (fun x hx=>hlt x (by simp [hx])),ih (fun u hu=>hr u (.tail _ hu)) h2 (fun x hx=>hlt x (by simp [hx])),rfl⟩
theorem bIX {f:Func} {s:ChangeSpec} {tb:TypeId} (hl:laidOutB P=true) (hr0:(f.params.toList.all fun t=>P.readableRec t&&decide (t<P.types.size))=true)
 (hvars:s.vars=[]) (hres:f.resultTypes=#[tb]) (hb:P.underlying tb=some .bool)
 {W W':World} {args:Array Value} {ds gs:List (DataW H)} {before:List MemPlace} (hs:s.fn H (ds++gs)={ results:=[.lit (.bool true)],args:=ds })
 (hW:DataW.Whole enc P f.params.toList s.vars false W args.toList ds gs before) (hB:RowKit.Below W.heap.size W W'):s.post enc P f false true false false W args (.bool true) W':=by
 have hr:∀ t ∈ f.params.toList,P.readableRec t=true∧t<P.types.size:=fun t ht=>by
  have:=List.all_eq_true.1 hr0 t ht
  simpa using this
 have hlt:=hW.lt
 obtain ⟨p,q,h1,h2,rfl,hz,hn⟩:=id hW
 refine ⟨ds,gs,p++q,[],p,[],hW,?_,?_,?_,hB.frame _,fun h=>by cases h⟩
 ·rw [hs,hres]
  exact ⟨[],[],RowKit.shut_bool hb true,rfl,rfl⟩
 ·rw [hs]
  exact aGQ hl hB hr h1 (fun x hx=>hlt x (by simp [hx]))
 ·rw [hs,hvars]
  simp [DataW.TrodVars]
end
def jY (P:Program):Nat→TypeId→Nat→Option (Option IntKind)
 | 0,_,_=>none
 | d+1,t,i=>match P.underlying t with
   | some (.int k)=>if i=0 then some (some k) else none
   | some .bool=>if i=0 then some none else none
   | some (.struct fs)=>match fs.toList.find? (fun f=>f.offset≤i&&i<f.offset+P.cellsOf f.type) with
     | some f=>jY P d f.type (i-f.offset)
     | none=>none
   | some (.array n e)=>if P.cellsOf e=0∨n*P.cellsOf e≤i then none else jY P d e (i%P.cellsOf e)
   | _=>none
def Fit:Option IntKind→Value→Prop
 | some k,v=>∃ z,v=.int k z∧inR (dW k) z
 | none,v=>∃ b,v=.bool b
theorem bUM {k:IntKind} {z:Int} (h:(Lit.int k z).wf=true):inR (dW k) z:=by
 cases k <;> simp [Lit.wf,IntKind.min,IntKind.max,IntKind.signed,IntKind.bits] at h <;> simp [inR,dW,jF,bZ] <;> omega
section
variable {H:Type} {enc:TypeId × Value→H} {P:Program} {w:World} {base:Nat} {spare:Nat→Bool} {held:Bool}
theorem bDC:∀ (d:Nat) (t:TypeId) (i:Nat) (k:Option IntKind) (fuel:Nat) (cs:List Value) (x:DataW H × List MemPlace),jY P d t i=some k →
 DataW.trod enc P w base spare held fuel t cs=some x→∃ v,cs[i]? = some v∧Fit k v:=by
 intro d
 induction d with
 | zero=>intro t i k fuel cs x h;simp [jY] at h
 | succ d ih =>
   intro t i k fuel cs x h hx
   unfold jY at h
   split at h
   ·rename_i kd hu
    split at h
    ·rename_i hi;subst hi
     simp only [Option.some.injEq] at h;subst h
     obtain ⟨a,e0,_,wa⟩:=DataW.trod_int hu hx
     subst e0
     exact ⟨_,rfl,a,rfl,bUM wa⟩
    ·cases h
   ·rename_i hu
    split at h
    ·rename_i hi;subst hi
     simp only [Option.some.injEq] at h;subst h
     obtain ⟨b,e0,_⟩:=DataW.trod_bool hu hx
     subst e0
     exact ⟨_,rfl,b,rfl⟩
    ·cases h
   ·rename_i fs hu
    split at h
    ·rename_i f hf
     have h1:=List.find?_some hf
     have h2:=List.mem_of_find?_eq_some hf
     simp only [Bool.and_eq_true,decide_eq_true_eq] at h1
     obtain ⟨q,hq⟩:=List.mem_iff_getElem?.1 h2
     obtain ⟨xs,m,_,_,hlen,hxs,hall⟩:=DataW.trod_struct hu hx
     have hq':fs[q]? = some f:=by rw [← Array.getElem?_toList];exact hq
     have hqlt:q<fs.size:=by
      rw [Array.getElem?_eq_some_iff] at hq';exact hq'.1
     have:=hall q f hq'
     rw [List.getElem?_eq_getElem (by omega)] at this
     obtain ⟨v,hv,hk⟩:=ih f.type (i-f.offset) k m _ _ h this
     refine ⟨v,?_,hk⟩
     rw [List.getElem?_take,List.getElem?_drop] at hv
     split at hv
     ·rw [← hv];congr 1;omega
     ·cases hv
    ·cases h
   ·rename_i n e hu
    split at h
    ·cases h
    ·rename_i hc
     obtain ⟨xs,m,_,_,hlen,hxs,hall⟩:=DataW.trod_array hu hx
     have hs:0<P.cellsOf e:=by omega
     have hq:i / P.cellsOf e<n:=by
      rw [Nat.div_lt_iff_lt_mul hs];omega
     have:=hall _ hq
     rw [List.getElem?_eq_getElem (by omega)] at this
     obtain ⟨v,hv,hk⟩:=ih e (i%P.cellsOf e) k m _ _ h this
     refine ⟨v,?_,hk⟩
     rw [List.getElem?_take,List.getElem?_drop] at hv
     split at hv
     ·rw [← hv];congr 1
      have:=Nat.div_add_mod i (P.cellsOf e)
      rw [Nat.mul_comm] at this;omega
     ·cases hv
   ·cases h
end
structure Sg where
 i:List (Nat × E)
 b:List (Nat × E)
 a:List (Nat × E)
 deriving DecidableEq,Repr
def mZ {α:Type} (l:List α):List (Nat × α)→List α
 | []=>l
 | (k,z)::r=>(mZ l r).set k z
def Env.app (σ:Sg) (ρ:Env):Env :=
 { ρ with i:=mZ ρ.i (σ.i.map fun p=>(p.1,p.2.i ρ)),b:=mZ ρ.b (σ.b.map fun p=>(p.1,p.2.b ρ)),a:=mZ ρ.a (σ.a.map fun p=>(p.1,p.2.a ρ)) }
def oI (l:List (Nat × E)) (k:Nat):Option E:=(l.find? (fun p=>p.1 == k)).map (·.2)
def fx (σ:Sg):E→Bool
 | .v k=>(oI σ.i k).isNone
 | .bv k=>(oI σ.b k).isNone
 | .av k=>(oI σ.a k).isNone
 | .lit _ | .blit _ | .tab _ | .nil=>true
 | .add a b | .sub a b | .mul a b | .div a b | .mod a b | .tdiv a b | .tmod a b | .bits _ _ a b | .sel a b | .lt a b | .le a b | .eq a b | .and a b | .or a b | .iff a b | .cons a b=>fx σ a&&fx σ b
 | .pow2 a | .wrap _ a | .not a | .app _ a=>fx σ a
 | .ite a b c | .upd a b c=>fx σ a&&fx σ b&&fx σ c
 | .blt a b c d e=>fx σ a&&fx σ b&&fx σ c&&fx σ d&&fx σ e
 | .aeq _ a b c _ _=>fx σ a&&fx σ b&&fx σ c
section
variable {α:Type}
theorem nA (l:List α):∀ r,(mZ l r).length=l.length
 | []=>rfl
 | (k,z)::r=>by simp [mZ,nA l r]
theorem qG (l:List α):∀ (r:List (Nat × α)) (k:Nat),k<l.length→(mZ l r)[k]? = match r.find? (fun p=>p.1 == k) with | some p=>some p.2 | none=>l[k]?
 | [],k,h=>rfl
 | (j,z)::r,k,h=>by
   simp only [mZ,List.getElem?_set,nA]
   by_cases hj:j=k
   ·subst hj;simp [h]
   ·rw [if_neg hj,qG l r k h]
    have:(j == k)=false:=by simpa using hj
    simp [List.find?_cons,this]
theorem nN (l:List α):∀ (r:List (Nat × α)) (k:Nat),r.find? (fun p=>p.1 == k)=none→(mZ l r)[k]? = l[k]?
 | [],k,_=>rfl
 | (j,z)::r,k,h=>by
   rw [List.find?_cons] at h
   split at h
   ·cases h
   ·rename_i hj
    simp only [mZ,List.getElem?_set]
    rw [if_neg (by simpa using hj)]
    exact nN l r k h
end
section
variable {ρ:Env} {σ:Sg}
theorem oG {β:Type} (f:E→β) (l:List (Nat × E)) (k:Nat):(l.map fun p=>(p.1,f p.2)).find? (fun p=>p.1 == k)=(oI l k).map fun e=>(k,f e):=by
 unfold oI
 induction l with
 | nil=>rfl
 | cons p l ih =>
   simp only [List.map_cons,List.find?_cons]
   by_cases hp:(p.1 == k)=true
   ·have:p.1=k:=by simpa using hp
    simp [hp,this]
   ·simp only [Bool.not_eq_true] at hp
    simp only [hp]
    exact ih
theorem aBI:∀ (e:E),fx σ e=true→den (ρ.app σ) e=den ρ e:=by
 intro e
 induction e with
 | v k =>
   intro h
   simp only [fx,Option.isNone_iff_eq_none] at h
   simp only [den,Env.app,List.getD_eq_getElem?_getD]
   rw [nN _ _ _ (by rw [oG (fun e=>e.i ρ),h];rfl)]
 | bv k =>
   intro h
   simp only [fx,Option.isNone_iff_eq_none] at h
   simp only [den,Env.app,List.getD_eq_getElem?_getD]
   rw [nN _ _ _ (by rw [oG (fun e=>e.b ρ),h];rfl)]
 | av k =>
   intro h
   simp only [fx,Option.isNone_iff_eq_none] at h
   simp only [den,Env.app,List.getD_eq_getElem?_getD]
   rw [nN _ _ _ (by rw [oG (fun e=>e.a ρ),h];rfl)]
 | lit _=>intro _;rfl
 | blit _=>intro _;rfl
 | tab _=>intro _;rfl
 | nil=>intro _;rfl
 | pow2 a ih=>intro h;simp only [fx] at h;simp only [den,ih h]
 | wrap k a ih=>intro h;simp only [fx] at h;simp only [den,ih h]
 | not a ih=>intro h;simp only [fx] at h;simp only [den,ih h]
 | app f a ih=>intro h;simp only [fx] at h;simp only [den,ih h];rfl
 | ite a b c iha ihb ihc=>intro h;simp only [fx,Bool.and_eq_true] at h;simp only [den,iha h.1.1,ihb h.1.2,ihc h.2]
 | upd a b c iha ihb ihc=>intro h;simp only [fx,Bool.and_eq_true] at h;simp only [den,iha h.1.1,ihb h.1.2,ihc h.2]
 | blt a b c d e iha ihb ihc ihd ihe=>intro h;simp only [fx,Bool.and_eq_true] at h;simp only [den,iha h.1.1.1.1,ihb h.1.1.1.2,ihc h.1.1.2,ihd h.1.2,ihe h.2]
 | aeq bit a b c o q iha ihb ihc=>intro h;simp only [fx,Bool.and_eq_true] at h;simp only [den,iha h.1.1,ihb h.1.2,ihc h.2]
 | bits o k a b iha ihb=>intro h;simp only [fx,Bool.and_eq_true] at h;simp only [den,iha h.1,ihb h.2]
 | _ a b iha ihb=>intro h;simp only [fx,Bool.and_eq_true] at h;simp only [den,iha h.1,ihb h.2]
def agI (σ:Sg) (p e:E):Bool:=match p with
 | .v k=>match oI σ.i k with
   | some x=>x == e
   | none=>e == .v k
 | p=>fx σ p&&p == e
def agB (σ:Sg) (p e:E):Bool:=match p with
 | .bv k=>match oI σ.b k with
   | some x=>x == e
   | none=>e == .bv k
 | p=>fx σ p&&p == e
def agA (σ:Sg) (p e:E):Bool:=match p with
 | .av k=>match oI σ.a k with
   | some x=>x == e
   | none=>e == .av k
 | p=>fx σ p&&p == e
def aCB (σ:Sg) (ni nb na:Nat):Bool:=σ.i.all (fun p=>p.1<ni)&&σ.b.all (fun p=>p.1<nb)&&σ.a.all (fun p=>p.1<na)
structure dY (ρ:Env) (ni nb na:Nat):Prop where
 i:ρ.i.length=ni
 b:ρ.b.length=nb
 a:ρ.a.length=na
theorem dY.app {ni nb na:Nat} (h:dY ρ ni nb na):dY (ρ.app σ) ni nb na :=
 ⟨by simp [Env.app,nA,h.i],by simp [Env.app,nA,h.b],by simp [Env.app,nA,h.a]⟩
theorem aFj {l:List (Nat × E)} {n k:Nat} {e:E} (h:l.all (fun p=>p.1<n)=true) (hk:oI l k=some e):k<n:=by
 unfold oI at hk
 simp only [Option.map_eq_some_iff] at hk
 obtain ⟨p,hp,_⟩:=hk
 have h1:=List.find?_some hp
 have h2:=List.mem_of_find?_eq_some hp
 have h3:=List.all_eq_true.1 h p h2
 simp only [beq_iff_eq] at h1
 simp only [decide_eq_true_eq] at h3
 omega
variable {ni nb na:Nat}
theorem gP (hz:dY ρ ni nb na) (hs:aCB σ ni nb na=true) {p e:E} (h:agI σ p e=true):p.i (ρ.app σ)=e.i ρ:=by
 simp only [aCB,Bool.and_eq_true] at hs
 unfold agI at h
 split at h
 ·rename_i k
  split at h
  ·rename_i x hk
   simp only [beq_iff_eq] at h;subst h
   have hlt:=aFj hs.1.1 hk
   simp only [i_v,Env.app,List.getD_eq_getElem?_getD]
   rw [qG _ _ _ (by rw [hz.i];exact hlt),oG (fun e=>e.i ρ),hk];rfl
  ·rename_i hk
   simp only [beq_iff_eq] at h;subst h
   have:=aBI (ρ:=ρ) (σ:=σ) (.v k) (by simp [fx,hk])
   simp only [E.i,this]
 ·simp only [Bool.and_eq_true,beq_iff_eq] at h
  obtain ⟨h1,rfl⟩:=h
  simp only [E.i,aBI _ h1]
theorem bPC (hz:dY ρ ni nb na) (hs:aCB σ ni nb na=true) {p e:E} (h:agB σ p e=true):p.b (ρ.app σ)=e.b ρ:=by
 simp only [aCB,Bool.and_eq_true] at hs
 unfold agB at h
 split at h
 ·rename_i k
  split at h
  ·rename_i x hk
   simp only [beq_iff_eq] at h;subst h
   have hlt:=aFj hs.1.2 hk
   simp only [iP,Env.app,List.getD_eq_getElem?_getD]
   rw [qG _ _ _ (by rw [hz.b];exact hlt),oG (fun e=>e.b ρ),hk];rfl
  ·rename_i hk
   simp only [beq_iff_eq] at h;subst h
   have:=aBI (ρ:=ρ) (σ:=σ) (.bv k) (by simp [fx,hk])
   simp only [E.b,this]
 ·simp only [Bool.and_eq_true,beq_iff_eq] at h
  obtain ⟨h1,rfl⟩:=h
  simp only [E.b,aBI _ h1]
theorem bGH (hz:dY ρ ni nb na) (hs:aCB σ ni nb na=true) {p e:E} (h:agA σ p e=true):p.a (ρ.app σ)=e.a ρ:=by
 simp only [aCB,Bool.and_eq_true] at hs
 unfold agA at h
 split at h
 ·rename_i k
  split at h
  ·rename_i x hk
   simp only [beq_iff_eq] at h;subst h
   have hlt:=aFj hs.2 hk
   simp only [gO,Env.app,List.getD_eq_getElem?_getD]
   rw [qG _ _ _ (by rw [hz.a];exact hlt),oG (fun e=>e.a ρ),hk];rfl
  ·rename_i hk
   simp only [beq_iff_eq] at h;subst h
   have:=aBI (ρ:=ρ) (σ:=σ) (.av k) (by simp [fx,hk])
   simp only [E.a,this]
 ·simp only [Bool.and_eq_true,beq_iff_eq] at h
  obtain ⟨h1,rfl⟩:=h
  simp only [E.a,aBI _ h1]
def aAl (σ:Sg) (π:List Nat):List (Nat × E)→List (Nat × E)→Bool
 | [],[]=>true
 | p::l,q::r=>decide (π[p.1]? = some q.1)&&agI σ p.2 q.2&&aAl σ π l r
 | _,_=>false
def agS (σ:Sg) (π:List Nat):S→S→Bool
 | .int k x,.int j y=>decide (k=j)&&agI σ x y
 | .bool x,.bool y=>agB σ x y
 | .nil,.nil | .nilSlc,.nilSlc | .nilFn,.nilFn | .undef,.undef | .nilIface,.nilIface=>true
 | .ptr b o,.ptr c q=>decide (π[b]? = some c)&&agI σ o q
 | .slc b o l (.kn c),.slc b' o' l' (.kn c')=>decide (π[b]? = some b')&&agI σ o o'&&agI σ l l'&&agI σ c c'
 | .slc b o l (.op c),.slc b' o' l' (.op c')=>decide (π[b]? = some b')&&agI σ o o'&&agI σ l l'&&agI σ c c'
 | .xslc i j o l,.xslc i' j' o' l'=>decide (i=i')&&agI σ j j'&&agI σ o o'&&agI σ l l'
 | .xptr i j k f,.xptr i' j' k' f'=>decide (i=i')&&agI σ j j'&&agI σ k k'&&decide (f=f')
 | .str l,.str l'=>decide (l=l')
 | .fn f l,.fn g r=>decide (f=g)&&aAl σ π l r
 | .val n,.val m=>decide (n=m)
 | .ifc t k x,.ifc t' k' x'=>decide (t=t')&&decide (k=k')&&agI σ x x'
 | .xtl i j o l,.xtl i' j' o' l'=>decide (i=i')&&agI σ j j'&&agI σ o o'&&agI σ l l'
 | _,_=>false
def bEF (σ:Sg):List XF→List XF→Bool
 | [],[]=>true
 | f::l,g::r=>decide (f.1=g.1)&&agA σ f.2 g.2&&bEF σ l r
 | _,_=>false
def bGL (σ:Sg) (π:List Nat):Seg→Seg→Bool
 | .one x,.one y=>agS σ π x y
 | .run k n A o,.run k' n' A' o'=>decide (k=k')&&agI σ n n'&&agA σ A A'&&decide (o=o')
 | .rows n fs o,.rows n' fs' o'=>agI σ n n'&&bEF σ fs fs'&&decide (o=o')
 | _,_=>false
def qQ (σ:Sg) (π:List Nat):List Seg→List Seg→Bool
 | [],[]=>true
 | p::l,q::r=>bGL σ π p q&&qQ σ π l r
 | _,_=>false
def aGV (σ:Sg) (π:List Nat):List (Bool × List Seg)→List (Bool × List Seg)→Bool
 | [],[]=>true
 | p::l,q::r=>(p.1 == q.1)&&qQ σ π p.2 q.2&&aGV σ π l r
 | _,_=>false
def agV (σ:Sg) (π:List Nat):SV→SV→Bool
 | .s x,.s y=>agS σ π x y
 | .agg l,.agg r=>qQ σ π l r
 | .tup l,.tup r=>aGV σ π l r
 | _,_=>false
def agFr (σ:Sg) (π:List Nat) (fr:Fr) (head:Fr):Bool:=head.all fun f=>decide (f.g=[])&&match look fr f.t with
 | some ([],y)=>agV σ π f.x y
 | _=>false
def aAk (σ:Sg) (π:List Nat) (m:Mem):Mem→List Nat→Bool
 | [],[]=>true
 | B::l,p::r=>(match m[p]? with | some C=>B.dead||(!C.dead&&decide (B.ty=C.ty)&&(!B.wr||C.wr)&&decide (B.grow=C.grow)&&qQ σ π B.aF C.aF) | none=>false)&&aAk σ π m l r
 | _,_=>false
def bGI (σ:Sg) (K:Nat) (π:List Nat) (m head:Mem):Bool :=
 decide π.Nodup&&decide (π.take K=List.range K)&&π.all (fun b=>decide (b<m.length))&&aAk σ π m head π
section
variable {π:List Nat} {ι:Loc} {vs:List Value}
variable (hz:dY ρ ni nb na) (hs:aCB σ ni nb na=true)
include hz hs
theorem aCO {b c:Nat} {o q:E} (hb:π[b]? = some c) (ho:agI σ o q=true):addr (ρ.app σ) (piv π ι) b o=addr ρ ι c q:=by
 simp only [addr,dB hb,gP hz hs ho]
theorem aGU:∀ {l r:List (Nat × E)},aAl σ π l r=true→(l.map fun p=>Value.pointer (some (addr (ρ.app σ) (piv π ι) p.1 p.2)))=r.map fun p=>Value.pointer (some (addr ρ ι p.1 p.2))
 | [],[],_=>rfl
 | p::l,q::r,h=>by
   simp only [aAl,Bool.and_eq_true,decide_eq_true_eq] at h
   simp only [List.map_cons,aCO hz hs h.1.1 h.1.2,aGU h.2]
 | [],_::_,h=>by simp [aAl] at h
 | _::_,[],h=>by simp [aAl] at h
theorem bGK {x y:S} (h:agS σ π x y=true):x.aC (ρ.app σ) (piv π ι)=y.aC ρ ι:=by
 unfold agS at h
 split at h
 ·simp only [Bool.and_eq_true,decide_eq_true_eq] at h
  simp only [S.aC,h.1,gP hz hs h.2]
 ·simp only [S.aC,bPC hz hs h]
 ·rfl
 ·rfl
 ·rfl
 ·rfl
 ·rfl
 ·simp only [Bool.and_eq_true,decide_eq_true_eq] at h
  simp only [S.aC,aCO hz hs h.1 h.2]
 ·simp only [Bool.and_eq_true,decide_eq_true_eq] at h
  simp only [S.aC,aCO hz hs h.1.1.1 h.1.1.2,gP hz hs h.1.2,gP hz hs h.2]
 ·simp only [Bool.and_eq_true,decide_eq_true_eq] at h
  simp only [S.aC,aCO hz hs h.1.1.1 h.1.1.2,gP hz hs h.1.2,gP hz hs h.2,(bP h.1.1.1).1,(bP h.1.1.1).2]
 ·simp only [Bool.and_eq_true,decide_eq_true_eq] at h
  simp only [S.aC,h.1.1.1,gP hz hs h.1.1.2,gP hz hs h.1.2,gP hz hs h.2];rfl
 ·simp only [Bool.and_eq_true,decide_eq_true_eq] at h
  simp only [S.aC,h.1.1.1,gP hz hs h.1.1.2,gP hz hs h.1.2,h.2];rfl
 ·simp only [decide_eq_true_eq] at h
  simp only [S.aC,h]
 ·simp only [Bool.and_eq_true,decide_eq_true_eq] at h
  simp only [S.aC,h.1,aGU hz hs h.2]
 ·simp only [decide_eq_true_eq] at h
  simp only [S.aC,h,Env.app]
 ·simp only [Bool.and_eq_true,decide_eq_true_eq] at h
  simp only [S.aC,h.1.1,h.1.2,gP hz hs h.2]
 ·simp only [Bool.and_eq_true,decide_eq_true_eq] at h
  simp only [S.aC,h.1.1.1,gP hz hs h.1.1.2,gP hz hs h.1.2,gP hz hs h.2];rfl
 ·cases h
theorem bAl:∀ {l r:List XF},bEF σ l r=true→∀ k,(l.map fun f=>XF.aC (ρ.app σ) f k)=r.map fun f=>XF.aC ρ f k
 | [],[],_,k=>rfl
 | f::l,g::r,h,k=>by
   simp only [bEF,Bool.and_eq_true,decide_eq_true_eq] at h
   have e:XF.aC (ρ.app σ) f k=XF.aC ρ g k:=by simp only [XF.aC,h.1.1,bGH hz hs h.1.2]
   rw [List.map_cons,List.map_cons,e,bAl h.2 k]
 | [],_::_,h,k=>by simp [bEF] at h
 | _::_,[],h,k=>by simp [bEF] at h
theorem bGM {x y:Seg} (h:bGL σ π x y=true):x.cells (ρ.app σ) (piv π ι)=y.cells ρ ι:=by
 unfold bGL at h
 split at h
 ·simp only [Seg.cells,bGK hz hs h]
 ·simp only [Bool.and_eq_true,decide_eq_true_eq] at h
  obtain ⟨⟨⟨rfl,h1⟩,h2⟩,rfl⟩:=h
  simp only [Seg.cells,gP hz hs h1,bGH hz hs h2]
 ·simp only [Bool.and_eq_true,decide_eq_true_eq] at h
  obtain ⟨⟨h1,h2⟩,rfl⟩:=h
  simp only [Seg.cells,gP hz hs h1,bAl hz hs h2]
 ·cases h
theorem sK:∀ {l r:List Seg},qQ σ π l r=true→cellsOf (ρ.app σ) (piv π ι) l=cellsOf ρ ι r
 | [],[],_=>rfl
 | p::l,q::r,h=>by
   simp only [qQ,Bool.and_eq_true] at h
   rw [aE,aE,bGM hz hs h.1,sK h.2]
 | [],_::_,h=>by simp [qQ] at h
 | _::_,[],h=>by simp [qQ] at h
theorem aKY:∀ {l r:List (Bool × List Seg)},aGV σ π l r=true→SV.aC (ρ.app σ) (piv π ι) (.tup l)=SV.aC ρ ι (.tup r)
 | [],[],_=>rfl
 | p::l,q::r,h=>by
   simp only [aGV,Bool.and_eq_true,beq_iff_eq] at h
   have:=aKY h.2
   simp only [SV.aC,Value.tuple.injEq,List.map_cons] at this ⊢
   rw [sK hz hs h.1.2,h.1.1]
   congr 2
   simpa using this
 | [],_::_,h=>by simp [aGV] at h
 | _::_,[],h=>by simp [aGV] at h
theorem bPD {x y:SV} (h:agV σ π x y=true):x.aC (ρ.app σ) (piv π ι)=y.aC ρ ι:=by
 unfold agV at h
 split at h
 ·exact bGK hz hs h
 ·simp only [SV.aC,sK hz hs h]
 ·exact aKY hz hs h
 ·cases h
theorem bKZ {n:Nat} {a:Act} {fr head:Fr} (h:agFr σ π fr head=true) (hf:aR ρ ι n fr a):aR (ρ.app σ) (piv π ι) n head a:=by
 refine hf.sub fun t g' x' hl=>?_
 have key:∀ (l:Fr),(∀ f ∈ l,f ∈ head)→look l t=some (g',x')→∃ f ∈ head,f.t=t∧f.g=g'∧f.x=x':=by
  intro l
  induction l with
  | nil=>intro _ h;simp [gB] at h
  | cons f l ih =>
    intro hm h
    simp only [gB,dV] at h
    split at h
    ·rename_i ht
     split at h
     ·cases h
     ·simp only [Option.some.injEq,Prod.mk.injEq] at h
      exact ⟨f,hm f (.head _),ht,h.1,h.2⟩
    ·exact ih (fun f' hf'=>hm f' (.tail _ hf')) h
 obtain ⟨f,hf',rfl,rfl,rfl⟩:=key head (fun _ h=>h) hl
 have h1:=List.all_eq_true.1 h f hf'
 simp only [Bool.and_eq_true,decide_eq_true_eq] at h1
 refine ⟨h1.1,?_⟩
 have h2:=h1.2
 split at h2
 ·rename_i y hy
  exact ⟨y,hy,(bPD hz hs h2).symm⟩
 ·cases h2
theorem aGT {m:Mem}:∀ {l:Mem} {r:List Nat},aAk σ π m l r=true→l.length=r.length∧∀ (i:Nat) (B:Blk),l[i]? = some B→∃ (p:Nat) (C:Blk),r[i]? = some p∧m[p]? = some C∧(B.dead=false→C.dead=false∧B.ty=C.ty∧(B.wr=true→C.wr=true)∧B.grow=C.grow∧cellsOf (ρ.app σ) (piv π ι) B.aF=cellsOf ρ ι C.aF)
 | [],[],_=>⟨rfl,fun i B h=>by simp at h⟩
 | B::l,p::r,h=>by
   simp only [aAk,Bool.and_eq_true] at h
   obtain ⟨h1,h2⟩:=aGT h.2
   refine ⟨by simp [h1],fun i D hD=>?_⟩
   cases i with
   | zero =>
     simp only [List.getElem?_cons_zero,Option.some.injEq] at hD;subst hD
     have h3:=h.1
     split at h3
     ·rename_i C hC
      refine ⟨p,C,rfl,hC,fun hd=>?_⟩
      rw [hd,Bool.false_or] at h3
      simp only [Bool.and_eq_true,decide_eq_true_eq,Bool.or_eq_true,Bool.not_eq_true'] at h3
      obtain ⟨⟨⟨⟨a1,a2⟩,a3⟩,a4⟩,a5⟩:=h3
      exact ⟨a1,a2,fun hw=>by rcases a3 with h | h;(rw [hw] at h;cases h);exact h,a4,sK hz hs a5⟩
     ·cases h3
   | succ i=>simpa using h2 i D (by simpa using hD)
 | [],_::_,h=>by simp [aAk] at h
 | _::_,[],h=>by simp [aAk] at h
theorem bGJ {β:dO} {w:World} {K:Nat} {m head:Mem} (hK:β.k≤K) (hKh:K≤head.length) (h:bGI σ K π m head=true) (hm:aH ρ β ι m w):aH (ρ.app σ) β (piv π ι) head w:=by
 simp only [bGI,Bool.and_eq_true,decide_eq_true_eq] at h
 obtain ⟨⟨⟨hnd,hid⟩,hlt⟩,hb⟩:=h
 obtain ⟨hlen,hblk⟩:=aGT (ι:=ι) hz hs hb
 have hlt:∀ b ∈ π,b<m.length:=fun b hb=>by simpa using List.all_eq_true.1 hlt b hb
 have at_:∀ i,i<head.length→∃ p,π[i]? = some p∧p<m.length:=fun i hi=>by
  have hi':i<π.length:=by omega
  exact ⟨π[i],List.getElem?_eq_getElem hi',hlt _ (List.getElem_mem hi')⟩
 have id_:∀ i,i<K→π[i]? = some i:=fun i hi=>by
  have:=congrArg (fun l=>l[i]?) hid
  simp only [List.getElem?_take,if_pos hi,List.getElem?_range hi] at this
  exact this
 have back:∀ i j p,π[i]? = some p→π[j]? = some p→i=j:=fun i j p hi hj=>by
  have hi':=(List.getElem?_eq_some_iff.1 hi)
  have hj':=(List.getElem?_eq_some_iff.1 hj)
  exact (List.getElem_inj hnd).1 (hi'.2.trans hj'.2.symm)
 refine ⟨fun i j B D hB hD hBd hDd hBn hDn he=>?_,fun i B hB hBd hBn=>?_,fun i B hB hBd hBn=>?_,fun i hi=>?_,by omega,fun i h1 h2=>?_,hm.size,fun b hb hi=>?_,hm.os,hm.tape,hm.output,hm.xt,fun i j a n c hv h0 k hk=>?_⟩
 ·obtain ⟨p,C,hp,hC,h1⟩:=hblk i B hB
  obtain ⟨q,F,hq,hF,h2⟩:=hblk j D hD
  rw [dB hp,dB hq] at he
  rw [(bP hp).2] at hBn
  rw [(bP hq).2] at hDn
  have:=hm.inj _ _ C F hC hF (h1 hBd).1 (h2 hDd).1 hBn hDn he
  subst this
  exact back i j p hp hq
 ·obtain ⟨p,C,hp,hC,h1⟩:=hblk i B hB
  obtain ⟨hCd,ht,hw,hg,hc⟩:=h1 hBd
  rw [(bP hp).2] at hBn
  obtain ⟨fz,rest,k1,k2,k3,k4⟩:=hm.blk p C hC hCd hBn
  rw [(bP hp).1,dB hp,hc,ht,hg]
  exact ⟨fz,rest,k1,fun h=>k2 (hw h),k3,k4⟩
 ·obtain ⟨p,C,hp,hC,h1⟩:=hblk i B hB
  obtain ⟨hCd,ht,hw,hg,hc⟩:=h1 hBd
  rw [(bP hp).2] at hBn
  rw [hg,hc];exact hm.nils p C hC hCd hBn
 ·have:=id_ i (by omega)
  rw [dB this,(bP this).1,(bP this).2];exact hm.agr i hi
 ·obtain ⟨p,hp,hp'⟩:=at_ i h2
  rw [dB hp]
  rcases hm.new p (by
   by_cases hc:p<K
   ·have:=back i p p hp (id_ p hc)
    omega
   ·omega) hp' with hn | ⟨j,hj,hn⟩
  ·exact .inl hn
  ·exact .inr ⟨j,hj,by rw [dB (id_ j (by omega))];exact hn⟩
 ·refine hm.old b hb fun i hi' he=>?_
  by_cases hc:i ∈ π
  ·obtain ⟨j,hj,hj'⟩:=List.getElem_of_mem hc
   exact hi j (by omega) (by rw [dB (List.getElem?_eq_some_iff.2 ⟨hj,hj'⟩)];exact he)
  ·by_cases hk:i<β.k
   ·exact hc (List.mem_of_getElem? (id_ i (by omega)))
   ·rcases hm.new i (by omega) hi' with hn | ⟨j,hj,hn⟩
    ·omega
    ·exact hi j (by omega) (by rw [dB (id_ j (by omega)),← hn];exact he)
 ·obtain ⟨p,hp,hp'⟩:=at_ k hk
  rw [dB hp];exact hm.xd i j a n c hv h0 p hp'
end
end
structure Head where
 key:Nat
 todo:List Item
 H:Hyp
 fr:Fr
 m:Mem
structure Dim where
 ni:Nat
 nb:Nat
 na:Nat
 ui:Nat
 ub:Nat
 ua:Nat
 K:Nat
structure So where
 s:Sg
 p:List (Nat × Nat)
def So.i (D:Dim) (o:So):E→E→So
 | .v k,e=>if D.ui≤k&&(oI o.s.i k).isNone then { o with s:={ o.s with i:=(k,e)::o.s.i } } else o
 | _,_=>o
def So.b (D:Dim) (o:So):E→E→So
 | .bv k,e=>if D.ub≤k&&(oI o.s.b k).isNone then { o with s:={ o.s with b:=(k,e)::o.s.b } } else o
 | _,_=>o
def So.a (D:Dim) (o:So):E→E→So
 | .av k,e=>if D.ua≤k&&(oI o.s.a k).isNone then { o with s:={ o.s with a:=(k,e)::o.s.a } } else o
 | _,_=>o
def So.at (o:So) (b c:Nat):So:=if o.p.any (fun q=>q.1 == b) then o else { o with p:=(b,c)::o.p }
def So.iQ (D:Dim):So→List (Nat × E)→List (Nat × E)→So
 | o,p::l,q::r=>So.iQ D ((o.at p.1 q.1).i D p.2 q.2) l r
 | o,_,_=>o
def So.x (D:Dim) (o:So):S→S→So
 | .int _ x,.int _ y=>o.i D x y
 | .bool x,.bool y=>o.b D x y
 | .ptr b x,.ptr c y=>(o.at b c).i D x y
 | .slc b x l (.kn c),.slc b' x' l' (.kn c')=>(((o.at b b').i D x x').i D l l').i D c c'
 | .slc b x l (.op c),.slc b' x' l' (.op c')=>(((o.at b b').i D x x').i D l l').i D c c'
 | .xslc _ j x l,.xslc _ j' x' l'=>((o.i D j j').i D x x').i D l l'
 | .xptr _ j k _,.xptr _ j' k' _=>(o.i D j j').i D k k'
 | .fn _ l,.fn _ r=>o.iQ D l r
 | .ifc _ _ x,.ifc _ _ y=>o.i D x y
 | _,_=>o
def So.seg (D:Dim) (o:So):Seg→Seg→So
 | .one x,.one y=>o.x D x y
 | .run _ n A _,.run _ n' A' _=>(o.i D n n').a D A A'
 | .rows n fs _,.rows n' fs' _=>(fs.zip fs').foldl (fun o p=>o.a D p.1.2 p.2.2) (o.i D n n')
 | _,_=>o
def So.aF (D:Dim):So→List Seg→List Seg→So
 | o,p::l,q::r=>So.aF D (o.seg D p q) l r
 | o,_,_=>o
def So.tup (D:Dim):So→List (Bool × List Seg)→List (Bool × List Seg)→So
 | o,p::l,q::r=>So.tup D (o.aF D p.2 q.2) l r
 | o,_,_=>o
def So.v (D:Dim) (o:So):SV→SV→So
 | .s x,.s y=>o.x D x y
 | .agg l,.agg r=>o.aF D l r
 | .tup l,.tup r=>o.tup D l r
 | _,_=>o
def So.fr (D:Dim) (fr:Fr):So→Fr→So
 | o,f::l=>So.fr D fr (match look fr f.t with | some (_,y)=>o.v D f.x y | none=>o) l
 | o,[]=>o
def So.pi (o:So) (b:Nat):Nat:=match o.p.find? (fun q=>q.1 == b) with | some q=>q.2 | none=>b
def So.mem (D:Dim) (m:Mem):Nat→So→Mem→So
 | b,o,B::l=>So.mem D m (b+1) (match m[o.pi b]? with | some C=>o.aF D B.aF C.aF | none=>o) l
 | _,o,[]=>o
def solve (D:Dim) (fr:Fr) (m:Mem) (h:Head):So :=
 So.mem D m 0 (So.mem D m 0 (So.fr D fr ⟨⟨[],[],[]⟩,(List.range D.K).map fun i=>(i,i)⟩ h.fr) h.m) h.m
inductive LT where
 | ret (v:SV) (m:Mem)
 | jump (j:Nat) (todo:List Item) (σ:Sg)
 | need (c:E) (t:LT)
 | ite (c:E) (t e:LT)
def headAt (hs:List Head) (todo:List Item):Option Nat:=match todo with
 | .code c::_=>hs.findIdx? (fun h=>h.key == key c)
 | _=>none
def bLW (D:Dim) (fr:Fr) (m:Mem) (h:Head):Option Sg :=
 let o:=solve D fr m h
 let π:=(List.range h.m.length).map o.pi
 if agFr o.s π fr h.fr&&bGI o.s D.K π m h.m&&aCB o.s D.ni D.nb D.na&&decide (D.K≤h.m.length) then some o.s else none
def bLX (D:Dim) (H:Hyp) (fr:Fr) (m:Mem) (h:Head):Option Sg:=match bLW D fr m h with
 | some s=>some s
 | none=>bLW D fr (m.map (lS H)) h
def tB (D:Dim) (k:Nat) (H:Hyp) (fr:Fr) (m:Mem):Nat→List Head→Option (Nat × Sg)
 | _,[]=>none
 | j,h::r=>cond (Nat.beq h.key k) (match bLX D H fr m h with
   | some s=>some (j,s)
   | none=>tB D k H fr m (j+1) r) (tB D k H fr m (j+1) r)
theorem zF {D:Dim} {k:Nat} {H:Hyp} {fr:Fr} {m:Mem}:∀ {hs:List Head} {j i:Nat} {s:Sg},tB D k H fr m j hs=some (i,s)→j≤i∧∃ h,hs[i-j]? = some h∧bLX D H fr m h=some s
 | [],j,i,s,h=>by cases h
 | x::r,j,i,s,h=>by
   have rec_:tB D k H fr m (j+1) r=some (i,s)→j≤i∧∃ h,(x::r)[i-j]? = some h∧bLX D H fr m h=some s:=fun h=>by
    obtain ⟨h1,y,h2,h3⟩:=zF h
    refine ⟨by omega,y,?_,h3⟩
    rw [show i-j=(i-(j+1))+1 by omega,List.getElem?_cons_succ];exact h2
   unfold tB at h
   cases hb:Nat.beq x.key k with
   | false=>rw [hb] at h;exact rec_ h
   | true =>
     rw [hb] at h
     simp only [cond_true] at h
     split at h
     ·rename_i s' hs'
      simp only [Option.some.injEq,Prod.mk.injEq] at h
      obtain ⟨rfl,rfl⟩:=h
      exact ⟨Nat.le_refl _,x,by simp,hs'⟩
     ·exact rec_ h
def close (D:Dim) (hs:List Head):Tree→Option LT
 | .ret v m=>some (.ret v m)
 | .stop todo H fr m=>match todo with
   | .code c::_=>(match tB D (key c) H fr m 0 hs with
     | some (j,s)=>some (.jump j todo s)
     | none=>none)
   | _=>none
 | .need c t=>(close D hs t).map (.need c)
 | .ite c t e=>match close D hs t,close D hs e with
   | some x,some y=>some (.ite c x y)
   | _,_=>none
 | _=>none
def LT.holds (ρ:Env) (ret:SV→Mem→Prop) (jump:Nat→List Item→Env→Prop):LT→Prop
 | .ret v m=>ret v m
 | .jump j todo σ=>jump j todo (ρ.app σ)
 | .need c t=>c.b ρ=true∧(c.b ρ=true→t.holds ρ ret jump)
 | .ite c t e=>(c.b ρ=true→t.holds ρ ret jump)∧(c.b ρ=false→e.holds ρ ret jump)
theorem LT.iF {ρ:Env} {r r':SV→Mem→Prop} {g g':Nat→List Item→Env→Prop} (hr:∀ v m,r v m→r' v m) (hg:∀ j t e,g j t e→g' j t e):∀ {t:LT},t.holds ρ r g→t.holds ρ r' g'
 | .ret _ _,h=>hr _ _ h
 | .jump _ _ _,h=>hg _ _ _ h
 | .need _ _,h=>⟨h.1,fun hc=>LT.iF hr hg (h.2 hc)⟩
 | .ite _ _ _,h=>⟨fun hc=>LT.iF hr hg (h.1 hc),fun hc=>LT.iF hr hg (h.2 hc)⟩
section
variable {P:Program} {f:FuncId} {fn:Func} {R:Ending→World→Prop} {ρ:Env} {β:dO} {n:Nat} {D:Dim} {hs:List Head} {Γ:Ctx} {I:Interp}
def aJr (P:Program) (f:FuncId) (R:Ending→World→Prop) (β:dO) (n:Nat) (h:Head) (ρ:Env):Prop :=
 ∀ ι a w,aR ρ ι n h.fr a→aH ρ β ι h.m w→nV P f R h.todo a w
theorem aLj (hK:β.k≤D.K) (hz:dY ρ D.ni D.nb D.na):∀ {t:Tree} {lt:LT},close D hs t=some lt →
 lt.holds ρ (fun v m=>∀ ι w,aH ρ β ι m w→R (eZ ρ ι v) w) (fun j todo ρ'=>∃ h,hs[j]? = some h∧todo=h.todo∧aJr P f R β n h ρ')→t.holds P f R ρ β n []:=by
 intro t
 induction t with
 | ret v m =>
   intro lt h hl
   simp only [close,Option.some.injEq] at h;subst h
   exact hl
 | stop todo H fr m =>
   intro lt h hl
   simp only [close] at h
   split at h
   ·rename_i c0 r0
    split at h
    ·rename_i j s hj
     obtain ⟨_,hd,hhd,hfit⟩:=zF hj
     rw [Nat.sub_zero] at hhd
     simp only [Option.some.injEq] at h;subst h
     obtain ⟨h',hh',ht,hg⟩:=hl
     rw [hhd] at hh'
     simp only [Option.some.injEq] at hh';subst hh'
     have hg2:∀ ι a w,aR (ρ.app s) ι n hd.fr a→aH (ρ.app s) β ι hd.m w→nV P f R (.code c0::r0) a w:=fun ι a w h1 h2=>by rw [ht];exact hg ι a w h1 h2
     have fit:∀ m1,bLW D fr m1 hd=some s→∀ ι a w,aR ρ ι n fr a→aH ρ β ι m1 w→nV P f R (.code c0::r0) a w:=by
      intro m1 hfit ι a w hf hm
      unfold bLW at hfit
      simp only at hfit
      split at hfit
      ·rename_i hc
       simp only [Bool.and_eq_true,decide_eq_true_eq] at hc
       simp only [Option.some.injEq] at hfit;subst hfit
       exact hg2 _ a w (bKZ hz hc.1.2 hc.1.1.1 hf) (bGJ hz hc.1.2 hK hc.2 hc.1.1.2 hm)
      ·cases hfit
     intro hH ι a w hf hm
     unfold bLX at hfit
     split at hfit
     ·rename_i s' hs'
      simp only [Option.some.injEq] at hfit;subst hfit
      exact fit m hs' ι a w hf hm
     ·exact fit _ hfit ι a w hf (hm.bTf hH)
    ·cases h
   ·cases h
 | need c t ih =>
   intro lt h hl
   simp only [close,Option.map_eq_some_iff] at h
   obtain ⟨x,hx,rfl⟩:=h
   exact ⟨hl.1,fun hc=>ih hx (hl.2 hc)⟩
 | ite c t e iht ihe =>
   intro lt h hl
   simp only [close] at h
   split at h
   ·rename_i x y hx hy
    simp only [Option.some.injEq] at h;subst h
    exact ⟨fun hc=>iht hx (hl.1 hc),fun hc=>ihe hy (hl.2 hc)⟩
   ·cases h
 | again=>intro lt h;simp [close] at h
 | fail=>intro lt h;simp [close] at h
theorem floyd {hc':aZ} (hΓ:cF P I Γ) (hP:P.follows .mixedOrders=true) (hfn:P.funcs[f]? = some fn) (hK:β.k≤D.K) {k u:Nat} {cut:List Nat} {Inv:Nat→Env→Prop} {μ:Nat→Env→Nat}
 (hseg:∀ j h ρ,hs[j]? = some h→ρ.I=I→dY ρ D.ni D.nb D.na→Inv j ρ→∃ H',Hyp.ok H' ρ∧∃ lt,close D hs (run P Γ hc' fn n cut k u none h.todo H' h.fr h.m)=some lt ∧
   lt.holds ρ (fun v m=>∀ ι w,aH ρ β ι m w→R (eZ ρ ι v) w) (fun j' todo ρ'=>(∃ h',hs[j']? = some h'∧todo=h'.todo)∧Inv j' ρ'∧μ j' ρ'<μ j ρ)) :
 ∀ N j h ρ,μ j ρ<N→hs[j]? = some h→ρ.I=I→dY ρ D.ni D.nb D.na→Inv j ρ→aJr P f R β n h ρ:=by
 intro N
 induction N with
 | zero=>intro j h ρ hN;omega
 | succ N ih =>
   intro j h ρ hN hj hI hz hInv ι a w hf hm
   obtain ⟨H',hH,lt,hcl,hl⟩:=hseg j h ρ hj hI hz hInv
   have:=aZD (R:=R) (bs:=[]) (cut:=cut) hΓ hI hP hfn k u none h.todo H' h.fr h.m ι a w (aLj (R:=R) (n:=n) hK hz hcl ?_) (fun _ hb=>by cases hb) hH hf hm
   ·simpa using this
   ·have key:∀ (t:LT),t.holds ρ (fun v m=>∀ ι w,aH ρ β ι m w→R (eZ ρ ι v) w) (fun j' todo ρ'=>(∃ h',hs[j']? = some h'∧todo=h'.todo)∧Inv j' ρ'∧μ j' ρ'<μ j ρ) →
     t.holds ρ (fun v m=>∀ ι w,aH ρ β ι m w→R (eZ ρ ι v) w) (fun j todo ρ'=>∃ h,hs[j]? = some h∧todo=h.todo∧aJr P f R β n h ρ'):=by
     intro t
     induction t with
     | ret v m=>exact fun h=>h
     | jump j' todo σ =>
       intro h
       obtain ⟨⟨h',hh,ht⟩,h2,h3⟩:=h
       exact ⟨h',hh,ht,ih j' h' _ (by omega) hh (by simpa [Env.app] using hI) hz.app h2⟩
     | need c t ih=>exact fun h=>⟨h.1,fun hc=>ih (h.2 hc)⟩
     | ite c t e i1 i2=>exact fun h=>⟨fun hc=>i1 (h.1 hc),fun hc=>i2 (h.2 hc)⟩
    exact key lt hl
theorem aCp {hc':aZ} (hΓ:cF P I Γ) (hP:P.follows .mixedOrders=true) (hfn:P.funcs[f]? = some fn) (hK:β.k≤D.K) {c:Code} (hc:fn.body=some c) {k u u0:Nat} {cut:List Nat} {Inv:Nat→Env→Prop} (μ:Nat→Env→Nat)
 {H:Hyp} {l:List SV} {m:Mem} {ι:Loc} {w:World} {lt:LT} (hl:l.length≤fn.ntmps)
 (hrun:close D hs (run P Γ hc' fn fn.ntmps cut k u0 none [.code c] H (fG l) m)=some lt)
 (hI:ρ.I=I) (hz:dY ρ D.ni D.nb D.na) (hH:H.ok ρ) (hm:aH ρ β ι m w)
 (hlt:lt.holds ρ (fun v m=>∀ ι w,aH ρ β ι m w→R (eZ ρ ι v) w) (fun j' todo ρ'=>(∃ h',hs[j']? = some h'∧todo=h'.todo)∧Inv j' ρ'))
 (hseg:∀ j h ρ,hs[j]? = some h→ρ.I=I→dY ρ D.ni D.nb D.na→Inv j ρ→∃ H',Hyp.ok H' ρ∧∃ lt,close D hs (run P Γ hc' fn fn.ntmps cut k u none h.todo H' h.fr h.m)=some lt ∧
   lt.holds ρ (fun v m=>∀ ι w,aH ρ β ι m w→R (eZ ρ ι v) w) (fun j' todo ρ'=>(∃ h',hs[j']? = some h'∧todo=h'.todo)∧Inv j' ρ'∧μ j' ρ'<μ j ρ)) :
 Calls P f (l.map (SV.aC ρ ι)).toArray w R:=by
 refine aJi hΓ hI hP hfn hc hl (aLj (n:=fn.ntmps) hK hz hrun ?_) hH hm
 have key:∀ (t:LT),t.holds ρ (fun v m=>∀ ι w,aH ρ β ι m w→R (eZ ρ ι v) w) (fun j' todo ρ'=>(∃ h',hs[j']? = some h'∧todo=h'.todo)∧Inv j' ρ') →
  t.holds ρ (fun v m=>∀ ι w,aH ρ β ι m w→R (eZ ρ ι v) w) (fun j todo ρ'=>∃ h,hs[j]? = some h∧todo=h.todo∧aJr P f R β fn.ntmps h ρ'):=by
  intro t
  induction t with
  | ret v m=>exact fun h=>h
  | jump j' todo σ =>
    intro h
    obtain ⟨⟨h',hh,ht⟩,h2⟩:=h
    exact ⟨h',hh,ht,floyd hΓ hP hfn hK hseg _ j' h' _ (Nat.lt_succ_self _) hh (by simpa [Env.app] using hI) hz.app h2⟩
  | need c t ih=>exact fun h=>⟨h.1,fun hc=>ih (h.2 hc)⟩
  | ite c t e i1 i2=>exact fun h=>⟨fun hc=>i1 (h.1 hc),fun hc=>i2 (h.2 hc)⟩
 exact key lt hlt
end
def hZ (P:Program) (Γ:Ctx) (hc':aZ) (D:Dim) (hs:List Head) (cut:List Nat) (k u:Nat) (f:FuncId) (H:Hyp) (l:List SV) (m:Mem):Option LT:=match P.funcs[f]? with
 | some fn=>match fn.body with
   | some c=>if l.length≤fn.ntmps then close D hs (run P Γ hc' fn fn.ntmps cut k u none [.code c] H (fG l) m) else none
   | none=>none
 | none=>none
def cE (P:Program) (Γ:Ctx) (hc':aZ) (D:Dim) (hs:List Head) (cut:List Nat) (k u:Nat) (f:FuncId) (h:Head):Option LT:=match P.funcs[f]? with
 | some fn=>close D hs (run P Γ hc' fn fn.ntmps cut k u none h.todo h.H h.fr h.m)
 | none=>none
def uD (K:Nat):Nat→List Item→Option (List Item)
 | 0,_=>none
 | n+1,todo=>match todo with
   | .code (.seq x y)::r=>cond (bHi [K] x) (some (.code x::.code y::r)) (uD K n (.code x::.code y::r))
   | .code (.loop c)::r=>cond (Nat.beq (key c) K) (some (.code c::.inLoop c::r)) (match uD K n (.code c::.inLoop c::r) with
     | some t=>some t
     | none=>uD K n r)
   | .code (.cond _ x y)::r=>(match uD K n (.code x::r) with
     | some t=>some t
     | none=>uD K n (.code y::r))
   | .code (.block id c)::r=>uD K n (.code c::.inBlock id::r)
   | .code (.scope c)::r=>uD K n (.code c::.inScope c::r)
   | .code .ret::_=>none
   | .code (.exit id)::r=>(match exitTo id r with
     | some r'=>uD K n r'
     | none=>none)
   | _::r=>uD K n r
   | []=>none
def uC (P:Program) (f:FuncId) (K:Nat):List Item:=match P.funcs[f]? with
 | some fn=>match fn.body with
   | some c=>(uD K 4000 [.code c]).getD []
   | none=>[]
 | none=>[]
def aQ (ρ:Env) (v:SV):Prop:=match v with
 | .s (.bool e)=>e.b ρ=true
 | _=>False
section
variable {P:Program} {f:FuncId} {ρ:Env} {D:Dim} {hs:List Head} {Γ:Ctx} {I:Interp}
theorem aH.aDJ {w w':World} {ι ι':Loc} {m:Mem} (h:aH ρ ⟨w,0,ι⟩ ι' m w'):RowKit.Below w.heap.size w w' :=
 ⟨h.os,h.tape,h.output,h.size,fun k hk=>h.old k hk fun i hi he=>by
   rcases h.new i (Nat.zero_le _) hi with h1 | ⟨j,hj,_⟩
   ·simp only at h1;omega
   ·exact absurd hj (Nat.not_lt_zero _)⟩
theorem yR {β:dO} {R:Ending→World→Prop} {hc':aZ} (hΓ:cF P I Γ) (hP:P.follows .mixedOrders=true) (hK:β.k≤D.K) {k u u0:Nat} {cut:List Nat} (Inv:Nat→Env→Prop) (μ:Nat→Env→Nat) (ret:Env→SV→Mem→Prop)
 {H:Hyp} {l:List SV} {m:Mem} {ι:Loc} {w:World} {lt:LT}
 (hret:∀ ρ v m,ρ.I=I→ret ρ v m→∀ ι w,aH ρ β ι m w→R (eZ ρ ι v) w)
 (hrun:hZ P Γ hc' D hs cut k u0 f H l m=some lt) (hm:aH ρ β ι m w)
 (hI:ρ.I=I) (hz:dY ρ D.ni D.nb D.na) (hH:H.ok ρ) (hlt:lt.holds ρ (ret ρ) (fun j' todo ρ'=>(hs[j']?.map (·.todo))=some todo∧Inv j' ρ'))
 (hseg:∀ j h ρ,hs[j]? = some h→ρ.I=I→dY ρ D.ni D.nb D.na→Inv j ρ→∃ H',Hyp.ok H' ρ∧∃ lt,cE P Γ hc' D hs cut k u f { h with H:=H' }=some lt ∧
   lt.holds ρ (ret ρ) (fun j' todo ρ'=>(hs[j']?.map (·.todo))=some todo∧Inv j' ρ'∧μ j' ρ'<μ j ρ)) :
 Calls P f (l.map (SV.aC ρ ι)).toArray w R:=by
 unfold hZ at hrun
 split at hrun
 ·rename_i fn hfn
  split at hrun
  ·rename_i c hc
   split at hrun
   ·rename_i hl
    have conv:∀ {todo:List Item} {j:Nat},(hs[j]?.map (·.todo))=some todo→∃ h',hs[j]? = some h'∧todo=h'.todo:=by
     intro todo j h
     simp only [Option.map_eq_some_iff] at h
     obtain ⟨h',h1,h2⟩:=h
     exact ⟨h',h1,h2.symm⟩
    refine aCp (u:=u) hΓ hP hfn hK hc μ hl hrun hI hz hH hm (LT.iF (hret ρ · · hI) (fun j todo ρ' h=>⟨conv h.1,h.2⟩) hlt) fun j h ρ' hj hI' hz' hInv=>?_
    obtain ⟨H',h1,lt',h2,h3⟩:=hseg j h ρ' hj hI' hz' hInv
    refine ⟨H',h1,lt',?_,LT.iF (hret ρ' · · hI') (fun j todo ρ' h=>⟨conv h.1,h.2⟩) h3⟩
    simpa only [cE,hfn] using h2
   ·cases hrun
  ·cases hrun
 ·cases hrun
theorem aJD {β:dO} {R:Ending→World→Prop} {hc':aZ} (hΓ:cF P I Γ) (hP:P.follows .mixedOrders=true) (hK:β.k≤D.K) {k u u0:Nat} {cut:List Nat} (Inv:Nat→Env→Prop) (μ:Nat→Env→Nat) (ret:Env→SV→Mem→Prop)
 {H:Hyp} {l:List SV} {m:Mem} {ι:Loc} {w:World} {lt:LT}
 (hret:∀ ρ v m,ρ.I=I→ret ρ v m→∀ ι w,aH ρ β ι m w→R (eZ ρ ι v) w)
 (hrun:hZ P Γ hc' D hs cut k u0 f H l m=some lt) (hm:aH ρ β ι m w)
 (hI:ρ.I=I) (hz:dY ρ D.ni D.nb D.na) (hH:H.ok ρ) (hlt:lt.holds ρ (ret ρ) (fun j' todo ρ'=>(hs[j']?.map (·.todo))=some todo∧Inv j' ρ'))
 (hseg:∀ j h ρ,hs[j]? = some h→ρ.I=I→dY ρ D.ni D.nb D.na→Inv j ρ→h.H.ok ρ∧∃ lt,cE P Γ hc' D hs cut k u f h=some lt ∧
   lt.holds ρ (ret ρ) (fun j' todo ρ'=>(hs[j']?.map (·.todo))=some todo∧Inv j' ρ'∧μ j' ρ'<μ j ρ)) :
 Calls P f (l.map (SV.aC ρ ι)).toArray w R :=
 yR (u:=u) hΓ hP hK Inv μ ret hret hrun hm hI hz hH hlt fun j h ρ hj hI' hz' hInv=>by
  obtain ⟨h1,lt',h2,h3⟩:=hseg j h ρ hj hI' hz' hInv
  exact ⟨h.H,h1,lt',h2,h3⟩
theorem jC {β:dO} {R:Ending→World→Prop} {hc':aZ} (hΓ:cF P I Γ) (hP:P.follows .mixedOrders=true) (hK:β.k≤D.K) {k u:Nat} {cut:List Nat} (Inv:Nat→Env→Prop) (μ:Nat→Env→Nat) (ret:Env→SV→Mem→Prop)
 {H:Hyp} {l:List SV} {m:Mem} {ι:Loc} {w:World} {lt:LT}
 (hret:∀ ρ v m,ρ.I=I→ret ρ v m→∀ ι w,aH ρ β ι m w→R (eZ ρ ι v) w)
 (hrun:hZ P Γ hc' D hs cut k u f H l m=some lt) (hm:aH ρ β ι m w)
 (hI:ρ.I=I) (hz:dY ρ D.ni D.nb D.na) (hH:H.ok ρ) (hlt:lt.holds ρ (ret ρ) (fun j' todo ρ'=>(hs[j']?.map (·.todo))=some todo∧Inv j' ρ'))
 (hseg:∀ j h ρ,hs[j]? = some h→ρ.I=I→dY ρ D.ni D.nb D.na→Inv j ρ→h.H.ok ρ∧∃ lt,cE P Γ hc' D hs cut k u f h=some lt ∧
   lt.holds ρ (ret ρ) (fun j' todo ρ'=>(hs[j']?.map (·.todo))=some todo∧Inv j' ρ'∧μ j' ρ'<μ j ρ)) :
 Calls P f (l.map (SV.aC ρ ι)).toArray w R :=
 aJD (u:=u) (u0:=u) hΓ hP hK Inv μ ret hret hrun hm hI hz hH hlt hseg
theorem aYL {hc':aZ} (hΓ:cF P I Γ) (hP:P.follows .mixedOrders=true) (hK:D.K=0) {k u u0:Nat} {cut:List Nat} (Inv:Nat→Env→Prop) (μ:Nat→Env→Nat)
 {H:Hyp} {l:List SV} {lt:LT} (hrun:hZ P Γ hc' D hs cut k u0 f H l []=some lt)
 (hI:ρ.I=I) (hz:dY ρ D.ni D.nb D.na) (hH:H.ok ρ) (hlt:lt.holds ρ (fun v _=>aQ ρ v) (fun j' todo ρ'=>(hs[j']?.map (·.todo))=some todo∧Inv j' ρ'))
 (hseg:∀ j h ρ,hs[j]? = some h→ρ.I=I→dY ρ D.ni D.nb D.na→Inv j ρ→∃ H',Hyp.ok H' ρ∧∃ lt,cE P Γ hc' D hs cut k u f { h with H:=H' }=some lt ∧
   lt.holds ρ (fun v _=>aQ ρ v) (fun j' todo ρ'=>(hs[j']?.map (·.todo))=some todo∧Inv j' ρ'∧μ j' ρ'<μ j ρ)) (w:World) (hx:∀ i j,(ρ.I.xs i j).ok w) :
 Calls P f (l.map (SV.aC ρ Loc.id)).toArray w fun r w'=>r=.returned (.bool true)∧RowKit.Below w.heap.size w w':=by
 refine yR (u:=u) (β:=⟨w,0,Loc.id⟩) hΓ hP (by simp [hK]) Inv μ (fun ρ v _=>aQ ρ v) (fun ρ v m _ hr ι w' hm=>?_) hrun (aH.empty hx Loc.id) hI hz hH hlt hseg
 unfold aQ at hr
 split at hr
 ·exact ⟨by rw [aW rfl];simp [SV.aC,S.aC,hr],hm.aDJ⟩
 ·cases hr
end
theorem Hyp.more {H:Hyp} {ρ:Env} (h:H.ok ρ) (es:List (E × Rng)) (bs:List (E × Bool)) (he:∀ p ∈ es,inR p.2 (p.1.i ρ)) (hb:∀ p ∈ bs,p.1.b ρ=p.2):Hyp.ok { H with e:=es++H.e,b:=bs++H.b } ρ :=
 ⟨h.x,fun p hp=>by rcases List.mem_append.1 hp with hp | hp;exact he p hp;exact h.e p hp,h.a,h.fi,h.fa,fun p hp=>by rcases List.mem_append.1 hp with hp | hp;exact hb p hp;exact h.b p hp⟩
def aDE (H:Hyp):E→Option Rng
 | .av n=>nL H.a n
 | .app f _=>nL H.fa f
 | .upd A _ x=>un (aDE H A) (rng H x)
 | .ite _ A B=>un (aDE H A) (aDE H B)
 | .tab []=>some (0,0)
 | .blt A _ _ B _=>un (aDE H A) (aDE H B)
 | _=>none
theorem sM {H:Hyp} {ρ:Env} (hH:H.ok ρ):∀ (e:E) (r:Rng),aDE H e=some r→∀ j,inR r (e.a ρ j)
 | .av n,r,h,j=>hH.a _ (gG h) j
 | .app f x,r,h,j=>by rw [aKW];exact hH.fa _ (gG h) _ _ _ _
 | .upd A i x,r,h,j=>by
   simp only [aDE] at h
   rw [cS]
   simp only
   split
   ·exact sG h fun q hq=>dH hH x q hq
   ·exact aAc h fun q hq=>sM hH A q hq j
 | .ite c A B,r,h,j=>by
   simp only [aDE] at h
   rw [cK]
   split
   ·exact aAc h fun q hq=>sM hH A q hq j
   ·exact sG h fun q hq=>sM hH B q hq j
 | .tab [],r,h,j=>by
   simp only [aDE,Option.some.injEq] at h;subst h
   simp [inR,cI]
 | .blt A b c B d,r,h,j=>by
   simp only [aDE] at h
   rw [qH]
   simp only
   split
   ·exact sG h fun q hq=>sM hH B q hq _
   ·exact aAc h fun q hq=>sM hH A q hq j
def inB (r:Option Rng) (lo hi:Int):Bool:=match r with | some (a,b)=>decide (lo≤a)&&decide (b≤hi) | none=>false
theorem aB {H:Hyp} {ρ:Env} (hH:H.ok ρ) {e:E} {lo hi:Int} (h:inB (rng H e) lo hi=true):lo≤e.i ρ∧e.i ρ≤hi:=by
 unfold inB at h
 split at h
 ·rename_i a b hr
  have:=dH hH e _ hr
  simp only [Bool.and_eq_true,decide_eq_true_eq] at h
  simp only [inR] at this;omega
 ·cases h
theorem aM {H:Hyp} {ρ:Env} (hH:H.ok ρ) {e:E} {lo hi:Int} (h:inB (aDE H e) lo hi=true):∀ j,lo≤e.a ρ j∧e.a ρ j≤hi:=by
 unfold inB at h
 split at h
 ·rename_i a b hr
  intro j
  have:=sM hH e _ hr j
  simp only [Bool.and_eq_true,decide_eq_true_eq] at h
  simp only [inR] at this;omega
 ·cases h
def LT.bare:LT→LT
 | .ret v _=>.ret v []
 | .jump j t s=>.jump j t s
 | .need c t=>.need c t.bare
 | .ite c t e=>.ite c t.bare e.bare
theorem LT.pC {ρ:Env} {r:SV→Prop} {g:Nat→List Item→Env→Prop}:∀ {t:LT},t.bare.holds ρ (fun v _=>r v) g→t.holds ρ (fun v _=>r v) g
 | .ret _ _,h=>h
 | .jump _ _ _,h=>h
 | .need _ _,h=>⟨h.1,fun hc=>LT.pC (h.2 hc)⟩
 | .ite _ _ _,h=>⟨fun hc=>LT.pC (h.1 hc),fun hc=>LT.pC (h.2 hc)⟩
theorem LT.aS {o:Option LT} {t:LT} (h:o.map LT.bare=some t) {ρ:Env} {r:SV→Prop} {g:Nat→List Item→Env→Prop} (ht:t.holds ρ (fun v _=>r v) g):∃ lt,o=some lt∧lt.holds ρ (fun v _=>r v) g:=by
 cases o with
 | none=>cases h
 | some lt=>simp only [Option.map_some,Option.some.injEq] at h;subst h;exact ⟨lt,rfl,LT.pC ht⟩
structure kN (x:Ext) (w:World) (ks:List (Option IntKind)):Prop where
 ok:x.ok w
 sz:x.sz=ks.length
 fit:∀ k f kd,k<x.n→ks[f]? = some kd→Fit kd (x.cell (k*ks.length+f))
 len:x.n≤maxLen
def bC (x:Ext) (s f:Nat):Nat→Int:=fun k=>if k<x.n then kE (x.cell (k*s+f)) else 0
theorem aKt {α β:Type} {f:α→Option β}:∀ {l:List α} {r:List β},l.mapM f=some r→∀ (i:Nat) (x:α),l[i]? = some x→∃ y,f x=some y∧r[i]? = some y
 | [],r,h,i,x,hx=>by simp at hx
 | a::l,r,h,i,x,hx=>by
   rw [List.mapM_cons,Option.bind_eq_bind,Option.bind_eq_some_iff] at h
   obtain ⟨y,hy,h⟩:=h
   rw [Option.bind_eq_bind,Option.bind_eq_some_iff] at h
   obtain ⟨ys,hys,h⟩:=h
   simp only [Option.pure_def,Option.some.injEq] at h
   subst h
   cases i with
   | zero=>simp only [List.getElem?_cons_zero,Option.some.injEq] at hx;subst hx;exact ⟨y,hy,rfl⟩
   | succ i=>simpa using aKt hys i x (by simpa using hx)
section
variable {H:Type} {enc:TypeId × Value→H} {P:Program} {w:World} {base:Nat} {spare:Nat→Bool} {held:Bool}
theorem aZh {t e:TypeId} (ks:List (Option IntKind)) (dep:Nat) (ht:P.underlying t=some (.slice e)) (hk:(List.range ks.length).all (fun i=>decide (jY P dep e i=ks[i]?))=true) (hsz:P.cellsOf e=ks.length) (hpos:0<ks.length)
 {fuel:Nat} {cs:List Value} {y:DataW H × List MemPlace} (h:DataW.trod enc P w base spare held fuel t cs=some y):∃ x:Ext,cs=[x.v]∧kN x w ks∧(x.n=0∨∃ l sp,y.1=.slice l sp∧l.length=x.n):=by
 rcases Go.Deep.open_slice ht h with ⟨rfl,_⟩ | ⟨a,len,cap,mm,nn,Dd,Pl,rfl,hb,hl,hm,hmm,hy,hel0⟩
 ·exact ⟨⟨.slice none 0 0,0,ks.length,fun _=>Go.undef⟩,rfl,⟨⟨none,0,rfl,Nat.le_refl _,fun _=>⟨rfl,rfl⟩,fun a ha=>by cases ha⟩,rfl,fun k f kd hk=>absurd hk (Nat.not_lt_zero _),Nat.zero_le _⟩,Or.inl rfl⟩
 ·have hle:len≤mm:=by rw [hmm];split <;> omega
  have hel:∀ i,i<len→∃ cs',w.cells? base (a.add (i*ks.length)) ks.length=some cs'∧∃ z,DataW.trod enc P w base spare held nn e cs'=some z:=by
   intro i hi
   obtain ⟨cs',h1,h2⟩:=hel0 i (by omega)
   rw [hsz] at h1
   exact ⟨cs',h1,_,h2⟩
  have hcell:∀ i f,i<len→f<ks.length→∃ v kd,w.cell? (a.add (i*ks.length+f))=some v∧ks[f]? = some kd∧Fit kd v:=by
   intro i f hi hf
   obtain ⟨cs',h1,z,h2⟩:=hel i hi
   have hkf:=of_decide_eq_true (List.all_eq_true.1 hk f (by simpa using hf))
   rw [List.getElem?_eq_getElem hf] at hkf
   obtain ⟨v,hv,hfit⟩:=bDC dep e f _ nn cs' z hkf h2
   unfold World.cells? at h1
   split at h1
   ·obtain ⟨v',h4,h5⟩:=aKt h1 f f (by simp [hf])
    rw [hv] at h5;cases h5
    exact ⟨v,ks[f],by rw [← add_add];exact h4,List.getElem?_eq_getElem hf,hfit⟩
   ·cases h1
  refine ⟨⟨.slice (some a) len cap,len,ks.length,fun k=>((w.cell? (a.add k)).getD Go.undef)⟩,rfl,⟨⟨some a,cap,rfl,hl,fun h=>by (cases h),fun a' ha' k hk'=>?_⟩,rfl,fun k f kd hk' hf=>?_,Nat.le_trans hl hm⟩,Or.inr ⟨_,_,by rw [hy],by simp⟩⟩
  ·simp only [Option.some.injEq] at ha';subst ha'
   have hk2:k<len*ks.length:=hk'
   obtain ⟨v,kd,h1,_,_⟩:=hcell (k / ks.length) (k%ks.length) (Nat.div_lt_of_lt_mul (by rw [Nat.mul_comm];exact hk2)) (Nat.mod_lt _ hpos)
   rw [Nat.div_add_mod'] at h1
   refine ⟨?_,by simp [h1]⟩
   unfold World.cell? at h1
   have hb:(a.add k).block=a.block:=by unfold Addr.add;split <;> rfl
   rw [hb] at h1
   split at h1
   ·rename_i hh;exact pO hh
   ·cases h1
  ·have hf':f<ks.length:=(List.getElem?_eq_some_iff.1 hf).1
   obtain ⟨v,kd',h1,h2,h3⟩:=hcell k f hk' hf'
   rw [hf] at h2;cases h2
   simp only [h1,Option.getD_some];exact h3
theorem aBW {t e:TypeId} (ks:List (Option IntKind)) (dep:Nat) (ht:P.underlying t=some (.slice e)) (hk:(List.range ks.length).all (fun i=>decide (jY P dep e i=ks[i]?))=true) (hsz:P.cellsOf e=ks.length) (hpos:0<ks.length)
 {fuel:Nat} {cs:List Value} {y:DataW H × List MemPlace} (h:DataW.trod enc P w base spare held fuel t cs=some y):∃ x:Ext,cs=[x.v]∧kN x w ks:=by
 obtain ⟨x,h1,h2,_⟩:=aZh ks dep ht hk hsz hpos h
 exact ⟨x,h1,h2⟩
theorem trod_struct {t:TypeId} {fs:Array Field} (ht:P.underlying t=some (.struct fs)) {fuel:Nat} {cs:List Value} {y:DataW H × List MemPlace} (h:DataW.trod enc P w base spare held fuel t cs=some y) :
 cs.length=P.cellsOf t∧∀ (j:Nat) (f:Field),fs[j]? = some f→∃ fuel' z,DataW.trod enc P w base spare held fuel' f.type ((cs.drop f.offset).take (P.cellsOf f.type))=some z:=by
 cases fuel with
 | zero=>simp [DataW.trod] at h
 | succ fuel =>
   unfold DataW.trod at h
   rw [ht] at h
   simp only at h
   split at h
   ·rename_i hc
    refine ⟨hc,fun j f hj=>?_⟩
    rw [Option.map_eq_some_iff] at h
    obtain ⟨xs,hx,_⟩:=h
    obtain ⟨z,hz,_⟩:=aKt hx j f (by simpa using hj)
    exact ⟨fuel,z,hz⟩
   ·cases h
theorem bJH {W:World} {b0:Nat} {r:Reach} {t e:TypeId} {v:Value} {d:DataW H} {p:List MemPlace} (ks:List (Option IntKind)) (dep:Nat) (ht:P.underlying t=some (.slice e)) (hk:(List.range ks.length).all (fun i=>decide (jY P dep e i=ks[i]?))=true) (hsz:P.cellsOf e=ks.length) (hpos:0<ks.length)
 (hv:Value.okWide P W r b0 t v) (hd:DataW.Trod enc P w base spare held t v d p):∃ x:Ext,v=x.v∧kN x w ks:=by
 obtain ⟨fuel,hf⟩:=hd
 obtain ⟨x,hx,hfit⟩:=aBW ks dep ht hk hsz hpos hf
 refine ⟨x,?_,hfit⟩
 cases v with
 | agg cs =>
   exfalso
   unfold Value.okWide at hv
   rw [ht] at hv
   simp only [Cell.okWide,ht,Cell.ok] at hv
 | _ =>
   simp only [Value.cells,List.cons.injEq,and_true] at hx
   exact hx
theorem bFr {W:World} {b0:Nat} {r:Reach} {t:TypeId} {v:Value} {d:DataW H} {p:List MemPlace} {f0 f1 f2:Field} {e0 e1:TypeId} {k0 k1:Option IntKind} {k2:IntKind} (dep:Nat)
 (ht:P.underlying t=some (.struct #[f0,f1,f2])) (hsz:P.cellsOf t=3) (ho:f0.offset=0∧f1.offset=1)
 (hs0:P.underlying f0.type=some (.slice e0)) (hs1:P.underlying f1.type=some (.slice e1))
 (hc:P.cellsOf f0.type=1∧P.cellsOf f1.type=1) (he:P.cellsOf e0=1∧P.cellsOf e1=1)
 (hk:jY P dep e0 0=some k0∧jY P dep e1 0=some k1) (hk2:jY P dep t 2=some (some k2))
 (hv:Value.okWide P W r b0 t v) (hd:DataW.Trod enc P w base spare held t v d p):∃ (x0 x1:Ext) (b:Int),v=.agg #[x0.v,x1.v,.int k2 b]∧kN x0 w [k0]∧kN x1 w [k1]∧inR (dW k2) b:=by
 obtain ⟨cs,rfl,hcs,_⟩:∃ cs,v=.agg cs∧cs.size=P.cellsOf t∧Row.okWide P W r b0 t cs:=by
  unfold Value.okWide at hv;rw [ht] at hv;exact hv
 obtain ⟨fuel,hf⟩:=hd
 have qz:=bDC dep t 2 _ fuel _ _ hk2 hf
 obtain ⟨h1,h2⟩:=trod_struct ht hf
 have one:∀ {e:TypeId} {k:Option IntKind},jY P dep e 0=some k→(List.range [k].length).all (fun i=>decide (jY P dep e i=[k][i]?))=true:=by
  intro e k h
  rw [List.all_eq_true]
  intro i hi
  have:i=0:=by simpa using hi
  subst this
  simp [h]
 obtain ⟨g0,z0,t0⟩:=h2 0 f0 rfl
 obtain ⟨g1,z1,t1⟩:=h2 1 f1 rfl
 obtain ⟨x0,q0,y0⟩:=aBW [k0] dep hs0 (one hk.1) he.1 (by simp) t0
 obtain ⟨x1,q1,y1⟩:=aBW [k1] dep hs1 (one hk.2) he.2 (by simp) t1
 rw [ho.1,hc.1] at q0
 rw [ho.2,hc.2] at q1
 obtain ⟨l⟩:=cs
 simp only [List.size_toArray,hsz] at hcs
 match l,hcs with
 | [a,b,c],_ =>
   simp only [Value.cells,List.drop_zero,List.take_succ_cons,List.take_zero,List.drop_succ_cons,List.cons.injEq,and_true] at q0 q1
   obtain ⟨vc,ec,⟨zc,rfl,rc⟩⟩:=qz
   simp only [Value.cells,List.getElem?_cons_zero,List.getElem?_cons_succ,Option.some.injEq] at ec
   subst ec
   exact ⟨x0,x1,zc,by rw [q0,q1],y0,y1,rc⟩
end
theorem iZ {α:Type} {a b:α} {l r:List α} (h:a=b) (h':l=r):a::l=b::r:=by rw [h,h']
theorem iR {ρ:Env} {ι:Loc} {i:Nat} {n:E} {x:Ext} {w:World} {ks:List (Option IntKind)} (g:kN x w ks) (h1:ρ.I.xs i 0=x) (h2:n.i ρ=x.n):SV.aC ρ ι (.s (.xslc i (.lit 0) (.lit 0) n))=x.v:=by
 obtain ⟨b,c,e1,_⟩:=g.ok.ok
 simp only [SV.aC,S.aC,aD,Int.toNat_zero,h1,h2,Int.toNat_natCast,Ext.sub,e1,Nat.zero_mul,Nat.sub_zero]
 congr 1
 cases b <;> simp [Addr.add]
theorem aDr {ρ:Env} {ι:Loc} {a b c:S} {va vb vc:Value} (ha:SV.aC ρ ι (.s a)=va) (hb:SV.aC ρ ι (.s b)=vb) (hc:SV.aC ρ ι (.s c)=vc):SV.aC ρ ι (.agg [.one a,.one b,.one c])=.agg #[va,vb,vc]:=by
 subst ha;subst hb;subst hc;rfl
theorem sI {ρ:Env} {i a:Nat} {n:E} {x:Ext} {w:World} {k:IntKind} (hx:kN x w [some k]) (h1:ρ.I.xs i 0=x) (h2:n.i ρ=x.n) (h3:(ρ.a.getD a fun _=>0)=bC x 1 0):XI.ok ρ i ⟨n,[(some k,.av a)],[]⟩:=by
 refine ⟨by simp only [h2];omega,by simp only [h1,h2];omega,by rw [h1,hx.sz];rfl,by simp [XI.w],fun q hq f d hf=>?_,fun _ _ q p hp=>(by simp at hp),fun p hp=>(by cases hp)⟩
 simp only [h2] at hq
 have hq:q<x.n:=by omega
 cases f with
 | zero =>
   simp only [List.getElem?_cons_zero,Option.some.injEq] at hf;subst hf
   obtain ⟨z,hz,_⟩:=hx.fit q 0 _ hq rfl
   simp only [List.length_singleton,Nat.mul_one,Nat.add_zero] at hz
   simp only [XI.w,List.length_singleton,List.length_nil,Nat.mul_one,Nat.add_zero,h1,hz,XF.aC,gO,h3,bC,if_pos hq,kE]
 | succ f=>simp at hf
theorem gF {x:Ext} {w:World} {k:IntKind} (hx:kN x w [some k]) (j:Nat):inR (dW k) (bC x 1 0 j):=by
 unfold bC
 split
 ·rename_i h
  obtain ⟨z,hz,hr⟩:=hx.fit j 0 _ h rfl
  simp only [List.length_singleton,Nat.mul_one,Nat.add_zero] at hz
  simp only [Nat.mul_one,Nat.add_zero,hz,kE];exact hr
 ·cases k <;> simp [inR,dW,jF,bZ]
theorem bKW {ρ:Env} {i:Nat} {n:E} {x:Ext} {w:World} (ks:List IntKind) (as:List Nat) (hx:kN x w (ks.map some)) (h0:0<ks.length) (hl:as.length=ks.length) (h1:ρ.I.xs i 0=x) (h2:n.i ρ=x.n)
 (h3:∀ f a,as[f]? = some a→(ρ.a.getD a fun _=>0)=bC x ks.length f):XI.ok ρ i ⟨n,(ks.zip as).map fun p=>(some p.1,.av p.2),[]⟩:=by
 have hlen:((ks.zip as).map fun p=>((some p.1,E.av p.2):XF)).length=ks.length:=by simp [hl]
 refine ⟨by simp only [h2];omega,by simp only [h1,h2];omega,by rw [h1,hx.sz];simp only [XI.w,hlen];simp,by simp only [XI.w,hlen];simpa using h0,fun q hq f d hf=>?_,fun _ _ q p hp=>(by simp at hp),fun p hp=>(by cases hp)⟩
 simp only [h2] at hq
 have hq:q<x.n:=by omega
 simp only [XI.w,hlen,List.length_nil,Nat.add_zero,h1]
 simp only [List.getElem?_map,Option.map_eq_some_iff] at hf
 obtain ⟨⟨k,a⟩,hz,rfl⟩:=hf
 rw [List.getElem?_zip_eq_some] at hz
 obtain ⟨z,hz',_⟩:=hx.fit q f (some k) hq (by simp [hz.1])
 simp only [List.length_map] at hz'
 rw [hz']
 simp only [XF.aC,gO,h3 f a hz.2,bC,if_pos hq,hz',kE]
theorem mF {x:Ext} {w:World} (ks:List IntKind) (hx:kN x w (ks.map some)) (f:Nat) {k:IntKind} (hk:ks[f]? = some k) (j:Nat):inR (dW k) (bC x ks.length f j):=by
 unfold bC
 split
 ·rename_i h
  obtain ⟨z,hz,hr⟩:=hx.fit j f (some k) h (by simp [hk])
  simp only [List.length_map] at hz
  rw [hz];exact hr
 ·cases k <;> simp [inR,dW,jF,bZ]
theorem fL {x:Ext} {w:World} {ks:List (Option IntKind)} (hx:kN x w ks):inR (0,9223372036854775807) (x.n:Int):=by
 have:=hx.len
 unfold maxLen at this
 simp only [inR];omega
structure PFit0 (x:Ext) (ys:Nat→Ext) (w:World):Prop where
 ok:x.ok w
 sz:x.sz=3
 num:∀ k f,k<x.n→f<2→Fit (some .i64) (x.cell (k*3+f))
 nest:∀ k,k<x.n→x.cell (k*3+2)=(ys k).v
 row:∀ k,kN (ys k) w [some .u8]
section
variable {H:Type} {enc:TypeId × Value→H} {P:Program} {w:World} {base:Nat} {spare:Nat→Bool} {held:Bool}
end
theorem aH.join {ρ ρ':Env} {β:dO} {ι ι0 ι':Loc} {m:Mem} {w w':World} {B B':Blk} (hm:aH ρ β ι m w) (h':aH ρ' ⟨w,0,ι0⟩ ι' [B'] w') (hs:m.all (fun B=>B.aF.all (Seg.sc m.length))=true) (hs':B.aF.all (Seg.sc m.length)=true)
 (hc:cellsOf ρ ι B.aF=cellsOf ρ' ι' B'.aF) (hB:B.ty=B'.ty∧B.wr=B'.wr∧B.grow=none∧B'.grow=none∧B.dead=false∧B'.dead=false):aH ρ β (cO ι m.length (ι' 0) 0 false) (m++[B]) w':=by
 obtain ⟨e1,e2,e3,e4,e5,e6⟩:=hB
 have hnil:ι'.nil 0=false:=by
  cases h:ι'.nil 0 with
  | false=>rfl
  | true=>have:=(h'.nils 0 B' rfl e6 h).1;rw [e4] at this;cases this
 have hge:w.heap.size≤ι' 0:=(h'.new 0 (Nat.zero_le _) (by simp)).resolve_right (fun ⟨j,hj,_⟩=>absurd hj (Nat.not_lt_zero _))
 refine hm.push B (ι' 0) 0 false hs hs' (fun b hb=>h'.old b hb fun i hi=>?_) h'.size h'.os h'.tape h'.output hge (fun _ _=>?_) (fun _ h=>by cases h)
 ·have:i=0:=by simpa using hi
  subst this;omega
 ·obtain ⟨fz,rest,h1,h2,h3,h4⟩:=h'.blk 0 B' rfl e6 hnil
  rw [h4 e4,List.append_nil] at h1
  refine ⟨fz,[],by rw [hc,e1,List.append_nil];exact h1,by rw [e2];exact h2,?_,fun _=>rfl⟩
  intro sz h
  rw [e3] at h;cases h
theorem bGW {P:Program} {I:Interp} {Γ:Ctx} {f:FuncId} {H:Hyp} {ρ:Env} (hΓ:cF P I Γ) (hP:P.follows .mixedOrders=true) {k u:Nat} {l:List SV} {nd:List E} {v:S} {hc':aZ} (h:enter P Γ hc' k u f H l []=some (nd,.s v,none))
 (hI:ρ.I=I) (hH:H.ok ρ) (hn:bG ρ nd) (w:World) (hx:∀ i j,(ρ.I.xs i j).ok w) :
 Calls P f (l.map (SV.aC ρ Loc.id)).toArray w fun r w'=>r=.returned ((SV.s v).aC ρ Loc.id)∧RowKit.Below w.heap.size w w' :=
 ((bW hΓ hP k u).ok H l [] nd _ none h ρ ⟨w,0,Loc.id⟩ Loc.id w hI hH hn (aH.empty hx Loc.id)).mono fun r w' hr=>⟨hr.1,hr.2.toBelow⟩
def bMh:List IntKind→List SV→Option (List E)
 | [],[]=>some []
 | k::ks,.s (.int k' e)::l=>if k=k' then (bMh ks l).map (e::·) else none
 | _,_=>none
def sF:Spec:=fun _ l _=>match l with
 | []=>some ([],.s (.bool (.blit true)),none)
 | _=>none
theorem aXc {P:Program} {I:Interp} {Γ:Ctx} {F:FuncId} {hc':aZ} {k u:Nat} (hΓ:∀ I,cF P I Γ) (hP:P.follows .mixedOrders=true) (h:enter P Γ hc' k u F ⟨[],[],[],[],[],[]⟩ [] []=some ([],.s (.bool (.blit true)),none)):bD P I F sF:=by
 constructor
 intro H l m nd v om hs ρ β ι w hI hH hn hm
 unfold sF at hs
 split at hs
 ·simp only [Option.some.injEq,Prod.mk.injEq] at hs
  obtain ⟨rfl,rfl,rfl⟩:=hs
  let ρ0:Env:=⟨[],[],[],[],⟨fun _ _ _ _=>0,fun _ _ _ _=>false,fun _ _ _ _=>fun _=>0,fun _ _=>Ext.none⟩⟩
  have h0:Hyp.ok ⟨[],[],[],[],[],[]⟩ ρ0:=⟨by simp,by simp,by simp,by simp,by simp,by simp⟩
  exact (bGW (hΓ _) hP h (ρ:=ρ0) rfl h0 (by intro e he;cases he) w (fun _ _=>Ext.lQ w)).mono fun e w' ⟨e1,e2⟩=>⟨by rw [e1];rfl,hm.below e2⟩
 ·cases hs
def bTs (l l':List (Nat × Rng)):Bool:=l.all fun p=>l'.any fun q=>decide (q.1=p.1)&&decide (p.2.1≤q.2.1∧q.2.2≤p.2.2)
theorem bEi {l l':List (Nat × Rng)} {T:Nat→Int→Prop} (h:bTs l l'=true) (hl:∀ p ∈ l',∀ z,T p.1 z→inR p.2 z):∀ p ∈ l,∀ z,T p.1 z→inR p.2 z:=fun p hp z hz=>by
 have h1:=List.all_eq_true.1 h p hp
 obtain ⟨q,hq,h2⟩:=List.any_eq_true.1 h1
 simp only [Bool.and_eq_true,decide_eq_true_eq] at h2
 have h3:=hl q hq z (by rw [h2.1];exact hz)
 simp only [inR] at h3 ⊢
 exact ⟨Int.le_trans h2.2.1 h3.1,Int.le_trans h3.2 h2.2.2⟩
def piOf (n:Nat) (l0 l:List SV):List Nat:=(List.range n).map fun b=>match (l0.zip l).find? (fun p=>match p.1 with | .s (.ptr c _)=>c == b | _=>false) with
 | some (_,.s (.ptr d _))=>d
 | _=>0
def orS (s t:Spec):Spec:=fun H l m=>match s H l m with
 | some r=>some r
 | none=>t H l m
theorem kF {P:Program} {I:Interp} {f:FuncId} {s t:Spec} (hs:bD P I f s) (ht:bD P I f t):bD P I f (orS s t):=by
 constructor
 intro H l m nd v om h
 unfold orS at h
 split at h
 ·rename_i r hr
  simp only [Option.some.injEq] at h;subst h
  exact hs.ok H l m nd v om hr
 ·exact ht.ok H l m nd v om h
section
variable {ρ:Env} {β:dO} {ι:Loc} {m m0:Mem} {w w':World} {π:List Nat}
theorem bFt {π:List Nat} (h:π.Nodup):∀ i j p:Nat,π[i]? = some p→π[j]? = some p→i=j:=fun i j p hi hj=>by
 have hi':=(List.getElem?_eq_some_iff.1 hi)
 have hj':=(List.getElem?_eq_some_iff.1 hj)
 exact (List.getElem_inj h).1 (hi'.2.trans hj'.2.symm)
end
def bUL (n:Int) (A:Nat→Int) (md:Int) (j:Nat):Int:=if 0<n then (A ((j:Int)%n).toNat+(j:Int) / n)%md else 0
def lG (b:Int) (j:Nat):Int:=(((j:Int)+(j:Int) / 128)%256*b)%256
def iT (C:Nat→Int) (j:Nat):Int:=if j%3=0 then C (j / 3)%256 else if j%3=1 then C (j / 3) / 256%256 else C (j / 3) / 65536%256
def aFr (N:Nat→Int) (j:Nat):Int:=if j%2=0 then N ((j-6144) / 2)%256 else N ((j-6144) / 2) / 256
def mAt (n:Nat) (C:Nat→Int) (k:Nat) (N:Nat→Int) (b:Int) (j:Nat):Int :=
 if 6144≤j∧j<6144+2*k then aFr N j else if j<3*n then iT C j else if j<8192 then lG b j else 0
def ramF (o:Int) (A:Nat→Int):Nat→Nat→Int
 | 0,_=>0
 | n+1,j=>if j=((o+n)%256).toNat then A n else ramF o A n j
def oS (A:Nat→Int) (j:Nat):Int:=if j%2=0 then A (j / 2)%256 else A (j / 2) / 256%256
def tU (n:Nat) (A:Nat→Int):Int:=(List.range n).foldl (fun s j=>(s*31+A j+7)%4294967296) 1
theorem oU (n:Nat) (A:Nat→Int):tU (n+1) A=(tU n A*31+A n+7)%4294967296:=by
 unfold tU;rw [List.range_succ,List.foldl_append];rfl
theorem yL {A B:Nat→Int}:∀ (n:Nat),(∀ j,j<n→A j=B j)→tU n A=tU n B
 | 0,_=>rfl
 | n+1,h=>by rw [oU,oU,yL n (fun j hj=>h j (by omega)),h n (by omega)]
theorem aGd (n:Nat) (A:Nat→Int):0≤tU n A∧tU n A≤4294967295:=by
 cases n with
 | zero=>simp [tU]
 | succ n=>rw [oU];omega
def sgV (k q p c:Int):Int :=
 if k=1 then (aK .or .u16 q p)
 else if k=2 then (aK .and .u16 q p)
 else if k=3 then (aK .xor .u16 q p)
 else if k=4 then ((q-p)%65536)
 else if k=5 then ((q+p)%65536)
 else if k=6 then (((q-p)-c)%65536)
 else if k=7 then (((q+p)+c)%65536)
 else if k=8 then ((q+65535)%65536)
 else if k=9 then ((q+1)%65536)
 else if k=10 then (65535-q)
 else if k=11 then ((q / 2)+((q / 32768)*32768))
 else if k=12 then (((q%32768)*2)+c)
 else if k=13 then (((q%16384)*4)+3)
 else if k=14 then (((q%4096)*16)+15)
 else if k=15 then (((q%256)*256)+(q / 256))
 else q
def sgF (w k q p c:Int):Int :=
 if k=1 then (((if ((aK .or .u16 q p)≤32767) then 0 else 1)+(if (if (w≤31) then (32768≤(aK .or .u16 q p)) else (¬ (((w / 2)%2)=0))) then 2 else 0))+(if ((aK .or .u16 q p)=0) then 8 else 0))
 else if k=2 then (((if ((aK .and .u16 q p)≤32767) then 0 else 1)+(if (if (w≤31) then (32768≤(aK .and .u16 q p)) else (¬ (((w / 2)%2)=0))) then 2 else 0))+(if ((aK .and .u16 q p)=0) then 8 else 0))
 else if k=3 then (((if ((aK .xor .u16 q p)≤32767) then 0 else 1)+(if (if (w≤31) then (32768≤(aK .xor .u16 q p)) else (¬ (((w / 2)%2)=0))) then 2 else 0))+(if ((aK .xor .u16 q p)=0) then 8 else 0))
 else if k=4 then ((((((((q-p) / 32768)%2)+(if (if (w≤31) then (¬ ((((q-p) / 32768)%2)=0)) else (¬ (((w / 2)%2)=0))) then 2 else 0))+(if (q<p) then 4 else 0))+(if (((q-p)%65536)=0) then 8 else 0))+(if ((32768≤((if (q≤32767) then q else (q+(-65536)))-(if (p≤32767) then p else (p+(-65536)))))∨(((if (q≤32767) then q else (q+(-65536)))-(if (p≤32767) then p else (p+(-65536))))≤(-32769))) then 16 else 0))+(if (if ((32768≤((if (q≤32767) then q else (q+(-65536)))-(if (p≤32767) then p else (p+(-65536)))))∨(((if (q≤32767) then q else (q+(-65536)))-(if (p≤32767) then p else (p+(-65536))))≤(-32769))) then (w≤31) else (32≤w)) then 32 else 0))
 else if k=5 then ((((((((q+p) / 32768)%2)+(if (if (w≤31) then (¬ ((((q+p) / 32768)%2)=0)) else (¬ (((w / 2)%2)=0))) then 2 else 0))+(if ((q+p)≤65535) then 0 else 4))+(if (((q+p)%65536)=0) then 8 else 0))+(if ((32768≤((if (q≤32767) then q else (q+(-65536)))+(if (p≤32767) then p else (p+(-65536)))))∨(((if (q≤32767) then q else (q+(-65536)))+(if (p≤32767) then p else (p+(-65536))))≤(-32769))) then 16 else 0))+(if (if ((32768≤((if (q≤32767) then q else (q+(-65536)))+(if (p≤32767) then p else (p+(-65536)))))∨(((if (q≤32767) then q else (q+(-65536)))+(if (p≤32767) then p else (p+(-65536))))≤(-32769))) then (w≤31) else (32≤w)) then 32 else 0))
 else if k=6 then (((((((((q-p)-c) / 32768)%2)+(if (if (w≤31) then (¬ (((((q-p)-c) / 32768)%2)=0)) else (¬ (((w / 2)%2)=0))) then 2 else 0))+(if (q<(p+c)) then 4 else 0))+(if ((((q-p)-c)%65536)=0) then 8 else 0))+(if ((32768≤((if (q≤32767) then q else (q+(-65536)))-(if (p≤32767) then p else (p+(-65536)))))∨(((if (q≤32767) then q else (q+(-65536)))-(if (p≤32767) then p else (p+(-65536))))≤(-32769))) then 16 else 0))+(if (if ((32768≤((if (q≤32767) then q else (q+(-65536)))-(if (p≤32767) then p else (p+(-65536)))))∨(((if (q≤32767) then q else (q+(-65536)))-(if (p≤32767) then p else (p+(-65536))))≤(-32769))) then (w≤31) else (32≤w)) then 32 else 0))
 else if k=7 then (((((((((q+p)+c) / 32768)%2)+(if (if (w≤31) then (¬ (((((q+p)+c) / 32768)%2)=0)) else (¬ (((w / 2)%2)=0))) then 2 else 0))+(if (((q+p)+c)≤65535) then 0 else 4))+(if ((((q+p)+c)%65536)=0) then 8 else 0))+(if ((32768≤((if (q≤32767) then q else (q+(-65536)))+(if (p≤32767) then p else (p+(-65536)))))∨(((if (q≤32767) then q else (q+(-65536)))+(if (p≤32767) then p else (p+(-65536))))≤(-32769))) then 16 else 0))+(if (if ((32768≤((if (q≤32767) then q else (q+(-65536)))+(if (p≤32767) then p else (p+(-65536)))))∨(((if (q≤32767) then q else (q+(-65536)))+(if (p≤32767) then p else (p+(-65536))))≤(-32769))) then (w≤31) else (32≤w)) then 32 else 0))
 else if k=8 then (((((((((q+32767) / 32768)+1)%2)+(if (if (w≤31) then (¬ (((((q+32767) / 32768)+1)%2)=0)) else (¬ (((w / 2)%2)=0))) then 2 else 0))+(if (q≤0) then 4 else 0))+(if (((q+65535)%65536)=0) then 8 else 0))+(if (((if (q≤32767) then q else (q+(-65536)))+(-1))≤(-32769)) then 16 else 0))+(if (if (((if (q≤32767) then q else (q+(-65536)))+(-1))≤(-32769)) then (w≤31) else (32≤w)) then 32 else 0))
 else if k=9 then ((((((((q+1) / 32768)%2)+(if (if (w≤31) then (¬ ((((q+1) / 32768)%2)=0)) else (¬ (((w / 2)%2)=0))) then 2 else 0))+(if ((q+1)≤65535) then 0 else 4))+(if (((q+1)%65536)=0) then 8 else 0))+(if ((32768≤((if (q≤32767) then q else (q+(-65536)))+1))∨(((if (q≤32767) then q else (q+(-65536)))+1)≤(-32769))) then 16 else 0))+(if (if ((32768≤((if (q≤32767) then q else (q+(-65536)))+1))∨(((if (q≤32767) then q else (q+(-65536)))+1)≤(-32769))) then (w≤31) else (32≤w)) then 32 else 0))
 else if k=10 then (((if ((65535-q)≤32767) then 0 else 1)+(if (if (w≤31) then (32768≤(65535-q)) else (¬ (((w / 2)%2)=0))) then 2 else 0))+(if ((65535-q)=0) then 8 else 0))
 else if k=11 then ((((if (((q / 2)+((q / 32768)*32768))≤32767) then 0 else 1)+(if (if (w≤31) then (32768≤((q / 2)+((q / 32768)*32768))) else (¬ (((w / 2)%2)=0))) then 2 else 0))+(if ((q%2)=0) then 0 else 4))+(if (((q / 2)+((q / 32768)*32768))=0) then 8 else 0))
 else if k=12 then ((((if ((((q%32768)*2)+c)≤32767) then 0 else 1)+(if (if (w≤31) then (32768≤(((q%32768)*2)+c)) else (¬ (((w / 2)%2)=0))) then 2 else 0))+(if (q≤32767) then 0 else 4))+(if ((((q%32768)*2)+c)=0) then 8 else 0))
 else if k=13 then ((if ((((q%16384)*4)+3)≤32767) then 0 else 1)+(if (if (w≤31) then (32768≤(((q%16384)*4)+3)) else (¬ (((w / 2)%2)=0))) then 2 else 0))
 else if k=14 then ((if ((((q%4096)*16)+15)≤32767) then 0 else 1)+(if (if (w≤31) then (32768≤(((q%4096)*16)+15)) else (¬ (((w / 2)%2)=0))) then 2 else 0))
 else if k=15 then (((if ((((q%256)*256)+(q / 256))≤32767) then 0 else 1)+(if (if (w≤31) then (32768≤(((q%256)*256)+(q / 256))) else (¬ (((w / 2)%2)=0))) then 2 else 0))+(if ((((q%256)*256)+(q / 256))=0) then 8 else 0))
 else w
def tm1 (p:Int) (o:Bool) (T:Int) (s:Int × Int × Int):Int × Int × Int :=
 if (s.1+1)%p=0∧o=true then (if (s.2.1+1)%256=T then ((s.1+1)%p,0,(s.2.2+1)%16) else ((s.1+1)%p,(s.2.1+1)%256,s.2.2)) else ((s.1+1)%p,s.2.1,s.2.2)
def tmN (p:Int) (o:Bool) (T:Int):Nat→Int × Int × Int→Int × Int × Int
 | 0,s=>s
 | n+1,s=>tm1 p o T (tmN p o T n s)
def perT (k:Nat):Int:=if k=2 then 16 else 128
def tmv (k:Nat) (is:List Int) (bs:List Bool):Int × Int × Int:=tmN (perT k) (bs.getD 5 false) (is.getD 1 0) (is.getD 0 0).toNat (is.getD 2 0,is.getD 3 0,is.getD 4 0)
def setB (x b o:Int):Int:=(x-x / b%2*b+o*b)%65536
def Ifa:Nat→List Int→List Bool→List (Nat→Int)→Nat→Int
 | 0,is,_,xs=>bUL (is.getD 0 0) (xs.getD 1 fun _=>0) 65536
 | 1,is,_,xs=>bUL (is.getD 0 0) (xs.getD 1 fun _=>0) 256
 | 2,is,_,xs=>bUL (is.getD 0 0) (xs.getD 1 fun _=>0) 32768
 | 20,is,_,xs=>fun j=>mAt (min (is.getD 0 0).toNat 2048) (xs.getD 1 fun _=>0) (min (is.getD 2 0).toNat 1024) (xs.getD 3 fun _=>0) (is.getD 4 0) j%256
 | 21,is,_,xs=>fun j=>ramF (is.getD 0 0) (xs.getD 2 fun _=>0) (is.getD 1 0).toNat j%65536
 | 50,_,_,xs=>oS (xs.getD 0 fun _=>0)
 | _,_,_,_=>fun _=>0
def Ifi:Nat→List Int→List Bool→List (Nat→Int)→Int
 | 10,is,_,xs=>tU (is.getD 0 0).toNat (xs.getD 1 fun _=>0)
 | 30,is,bs,_=>(tmv 0 is bs).1
 | 31,is,bs,_=>(tmv 1 is bs).1
 | 32,is,bs,_=>(tmv 2 is bs).1
 | 33,is,bs,_=>(tmv 0 is bs).2.1
 | 34,is,bs,_=>(tmv 1 is bs).2.1
 | 35,is,bs,_=>(tmv 2 is bs).2.1
 | 36,is,bs,_=>(tmv 0 is bs).2.2
 | 37,is,bs,_=>(tmv 1 is bs).2.2
 | 38,is,bs,_=>(tmv 2 is bs).2.2
 | 40,is,_,_=>sgV (is.getD 0 0) (is.getD 1 0) (is.getD 2 0) (is.getD 3 0)%65536
 | 41,is,_,_=>sgF (is.getD 0 0) (is.getD 1 0) (is.getD 2 0) (is.getD 3 0) (is.getD 4 0)%64
 | 43,is,_,_=>setB (is.getD 0 0) (is.getD 1 0) (is.getD 2 0)
 | _,_,_,_=>0
def bPH (n:Nat) (z:Int) (A:Nat→Int):Bool:=(List.range n).all fun j=>decide (A j<z)
def Ifb:Nat→List Int→List Bool→List (Nat→Int)→Bool
 | 60,is,_,xs=>bPH (is.getD 0 0).toNat (is.getD 1 0) (xs.getD 2 fun _=>0)
 | _,_,_,_=>false
def Iv (xs:Nat→Nat→Ext):Interp:=⟨Ifi,Ifb,Ifa,xs⟩
def bNf (H:Hyp) (k:IntKind):SV→Option (E × E)
 | .s (.xslc i (.lit 0) (.lit 0) n)=>match oK H.x i with
   | some ⟨n',[(some k',.av a)],[]⟩=>match nL H.a a with
     | some (p,q)=>if n=n'∧k=k'∧jF k≤p∧q≤bZ k∧dL H maxLen n=true then some (n,.av a) else none
     | none=>none
   | _=>none
 | .s .nilSlc=>some (.lit 0,.tab [])
 | _=>none
section
variable {ρ:Env} {β:dO} {ι:Loc} {m:Mem} {w:World} {H:Hyp} {P:Program} {I:Interp}
theorem bEy (hH:H.ok ρ) (hm:aH ρ β ι m w) {k:IntKind} {v:SV} {p:E × E} (h:bNf H k v=some p):∃ x:Ext,kN x w [some k]∧v.aC ρ ι=x.v∧(x.n:Int)=p.1.i ρ∧∀ j:Nat,(j:Int)<x.n→bC x 1 0 j=p.2.a ρ j:=by
 unfold bNf at h
 split at h
 ·rename_i i n
  split at h
  ·rename_i n' k' a hx
   split at h
   ·rename_i p0 q0 ha
    split at h
    ·rename_i hc
     obtain ⟨rfl,rfl,h1,h2,h3⟩:=hc
     simp only [Option.some.injEq] at h;subst h
     have hX:XI.ok ρ i ⟨n,[(some k,.av a)],[]⟩:=hH.x _ (iG hx)
     have hmax:=bK hH h3
     have hn:(ρ.I.xs i 0).n=(n.i ρ).toNat:=hX.n
     have hpos:0≤n.i ρ:=hX.pos
     have hcell:∀ j,j<(n.i ρ).toNat→(ρ.I.xs i 0).cell j=.int k ((E.av a).a ρ j):=fun j hj=>by
      have:=hX.cell j hj 0 _ rfl
      simpa [XF.aC,XI.w] using this
     have hr:∀ j,inR (p0,q0) ((E.av a).a ρ j):=fun j=>hH.a _ (gG ha) j
     obtain ⟨b,c,e1,e2,e3,e4⟩:=(hm.aAh i 0).ok
     refine ⟨ρ.I.xs i 0,⟨hm.aAh i 0,hX.sz,fun j f kd hj hf=>?_,by rw [hn];unfold maxLen at hmax ⊢;omega⟩,?_,by simp only [hn];omega,fun j hj=>?_⟩
     ·cases f with
      | zero =>
        simp only [List.getElem?_cons_zero,Option.some.injEq] at hf;subst hf
        simp only [List.length_singleton,Nat.mul_one,Nat.add_zero]
        refine ⟨_,hcell j (by omega),?_⟩
        have:=hr j
        simp only [inR,dW] at this ⊢;omega
      | succ f=>simp at hf
     ·show (ρ.I.xs i (E.i ρ (.lit 0)).toNat).sub (E.i ρ (.lit 0)).toNat (n.i ρ).toNat=(ρ.I.xs i 0).v
      simp only [aD,Int.toNat_zero,Ext.sub,e1,Nat.zero_mul,Nat.sub_zero,← hn]
      congr 1
      cases b <;> simp [Addr.add]
     ·have hj':j<(ρ.I.xs i 0).n:=by omega
      simp only [bC,if_pos hj',Nat.mul_one,Nat.add_zero,hcell j (by omega),kE]
    ·cases h
   ·cases h
  ·cases h
 ·simp only [Option.some.injEq] at h;subst h
  exact ⟨Ext.none,⟨Ext.lQ w,rfl,fun j f kd hj=>absurd hj (Nat.not_lt_zero _),Nat.zero_le _⟩,rfl,rfl,fun j hj=>by exfalso;simp only [Ext.none] at hj;omega⟩
 ·cases h
end
structure XS where
 ph:Ph
 todo:List Item
 H:Hyp
 fr:Fr
 m:Mem
def bGY (H:Hyp) (m:Mem):SV→Bool
 | .s .nilSlc=>true
 | .s (.slc b off len (.kn c))=>leH H len c
 | .s (.slc b off len (.op k))=>match m[b]? with
   | some B=>decide (B.grow=some 1∧off=k)&&aL H 0 k&&(match mX H 1 B.aF with | some q=>leA H off len q | none=>false)
   | none=>false
 | .s (.xslc i (.lit 0) off len)=>match oK H.x i with
   | some x=>aL H 0 off&&leH H (mkAdd off len) x.n
   | none=>false
 | .s (.xslc i j off len)=>match aFo H.x i with
   | some (L,_)=>aL H 0 j&&aL H 0 off&&leH H (mkAdd off len) (dZ H L j)
   | none=>false
 | .s (.xtl _ _ _ _)=>true
 | _=>false
def nG (H:Hyp) (k:IntKind):E→Bool
 | .av n=>match nL H.a n with | some (p,q)=>decide (jF k≤p∧q≤bZ k) | none=>false
 | .app f _=>match nL H.fa f with | some (p,q)=>decide (jF k≤p∧q≤bZ k) | none=>false
 | .tab l=>decide (jF k≤0∧0≤bZ k)&&l.all fun z=>decide (jF k≤z∧z≤bZ k)
 | .upd A _ x=>nG H k A&&within H k x
 | .blt A _ _ B _=>nG H k A&&nG H k B
 | .ite _ A B=>nG H k A&&nG H k B
 | _=>false
def aDp (H:Hyp) (k:IntKind) (l:List Seg):Bool:=l.all fun
 | .one (.int _ x)=>within H k x
 | .run _ _ A _=>nG H k A
 | _=>false
def zV (H:Hyp) (m:Mem) (k:IntKind) (x:SV):Option (List Seg × E):=match yK H m 1 x with
 | some (L,q)=>if fJ k L&&aDp H k L&&bGY H m x&&dL H maxLen q then some (L,q) else none
 | none=>none
section
variable {ρ:Env} {ι:Loc} {H:Hyp} {P:Program} {w:World} {β:dO} {m:Mem} {fr:Fr} {n:Nat} {a:Act}
theorem bGQ (hH:H.ok ρ) {k:IntKind}:∀ {A:E},nG H k A=true→∀ j,inR (dW k) (A.a ρ j):=by
 have w_:∀ {x:E},within H k x=true→inR (dW k) (x.i ρ):=fun {x} h=>by
  unfold within at h
  split at h
  ·rename_i p q hr
   have:=dH hH _ _ hr
   simp only [Bool.and_eq_true,decide_eq_true_eq] at h
   simp only [inR,dW] at this ⊢;omega
  ·cases h
 intro A
 induction A with
 | av n =>
   intro h j
   simp only [nG] at h
   split at h
   ·rename_i p q hl
    simp only [decide_eq_true_eq] at h
    have:=hH.a _ (gG hl) j
    simp only [inR,dW] at this ⊢
    rw [gO]
    exact ⟨Int.le_trans h.1 this.1,Int.le_trans this.2 h.2⟩
   ·cases h
 | app f x =>
   intro h j
   simp only [nG] at h
   split at h
   ·rename_i p q hl
    simp only [decide_eq_true_eq] at h
    have:=hH.fa _ (gG hl) (den ρ x).is (den ρ x).bs (den ρ x).xs j
    simp only [inR,dW] at this ⊢
    rw [aKW];omega
   ·cases h
 | tab l =>
   intro h j
   simp only [nG,Bool.and_eq_true,decide_eq_true_eq,List.all_eq_true] at h
   rw [cI]
   simp only [inR,dW]
   cases hj:l[j]? with
   | none=>simp only [List.getD_eq_getElem?_getD,hj,Option.getD_none];exact h.1
   | some z=>simp only [List.getD_eq_getElem?_getD,hj,Option.getD_some];exact h.2 z (List.mem_of_getElem? hj)
 | upd A i x ih _ _ =>
   intro h j
   simp only [nG,Bool.and_eq_true] at h
   rw [cS]
   simp only
   split
   ·exact w_ h.2
   ·exact ih h.1 j
 | blt A i n B q ih _ _ ih2 _ =>
   intro h j
   simp only [nG,Bool.and_eq_true] at h
   rw [qH]
   simp only
   split
   ·exact ih2 h.2 _
   ·exact ih h.1 j
 | ite c A B _ ih ih2 =>
   intro h j
   simp only [nG,Bool.and_eq_true] at h
   rw [cK]
   split
   ·exact ih h.1 j
   ·exact ih2 h.2 j
 | _=>intro h;simp [nG] at h
theorem yI (hH:H.ok ρ) {k:IntKind}:∀ {l:List Seg},fJ k l=true→aDp H k l=true→∀ v ∈ cellsOf ρ ι l,∃ z,v=.int k z∧inR (dW k) z
 | [],_,_,v,hv=>by simp [cellsOf] at hv
 | x::l,h,hr,v,hv=>by
   simp only [fJ,aDp,List.all_cons,Bool.and_eq_true] at h hr
   rw [aE,List.mem_append] at hv
   rcases hv with hv | hv
   ·cases x with
    | one s =>
      cases s <;> simp only [Bool.false_eq_true,decide_eq_true_eq,false_and] at h
      rename_i k' e
      obtain ⟨rfl,_⟩:=h
      simp only [Seg.cells,List.mem_singleton] at hv
      refine ⟨_,hv,?_⟩
      have h1:=hr.1
      simp only at h1
      unfold within at h1
      split at h1
      ·rename_i p q hrr
       have:=dH hH _ _ hrr
       simp only [Bool.and_eq_true,decide_eq_true_eq] at h1
       simp only [inR,dW] at this ⊢;omega
      ·cases h1
    | run k' nn A o =>
      simp only [decide_eq_true_eq] at h
      obtain ⟨rfl,_⟩:=h
      simp only [Seg.cells,List.mem_map] at hv
      obtain ⟨j,_,rfl⟩:=hv
      exact ⟨_,rfl,bGQ hH hr.1 _⟩
    | rows _ _ _=>simp at h
   ·exact yI hH (l:=l) h.2 hr.2 v hv
theorem qD (hH:H.ok ρ) (hm:aH ρ β ι m w) {k:IntKind} {x:SV} {L:List Seg} {q:E} (h:zV H m k x=some (L,q)) :
 0≤q.i ρ∧(cellsOf ρ ι L).length=(q.i ρ).toNat∧∃ X:Ext,kN X w [some k]∧x.aC ρ ι=X.v∧(X.n:Int)=q.i ρ∧∀ j,X.cell j=((cellsOf ρ ι L)[j]?).getD Go.undef:=by
 unfold zV at h
 split at h
 ·rename_i L' q' hr
  split at h
  ·rename_i hc
   simp only [Bool.and_eq_true] at hc
   obtain ⟨⟨⟨hk,hrg⟩,hcap⟩,hmx⟩:=hc
   simp only [Option.some.injEq,Prod.mk.injEq] at h;obtain ⟨rfl,rfl⟩:=h
   obtain ⟨hq0,hlen,base,C,hxc,hcell⟩:=lU (ι:=ι) hH hm (Nat.one_pos) hr
   rw [Nat.mul_one] at hlen
   have hmx:=bK hH hmx
   have hC:(q'.i ρ).toNat≤C∧(base=none→(q'.i ρ).toNat=0∧C=0)∧∀ ad,base=some ad→0<(q'.i ρ).toNat→ad.block<w.heap.size:=by
    have blk:∀ ad,base=some ad→0<(q'.i ρ).toNat→ad.block<w.heap.size:=by
     intro ad hb hp
     obtain ⟨ad',hb',hcl⟩:=hcell hp
     rw [hb] at hb';simp only [Option.some.injEq] at hb';subst hb'
     have h0:0<(cellsOf ρ ι L').length:=by omega
     have:=hcl 0 _ (List.getElem?_eq_getElem h0)
     rw [Addr.add_zero'] at this
     unfold World.cell? at this
     split at this
     ·rename_i hh;exact (Array.getElem?_eq_some_iff.1 hh).1
     ·cases this
    refine ⟨?_,?_,blk⟩
    ·unfold bGY at hcap
     split at hcap
     ·simp only [yK,Option.some.injEq,Prod.mk.injEq] at hr;obtain ⟨_,rfl⟩:=hr;rw [aD];simp
     ·rename_i b off len c
      have hle:=nS hH hcap
      simp only [SV.aC,S.aC,Value.slice.injEq] at hxc
      obtain ⟨_,h1,h2⟩:=hxc
      omega
     ·rename_i b off len kk
      split at hcap
      ·rename_i B hB
       simp only [Bool.and_eq_true,decide_eq_true_eq] at hcap
       obtain ⟨⟨⟨hg,rfl⟩,hk0⟩,hcap⟩:=hcap
       have hk0:=aG hH hk0
       split at hcap
       ·rename_i qq hqq
        have hle:=aFl hH hcap
        obtain ⟨hqq0,hql⟩:=iJ (ι:=ι) hH hqq
        have hd:B.dead=false:=by
         simp only [yK,hB] at hr
         split at hr
         ·cases hr
         ·rename_i hd;simpa using hd
        simp only [SV.aC,S.aC] at hxc
        split at hxc
        ·rename_i hnl
         simp only [Value.slice.injEq] at hxc
         omega
        ·rename_i hnl
         simp only [Value.slice.injEq] at hxc
         obtain ⟨_,h1,h2⟩:=hxc
         cases hnil:ι.nil b with
         | true =>
           have:=(hm.nils b B hB hd hnil).2
           rw [this] at hql
           simp only [List.length_nil,Nat.mul_one] at hql
           rw [hnil] at hnl
           omega
         | false =>
           obtain ⟨fz,rest,_,_,k3,_⟩:=hm.blk b B hB hd hnil
           have k3:=(k3 1 hg).1
           rw [List.length_append,hql] at k3
           omega
       ·cases hcap
      ·cases hcap
     ·rename_i i off len
      split at hcap
      ·rename_i xi hx
       simp only [Bool.and_eq_true] at hcap
       obtain ⟨ho,hcap⟩:=hcap
       have ho:=aG hH ho
       have hle:=nS hH hcap
       rw [aJ] at hle
       have hX:=hH.x _ (iG hx)
       obtain ⟨b,c,hv,hnc,hb0,_⟩:=(hm.aAh i 0).ok
       have hn:(ρ.I.xs i 0).n=(xi.n.i ρ).toNat:=hX.n
       simp only [SV.aC,S.aC,Ext.sub,aD,Int.toNat_zero,hv,Value.slice.injEq] at hxc
       obtain ⟨_,h1,h2⟩:=hxc
       omega
      ·cases hcap
     ·rename_i i j off len _
      split at hcap
      ·rename_i L' A' hx
       simp only [Bool.and_eq_true] at hcap
       obtain ⟨⟨hj,ho⟩,hcap⟩:=hcap
       have hj:=aG hH hj
       have ho:=aG hH ho
       have hle:=nS hH hcap
       rw [aJ,fY hH] at hle
       obtain ⟨⟨i0,xi⟩,hq,hp⟩:=xO hx
       obtain ⟨r0,rn,rs,rc⟩:=(hH.x _ hq).row _ hp (j.i ρ).toNat
       simp only at r0 rn rs rc
       obtain ⟨b,c,hv,hnc,hb0,_⟩:=(hm.aAh i (j.i ρ).toNat).ok
       simp only [SV.aC,S.aC,Ext.sub,hv,Value.slice.injEq] at hxc
       obtain ⟨_,h1,h2⟩:=hxc
       omega
      ·cases hcap
     ·rename_i i j o off
      obtain ⟨b,c,hv,hnc,hb0,_⟩:=(hm.aAh i (j.i ρ).toNat).ok
      simp only [SV.aC,S.aC,Ext.tl,hv,Value.slice.injEq] at hxc
      omega
     ·cases hcap
    ·intro hb
     subst hb
     have hz:(q'.i ρ).toNat=0:=by
      rcases Nat.eq_zero_or_pos (q'.i ρ).toNat with h | h
      ·exact h
      ·obtain ⟨ad,h1,_⟩:=hcell h;cases h1
     refine ⟨hz,?_⟩
     unfold bGY at hcap
     split at hcap
     ·simp only [SV.aC,S.aC,Value.slice.injEq] at hxc;exact hxc.2.2.symm
     ·simp only [SV.aC,S.aC,Value.slice.injEq,reduceCtorEq,false_and] at hxc
     ·simp only [SV.aC,S.aC] at hxc
      split at hxc
      ·simp only [Value.slice.injEq] at hxc;exact hxc.2.2.symm
      ·simp only [Value.slice.injEq,reduceCtorEq,false_and] at hxc
     ·rename_i i off len
      obtain ⟨b,c,hv,hnc,hb0,_⟩:=(hm.aAh i 0).ok
      simp only [SV.aC,S.aC,Ext.sub,aD,Int.toNat_zero,hv,Value.slice.injEq] at hxc
      obtain ⟨h0,h1,h2⟩:=hxc
      cases b with
      | none=>have:=(hb0 rfl).2;omega
      | some ad=>simp at h0
     ·rename_i i j off len _
      obtain ⟨b,c,hv,hnc,hb0,_⟩:=(hm.aAh i (j.i ρ).toNat).ok
      simp only [SV.aC,S.aC,Ext.sub,hv,Value.slice.injEq] at hxc
      obtain ⟨h0,h1,h2⟩:=hxc
      cases b with
      | none=>have:=(hb0 rfl).2;omega
      | some ad=>simp at h0
     ·rename_i i j o off
      obtain ⟨b,c,hv,hnc,hb0,_⟩:=(hm.aAh i (j.i ρ).toNat).ok
      simp only [SV.aC,S.aC,Ext.tl,hv,Value.slice.injEq] at hxc
      obtain ⟨h0,h1,h2⟩:=hxc
      cases b with
      | none=>have:=(hb0 rfl).2;omega
      | some ad=>simp at h0
     ·cases hcap
   refine ⟨hq0,hlen,⟨x.aC ρ ι,(q'.i ρ).toNat,1,fun j=>((cellsOf ρ ι L')[j]?).getD Go.undef⟩,⟨⟨base,C,hxc,hC.1,hC.2.1,fun ad hb j hj=>?_⟩,rfl,fun j f kd hj hf=>?_,by show (q'.i ρ).toNat≤maxLen;omega⟩,rfl,by show ((q'.i ρ).toNat:Int)=q'.i ρ;omega,fun j=>rfl⟩
   ·have hj:j<(q'.i ρ).toNat:=by simpa using hj
    obtain ⟨ad',hb',hcl⟩:=hcell (by omega)
    rw [hb] at hb';simp only [Option.some.injEq] at hb';subst hb'
    refine ⟨hC.2.2 ad hb (by omega),?_⟩
    have hjl:j<(cellsOf ρ ι L').length:=by omega
    rw [hcl j _ (List.getElem?_eq_getElem hjl)]
    simp [List.getElem?_eq_getElem hjl]
   ·have hjl:j<(cellsOf ρ ι L').length:=by
     have hj:j<(q'.i ρ).toNat:=hj
     omega
    obtain ⟨z,hz,hzr⟩:=yI hH hk hrg _ (List.getElem_mem hjl)
    cases f with
    | zero =>
      simp only [List.getElem?_cons_zero,Option.some.injEq] at hf;subst hf
      exact ⟨z,by simp [List.getElem?_eq_getElem hjl,hz],hzr⟩
    | succ f=>simp at hf
  ·cases h
 ·cases h
end
def bPG (H:Hyp) (q:E) (l:List Seg):Option E:=match q with
 | .lit z=>if z≤64 then (match gA l with
    | some xs=>aGl H (xs.map Seg.one)
    | none=>aGl H l) else aGl H l
 | _=>aGl H l
theorem bLb {ρ:Env} {ι:Loc} {H:Hyp} (hH:H.ok ρ) {q:E} {l:List Seg} {A:E} (h:bPG H q l=some A):∀ j,j<(cellsOf ρ ι l).length→A.a ρ j=kE (((cellsOf ρ ι l)[j]?).getD Go.undef):=by
 have key:∀ xs:List S,cellsOf ρ ι (xs.map Seg.one)=xs.map (S.aC ρ ι):=by
  intro xs
  induction xs with
  | nil=>rfl
  | cons x xs ih=>rw [List.map_cons,aE,aX,ih];rfl
 unfold bPG at h
 split at h
 ·split at h
  ·split at h
   ·rename_i xs hx
    intro j hj
    have:=pB (ι:=ι) hH h j
    rw [key xs,← eJ hx] at this
    exact this hj
   ·exact pB hH h
  ·exact pB hH h
 ·exact pB hH h
def bAk (P:Program) (F:FuncId):Prop:=∀ (x:Ext) (w:World),kN x w [some .u8]→Calls P F #[x.v] w fun e w'=>e=.returned (.int .u32 (tU x.n (bC x 1 0)))∧RowKit.Below w.heap.size w w'
def bGa (q A:E):E:=.app 10 (.cons q (.cons A .nil))
def small (q:E):Bool:=match q with
 | .lit z=>decide (z≤12)
 | _=>false
def bEh:Spec:=fun H l m=>match l with
 | [x]=>match zV H m .u8 x with
   | some (L,q)=>if small q then none else match bPG H q L with
     | some A=>some ([],.s (.int .u32 (bGa q A)),none)
     | none=>none
   | none=>none
 | _=>none
def dK:Spec:=fun H l m=>match l with
 | [x]=>match zV H m .u8 x with
   | some (L,q)=>match aGl H L with
     | some A=>some ([],.s (.int .u32 (bGa q A)),none)
     | none=>none
   | none=>none
 | _=>none
def bAg (P:Program) (F:FuncId):Prop:=∀ (x y:Ext) (w:World),kN x w [some .u8]→kN y w [some .u8] →
 Calls P F #[x.v,y.v] w fun e w'=>e=.returned (.bool (decide (x.n=y.n∧∀ j,j<x.n→bC x 1 0 j=bC y 1 0 j)))∧RowKit.Below w.heap.size w w'
def yT (H:Hyp):Nat→List Seg→List Seg→Option E
 | 0,_,_=>none
 | k+1,l,r=>match l,r with
   | [],[]=>some (.blit true)
   | .one (.int _ x)::l,.one (.int _ y)::r=>(yT H k l r).map (mkAnd (mkEq H x y))
   | .run _ n A o::l,.run _ n' A' o'::r=>if n=n' then (yT H k l r).map (mkAnd (if A=A'∧o=o' then .blit true else .aeq false n A A' o o')) else (match n,n' with
     | .lit z,.lit z'=>if 0<z∧0<z' then
        (if z<z' then (yT H k l (.run .u8 (.lit (z'-z)) A' (o'+z.toNat)::r)).map (mkAnd (if A=A'∧o=o' then .blit true else .aeq false (.lit z) A A' o o'))
         else (yT H k (.run .u8 (.lit (z-z')) A (o+z'.toNat)::l) r).map (mkAnd (if A=A'∧o=o' then .blit true else .aeq false (.lit z') A A' o o'))) else none
     | _,_=>none)
   | .one (.int _ x)::l,.run _ (.lit n) A o::r=>if 0<n then (yT H k l (.run .u8 (.lit (n-1)) A (o+1)::r)).map (mkAnd (mkEq H x (dZ H A (.lit o)))) else yT H k (.one (.int .u8 x)::l) r
   | .run _ (.lit n) A o::l,.one (.int _ x)::r=>if 0<n then (yT H k (.run .u8 (.lit (n-1)) A (o+1)::l) r).map (mkAnd (mkEq H (dZ H A (.lit o)) x)) else yT H k l (.one (.int .u8 x)::r)
   | .run _ (.lit n) _ _::l,[]=>if n≤0 then yT H k l [] else none
   | [],.run _ (.lit n) _ _::r=>if n≤0 then yT H k [] r else none
   | _,_=>none
def bGV (H:Hyp) (L L':List Seg) (q q':E):Option E:=match mkEq H q q' with
 | .blit false=>some (.blit false)
 | _=>if L=L' then some (.blit true) else yT H 100000 L L'
def gH:Spec:=fun H l m=>match l with
 | [x,y]=>match zV H m .u8 x,zV H m .u8 y with
   | some (L,q),some (L',q')=>(bGV H L L' q q').map fun c=>([],.s (.bool c),none)
   | _,_=>none
 | _=>none
def bGA (P:Program) (F:FuncId) (ty:TypeId):Prop:=∀ (x:Ext) (w:World),kN x w [some .u8]→x.n≤67108864 →
 Calls P F #[x.v] w fun e w'=>∃ (ρ':Env) (ι':Loc) (B':Blk),e=.returned (.slice (some ⟨ι'.pos 0,0,none⟩) x.n x.n)∧aH ρ' ⟨w,0,Loc.id⟩ ι' [B'] w'∧B'.ty=ty∧B'.wr=true∧B'.grow=none∧B'.dead=false ∧
  cellsOf ρ' ι' B'.aF=(List.range x.n).map fun j=>Value.int .u8 (bC x 1 0 j)
def bMm (H:Hyp):Seg→Seg
 | .run k n A o=>.run k (aGq H n) A o
 | s=>s
def aYM (H:Hyp) (L:List Seg):List Seg:=L.map (bMm H)
theorem bDF {H:Hyp} {ρ:Env} {ι:Loc} (hH:H.ok ρ):∀ L:List Seg,cellsOf ρ ι (aYM H L)=cellsOf ρ ι L
 | []=>rfl
 | s::L=>by
   rw [show aYM H (s::L)=bMm H s::aYM H L from rfl,aE,aE,bDF hH L]
   congr 1
   cases s <;> simp only [bMm,Seg.cells,aFm hH]
theorem bDG {H:Hyp} {n:Nat}:∀ {L:List Seg},L.all (Seg.sc n)=true→(aYM H L).all (Seg.sc n)=true
 | [],_=>rfl
 | s::L,h=>by
   simp only [List.all_cons,Bool.and_eq_true] at h
   rw [show aYM H (s::L)=bMm H s::aYM H L from rfl,List.all_cons,bDG h.2,Bool.and_true]
   cases s <;> first | exact h.1 | rfl
def gD (ty:TypeId):Spec:=fun H l m=>match l with
 | [x]=>match zV H m .u8 x with
   | some (L,q)=>if dL H 67108864 q&&m.all (fun B=>B.aF.all (Seg.sc m.length)) then some ([],.s (.slc m.length (.lit 0) (aGq H q) (.kn (aGq H q))),some (m++[⟨ty,aYM H L,true,none,false⟩])) else none
   | none=>none
 | _=>none
theorem aH.bMI {ρ ρ':Env} {β:dO} {ι:Loc} {B B':Blk} {w:World} (hm:aH ρ β ι [B] w) (hI:ρ'.I=ρ.I) (h:cellsOf ρ' ι B'.aF=cellsOf ρ ι B.aF) (e1:B'.ty=B.ty) (e2:B'.wr=B.wr) (e3:B'.grow=B.grow) (e4:B'.dead=B.dead):aH ρ' β ι [B'] w:=by
 have at0:∀ {i:Nat} {C:Blk},[B'][i]? = some C→i=0∧C=B':=fun {i C} hC=>by
  cases i with
  | zero=>simp only [List.getElem?_cons_zero,Option.some.injEq] at hC;exact ⟨rfl,hC.symm⟩
  | succ i=>simp at hC
 refine ⟨fun i j C D hC hD _ _ _ _ _=>?_,fun i C hC hCd hCn=>?_,fun i C hC hCd hCn=>?_,hm.agr,hm.len,hm.new,hm.size,hm.old,hm.os,hm.tape,hm.output,by rw [hI];exact hm.xt,by rw [hI];exact hm.xd⟩
 ·rw [(at0 hC).1,(at0 hD).1]
 ·obtain ⟨rfl,rfl⟩:=at0 hC
  obtain ⟨fz,rest,k1,k2,k3,k4⟩:=hm.blk 0 B rfl (by rw [← e4];exact hCd) hCn
  exact ⟨fz,rest,by rw [h,e1];exact k1,by rw [e2];exact k2,by rw [h,e3];exact k3,by rw [e3];exact k4⟩
 ·obtain ⟨rfl,rfl⟩:=at0 hC
  rw [e3,h]
  exact hm.nils 0 B rfl (by rw [← e4];exact hCd) hCn
def bAj (P:Program) (F:FuncId) (ty:TypeId):Prop:=(∀ (w:World) (base:Option Addr) (C:Nat),(base=none→C=0)→Calls P F #[.slice base 0 C] w fun e w'=>e=.returned (.tuple #[])∧RowKit.Below w.heap.size w w') ∧
 ∀ (ρ:Env) (ι:Loc) (B:Blk) (w:World) (o n C:Nat),aH ρ ⟨w,1,ι⟩ ι [B] w→B.ty=ty→B.wr=true→B.dead=false→(B.grow=none∨B.grow=some 1)→(∀ v ∈ cellsOf ρ ι B.aF,∃ z,v=Value.int .u8 z∧inR (dW .u8) z)→o+n≤(cellsOf ρ ι B.aF).length→(cellsOf ρ ι B.aF).length≤maxLen→0<n →
  Calls P F #[.slice (some ⟨ι 0,o,none⟩) n C] w fun e w'=>e=.returned (.tuple #[])∧∃ (ρ':Env) (ι':Loc) (B':Blk),aH ρ' ⟨w,1,ι⟩ ι' [B'] w'
def bHW (H:Hyp) (off len:E) (l:List Seg):Bool:=match mX H 1 l with
 | some t=>leH H (mkAdd off len) t&&dL H maxLen t
 | none=>false
def eR (ty:TypeId):Spec:=fun H l m=>match l with
 | [.s .nilSlc]=>some ([],.tup [],none)
 | [.s (.slc b off len cap)]=>if len=.lit 0 then some ([],.tup [],none) else match m[b]?,zV H m .u8 (.s (.slc b off len cap)) with
   | some B,some (L,q)=>if B.ty=ty∧B.wr=true∧B.dead=false∧(B.grow=none∨B.grow=some 1)∧fJ .u8 B.aF=true∧aDp H .u8 B.aF=true∧aL H 1 len=true∧bHW H off len B.aF=true then some ([],.tup [],some (m.set b { B with dead:=true })) else none
   | _,_=>none
 | _=>none
section
variable {ρ:Env} {β:dO} {ι:Loc} {m:Mem} {w:World} {H:Hyp} {P:Program} {I:Interp}
theorem aWM (hH:H.ok ρ) {k:IntKind} {b:Nat} {off len:E} {cap:Cap} {L:List Seg} {q:E} (hr:zV H m k (.s (.slc b off len cap))=some (L,q)) (hl:0<len.i ρ):0≤off.i ρ:=by
 unfold zV at hr
 split at hr
 ·rename_i L' q' hv
  simp only [yK] at hv
  split at hv
  ·split at hv
   ·cases hv
   ·split at hv
    ·split at hv
     ·rename_i hc;rw [aD];exact hc.1
     ·cases hv
    ·split at hv
     ·rename_i hc;exact bJZ hc
     ·simp only [if_true,Option.map_eq_some_iff,Prod.mk.injEq] at hv
      obtain ⟨l,h1,_⟩:=hv
      have:=aEU hH (off:=off) (len:=len) _ _ _ h1
      omega
  ·cases hv
 ·cases hr
theorem tR {X:Ext} {L:List Seg} (h:∀ j,X.cell j=((cellsOf ρ ι L)[j]?).getD Go.undef) {j:Nat} (hj:j<X.n):bC X 1 0 j=kE (((cellsOf ρ ι L)[j]?).getD Go.undef):=by
 simp only [bC,if_pos hj,Nat.mul_one,Nat.add_zero,h]
theorem specSum_ok {F:FuncId} (hv:bAk P F) (hfi:I.fi=Ifi):bD P I F bEh:=by
 constructor
 intro H l m nd v om h ρ β ι w hI hH hn hm
 unfold bEh at h
 split at h
 ·rename_i x
  split at h
  ·rename_i L q hr
   split at h
   ·cases h
   ·split at h
    ·rename_i A hA
     simp only [Option.some.injEq,Prod.mk.injEq] at h
     obtain ⟨rfl,rfl,rfl⟩:=h
     obtain ⟨hq0,hlen,X,hX,hv1,hn1,hc1⟩:=qD (ι:=ι) hH hm hr
     have hargs:([x].map (SV.aC ρ ι)).toArray=#[X.v]:=by simp [hv1]
     rw [hargs]
     refine (hv X w hX).mono fun e w' ⟨h1,h2⟩=>⟨?_,hm.below h2⟩
     rw [h1,aW rfl]
     have hXn:X.n=(q.i ρ).toNat:=by omega
     have e1:(bGa q A).i ρ=tU X.n (bC X 1 0):=by
      unfold bGa
      rw [bOq,jA,jA,pQ,lM,lM,aXr,lL,lL,aXq,hI,hfi]
      simp only [Ifi,List.getD_cons_zero,List.getD_cons_succ,hXn]
      refine yL _ fun j hj=>?_
      rw [bLb (ι:=ι) hH hA j (by omega),tR hc1 (by omega)]
     simp only [SV.aC,S.aC,e1]
    ·cases h
  ·cases h
 ·cases h
theorem fR {F:FuncId} (hv:bAk P F) (hfi:I.fi=Ifi):bD P I F dK:=by
 constructor
 intro H l m nd v om h ρ β ι w hI hH hn hm
 unfold dK at h
 split at h
 ·rename_i x
  split at h
  ·rename_i L q hr
   split at h
   ·rename_i A hA
    simp only [Option.some.injEq,Prod.mk.injEq] at h
    obtain ⟨rfl,rfl,rfl⟩:=h
    obtain ⟨hq0,hlen,X,hX,hv1,hn1,hc1⟩:=qD (ι:=ι) hH hm hr
    have hargs:([x].map (SV.aC ρ ι)).toArray=#[X.v]:=by simp [hv1]
    rw [hargs]
    refine (hv X w hX).mono fun e w' ⟨h1,h2⟩=>⟨?_,hm.below h2⟩
    rw [h1,aW rfl]
    have hXn:X.n=(q.i ρ).toNat:=by omega
    have e1:(bGa q A).i ρ=tU X.n (bC X 1 0):=by
     unfold bGa
     rw [bOq,jA,jA,pQ,lM,lM,aXr,lL,lL,aXq,hI,hfi]
     simp only [Ifi,List.getD_cons_zero,List.getD_cons_succ,hXn]
     refine yL _ fun j hj=>?_
     rw [pB (ι:=ι) hH hA j (by omega),tR hc1 (by omega)]
    simp only [SV.aC,S.aC,e1]
   ·cases h
  ·cases h
 ·cases h
theorem bEf {k:IntKind} {z:Int} {A:E} {o:Nat} {r:List Seg} (hz:0<z):cellsOf ρ ι (.run k (.lit z) A o::r)=.int k (A.a ρ o)::cellsOf ρ ι (.run k (.lit (z-1)) A (o+1)::r):=by
 rw [aE,aE]
 simp only [Seg.cells,aD]
 obtain ⟨p,hp⟩:∃ p:Nat,z.toNat=p+1:=⟨z.toNat-1,by omega⟩
 have hp':(z-1).toNat=p:=by omega
 rw [hp,hp',List.range_succ_eq_map,List.map_cons,List.map_map,List.cons_append,Nat.add_zero]
 congr 2
 apply List.map_congr_left
 intro j _
 simp only [Function.comp,Nat.succ_eq_add_one]
 congr 2;omega
theorem bEe {k:IntKind} {z y:Int} {A:E} {o:Nat} {r:List Seg} (hz:0≤y) (hy:y≤z):cellsOf ρ ι (.run k (.lit z) A o::r)=cellsOf ρ ι [.run k (.lit y) A o]++cellsOf ρ ι (.run k (.lit (z-y)) A (o+y.toNat)::r):=by
 rw [aE,aE (.run k (.lit (z-y)) A (o+y.toNat)),← List.append_assoc]
 congr 1
 simp only [cellsOf,List.flatMap_cons,List.flatMap_nil,List.append_nil,Seg.cells,aD]
 apply List.ext_getElem?
 intro j
 by_cases hj:j<y.toNat
 ·rw [List.getElem?_append_left (by simpa using hj),List.getElem?_map,List.getElem?_map,List.getElem?_range hj,List.getElem?_range (by omega)]
 ·rw [List.getElem?_append_right (by simp;omega),List.getElem?_map,List.getElem?_map]
  simp only [List.length_map,List.length_range]
  by_cases hj2:j<z.toNat
  ·rw [List.getElem?_range hj2,List.getElem?_range (by omega)]
   simp only [Option.map_some]
   congr 3;omega
  ·rw [List.getElem?_eq_none (by simp;omega),List.getElem?_eq_none (by simp;omega)];rfl
def eM (l:List Value):List Int:=l.map kE
theorem gZ (a b:List Value):eM (a++b)=eM a++eM b:=List.map_append
theorem bGG {n A A':E} {o o':Nat} {k k':IntKind}:(E.aeq false n A A' o o').b ρ=true↔eM (cellsOf ρ ι [.run k n A o])=eM (cellsOf ρ ι [.run k' n A' o']):=by
 rw [bAm]
 simp only [Bool.false_eq_true,if_false,eM,cellsOf,List.flatMap_cons,List.flatMap_nil,List.append_nil,Seg.cells,List.map_map,List.all_eq_true,List.mem_range,beq_iff_eq]
 constructor
 ·intro h;exact List.map_congr_left fun j hj=>h j (List.mem_range.1 hj)
 ·intro h j hj
  have:=congrArg (fun l=>l[j]?) h
  simpa [List.getElem?_range hj,kE] using this
theorem aBZ {n A A':E} {o o':Nat} {k k':IntKind}:(if A=A'∧o=o' then E.blit true else .aeq false n A A' o o').b ρ=true↔eM (cellsOf ρ ι [.run k n A o])=eM (cellsOf ρ ι [.run k' n A' o']):=by
 split
 ·rename_i h;obtain ⟨rfl,rfl⟩:=h
  rw [aN]
  simp [eM,cellsOf,Seg.cells,Function.comp_def,kE]
 ·exact bGG
theorem pD {k k':IntKind} {n A:E} {o:Nat} {r:List Seg}:eM (cellsOf ρ ι (.run k n A o::r))=eM (cellsOf ρ ι (.run k' n A o::r)):=by
 rw [aE,aE,gZ,gZ]
 congr 1
 simp [eM,Seg.cells,Function.comp_def,kE]
theorem aCm {k k':IntKind} {x:E} {r:List Seg}:eM (cellsOf ρ ι (.one (.int k x)::r))=eM (cellsOf ρ ι (.one (.int k' x)::r)):=by
 rw [aE,aE,gZ,gZ];rfl
theorem aJu {a b c d:List Int} (h:a.length=c.length):(a++b=c++d)↔(a=c∧b=d):=⟨fun e=>List.append_inj e h,fun ⟨e1,e2⟩=>by rw [e1,e2]⟩
theorem bLi (hH:H.ok ρ):∀ (k:Nat) (l r:List Seg) (c:E),yT H k l r=some c→(c.b ρ=true↔eM (cellsOf ρ ι l)=eM (cellsOf ρ ι r)):=by
 intro k
 induction k with
 | zero=>intro l r c h;simp [yT] at h
 | succ k ih =>
   intro l r c h
   have one_:∀ (k':IntKind) (x:E) (l:List Seg),eM (cellsOf ρ ι (.one (.int k' x)::l))=x.i ρ::eM (cellsOf ρ ι l):=fun k' x l=>by rw [aE];rfl
   have run_:∀ (k':IntKind) (n A:E) (o:Nat) (l:List Seg),eM (cellsOf ρ ι (.run k' n A o::l))=eM (cellsOf ρ ι [.run k' n A o])++eM (cellsOf ρ ι l):=fun k' n A o l=>by
    rw [← gZ,← cG];rfl
   have len_:∀ (k1 k2:IntKind) (n A A':E) (o o':Nat),(eM (cellsOf ρ ι [.run k1 n A o])).length=(eM (cellsOf ρ ι [.run k2 n A' o'])).length:=fun k1 k2 n A A' o o'=>by simp [eM,cellsOf,Seg.cells]
   unfold yT at h
   split at h
   ·simp only [Option.some.injEq] at h;subst h;simp [aN]
   ·rename_i _ x l _ y r
    simp only [Option.map_eq_some_iff] at h
    obtain ⟨c',hc,rfl⟩:=h
    rw [eA,Bool.and_eq_true,ih _ _ _ hc,gJ hH,one_,one_,List.cons.injEq,decide_eq_true_eq]
   ·rename_i k1 n A o l k2 n' A' o' r
    split at h
    ·rename_i hn;subst hn
     simp only [Option.map_eq_some_iff] at h
     obtain ⟨c',hc,rfl⟩:=h
     rw [eA,Bool.and_eq_true,ih _ _ _ hc,run_ k1,run_ k2,aJu (len_ _ _ _ _ _ _ _),aBZ]
    ·split at h
     ·rename_i z z' _
      split at h
      ·rename_i hz
       split at h
       ·rename_i hlt
        simp only [Option.map_eq_some_iff] at h
        obtain ⟨c',hc,rfl⟩:=h
        rw [eA,Bool.and_eq_true,ih _ _ _ hc,run_ k1,bEe (k:=k2) (show 0≤z by omega) (show z≤z' by omega),gZ,aJu (len_ _ _ _ _ _ _ _),aBZ (ι:=ι) (k:=k1) (k':=k2),pD (ρ:=ρ) (ι:=ι) (k:=.u8) (k':=k2) (n:=.lit (z'-z)) (A:=A') (o:=o'+z.toNat) (r:=r)]
       ·rename_i hlt
        simp only [Option.map_eq_some_iff] at h
        obtain ⟨c',hc,rfl⟩:=h
        rw [eA,Bool.and_eq_true,ih _ _ _ hc,run_ k2,bEe (k:=k1) (show 0≤z' by omega) (show z'≤z by omega),gZ,aJu (len_ _ _ _ _ _ _ _),aBZ (ι:=ι) (k:=k1) (k':=k2),pD (ρ:=ρ) (ι:=ι) (k:=.u8) (k':=k1) (n:=.lit (z-z')) (A:=A) (o:=o+z'.toNat) (r:=l)]
      ·cases h
     ·cases h
   ·rename_i _ x l k2 n A o r
    split at h
    ·rename_i hn
     simp only [Option.map_eq_some_iff] at h
     obtain ⟨c',hc,rfl⟩:=h
     rw [eA,Bool.and_eq_true,ih _ _ _ hc,gJ hH,fY hH,aD,Int.toNat_natCast,one_,bEf hn]
     show _↔_=A.a ρ o::eM (cellsOf ρ ι (.run k2 (.lit (n-1)) A (o+1)::r))
     rw [List.cons.injEq,decide_eq_true_eq,pD (k:=.u8) (k':=k2)]
    ·rename_i hn
     rw [ih _ _ _ h,aCm (k:=.u8)]
     have:eM (cellsOf ρ ι (.run k2 (.lit n) A o::r))=eM (cellsOf ρ ι r):=by
      rw [run_ k2];simp [eM,cellsOf,Seg.cells,aD,show n.toNat=0 by omega]
     rw [this]
   ·rename_i k1 n A o l _ x r
    split at h
    ·rename_i hn
     simp only [Option.map_eq_some_iff] at h
     obtain ⟨c',hc,rfl⟩:=h
     rw [eA,Bool.and_eq_true,ih _ _ _ hc,gJ hH,fY hH,aD,Int.toNat_natCast,one_,bEf hn]
     show _↔A.a ρ o::eM (cellsOf ρ ι (.run k1 (.lit (n-1)) A (o+1)::l))=_
     rw [List.cons.injEq,decide_eq_true_eq,pD (k:=.u8) (k':=k1)]
    ·rename_i hn
     rw [ih _ _ _ h,aCm (k:=.u8)]
     have:eM (cellsOf ρ ι (.run k1 (.lit n) A o::l))=eM (cellsOf ρ ι l):=by
      rw [run_ k1];simp [eM,cellsOf,Seg.cells,aD,show n.toNat=0 by omega]
     rw [this]
   ·rename_i k1 n A o l
    split at h
    ·rename_i hn
     rw [ih _ _ _ h]
     have:eM (cellsOf ρ ι (.run k1 (.lit n) A o::l))=eM (cellsOf ρ ι l):=by
      rw [run_ k1];simp [eM,cellsOf,Seg.cells,aD,show n.toNat=0 by omega]
     rw [this]
    ·cases h
   ·rename_i k1 n A o r
    split at h
    ·rename_i hn
     rw [ih _ _ _ h]
     have:eM (cellsOf ρ ι (.run k1 (.lit n) A o::r))=eM (cellsOf ρ ι r):=by
      rw [run_ k1];simp [eM,cellsOf,Seg.cells,aD,show n.toNat=0 by omega]
     rw [this]
    ·cases h
   ·cases h
theorem lV {F:FuncId} (hv:bAg P F):bD P I F gH:=by
 constructor
 intro H l m nd v om h ρ β ι w hI hH hn hm
 unfold gH at h
 split at h
 ·rename_i x y
  split at h
  ·rename_i L q L' q' hr hr'
   simp only [Option.map_eq_some_iff,Prod.mk.injEq] at h
   obtain ⟨c,hc,rfl,rfl,rfl⟩:=h
   obtain ⟨hq0,hlen,X,hX,hv1,hn1,hc1⟩:=qD (ι:=ι) hH hm hr
   obtain ⟨hq0',hlen',Y,hY,hv2,hn2,hc2⟩:=qD (ι:=ι) hH hm hr'
   have hargs:([x,y].map (SV.aC ρ ι)).toArray=#[X.v,Y.v]:=by simp [hv1,hv2]
   rw [hargs]
   refine (hv X Y w hX hY).mono fun e w' ⟨h1,h2⟩=>⟨?_,hm.below h2⟩
   rw [h1,aW rfl]
   have key:(X.n=Y.n∧∀ j,j<X.n→bC X 1 0 j=bC Y 1 0 j)↔eM (cellsOf ρ ι L)=eM (cellsOf ρ ι L'):=by
    have eX:∀ j,j<X.n→(eM (cellsOf ρ ι L))[j]? = some (bC X 1 0 j):=fun j hj=>by
     have:j<(cellsOf ρ ι L).length:=by omega
     rw [tR hc1 hj]
     simp [eM,List.getElem?_eq_getElem this]
    have eY:∀ j,j<Y.n→(eM (cellsOf ρ ι L'))[j]? = some (bC Y 1 0 j):=fun j hj=>by
     have:j<(cellsOf ρ ι L').length:=by omega
     rw [tR hc2 hj]
     simp [eM,List.getElem?_eq_getElem this]
    constructor
    ·rintro ⟨g1,g2⟩
     apply List.ext_getElem?
     intro j
     by_cases hj:j<X.n
     ·rw [eX j hj,eY j (by omega),g2 j hj]
     ·rw [List.getElem?_eq_none (by simp [eM];omega),List.getElem?_eq_none (by simp [eM];omega)]
    ·intro g
     have gl:=congrArg List.length g
     simp only [eM,List.length_map] at gl
     refine ⟨by omega,fun j hj=>?_⟩
     have:=eX j hj
     rw [g,eY j (by omega)] at this
     simpa using this.symm
   have hb:c.b ρ=true↔(X.n=Y.n∧∀ j,j<X.n→bC X 1 0 j=bC Y 1 0 j):=by
    unfold bGV at hc
    split at hc
    ·rename_i he
     simp only [Option.some.injEq] at hc;subst hc
     have:=gJ hH q q'
     rw [he,aN] at this
     rw [aN]
     simp only [Bool.false_eq_true,false_iff,not_and]
     intro g
     have:¬ q.i ρ=q'.i ρ:=by simpa using this
     omega
    ·split at hc
     ·rename_i hL;subst hL
      simp only [Option.some.injEq] at hc;subst hc
      rw [key,aN];simp
     ·rw [key,bLi hH _ _ _ _ hc]
   simp only [SV.aC,S.aC]
   have:decide (X.n=Y.n∧∀ j,j<X.n→bC X 1 0 j=bC Y 1 0 j)=c.b ρ:=by
    cases hcb:c.b ρ
    ·rw [decide_eq_false_iff_not];intro g;rw [hb.2 g] at hcb;cases hcb
    ·rw [decide_eq_true_eq];exact hb.1 hcb
   rw [this]
  ·cases h
 ·cases h
theorem kV {F:FuncId} {ty:TypeId} (hv:bGA P F ty):bD P I F (gD ty):=by
 constructor
 intro H l m nd v om h ρ β ι w hI hH hn hm
 unfold gD at h
 split at h
 ·rename_i x
  split at h
  ·rename_i L q hr
   split at h
   ·rename_i hc
    simp only [Bool.and_eq_true] at hc
    have hqm:=bK hH hc.1
    simp only [Option.some.injEq,Prod.mk.injEq] at h
    obtain ⟨rfl,rfl,rfl⟩:=h
    obtain ⟨hq0,hlen,X,hX,hv1,hn1,hc1⟩:=qD (ι:=ι) hH hm hr
    have hargs:([x].map (SV.aC ρ ι)).toArray=#[X.v]:=by simp [hv1]
    rw [hargs]
    refine (hv X w hX (by omega)).mono fun e w' ⟨ρ',ι',B',he,hm',t1,t2,t3,t4,hcells⟩=>?_
    have hXn:X.n=(q.i ρ).toNat:=by omega
    have hsc:L.all (Seg.sc m.length)=true:=by
     unfold zV at hr
     split at hr
     ·rename_i hv'
      split at hr
      ·simp only [Option.some.injEq,Prod.mk.injEq] at hr;obtain ⟨rfl,rfl⟩:=hr
       exact aDq hv' hc.2
      ·cases hr
     ·cases hr
    refine ⟨cO ι m.length (ι'.pos 0) 0 false,cM _ _ _ _ _,?_,?_⟩
    ·rw [he,aW rfl]
     simp only [SV.aC,S.aC,addr,aD,aFm hH,cO,if_true,hXn]
     rfl
    ·refine hm.join hm' hc.2 (bDG hsc) ?_ ⟨t1.symm,t2.symm,rfl,t3,rfl,t4⟩
     rw [hcells,bDF hH]
     apply List.ext_getElem?
     intro j
     rw [List.getElem?_map]
     by_cases hj:j<X.n
     ·rw [List.getElem?_range hj,Option.map_some]
      have hjl:j<(cellsOf ρ ι L).length:=by omega
      obtain ⟨z,hz,_⟩:=hX.fit j 0 _ hj rfl
      simp only [List.length_singleton,Nat.mul_one,Nat.add_zero] at hz
      have h9:=hc1 j
      rw [hz,List.getElem?_eq_getElem hjl,Option.getD_some] at h9
      rw [tR hc1 hj,List.getElem?_eq_getElem hjl,Option.getD_some,← h9]
      rfl
     ·rw [List.getElem?_eq_none (show (cellsOf ρ ι L).length≤j by omega),List.getElem?_eq_none (by simp;omega)];rfl
   ·cases h
  ·cases h
 ·cases h
theorem jZ {k:IntKind} {ι ι':Loc}:∀ {l:List Seg},fJ k l=true→cellsOf ρ ι l=cellsOf ρ ι' l
 | [],_=>rfl
 | x::l,h=>by
   simp only [fJ,List.all_cons,Bool.and_eq_true] at h
   rw [aE,aE,jZ (ι:=ι) (ι':=ι') (l:=l) h.2]
   congr 1
   cases x with
   | one s=>cases s <;> simp only [Bool.false_eq_true,false_and] at h;rfl
   | run _ _ _ _=>rfl
   | rows _ _ _=>simp at h
theorem aH.single (hm:aH ρ β ι m w) {b:Nat} {B:Blk} (hB:m[b]? = some B) {k:IntKind} (hk:fJ k B.aF=true):aH ρ ⟨w,1,piv [b] ι⟩ (piv [b] ι) [B] w:=by
 have hbl:b<m.length:=(List.getElem?_eq_some_iff.1 hB).1
 have e0:(piv [b] ι).pos 0=ι b∧(piv [b] ι).cap 0=ι.cap b∧(piv [b] ι).nil 0=ι.nil b:=by simp [piv]
 have at_:∀ {i:Nat} {C:Blk},[B][i]? = some C→i=0∧C=B:=fun {i C} h=>by
  cases i with
  | zero=>simp at h;exact ⟨rfl,h.symm⟩
  | succ i=>simp at h
 refine ⟨fun i j C D hC hD _ _ _ _ _=>by rw [(at_ hC).1,(at_ hD).1],fun i C hC hd hn=>?_,fun i C hC hd hn=>?_,Loc.bV.refl _ _,Nat.le_refl _,fun i h1 h2=>?_,Nat.le_refl _,fun _ _ _=>rfl,rfl,rfl,rfl,hm.aAh,fun i j a n c hv h0 q hq=>?_⟩
 ·obtain ⟨rfl,rfl⟩:=at_ hC
  obtain ⟨fz,rest,k1,k2,k3,k4⟩:=hm.blk b C hB hd (by rw [← e0.2.2];exact hn)
  refine ⟨fz,rest,?_,k2,?_,k4⟩
  ·rw [e0.1,jZ (ι:=piv [b] ι) (ι':=ι) hk];exact k1
  ·intro sz hs;rw [e0.2.1,jZ (ι:=piv [b] ι) (ι':=ι) hk];exact k3 sz hs
 ·obtain ⟨rfl,rfl⟩:=at_ hC
  obtain ⟨k1,k2⟩:=hm.nils b C hB hd (by rw [← e0.2.2];exact hn)
  exact ⟨k1,by rw [jZ (ι:=piv [b] ι) (ι':=ι) hk];exact k2⟩
 ·simp at h1 h2;omega
 ·have:q=0:=by simpa using hq
  subst this
  rw [e0.1];exact hm.xd i j a n c hv h0 b hbl
theorem aH.spoilt (hm:aH ρ β ι m w) {b:Nat} {B B' D:Blk} (hB:m[b]? = some B) (hd:B.dead=false) (hn:ι.nil b=false) (hD:D.dead=true) {ρ':Env} {ι':Loc} {w':World} (h':aH ρ' ⟨w,1,piv [b] ι⟩ ι' [B'] w'):aH ρ β ι (m.set b D) w':=by
 have hbl:b<m.length:=(List.getElem?_eq_some_iff.1 hB).1
 have hag:ι' 0=ι b:=(h'.agr 0 Nat.one_pos).1
 have keep:∀ q,q<w.heap.size→q ≠ ι b→w'.heap[q]? = w.heap[q]? := fun q hq hne=>h'.old q hq fun i hi=>by
  have:i=0:=by simpa using hi
  subst this;rw [hag];exact fun e=>hne e.symm
 have at_:∀ {i:Nat} {C:Blk},(m.set b D)[i]? = some C→C.dead=false→m[i]? = some C∧i ≠ b:=by
  intro i C h hCd
  rw [List.getElem?_set] at h
  split at h
  ·rename_i hbi;subst hbi
   simp only [hbl,if_true,Option.some.injEq] at h;subst h;rw [hD] at hCd;cases hCd
  ·rename_i hne;exact ⟨h,fun e=>hne e.symm⟩
 refine ⟨fun i j C E hC hE hCd hEd=>hm.inj i j C E (at_ hC hCd).1 (at_ hE hEd).1 hCd hEd,fun i C hC hCd hCn=>?_,fun i C hC hCd hCn=>hm.nils i C (at_ hC hCd).1 hCd hCn,hm.agr,by rw [List.length_set];exact hm.len,fun i h1 h2=>hm.new i h1 (by rw [List.length_set] at h2;exact h2),Nat.le_trans hm.size h'.size,fun q hq hi=>?_,h'.os.trans hm.os,h'.tape.trans hm.tape,h'.output.trans hm.output,hm.xt,fun i j a n c hv h0 q hq=>hm.xd i j a n c hv h0 q (by rw [List.length_set] at hq;exact hq)⟩
 ·obtain ⟨hC',hib⟩:=at_ hC hCd
  obtain ⟨fz,rest,k1,k2,k3,k4⟩:=hm.blk i C hC' hCd hCn
  refine ⟨fz,rest,?_,k2,k3,k4⟩
  have hlt:ι i<w.heap.size:=(Array.getElem?_eq_some_iff.1 k1).1
  rw [keep (ι i) hlt fun e=>hib (hm.inj i b C B hC' hB hCd hd hCn hn e)]
  exact k1
 ·rw [List.length_set] at hi
  have hq':q<w.heap.size:=Nat.lt_of_lt_of_le hq hm.size
  rw [keep q hq' fun e=>hi b hbl e.symm]
  exact hm.old q hq hi
theorem bKi (b:Nat) (off len:E) (cap:Cap) :
 ∃ base C,(S.slc b off len cap).aC ρ ι=.slice base (len.i ρ).toNat C∧(base=none→C=0):=by
 cases cap with
 | tl o k z=>exact ⟨_,_,rfl,fun h=>by cases h⟩
 | kn e=>exact ⟨some (addr ρ ι b off),(e.i ρ).toNat,rfl,fun h=>by cases h⟩
 | op e =>
   simp only [S.aC]
   split
   ·rename_i hc;exact ⟨none,0,by rw [hc.2],fun _=>rfl⟩
   ·exact ⟨_,_,rfl,fun h=>by cases h⟩
theorem jO {F:FuncId} {ty:TypeId} (hv:bAj P F ty):bD P I F (eR ty):=by
 constructor
 intro H l m nd v om h ρ β ι w hI hH hn hm
 have tup:eZ ρ ι (.tup [])=.returned (.tuple #[]):=aW rfl
 unfold eR at h
 split at h
 ·simp only [Option.some.injEq,Prod.mk.injEq] at h
  obtain ⟨rfl,rfl,rfl⟩:=h
  exact (hv.1 w none 0 (fun _=>rfl)).mono fun e w' ⟨h1,h2⟩=>⟨by rw [h1,tup],hm.below h2⟩
 ·rename_i b off len cap
  split at h
  ·rename_i hl;subst hl
   simp only [Option.some.injEq,Prod.mk.injEq] at h
   obtain ⟨rfl,rfl,rfl⟩:=h
   obtain ⟨base,C,hc,hbC⟩:=bKi (ρ:=ρ) (ι:=ι) b off (.lit 0) cap
   rw [aD] at hc
   have hargs:([SV.s (.slc b off (.lit 0) cap)].map (SV.aC ρ ι)).toArray=#[.slice base 0 C]:=by
    simp only [List.map_cons,List.map_nil]
    rw [show SV.aC ρ ι (.s (.slc b off (.lit 0) cap))=_ from hc];rfl
   rw [hargs]
   exact (hv.1 w base C hbC).mono fun e w' ⟨h1,h2⟩=>⟨by rw [h1,tup],hm.below h2⟩
  ·split at h
   ·rename_i B L q hB hr
    split at h
    ·rename_i hcc
     obtain ⟨hty,hwr,hd,hg,hk,hrg,hl1,hfit⟩:=hcc
     simp only [Option.some.injEq,Prod.mk.injEq] at h
     obtain ⟨rfl,rfl,rfl⟩:=h
     have hl1:=aG hH hl1
     obtain ⟨base,C,hc,hbase⟩:=aKM (ρ:=ρ) (ι:=ι) b off len cap
     have hb:=hbase (by omega)
     subst hb
     have hargs:([SV.s (.slc b off len cap)].map (SV.aC ρ ι)).toArray=#[.slice (some (addr ρ ι b off)) (len.i ρ).toNat C]:=by
      simp only [List.map_cons,List.map_nil]
      rw [show SV.aC ρ ι (.s (.slc b off len cap))=_ from hc]
     rw [hargs]
     unfold bHW at hfit
     split at hfit
     ·rename_i t ht
      simp only [Bool.and_eq_true] at hfit
      obtain ⟨ht0,hlen⟩:=iJ (ι:=ι) hH ht
      have hle:=nS hH hfit.1
      have hmx:=bK hH hfit.2
      rw [aJ] at hle
      rw [Nat.mul_one] at hlen
      have hnil:ι.nil b=false:=by
       cases hh:ι.nil b with
       | false=>rfl
       | true =>
         have e1:=(hm.nils b B hB hd hh).2
         rw [e1] at hlen
         have hr':=(lU (ι:=ι) hH hm Nat.one_pos (show yK H m 1 (.s (.slc b off len cap))=some (L,q) by
          unfold zV at hr
          split at hr
          ·rename_i hv'
           split at hr
           ·simp only [Option.some.injEq,Prod.mk.injEq] at hr;obtain ⟨rfl,rfl⟩:=hr;exact hv'
           ·cases hr
          ·cases hr))
         obtain ⟨hq0,_,base',C',hc',hcell⟩:=hr'
         have hc2:(SV.s (.slc b off len cap)).aC ρ ι=_:=hc
         rw [hc2] at hc'
         simp only [Value.slice.injEq] at hc'
         obtain ⟨e2,e3,_⟩:=hc'
         obtain ⟨ad,had,hcl⟩:=hcell (by omega)
         exfalso
         have hone:=hm.single hB hk
         have:len.i ρ≤0∨0≤off.i ρ∨off.i ρ<0:=by omega
         have hoff:0≤off.i ρ:=by
          have:=aWM hH (hr:=hr) (by omega)
          exact this
         simp only [List.length_nil] at hlen
         omega
      have hoff:0≤off.i ρ:=aWM hH (hr:=hr) (by omega)
      have e0:(piv [b] ι).pos 0=ι b:=by simp [piv]
      have hone:=hm.single hB hk
      have hcl:=hv.2 ρ (piv [b] ι) B w (off.i ρ).toNat (len.i ρ).toNat C hone hty hwr hd hg (fun v hv'=>yI hH hk hrg v hv') (by
       rw [jZ (ι:=piv [b] ι) (ι':=ι) hk,hlen];omega) (by rw [jZ (ι:=piv [b] ι) (ι':=ι) hk,hlen];omega) (by omega)
      rw [e0] at hcl
      refine hcl.mono fun e w' ⟨h1,ρ',ι',B',h2⟩=>⟨ι,Loc.bV.refl _ _,by rw [h1,tup],?_⟩
      exact hm.spoilt hB hd hnil rfl h2
     ·cases hfit
    ·cases h
   ·cases h
 ·cases h
end
structure Sb where
 i:List E
 b:List E
 a:List E
def Sb.env (σ:Sb) (ρ:Env):Env:=⟨σ.i.map (·.i ρ),σ.b.map (·.b ρ),σ.a.map (·.a ρ),ρ.vs,ρ.I⟩
def wsI:E→Bool
 | .v _ | .lit _ | .add _ _ | .sub _ _ | .mul _ _ | .div _ _ | .mod _ _ | .tdiv _ _ | .tmod _ _ | .pow2 _ | .wrap _ _ | .bits _ _ _ _ | .sel _ _=>true
 | .ite _ a b=>wsI a&&wsI b
 | _=>false
def wsB:E→Bool
 | .bv _ | .blit _ | .lt _ _ | .le _ _ | .eq _ _ | .not _ | .and _ _ | .or _ _ | .iff _ _ | .aeq _ _ _ _ _ _=>true
 | .ite _ a b=>wsB a&&wsB b
 | _=>false
def wsA:E→Bool
 | .av _ | .upd _ _ _ | .blt _ _ _ _ _ | .tab _=>true
 | .ite _ a b=>wsA a&&wsA b
 | _=>false
def coI (e:E):E:=if wsI e then e else .add e (.lit 0)
def coB (e:E):E:=if wsB e then e else .and e (.blit true)
def coA (e:E):E:=if wsA e then e else .upd e (.lit 0) (.sel e (.lit 0))
def qM (s:Nat) (r:E):E:=match s with | 0=>r | 1=>.blit false | 2=>.tab [] | _=>coI r
def xK (s:Nat) (r:E):E:=match s with | 0=>.lit 0 | 1=>r | 2=>.tab [] | _=>coB r
def aKj (s:Nat) (r:E):E:=match s with | 0=>.lit 0 | 1=>.blit false | 2=>r | _=>coA r
def bMk (c a b:E):E:=match c with
 | .blit true=>a
 | .blit false=>b
 | c=>.ite c a b
def sb (H:Hyp) (σ:Sb):E→Nat→E
 | .v n,s=>qM s (σ.i.getD n (.lit 0))
 | .bv n,s=>xK s (σ.b.getD n (.blit false))
 | .av n,s=>aKj s (σ.a.getD n (.tab []))
 | .lit z,s=>qM s (.lit z)
 | .blit z,s=>xK s (.blit z)
 | .add a b,s=>qM s (mkAdd (sb H σ a 0) (sb H σ b 0))
 | .sub a b,s=>qM s (mkSub (sb H σ a 0) (sb H σ b 0))
 | .mul a b,s=>qM s (mkMul (sb H σ a 0) (sb H σ b 0))
 | .div a b,s=>qM s (aBR H (sb H σ a 0) (sb H σ b 0))
 | .mod a b,s=>qM s (oM H (sb H σ a 0) (sb H σ b 0))
 | .tdiv a b,s=>qM s (.tdiv (sb H σ a 0) (sb H σ b 0))
 | .tmod a b,s=>qM s (.tmod (sb H σ a 0) (sb H σ b 0))
 | .pow2 a,s=>qM s (aBS (sb H σ a 0))
 | .wrap k a,s=>qM s (mkWrap H k (sb H σ a 0))
 | .bits o k a b,s=>qM s (aFx H o k (sb H σ a 0) (sb H σ b 0))
 | .ite c a b,s=>match s with
   | 0=>mkIte (sb H σ c 1) (sb H σ a 0) (sb H σ b 0)
   | 1=>mkIte (sb H σ c 1) (sb H σ a 1) (sb H σ b 1)
   | 2=>xR (sb H σ c 1) (sb H σ a 2) (sb H σ b 2)
   | _=>bMk (sb H σ c 1) (sb H σ a 3) (sb H σ b 3)
 | .sel A i,s=>qM s (lH H (dZ H (sb H σ A 2) (sb H σ i 0)))
 | .lt a b,s=>xK s (mkLt H (sb H σ a 0) (sb H σ b 0))
 | .le a b,s=>xK s (mkLe H (sb H σ a 0) (sb H σ b 0))
 | .eq a b,s=>xK s (mkEq H (sb H σ a 0) (sb H σ b 0))
 | .not a,s=>xK s (mkNot (sb H σ a 1))
 | .and a b,s=>xK s (mkAnd (sb H σ a 1) (sb H σ b 1))
 | .or a b,s=>xK s (mkOr (sb H σ a 1) (sb H σ b 1))
 | .iff a b,s=>xK s (mkIff (sb H σ a 1) (sb H σ b 1))
 | .upd A i x,s=>aKj s (jR (sb H σ A 2) (sb H σ i 0) (lH H (sb H σ x 0)))
 | .blt A i n B j,s=>aKj s (.blt (sb H σ A 2) (sb H σ i 0) (sb H σ n 0) (sb H σ B 2) (sb H σ j 0))
 | .aeq bit n A B o q,s=>xK s (.aeq bit (sb H σ n 0) (sb H σ A 2) (sb H σ B 2) o q)
 | .tab l,s=>aKj s (.tab l)
 | .app f x,_=>.app f (sb H σ x 3)
 | .nil,s=>match s with | 0=>.lit 0 | 1=>.blit false | 2=>.tab [] | _=>.nil
 | .cons a r,s=>match s with | 0=>.lit 0 | 1=>.blit false | 2=>.tab [] | _=>.cons (sb H σ a 3) (sb H σ r 3)
section
variable {ρ:Env} {H:Hyp} {σ:Sb}
theorem bAc:∀ e:E,wsI e=true→den ρ e=.ofI (e.i ρ)
 | .v _,_ | .lit _,_ | .add _ _,_ | .sub _ _,_ | .mul _ _,_ | .div _ _,_ | .mod _ _,_ | .tdiv _ _,_ | .tmod _ _,_ | .pow2 _,_ | .wrap _ _,_ | .bits _ _ _ _,_ | .sel _ _,_=>rfl
 | .ite c a b,h=>by
   simp only [wsI,Bool.and_eq_true] at h
   have h1:=bAc a h.1
   have h2:=bAc b h.2
   simp only [E.i,den]
   cases (den ρ c).b
   ·simp only [Bool.false_eq_true,if_false];exact h2
   ·simp only [if_true];exact h1
theorem bAb:∀ e:E,wsB e=true→den ρ e=.ofB (e.b ρ)
 | .bv _,_ | .blit _,_ | .lt _ _,_ | .le _ _,_ | .eq _ _,_ | .not _,_ | .and _ _,_ | .or _ _,_ | .iff _ _,_ | .aeq _ _ _ _ _ _,_=>rfl
 | .ite c a b,h=>by
   simp only [wsB,Bool.and_eq_true] at h
   have h1:=bAb a h.1
   have h2:=bAb b h.2
   simp only [E.b,den]
   cases (den ρ c).b
   ·simp only [Bool.false_eq_true,if_false];exact h2
   ·simp only [if_true];exact h1
theorem bAa:∀ e:E,wsA e=true→den ρ e=.ofA (e.a ρ)
 | .av _,_ | .upd _ _ _,_ | .blt _ _ _ _ _,_ | .tab _,_=>rfl
 | .ite c a b,h=>by
   simp only [wsA,Bool.and_eq_true] at h
   have h1:=bAa a h.1
   have h2:=bAa b h.2
   simp only [E.a,den]
   cases (den ρ c).b
   ·simp only [Bool.false_eq_true,if_false];exact h2
   ·simp only [if_true];exact h1
theorem bPV (e:E):den ρ (coI e)=.ofI (e.i ρ):=by
 unfold coI
 split
 ·rename_i h;exact bAc e h
 ·simp only [den,E.i,D.ofI,Int.add_zero]
theorem bPU (e:E):den ρ (coB e)=.ofB (e.b ρ):=by
 unfold coB
 split
 ·rename_i h;exact bAb e h
 ·simp only [den,E.b,D.ofB,Bool.and_true]
theorem bPT (e:E):den ρ (coA e)=.ofA (e.a ρ):=by
 unfold coA
 split
 ·rename_i h;exact bAa e h
 ·simp only [den,E.a,D.ofA,D.ofI]
  congr 1;funext j
  by_cases h:j=Int.toNat 0
  ·exact (if_pos h).trans (by rw [h])
  ·exact if_neg h
def Sok (s:Nat) (ρ ρ':Env) (e r:E):Prop:=match s with
 | 0=>r.i ρ=e.i ρ' | 1=>r.b ρ=e.b ρ' | 2=>r.a ρ=e.a ρ' | _=>den ρ r=den ρ' e
theorem iE {ρ':Env} {e r:E} {z:Int} (s:Nat) (he:den ρ' e=.ofI z) (hr:r.i ρ=z):Sok s ρ ρ' e (qM s r):=by
 match s with
 | 0=>simp only [Sok,qM,E.i] at *;rw [he,hr];rfl
 | 1=>simp only [Sok,qM,E.b] at *;rw [he];rfl
 | 2=>simp only [Sok,qM,E.a] at *;rw [he];rfl
 | s+3=>simp only [Sok,qM];rw [he,bPV,hr]
theorem kK {ρ':Env} {e r:E} {z:Bool} (s:Nat) (he:den ρ' e=.ofB z) (hr:r.b ρ=z):Sok s ρ ρ' e (xK s r):=by
 match s with
 | 0=>simp only [Sok,xK,E.i] at *;rw [he];rfl
 | 1=>simp only [Sok,xK,E.b] at *;rw [he,hr];rfl
 | 2=>simp only [Sok,xK,E.a] at *;rw [he];rfl
 | s+3=>simp only [Sok,xK];rw [he,bPU,hr]
theorem aDe {ρ':Env} {e r:E} {z:Nat→Int} (s:Nat) (he:den ρ' e=.ofA z) (hr:r.a ρ=z):Sok s ρ ρ' e (aKj s r):=by
 match s with
 | 0=>simp only [Sok,aKj,E.i] at *;rw [he];rfl
 | 1=>simp only [Sok,aKj,E.b] at *;rw [he];rfl
 | 2=>simp only [Sok,aKj,E.a] at *;rw [he,hr];rfl
 | s+3=>simp only [Sok,aKj];rw [he,bPT,hr]
theorem getD_map' {α β:Type} (f:α→β) (d:α):∀ (l:List α) (n:Nat),(l.map f).getD n (f d)=f (l.getD n d)
 | [],n=>by simp
 | a::l,0=>by simp
 | a::l,n+1=>by simp
theorem bQ (hH:H.ok ρ):∀ (e:E) (s:Nat),Sok s ρ (σ.env ρ) e (sb H σ e s)
 | .v n,s=>iE s rfl (by simp only [Sb.env];exact (getD_map' (fun e:E=>e.i ρ) (.lit 0) σ.i n).symm)
 | .bv n,s=>kK s rfl (by simp only [Sb.env];exact (getD_map' (fun e:E=>e.b ρ) (.blit false) σ.b n).symm)
 | .av n,s=>aDe s rfl (by simp only [Sb.env];exact (getD_map' (fun e:E=>e.a ρ) (.tab []) σ.a n).symm)
 | .lit z,s=>iE s rfl rfl
 | .blit z,s=>kK s rfl rfl
 | .add a b,s=>iE s rfl (by rw [aJ];exact congr (congrArg _ (bQ hH a 0)) (bQ hH b 0))
 | .sub a b,s=>iE s rfl (by rw [fA];exact congr (congrArg _ (bQ hH a 0)) (bQ hH b 0))
 | .mul a b,s=>iE s rfl (by rw [dA];exact congr (congrArg _ (bQ hH a 0)) (bQ hH b 0))
 | .div a b,s=>iE s rfl (by rw [aFy hH];exact congr (congrArg _ (bQ hH a 0)) (bQ hH b 0))
 | .mod a b,s=>iE s rfl (by rw [tE hH];exact congr (congrArg _ (bQ hH a 0)) (bQ hH b 0))
 | .tdiv a b,s=>iE s rfl (by rw [cC];exact congr (congrArg _ (bQ hH a 0)) (bQ hH b 0))
 | .tmod a b,s=>iE s rfl (by rw [bY];exact congr (congrArg _ (bQ hH a 0)) (bQ hH b 0))
 | .pow2 a,s=>iE s rfl (by rw [zK];exact congrArg (fun z:Int=>(2:Int) ^ z.toNat) (bQ hH a 0))
 | .wrap k a,s=>iE s rfl (by rw [iW hH];exact congrArg k.wrap (bQ hH a 0))
 | .bits o k a b,s=>iE s rfl (by rw [oL hH];exact congr (congrArg _ (bQ hH a 0)) (bQ hH b 0))
 | .ite c a b,s=>by
   have hc:(sb H σ c 1).b ρ=c.b (σ.env ρ):=bQ hH c 1
   match s with
   | 0 =>
     have h1:(sb H σ a 0).i ρ=a.i (σ.env ρ):=bQ hH a 0
     have h2:(sb H σ b 0).i ρ=b.i (σ.env ρ):=bQ hH b 0
     show (mkIte _ _ _).i ρ=(E.ite c a b).i _
     rw [fX,aV,hc,h1,h2]
   | 1 =>
     have h1:(sb H σ a 1).b ρ=a.b (σ.env ρ):=bQ hH a 1
     have h2:(sb H σ b 1).b ρ=b.b (σ.env ρ):=bQ hH b 1
     show (mkIte _ _ _).b ρ=(E.ite c a b).b _
     rw [bDL,cZ,hc,h1,h2]
   | 2 =>
     have h1:(sb H σ a 2).a ρ=a.a (σ.env ρ):=bQ hH a 2
     have h2:(sb H σ b 2).a ρ=b.a (σ.env ρ):=bQ hH b 2
     show (xR _ _ _).a ρ=(E.ite c a b).a _
     rw [aFz,cK,hc,h1,h2]
   | s+3 =>
     have h1:den ρ (sb H σ a 3)=den (σ.env ρ) a:=bQ hH a 3
     have h2:den ρ (sb H σ b 3)=den (σ.env ρ) b:=bQ hH b 3
     have h3:∀ x:E,x.b ρ=c.b (σ.env ρ)→den ρ (bMk x (sb H σ a 3) (sb H σ b 3))=den (σ.env ρ) (.ite c a b):=fun x hx=>by
      have e:den ρ (bMk x (sb H σ a 3) (sb H σ b 3))=den ρ (.ite x (sb H σ a 3) (sb H σ b 3)):=by
       unfold bMk
       split <;> simp [den,D.ofB]
      rw [e]
      simp only [den,h1,h2]
      rw [show (den ρ x).b=(den (σ.env ρ) c).b from hx]
     exact h3 _ hc
 | .sel A i,s=>iE s rfl (by
    have h1:(sb H σ A 2).a ρ=A.a (σ.env ρ):=bQ hH A 2
    have h2:(sb H σ i 0).i ρ=i.i (σ.env ρ):=bQ hH i 0
    rw [lR hH,fY hH,h1,h2];rfl)
 | .lt a b,s=>kK s rfl (by
    have h1:(sb H σ a 0).i ρ=a.i (σ.env ρ):=bQ hH a 0
    have h2:(sb H σ b 0).i ρ=b.i (σ.env ρ):=bQ hH b 0
    rw [dT hH,h1,h2];rfl)
 | .le a b,s=>kK s rfl (by
    have h1:(sb H σ a 0).i ρ=a.i (σ.env ρ):=bQ hH a 0
    have h2:(sb H σ b 0).i ρ=b.i (σ.env ρ):=bQ hH b 0
    rw [bO hH,h1,h2];rfl)
 | .eq a b,s=>kK s rfl (by
    have h1:(sb H σ a 0).i ρ=a.i (σ.env ρ):=bQ hH a 0
    have h2:(sb H σ b 0).i ρ=b.i (σ.env ρ):=bQ hH b 0
    rw [gJ hH,h1,h2];rfl)
 | .not a,s=>kK s rfl (by rw [bT];exact congrArg _ (bQ hH a 1))
 | .and a b,s=>kK s rfl (by rw [eA];exact congr (congrArg _ (bQ hH a 1)) (bQ hH b 1))
 | .or a b,s=>kK s rfl (by rw [kC];exact congr (congrArg _ (bQ hH a 1)) (bQ hH b 1))
 | .iff a b,s=>kK s rfl (by rw [aDk];exact congr (congrArg _ (bQ hH a 1)) (bQ hH b 1))
 | .upd A i x,s=>aDe s rfl (by
    have h1:(sb H σ A 2).a ρ=A.a (σ.env ρ):=bQ hH A 2
    have h2:(sb H σ i 0).i ρ=i.i (σ.env ρ):=bQ hH i 0
    have h3:(sb H σ x 0).i ρ=x.i (σ.env ρ):=bQ hH x 0
    rw [kL,lR hH,h1,h2,h3];rfl)
 | .blt A i n B j,s=>aDe s rfl (by
    have h1:(sb H σ A 2).a ρ=A.a (σ.env ρ):=bQ hH A 2
    have h2:(sb H σ i 0).i ρ=i.i (σ.env ρ):=bQ hH i 0
    have h3:(sb H σ n 0).i ρ=n.i (σ.env ρ):=bQ hH n 0
    have h4:(sb H σ B 2).a ρ=B.a (σ.env ρ):=bQ hH B 2
    have h5:(sb H σ j 0).i ρ=j.i (σ.env ρ):=bQ hH j 0
    rw [qH,h1,h2,h3,h4,h5];rfl)
 | .aeq bit n A B o q,s=>kK s rfl (by
    have h1:(sb H σ A 2).a ρ=A.a (σ.env ρ):=bQ hH A 2
    have h3:(sb H σ n 0).i ρ=n.i (σ.env ρ):=bQ hH n 0
    have h4:(sb H σ B 2).a ρ=B.a (σ.env ρ):=bQ hH B 2
    rw [bAm,h1,h3,h4];rfl)
 | .tab l,s=>aDe s rfl rfl
 | .app f x,s=>by
   have h1:den ρ (sb H σ x 3)=den (σ.env ρ) x:=bQ hH x 3
   have hd:den ρ (.app f (sb H σ x 3))=den (σ.env ρ) (.app f x):=by simp only [den,h1];rfl
   match s with
   | 0=>exact congrArg D.i hd
   | 1=>exact congrArg D.b hd
   | 2=>exact congrArg D.a hd
   | s+3=>exact hd
 | .nil,s=>match s with | 0=>rfl | 1=>rfl | 2=>rfl | s+3=>rfl
 | .cons a r,s=>by
   have h1:den ρ (sb H σ a 3)=den (σ.env ρ) a:=bQ hH a 3
   have h2:den ρ (sb H σ r 3)=den (σ.env ρ) r:=bQ hH r 3
   match s with
   | 0=>rfl
   | 1=>rfl
   | 2=>rfl
   | s+3 =>
     show den ρ (.cons _ _)=den _ (.cons a r)
     simp only [den,h1,h2]
end
def sbC (H:Hyp) (σ:Sb):Cap→Cap
 | .kn e=>.kn (sb H σ e 0)
 | .op e=>.op (sb H σ e 0)
 | .tl o k z=>.tl (sb H σ o 0) (sb H σ k 0) z
def sbS (H:Hyp) (σ:Sb):S→S
 | .int k e=>.int k (sb H σ e 0)
 | .bool e=>.bool (sb H σ e 1)
 | .ptr b o=>.ptr b (sb H σ o 0)
 | .slc b o l c=>.slc b (sb H σ o 0) (sb H σ l 0) (sbC H σ c)
 | .xslc i j o l=>.xslc i (sb H σ j 0) (sb H σ o 0) (sb H σ l 0)
 | .xptr i j k f=>.xptr i (sb H σ j 0) (sb H σ k 0) f
 | .fn f l=>.fn f (l.map fun p=>(p.1,sb H σ p.2 0))
 | .ifc t k e=>.ifc t k (sb H σ e 0)
 | .xtl i j o off=>.xtl i (sb H σ j 0) (sb H σ o 0) (sb H σ off 0)
 | .strE l=>.strE (l.map fun e=>sb H σ e 0)
 | x=>x
def sbX (H:Hyp) (σ:Sb) (f:XF):XF:=(f.1,sb H σ f.2 2)
def sbG (H:Hyp) (σ:Sb):Seg→Seg
 | .one x=>.one (sbS H σ x)
 | .run k n A o=>.run k (sb H σ n 0) (sb H σ A 2) o
 | .rows n fs o=>.rows (sb H σ n 0) (fs.map (sbX H σ)) o
def sbV (H:Hyp) (σ:Sb):SV→SV
 | .s x=>.s (sbS H σ x)
 | .agg l=>.agg (l.map (sbG H σ))
 | .tup l=>.tup (l.map fun p=>(p.1,p.2.map (sbG H σ)))
 | .junk=>.junk
section
variable {ρ:Env} {H:Hyp} {σ:Sb} {ι:Loc}
theorem sbI (hH:H.ok ρ) (e:E):(sb H σ e 0).i ρ=e.i (σ.env ρ):=bQ hH e 0
theorem sbB (hH:H.ok ρ) (e:E):(sb H σ e 1).b ρ=e.b (σ.env ρ):=bQ hH e 1
theorem sbA (hH:H.ok ρ) (e:E):(sb H σ e 2).a ρ=e.a (σ.env ρ):=bQ hH e 2
theorem bKd (hH:H.ok ρ):∀ x:S,(sbS H σ x).aC ρ ι=x.aC (σ.env ρ) ι
 | .int k e=>by simp only [sbS,S.aC,sbI hH]
 | .bool e=>by simp only [sbS,S.aC,sbB hH]
 | .ptr b o=>by simp only [sbS,S.aC,addr,sbI hH]
 | .slc b o l (.kn c)=>by simp only [sbS,sbC,S.aC,addr,sbI hH]
 | .slc b o l (.op c)=>by simp only [sbS,sbC,S.aC,addr,sbI hH]
 | .slc b o l (.tl _ _ _)=>by simp only [sbS,sbC,S.aC,addr,sbI hH]
 | .xslc i j o l=>by simp only [sbS,S.aC,sbI hH];rfl
 | .xptr i j k f=>by simp only [sbS,S.aC,sbI hH];rfl
 | .fn f l=>by
   simp only [sbS,S.aC,List.map_map,Function.comp_def,addr,sbI hH]
 | .ifc t k e=>by simp only [sbS,S.aC,sbI hH]
 | .xtl i j o off=>by simp only [sbS,S.aC,sbI hH];rfl
 | .strE l=>by simp only [sbS,S.aC,List.map_map,Function.comp_def,sbI hH]
 | .nil | .nilIface | .nilSlc | .str _ | .nilFn | .val _ | .undef=>rfl
theorem bTq (hH:H.ok ρ) (f:XF) (j:Nat):XF.aC ρ (sbX H σ f) j=XF.aC (σ.env ρ) f j:=by
 obtain ⟨k,e⟩:=f
 cases k <;> simp only [sbX,XF.aC,sbA hH]
theorem bTp (hH:H.ok ρ):∀ x:Seg,(sbG H σ x).cells ρ ι=x.cells (σ.env ρ) ι
 | .one x=>by simp only [sbG,Seg.cells,bKd hH]
 | .run k n A o=>by simp only [sbG,Seg.cells,sbI hH,sbA hH]
 | .rows n fs o=>by simp only [sbG,Seg.cells,sbI hH,List.map_map,Function.comp_def,bTq hH]
theorem zX (hH:H.ok ρ):∀ l:List Seg,cellsOf ρ ι (l.map (sbG H σ))=cellsOf (σ.env ρ) ι l
 | []=>rfl
 | x::l=>by rw [List.map_cons,aE,aE,bTp hH,zX hH l]
theorem bKe (hH:H.ok ρ):∀ x:SV,(sbV H σ x).aC ρ ι=x.aC (σ.env ρ) ι
 | .s x=>bKd hH x
 | .agg l=>by simp only [sbV,SV.aC,zX hH]
 | .tup l=>by simp only [sbV,SV.aC,List.map_map,Function.comp_def,zX hH]
 | .junk=>rfl
end
structure bGD (ρ ρ':Env) (ι:Loc) (π:List Nat) (m m0:Mem):Prop where
 nodup:π.Nodup
 len:π.length=m0.length
 at_:∀ (j:Nat) (B:Blk),m0[j]? = some B→∃ (p:Nat) (C:Blk),π[j]? = some p∧m[p]? = some C∧B.dead=false∧C.dead=false∧B.ty=C.ty∧B.wr=C.wr∧B.grow=C.grow∧cellsOf ρ' (piv π ι) B.aF=cellsOf ρ ι C.aF
 nn:∀ p ∈ π,ι.nil p=false
section
variable {ρ ρ':Env} {β:dO} {ι ι1:Loc} {m m0 m1:Mem} {w w':World} {π:List Nat}
theorem aH.pickG (h:bGD ρ ρ' ι π m m0) (hI:ρ'.I=ρ.I) (hm:aH ρ β ι m w):aH ρ' ⟨w,m0.length,piv π ι⟩ (piv π ι) m0 w:=by
 have hblk:=h.at_
 refine ⟨fun i j B D hB hD hBd hDd hBn hDn he=>?_,fun i B hB hBd hBn=>?_,fun i B hB hBd hBn=>?_,Loc.bV.refl _ _,Nat.le_refl _,fun i h1 h2=>absurd h2 (Nat.not_lt.2 h1),Nat.le_refl _,fun _ _ _=>rfl,rfl,rfl,rfl,by rw [hI];exact hm.aAh,fun i j a n c hv h0 k hk=>?_⟩
 ·obtain ⟨p,C,hp,hC,_,c1,_,_,_,_⟩:=hblk i B hB
  obtain ⟨q,F,hq,hF,_,f1,_,_,_,_⟩:=hblk j D hD
  rw [dB hp,dB hq] at he
  rw [(bP hp).2] at hBn
  rw [(bP hq).2] at hDn
  have:=hm.inj _ _ C F hC hF c1 f1 hBn hDn he
  subst this
  exact bFt h.nodup i j p hp hq
 ·obtain ⟨p,C,hp,hC,_,c1,ht,hw,hg,hc⟩:=hblk i B hB
  rw [(bP hp).2] at hBn
  obtain ⟨fz,rest,k1,k2,k3,k4⟩:=hm.blk p C hC c1 hBn
  rw [(bP hp).1,dB hp,hc,ht,hw,hg]
  exact ⟨fz,rest,k1,k2,k3,k4⟩
 ·obtain ⟨p,C,hp,hC,_,c1,ht,hw,hg,hc⟩:=hblk i B hB
  rw [(bP hp).2] at hBn
  rw [hg,hc];exact hm.nils p C hC c1 hBn
 ·obtain ⟨p,C,hp,hC,_⟩:=hblk k m0[k] (List.getElem?_eq_getElem hk)
  rw [hI] at hv h0
  rw [dB hp];exact hm.xd i j a n c hv h0 p (List.getElem?_eq_some_iff.1 hC).1
def cJ (ι:Loc) (K n0:Nat) (ι1:Loc):Loc:=⟨fun i=>if i<K then ι.pos i else ι1.pos (n0+(i-K)),fun i=>if i<K then ι.cap i else ι1.cap (n0+(i-K)),fun i=>if i<K then ι.nil i else ι1.nil (n0+(i-K))⟩
theorem kQ (K n0:Nat) (ι1:Loc):Loc.bV K ι (cJ ι K n0 ι1):=fun i h=>by simp [cJ,h]
def cQ (π:List Nat) (K n1:Nat):List Nat:=π++(List.range (n1-π.length)).map (K+·)
structure bAi (ρ ρ':Env) (ι2:Loc) (π:List Nat) (m m1 m':Mem):Prop where
 len:m'.length=m.length+(m1.length-π.length)
 le:π.length≤m1.length
 other:∀ i,i<m.length→i ∉ π→m'[i]? = m[i]?
 at_:∀ (j:Nat) (B:Blk),m1[j]? = some B→∃ (p:Nat) (C:Blk),(cQ π m.length m1.length)[j]? = some p∧m'[p]? = some C∧B.dead=C.dead∧B.ty=C.ty∧B.wr=C.wr∧B.grow=C.grow∧cellsOf ρ' (piv (cQ π m.length m1.length) ι2) B.aF=cellsOf ρ ι2 C.aF
theorem kG {K n1 j p:Nat} (h:π[j]? = some p):(cQ π K n1)[j]? = some p:=by
 have hj:=(List.getElem?_eq_some_iff.1 h).1
 unfold cQ
 rw [List.getElem?_append_left hj];exact h
theorem qA {K n1 q:Nat} (h:π.length+q<n1):(cQ π K n1)[π.length+q]? = some (K+q):=by
 unfold cQ
 rw [List.getElem?_append_right (by omega),List.getElem?_map,List.getElem?_range (by omega)]
 simp
theorem aH.bMS {m':Mem} (h:bGD ρ ρ' ι π m m0) (hI:ρ'.I=ρ.I) (hm:aH ρ β ι m w) (h':aH ρ' ⟨w,m0.length,piv π ι⟩ ι1 m1 w') (hs:bAi ρ ρ' (cJ ι m.length m0.length ι1) π m m1 m')
 (hsc:m.all (fun B=>B.aF.all (Seg.sc m.length))=true) (hsc1:m1.all (fun B=>B.aF.all (Seg.sc m1.length))=true):aH ρ β (cJ ι m.length m0.length ι1) m' w':=by
 have hlo:=kQ (ι:=ι) m.length m0.length ι1
 have hlen:=h.len
 have hle:=hs.le
 have hml:=hs.len
 -- the picked blocks
 have at0:∀ j,j<π.length→∃ p C,π[j]? = some p∧p<m.length∧m[p]? = some C∧C.dead=false∧ι.nil p=false:=fun j hj=>by
  obtain ⟨p,C,hp,hC,_,c1,_⟩:=h.at_ j _ (List.getElem?_eq_getElem (by omega))
  exact ⟨p,C,hp,(List.getElem?_eq_some_iff.1 hC).1,hC,c1,h.nn p (List.mem_of_getElem? hp)⟩
 have lo1:∀ j p,π[j]? = some p→ι1.pos j=ι.pos p∧ι1.cap j=ι.cap p∧ι1.nil j=ι.nil p:=fun j p hp=>by
  have hj:j<m0.length:=by have:=(List.getElem?_eq_some_iff.1 hp).1;omega
  have:=h'.agr j hj
  exact ⟨this.1.trans (dB hp),this.2.1.trans (bP hp).1,this.2.2.trans (bP hp).2⟩
 have hi2:∀ q,(cJ ι m.length m0.length ι1).pos (m.length+q)=ι1.pos (π.length+q)∧(cJ ι m.length m0.length ι1).cap (m.length+q)=ι1.cap (π.length+q)∧(cJ ι m.length m0.length ι1).nil (m.length+q)=ι1.nil (π.length+q):=fun q=>by
  have:¬ m.length+q<m.length:=by omega
  rw [hlen]
  refine ⟨?_,?_,?_⟩ <;> simp only [cJ,if_neg this,Nat.add_sub_cancel_left]
 -- where the call's blocks lie now
 have loc1:∀ j p,j<m1.length→(cQ π m.length m1.length)[j]? = some p→ι1.pos j=(cJ ι m.length m0.length ι1).pos p∧ι1.cap j=(cJ ι m.length m0.length ι1).cap p∧ι1.nil j=(cJ ι m.length m0.length ι1).nil p:=fun j p hj hp=>by
  by_cases hc:j<π.length
  ·obtain ⟨p',C,hp',hlt,_⟩:=at0 j hc
   rw [kG hp',Option.some.injEq] at hp;subst hp
   have a:=lo1 j p' hp'
   have b:=hlo p' hlt
   exact ⟨a.1.trans b.1,a.2.1.trans b.2.1,a.2.2.trans b.2.2⟩
  ·obtain ⟨q,rfl⟩:∃ q,j=π.length+q:=⟨j-π.length,by omega⟩
   rw [qA hj,Option.some.injEq] at hp;subst hp
   exact ⟨(hi2 q).1.symm,(hi2 q).2.1.symm,(hi2 q).2.2.symm⟩
 have has:∀ j,j<m1.length→∃ p,(cQ π m.length m1.length)[j]? = some p:=fun j hj=>by
  obtain ⟨p,C,hp,_⟩:=hs.at_ j _ (List.getElem?_eq_getElem hj)
  exact ⟨p,hp⟩
 have agree1:Loc.bV m1.length ι1 (piv (cQ π m.length m1.length) (cJ ι m.length m0.length ι1)):=fun j hj=>by
  obtain ⟨p,hp⟩:=has j hj
  have:=loc1 j p hj hp
  exact ⟨this.1.trans (dB hp).symm,this.2.1.trans (bP hp).1.symm,this.2.2.trans (bP hp).2.symm⟩
 -- each block is either another's or the call's
 have cls:∀ (i:Nat) (C:Blk),m'[i]? = some C→(i<m.length∧i ∉ π∧m[i]? = some C)∨(∃ (j:Nat) (B:Blk),(cQ π m.length m1.length)[j]? = some i∧j<m1.length∧m1[j]? = some B∧B.dead=C.dead∧B.ty=C.ty∧B.wr=C.wr∧B.grow=C.grow∧cellsOf ρ' ι1 B.aF=cellsOf ρ (cJ ι m.length m0.length ι1) C.aF):=fun i C hC=>by
  have fin:∀ j,j<m1.length→(cQ π m.length m1.length)[j]? = some i→∃ (j:Nat) (B:Blk),(cQ π m.length m1.length)[j]? = some i∧j<m1.length∧m1[j]? = some B∧B.dead=C.dead∧B.ty=C.ty∧B.wr=C.wr∧B.grow=C.grow∧cellsOf ρ' ι1 B.aF=cellsOf ρ (cJ ι m.length m0.length ι1) C.aF:=fun j hj hp=>by
   obtain ⟨p,C',hp',hC',e1,e2,e3,e4,e5⟩:=hs.at_ j _ (List.getElem?_eq_getElem hj)
   rw [hp,Option.some.injEq] at hp';subst hp'
   rw [hC,Option.some.injEq] at hC';subst hC'
   refine ⟨j,_,hp,hj,List.getElem?_eq_getElem hj,e1,e2,e3,e4,?_⟩
   rw [← e5]
   exact bM agree1 (List.all_eq_true.1 hsc1 _ (List.getElem_mem hj))
  by_cases hi:i<m.length
  ·by_cases hp:i ∈ π
   ·obtain ⟨j,hj⟩:=List.getElem?_of_mem hp
    exact .inr (fin j (by have:=(List.getElem?_eq_some_iff.1 hj).1;omega) (kG hj))
   ·exact .inl ⟨hi,hp,by rw [← hs.other i hi hp];exact hC⟩
  ·obtain ⟨q,rfl⟩:∃ q,i=m.length+q:=⟨i-m.length,by omega⟩
   have hlt:=(List.getElem?_eq_some_iff.1 hC).1
   exact .inr (fin (π.length+q) (by omega) (qA (by omega)))
 -- another's block lies where none of the call's lies
 have apart:∀ (i:Nat) (C:Blk),i<m.length→i ∉ π→m[i]? = some C→C.dead=false→ι.nil i=false→∀ j,j<m1.length→ι1 j ≠ ι i:=fun i C hi hp hC hd hn j hj he=>by
  have key:∀ a p D,π[a]? = some p→m[p]? = some D→D.dead=false→ι.nil p=false→ι p ≠ ι i:=fun a p D ha hD hDd hDn he=>by
   have:=hm.inj p i D C hD hC hDd hd hDn hn he
   subst this
   exact hp (List.mem_of_getElem? ha)
  by_cases hc:j<π.length
  ·obtain ⟨p,D,hp',_,hD,hDd,hDn⟩:=at0 j hc
   exact key j p D hp' hD hDd hDn ((lo1 j p hp').1.symm.trans he)
  ·rcases h'.new j (by show m0.length≤j;omega) hj with hn' | ⟨a,ha,hn'⟩
   ·obtain ⟨fz,rest,k1,_⟩:=hm.blk i C hC hd hn
    have hlt:=(Array.getElem?_eq_some_iff.1 k1).1
    have hn'':w.heap.size≤ι1 j:=hn'
    omega
   ·have ha':a<π.length:=by rw [hlen];exact ha
    obtain ⟨p,D,hp',_,hD,hDd,hDn⟩:=at0 a ha'
    refine key a p D hp' hD hDd hDn ?_
    rw [← (lo1 a p hp').1];exact hn'.symm.trans he
 refine ⟨fun i j C D hC hD hCd hDd hCn hDn he=>?_,fun i C hC hCd hCn=>?_,fun i C hC hCd hCn=>?_,(hlo.mono hm.len).symm.trans hm.agr,by rw [hml];have:=hm.len;omega,fun i h1 h2=>?_,Nat.le_trans hm.size h'.size,fun b hb hi=>?_,h'.os.trans hm.os,h'.tape.trans hm.tape,h'.output.trans hm.output,hm.xt,fun i j a n c hv h0 k hk=>?_⟩
 ·rcases cls i C hC with ⟨hi,hip,hC2⟩ | ⟨p,B,hp,hpl,hB,e1,_⟩ <;> rcases cls j D hD with ⟨hj,hjp,hD2⟩ | ⟨q,F,hq,hql,hF,f1,_⟩
  ·rw [← (hlo i hi).1,← (hlo j hj).1] at he
   rw [← (hlo i hi).2.2] at hCn
   rw [← (hlo j hj).2.2] at hDn
   exact hm.inj i j C D hC2 hD2 hCd hDd hCn hDn he
  ·rw [← (hlo i hi).1,← (loc1 q j hql hq).1] at he
   rw [← (hlo i hi).2.2] at hCn
   exact absurd he.symm (apart i C hi hip hC2 hCd hCn q hql)
  ·rw [← (hlo j hj).1,← (loc1 p i hpl hp).1] at he
   rw [← (hlo j hj).2.2] at hDn
   exact absurd he (apart j D hj hjp hD2 hDd hDn p hpl)
  ·rw [← (loc1 p i hpl hp).1,← (loc1 q j hql hq).1] at he
   rw [← (loc1 p i hpl hp).2.2] at hCn
   rw [← (loc1 q j hql hq).2.2] at hDn
   have:=h'.inj p q B F hB hF (e1.trans hCd) (f1.trans hDd) hCn hDn he
   subst this
   rw [hp,Option.some.injEq] at hq;exact hq
 ·rcases cls i C hC with ⟨hi,hip,hC2⟩ | ⟨p,B,hp,hpl,hB,e1,e2,e3,e4,e5⟩
  ·rw [← (hlo i hi).2.2] at hCn
   obtain ⟨fz,rest,k1,k2⟩:=hm.blk i C hC2 hCd hCn
   have hlt:=(Array.getElem?_eq_some_iff.1 k1).1
   rw [← (hlo i hi).1,← (hlo i hi).2.1,← bM hlo (List.all_eq_true.1 hsc _ (List.mem_of_getElem? hC2))]
   refine ⟨fz,rest,?_,k2⟩
   rw [h'.old (ι i) hlt (fun j hj=>apart i C hi hip hC2 hCd hCn j hj)];exact k1
  ·rw [← (loc1 p i hpl hp).2.2] at hCn
   obtain ⟨fz,rest,k1,k2,k3,k4⟩:=h'.blk p B hB (e1.trans hCd) hCn
   rw [← (loc1 p i hpl hp).1,← (loc1 p i hpl hp).2.1,← e5,← e2,← e3,← e4]
   exact ⟨fz,rest,k1,k2,k3,k4⟩
 ·rcases cls i C hC with ⟨hi,hip,hC2⟩ | ⟨p,B,hp,hpl,hB,e1,e2,e3,e4,e5⟩
  ·rw [← (hlo i hi).2.2] at hCn
   rw [← bM hlo (List.all_eq_true.1 hsc _ (List.mem_of_getElem? hC2))];exact hm.nils i C hC2 hCd hCn
  ·rw [← (loc1 p i hpl hp).2.2] at hCn
   rw [← e5,← e4];exact h'.nils p B hB (e1.trans hCd) hCn
 ·by_cases hc:i<m.length
  ·rw [← (hlo i hc).1]
   rcases hm.new i h1 hc with hn | ⟨j,hj,hn⟩
   ·exact .inl hn
   ·exact .inr ⟨j,hj,by rw [hn];exact (hlo j (Nat.lt_of_lt_of_le hj hm.len)).1⟩
  ·obtain ⟨q,rfl⟩:∃ q,i=m.length+q:=⟨i-m.length,by omega⟩
   rw [(hi2 q).1]
   rcases h'.new (π.length+q) (by show m0.length≤_;omega) (by omega) with hn | ⟨a,ha,hn⟩
   ·exact .inl (Nat.le_trans hm.size hn)
   ·obtain ⟨p,D,hp',hlt,_⟩:=at0 a (by rw [hlen];exact ha)
    have e:ι1.pos (π.length+q)=ι.pos p:=hn.trans (lo1 a p hp').1
    rw [e]
    by_cases hpk:p<β.k
    ·exact .inr ⟨p,hpk,(hlo p hlt).1⟩
    ·rcases hm.new p (by omega) hlt with hn | ⟨j,hj,hn⟩
     ·exact .inl hn
     ·exact .inr ⟨j,hj,by rw [hn];exact (hlo j (Nat.lt_of_lt_of_le hj hm.len)).1⟩
 ·rw [← hm.old b hb fun i hi'=>by
   have:=hi i (by rw [hml];omega)
   rwa [← (hlo i hi').1] at this]
  refine h'.old b (Nat.lt_of_lt_of_le hb hm.size) fun j hj=>?_
  obtain ⟨p,hp⟩:=has j hj
  rw [(loc1 j p hj hp).1]
  obtain ⟨p',C',hp',hC',_⟩:=hs.at_ j _ (List.getElem?_eq_getElem hj)
  rw [hp,Option.some.injEq] at hp';subst hp'
  exact hi p (List.getElem?_eq_some_iff.1 hC').1
 ·by_cases hc:k<m.length
  ·rw [← (hlo k hc).1];exact hm.xd i j a n c hv h0 k hc
  ·obtain ⟨q,rfl⟩:∃ q,k=m.length+q:=⟨k-m.length,by omega⟩
   rw [(hi2 q).1]
   rw [← hI] at hv h0
   exact h'.xd i j a n c hv h0 _ (by omega)
end
def xJ (H:Hyp):List Seg→List Seg→Bool
 | [],[]=>true
 | l,[.run k n A 0]=>decide (l=[.run k n A 0])||(fJ k l&&decide (mX H 1 l=some n)&&decide (aGl H l=some A))
 | x::l,y::r=>decide (x=y)&&xJ H l r
 | _,_=>false
def mH (H:Hyp) (lo hi:Int):E→Bool
 | .av n=>inB (nL H.a n) lo hi
 | .app f _=>inB (nL H.fa f) lo hi
 | .upd A _ x=>inB (rng H x) lo hi&&mH H lo hi A
 | .blt A _ _ B _=>mH H lo hi A&&mH H lo hi B
 | .ite _ A B=>mH H lo hi A&&mH H lo hi B
 | .tab l=>decide (lo≤0)&&decide (0≤hi)&&l.all fun z=>decide (lo≤z)&&decide (z≤hi)
 | _=>false
def bKl (H0 H:Hyp) (σ:Sb):Bool :=
 (H0.e.all fun p=>inB (rng H (sb H σ p.1 0)) p.2.1 p.2.2)&&(H0.a.all fun p=>mH H p.2.1 p.2.2 (sb H σ (.av p.1) 2))&&bTs H0.fi H.fi&&bTs H0.fa H.fa&&H0.b.isEmpty&&H0.x.isEmpty
def aCa (H:Hyp) (σ:Sb) (π0:List Nat) (m:Mem):Mem→List Nat→Bool
 | [],[]=>true
 | B::l,p::r=>(match m[p]? with
   | some C=>!B.dead&&!C.dead&&decide (B.ty=C.ty)&&decide (B.wr=C.wr)&&decide (B.grow=C.grow)&&aKx H C&&xJ H C.aF ((B.aF.map (sbG H σ)).map (mW π0))
   | none=>false)&&aCa H σ π0 m l r
 | _,_=>false
section
variable {ρ:Env} {β:dO} {ι ι1:Loc} {m m0 m1:Mem} {w w':World} {π:List Nat} {H H0:Hyp} {σ:Sb}
theorem bFd (hH:H.ok ρ):∀ {l r:List Seg},xJ H l r=true→cellsOf ρ ι r=cellsOf ρ ι l:=by
 intro l r
 induction l,r using xJ.induct with
 | case1=>intro _;rfl
 | case2 l k n A =>
   intro h
   simp only [xJ,Bool.or_eq_true,Bool.and_eq_true,decide_eq_true_eq] at h
   rcases h with h | ⟨⟨h1,h2⟩,h3⟩
   ·rw [h]
   ·obtain ⟨hn,hl⟩:=iJ (ι:=ι) hH h2
    have hA:=pB (ι:=ι) hH h3
    rw [Nat.mul_one] at hl
    simp only [cellsOf,List.flatMap_cons,List.flatMap_nil,List.append_nil,Seg.cells]
    apply List.ext_getElem?
    intro j
    rw [List.getElem?_map]
    by_cases hj:j<(n.i ρ).toNat
    ·rw [List.getElem?_range hj]
     have hj':j<(cellsOf ρ ι l).length:=by omega
     have hv:=List.getElem?_eq_getElem hj'
     obtain ⟨z,hz⟩:=rH (ρ:=ρ) (ι:=ι) h1 _ (List.getElem_mem hj')
     have:=hA j hj'
     rw [hv,hz] at this
     change _=(cellsOf ρ ι l)[j]?
     rw [hv,hz]
     simp only [Option.map_some,Nat.zero_add,this,Option.getD_some,kE]
    ·rw [List.getElem?_eq_none (by simpa using hj),Option.map_none]
     exact (List.getElem?_eq_none (by change (cellsOf ρ ι l).length≤j;omega)).symm
 | case3 x l y r _ ih =>
   intro h
   simp only [xJ,Bool.and_eq_true,decide_eq_true_eq] at h
   obtain ⟨rfl,h2⟩:=h
   rw [aE,aE,ih h2]
 | case4 l r h1 h2 h3 =>
   intro h
   unfold xJ at h
   split at h <;> first | rfl | exact (h3 _ _ _ _ rfl rfl).elim | exact (h2 _ _ _ _ rfl rfl).elim | (exfalso;simp_all;done) | cases h
theorem aKm {r:Option Rng} {lo hi z:Int} (h:inB r lo hi=true) (hz:∀ q,r=some q→inR q z):lo≤z∧z≤hi:=by
 unfold inB at h
 split at h
 ·rename_i a b
  have:=hz _ rfl
  simp only [Bool.and_eq_true,decide_eq_true_eq] at h
  simp only [inR] at this;omega
 ·cases h
theorem lX (hH:H.ok ρ) {lo hi:Int}:∀ (e:E),mH H lo hi e=true→∀ j,lo≤e.a ρ j∧e.a ρ j≤hi
 | .av n,h,j=>aKm h fun q hq=>hH.a _ (gG hq) j
 | .app f x,h,j=>by rw [aKW];exact aKm h fun q hq=>hH.fa _ (gG hq) _ _ _ _
 | .upd A i x,h,j=>by
   simp only [mH,Bool.and_eq_true] at h
   rw [cS]
   by_cases hj:j=(i.i ρ).toNat
   ·simp only [if_pos hj];exact aKm h.1 fun q hq=>dH hH x q hq
   ·simp only [if_neg hj];exact lX hH A h.2 j
 | .blt A i n B q,h,j=>by
   simp only [mH,Bool.and_eq_true] at h
   rw [qH]
   simp only
   split
   ·exact lX hH B h.2 _
   ·exact lX hH A h.1 j
 | .ite c A B,h,j=>by
   simp only [mH,Bool.and_eq_true] at h
   rw [cK]
   split
   ·exact lX hH A h.1 j
   ·exact lX hH B h.2 j
 | .tab l,h,j=>by
   simp only [mH,Bool.and_eq_true,decide_eq_true_eq,List.all_eq_true] at h
   rw [cI]
   simp only [List.getD_eq_getElem?_getD]
   cases hz:l[j]? with
   | none=>simp only [Option.getD_none];omega
   | some z =>
     have:=h.2 z (List.mem_of_getElem? hz)
     simp only [Option.getD_some];exact this
theorem bKm (h:bKl H0 H σ=true) (hH:H.ok ρ):H0.ok (σ.env ρ):=by
 simp only [bKl,Bool.and_eq_true,List.all_eq_true] at h
 obtain ⟨⟨⟨⟨⟨h1,h2⟩,h3⟩,h4⟩,h5⟩,h6⟩:=h
 refine ⟨fun p hp=>?_,fun p hp=>?_,fun p hp j=>?_,fun p hp is bs xs=>?_,fun p hp is bs xs j=>?_,fun p hp=>?_⟩
 ·rw [List.isEmpty_iff] at h6;rw [h6] at hp;cases hp
 ·have:=aKm (h1 p hp) fun q hq=>dH hH _ q hq
  rw [sbI hH] at this;exact this
 ·have:=lX hH _ (h2 p hp) j
  rw [sbA hH] at this;exact this
 ·exact bEi (T:=fun n z=>∃ is bs xs,z=ρ.I.fi n is bs xs) h3 (fun p hp z hz=>by obtain ⟨is,bs,xs,rfl⟩:=hz;exact hH.fi p hp is bs xs) p hp _ ⟨is,bs,xs,rfl⟩
 ·exact bEi (T:=fun n z=>∃ is bs xs j,z=ρ.I.fa n is bs xs j) h4 (fun p hp z hz=>by obtain ⟨is,bs,xs,j,rfl⟩:=hz;exact hH.fa p hp is bs xs j) p hp _ ⟨is,bs,xs,j,rfl⟩
 ·rw [List.isEmpty_iff] at h5;rw [h5] at hp;cases hp
end
def setAt:List Nat→Mem→Mem→Mem
 | p::r,B::l,m=>setAt r l (m.set p B)
 | _,_,m=>m
def sD (H:Hyp) (σ:Sb) (π2:List Nat) (B:Blk):Blk:={ B with aF:=((B.aF.map (sbG H σ)).map (tH H)).map (mW π2) }
def tO (H:Hyp) (σ:Sb) (π:List Nat) (m m1:Mem):Mem :=
 setAt π (m1.map (sD H σ (cQ π m.length m1.length))) m++(m1.map (sD H σ (cQ π m.length m1.length))).drop π.length
def scM (m:Mem):Bool:=m.all fun B=>B.aF.all (Seg.sc m.length)
theorem aWC {ρ:Env} {ι:Loc} {H:Hyp} (hH:H.ok ρ) (l:List Seg):cellsOf ρ ι (l.map (tH H))=cellsOf ρ ι l:=by
 unfold cellsOf
 rw [List.flatMap_map]
 congr 1;funext s
 cases s with
 | one x=>simp only [tH,Seg.cells,xV hH]
 | _=>rfl
def gM (find:Hyp→List SV→Mem→Option (Sb × List Nat)) (H0:Hyp) (l0:List SV) (m0:Mem) (nd0:List E) (v0:SV) (om:Option Mem):Spec:=fun H l m =>
 match find H l m with
 | none=>none
 | some (σ,π) =>
   if decide π.Nodup&&aCa H σ π m m0 π&&decide (l=l0.map fun x=>lT π (sbV H σ x))&&bKl H0 H σ&&scM m&&scM (om.getD m0)&&v0.sc (om.getD m0).length&&decide (π.length≤(om.getD m0).length)
    && decide ((hM v0).isSome=(hM (lT (cQ π m.length (om.getD m0).length) (sbV H σ v0))).isSome)
   then some (nd0.map (fun e=>sb H σ e 1),lT (cQ π m.length (om.getD m0).length) (sbV H σ v0),some (match om with | none=>m | some m1=>tO H σ π m m1))
   else none
section
variable {ρ:Env} {β:dO} {ι ι1:Loc} {m m0 m1:Mem} {w w':World} {π:List Nat} {H H0:Hyp} {σ:Sb}
theorem mD:∀ (π:List Nat) (l m:Mem),(setAt π l m).length=m.length
 | [],_,_=>by simp [setAt]
 | _::_,[],_=>by simp [setAt]
 | p::r,B::l,m=>by rw [setAt,mD r l];simp
theorem sB {i:Nat}:∀ (π:List Nat) (l m:Mem),i ∉ π→(setAt π l m)[i]? = m[i]?
 | [],_,_,_=>by simp [setAt]
 | _::_,[],_,_=>by simp [setAt]
 | p::r,B::l,m,h=>by
   simp only [List.mem_cons,not_or] at h
   rw [setAt,sB r l _ h.2,List.getElem?_set_ne (fun e=>h.1 e.symm)]
theorem aWP {p:Nat} {B:Blk}:∀ (π:List Nat) (l m:Mem) (j:Nat),π.Nodup→(∀ q ∈ π,q<m.length)→π[j]? = some p→l[j]? = some B→(setAt π l m)[p]? = some B
 | [],_,_,j,_,_,h,_=>by simp at h
 | _::_,[],_,j,_,_,_,h=>by simp at h
 | q::r,C::l,m,0,hn,hl,h,h'=>by
   simp only [List.getElem?_cons_zero,Option.some.injEq] at h h'
   subst h;subst h'
   have hq:=(List.nodup_cons.1 hn).1
   rw [setAt,sB r l _ hq,List.getElem?_set_self (hl q (.head _))]
 | q::r,C::l,m,j+1,hn,hl,h,h'=>by
   simp only [List.getElem?_cons_succ] at h h'
   rw [setAt]
   exact aWP r l _ j (List.nodup_cons.1 hn).2 (fun x hx=>by rw [List.length_set];exact hl x (.tail _ hx)) h h'
theorem aIW (hH:H.ok ρ) (hm:aH ρ β ι m w):∀ {l:Mem} {r:List Nat},aCa H σ π m l r=true→r.length=l.length∧(∀ (j:Nat) (B:Blk),l[j]? = some B→∃ (p:Nat) (C:Blk),r[j]? = some p∧m[p]? = some C∧B.dead=false∧C.dead=false∧B.ty=C.ty∧B.wr=C.wr∧B.grow=C.grow∧cellsOf (σ.env ρ) (piv π ι) B.aF=cellsOf ρ ι C.aF)∧∀ p ∈ r,ι.nil p=false
 | [],[],_=>⟨rfl,fun j B h=>by simp at h,fun p hp=>by cases hp⟩
 | B::l,p::r,h=>by
   simp only [aCa,Bool.and_eq_true] at h
   obtain ⟨h1,h2,h2'⟩:=aIW hH hm h.2
   have h3:=h.1
   split at h3
   ·rename_i C hC
    simp only [Bool.and_eq_true,decide_eq_true_eq,Bool.not_eq_true'] at h3
    obtain ⟨⟨⟨⟨⟨⟨a1,a2⟩,a3⟩,a4⟩,a5⟩,a6⟩,a7⟩:=h3
    refine ⟨by simp [h1],fun j D hD=>?_,fun q hq=>?_⟩
    ·cases j with
     | zero =>
       simp only [List.getElem?_cons_zero,Option.some.injEq] at hD;subst hD
       refine ⟨p,C,rfl,hC,a1,a2,a3,a4,a5,?_⟩
       rw [← bFd hH a7,kH,zX hH]
     | succ j=>simpa using h2 j D (by simpa using hD)
    ·rcases List.mem_cons.1 hq with rfl | hq
     ·exact aIT hH hm hC a2 a6
     ·exact h2' q hq
   ·cases h3
 | [],_::_,h=>by simp [aCa] at h
 | _::_,[],h=>by simp [aCa] at h
theorem bHS (hH:H.ok ρ) {v0:SV} {π2:List Nat} (h:(hM v0).isSome=(hM (lT π2 (sbV H σ v0))).isSome):eZ (σ.env ρ) (piv π2 ι) v0=eZ ρ ι (lT π2 (sbV H σ v0)):=by
 cases hp:hM v0 with
 | some x =>
   obtain ⟨⟨t,k,e,rfl⟩,rfl⟩:=pZ hp
   have e1:lT π2 (sbV H σ (aFN (.ifc t k e)))=aFN (.ifc t k (sb H σ e 0)):=rfl
   rw [e1]
   show Ending.panicked [aZj ((S.ifc t k e).aC (σ.env ρ) (piv π2 ι))]=Ending.panicked [aZj ((S.ifc t k (sb H σ e 0)).aC ρ ι)]
   simp only [S.aC,sbI hH]
 | none =>
   rw [hp] at h
   have hp2:hM (lT π2 (sbV H σ v0))=none:=by
    cases hq:hM (lT π2 (sbV H σ v0)) with
    | none=>rfl
    | some y=>rw [hq] at h;cases h
   simp only [eZ,hp,hp2]
   rw [aDn,bKe hH]
theorem bFu {π:List Nat} {n1:Nat} (hn:π.length=m0.length) (hlt:∀ p ∈ π,p<m.length):Loc.bV m0.length (piv π ι) (piv (cQ π m.length m0.length) (cJ ι m.length m0.length ι1)):=fun j hj=>by
 have hj':j<π.length:=by omega
 have hp:=List.getElem?_eq_getElem hj'
 have hq:=kG (K:=m.length) (n1:=m0.length) hp
 have hl:=kQ (ι:=ι) m.length m0.length ι1 _ (hlt _ (List.getElem_mem hj'))
 exact ⟨(dB hp).trans (hl.1.trans (dB hq).symm),(bP hp).1.trans (hl.2.1.trans (bP hq).1.symm),(bP hp).2.trans (hl.2.2.trans (bP hq).2.symm)⟩
theorem aIP {P:Program} {I:Interp} {f:FuncId} {find:Hyp→List SV→Mem→Option (Sb × List Nat)} {l0:List SV} {nd0:List E} {v0:SV} {om:Option Mem}
 (hs:∀ (σ:Sb) (π:List Nat) (H:Hyp) (l:List SV) (m:Mem),find H l m=some (σ,π)→∀ (ρ:Env) (β:dO) (ι:Loc) (w:World),ρ.I=I→H0.ok (σ.env ρ)→bG (σ.env ρ) nd0→aH (σ.env ρ) β ι m0 w →
   Calls P f (l0.map (SV.aC (σ.env ρ) ι)).toArray w fun e w'=>match om with
    | none=>e=eZ (σ.env ρ) ι v0∧aH (σ.env ρ) β ι m0 w'
    | some m'=>∃ ι',Loc.bV m0.length ι ι'∧e=eZ (σ.env ρ) ι' v0∧aH (σ.env ρ) β ι' m' w'):bD P I f (gM find H0 l0 m0 nd0 v0 om):=by
 constructor
 intro H l m nd v om' h ρ β ι w hI hH hn hm
 unfold gM at h
 split at h
 ·cases h
 ·rename_i σ π hfind
  split at h
  ·rename_i hc
   simp only [Bool.and_eq_true,decide_eq_true_eq] at hc
   obtain ⟨⟨⟨⟨⟨⟨⟨⟨c1,c2⟩,c3⟩,c4⟩,c5⟩,c6⟩,c7⟩,c8⟩,c9⟩:=hc
   simp only [Option.some.injEq,Prod.mk.injEq] at h
   obtain ⟨rfl,rfl,rfl⟩:=h
   obtain ⟨p1,p2,p3⟩:=aIW (ι:=ι) hH hm c2
   have hP:bGD ρ (σ.env ρ) ι π m m0:=⟨c1,p1,p2,p3⟩
   have hlt:∀ p ∈ π,p<m.length:=fun p hp=>by
    obtain ⟨j,hj⟩:=List.getElem?_of_mem hp
    have hjl:j<m0.length:=by have:=(List.getElem?_eq_some_iff.1 hj).1;omega
    obtain ⟨p',C,hp',hC,_⟩:=p2 j _ (List.getElem?_eq_getElem hjl)
    rw [hj,Option.some.injEq] at hp';subst hp'
    exact (List.getElem?_eq_some_iff.1 hC).1
   have hnd:bG (σ.env ρ) nd0:=fun e he=>by
    have:=hn _ (List.mem_map.2 ⟨e,he,rfl⟩)
    rw [sbB hH] at this;exact this
   have h1:=hs σ π H l m hfind ρ ⟨w,m0.length,piv π ι⟩ (piv π ι) w hI (bKm c4 hH) hnd (hm.pickG hP rfl)
   have hargs:l.map (SV.aC ρ ι)=l0.map (SV.aC (σ.env ρ) (piv π ι)):=by
    rw [c3,List.map_map]
    refine List.map_congr_left fun x _=>?_
    show SV.aC ρ ι (lT π (sbV H σ x))=_
    rw [aDn,bKe hH]
   rw [hargs]
   have fin:∀ (m1 m':Mem) (ι1:Loc) (e:Ending) (w':World),π.length≤m1.length→scM m1=true→v0.sc m1.length=true→(hM v0).isSome=(hM (lT (cQ π m.length m1.length) (sbV H σ v0))).isSome →
    e=eZ (σ.env ρ) ι1 v0→aH (σ.env ρ) ⟨w,m0.length,piv π ι⟩ ι1 m1 w'→Loc.bV m0.length (piv π ι) ι1→bAi ρ (σ.env ρ) (cJ ι m.length m0.length ι1) π m m1 m' →
    ∃ ι',Loc.bV m.length ι ι'∧e=eZ ρ ι' (lT (cQ π m.length m1.length) (sbV H σ v0))∧aH ρ β ι' m' w':=fun m1 m' ι1 e w' d1 d2 d3 d4 d5 d6 d7 d8=>by
    refine ⟨cJ ι m.length m0.length ι1,kQ _ _ _,?_,hm.bMS hP rfl d6 d8 c5 d2⟩
    rw [d5,← bHS hH d4]
    refine xH (k:=m1.length) (fun j hj=>?_) d3
    by_cases hc:j<π.length
    ·have hp:=List.getElem?_eq_getElem hc
     have hq:=kG (K:=m.length) (n1:=m1.length) hp
     have hl:=kQ (ι:=ι) m.length m0.length ι1 _ (hlt _ (List.getElem_mem hc))
     have ha:=d7 j (by omega)
     exact ⟨ha.1.symm.trans ((dB hp).trans (hl.1.trans (dB hq).symm)),ha.2.1.symm.trans ((bP hp).1.trans (hl.2.1.trans (bP hq).1.symm)),ha.2.2.symm.trans ((bP hp).2.trans (hl.2.2.trans (bP hq).2.symm))⟩
    ·obtain ⟨q,rfl⟩:∃ q,j=π.length+q:=⟨j-π.length,by omega⟩
     have hq:=qA (K:=m.length) hj
     have hno:¬ m.length+q<m.length:=by omega
     refine ⟨?_,?_,?_⟩
     ·rw [dB hq];simp only [cJ,if_neg hno,Nat.add_sub_cancel_left,p1]
     ·rw [(bP hq).1];simp only [cJ,if_neg hno,Nat.add_sub_cancel_left,p1]
     ·rw [(bP hq).2];simp only [cJ,if_neg hno,Nat.add_sub_cancel_left,p1]
   refine h1.mono fun e w' h2=>?_
   cases om with
   | none =>
     refine fin m0 m (piv π ι) e w' (by omega) c6 c7 c9 h2.1 h2.2 (Loc.bV.refl _ _) ⟨by omega,by omega,fun _ _ _=>rfl,fun j B hB=>?_⟩
     obtain ⟨p,C,hp,hC,a1,a2,a3,a4,a5,a6⟩:=p2 j B hB
     refine ⟨p,C,kG hp,hC,a1.trans a2.symm,a3,a4,a5,?_⟩
     rw [← bM (bFu (n1:=0) p1 hlt) (List.all_eq_true.1 c6 _ (List.mem_of_getElem? hB)),a6]
     exact bM (kQ _ _ _) (List.all_eq_true.1 c5 _ (List.mem_of_getElem? hC))
   | some m1 =>
     obtain ⟨ι1,e1,e2,e3⟩:=h2
     refine fin m1 (tO H σ π m m1) ι1 e w' c8 c6 c7 c9 e2 e3 e1 ⟨?_,c8,fun i hi hp=>?_,fun j B hB=>?_⟩
     ·simp [tO,mD]
     ·rw [tO,List.getElem?_append_left (by rw [mD];exact hi),sB _ _ _ hp]
     ·have hj:=(List.getElem?_eq_some_iff.1 hB).1
      have cells:cellsOf (σ.env ρ) (piv (cQ π m.length m1.length) (cJ ι m.length m0.length ι1)) B.aF=cellsOf ρ (cJ ι m.length m0.length ι1) (sD H σ (cQ π m.length m1.length) B).aF:=by
       simp only [sD];rw [kH,aWC hH,zX hH]
      have hmap:(m1.map (sD H σ (cQ π m.length m1.length)))[j]? = some (sD H σ (cQ π m.length m1.length) B):=by rw [List.getElem?_map,hB];rfl
      by_cases hc:j<π.length
      ·have hp:=List.getElem?_eq_getElem hc
       refine ⟨_,sD H σ (cQ π m.length m1.length) B,kG hp,?_,rfl,rfl,rfl,rfl,cells⟩
       rw [tO,List.getElem?_append_left (by rw [mD];exact hlt _ (List.getElem_mem hc))]
       exact aWP _ _ _ j c1 hlt hp hmap
      ·obtain ⟨q,rfl⟩:∃ q,j=π.length+q:=⟨j-π.length,by omega⟩
       refine ⟨_,sD H σ (cQ π m.length m1.length) B,qA hj,?_,rfl,rfl,rfl,rfl,cells⟩
       rw [tO,List.getElem?_append_right (by rw [mD];omega),mD,Nat.add_sub_cancel_left,List.getElem?_drop]
       exact hmap
  ·cases h
theorem gC {P:Program} {I:Interp} {f:FuncId} {s:Spec} {find:Hyp→List SV→Mem→Option (Sb × List Nat)} {l0:List SV} {nd0:List E} {v0:SV} {om:Option Mem} (hs:bD P I f s) (h0:s H0 l0 m0=some (nd0,v0,om)):bD P I f (gM find H0 l0 m0 nd0 v0 om) :=
 aIP fun σ _ _ _ _ _ ρ β ι w hI hH hn hm=>hs.ok H0 l0 m0 nd0 v0 om h0 (σ.env ρ) β ι w hI hH hn hm
end
structure MS where
 i:List (Nat × E)
 b:List (Nat × E)
 a:List (Nat × E)
 π:List (Nat × Nat)
def aDF {α:Type} (l:List (Nat × α)) (n:Nat) (d:α):α:=match l with
 | []=>d
 | (k,x)::r=>cond (Nat.beq k n) x (aDF r n d)
def mE:E→E→MS→MS
 | .v n,e,s=>{ s with i:=(n,e)::s.i }
 | .bv n,e,s=>{ s with b:=(n,e)::s.b }
 | .av n,e,s=>{ s with a:=(n,e)::s.a }
 | .app _ p,.app _ e,s=>mE p e s
 | .cons p q,.cons e f,s=>mE q f (mE p e s)
 | .add p q,.add e f,s | .sub p q,.sub e f,s | .mul p q,.mul e f,s | .div p q,.div e f,s | .mod p q,.mod e f,s | .sel p q,.sel e f,s | .eq p q,.eq e f,s | .lt p q,.lt e f,s | .le p q,.le e f,s | .and p q,.and e f,s | .or p q,.or e f,s=>mE q f (mE p e s)
 | .not p,.not e,s=>mE p e s
 | .ite p q r,.ite e f g,s | .upd p q r,.upd e f g,s=>mE r g (mE q f (mE p e s))
 | .blt p q r t u,.blt e f g h k,s=>mE u k (mE t h (mE r g (mE q f (mE p e s))))
 | _,_,s=>s
def mB (p b:Nat) (s:MS):MS:=if s.π.any (fun q=>Nat.beq q.1 p) then s else { s with π:=s.π++[(p,b)] }
def mS:S→S→MS→MS
 | .int _ p,.int _ e,s=>mE p e s
 | .bool p,.bool e,s=>mE p e s
 | .ptr b o,.ptr b' o',s=>mE o o' (mB b b' s)
 | .slc b o l c,.slc b' o' l' c',s=>mE o o' (mE l l' ((match c,c' with | .kn x,.kn y=>mE x y | .op x,.op y=>mE x y | .tl x y _,.tl x' y' _=>fun s=>mE x x' (mE y y' s) | _,_=>id) (mB b b' s)))
 | .fn _ l,.fn _ l',s=>(l.zip l').foldl (fun s p=>mE p.1.2 p.2.2 (mB p.1.1 p.2.1 s)) s
 | .ifc _ _ p,.ifc _ _ e,s=>mE p e s
 | _,_,s=>s
def aWo (H:Hyp):List Seg→List Seg→MS→MS
 | [.run _ n A 0],l,s=>match mX H 1 l,aGl H l with
   | some n',some A'=>mE n n' (mE A A' s)
   | _,_=>s
 | .one p::r,.one x::l,s=>aWo H r l (mS p x s)
 | .run _ n A _::r,.run _ n' A' _::l,s=>aWo H r l (mE n n' (mE A A' s))
 | .rows n fs _::r,.rows n' fs' _::l,s=>aWo H r l (mE n n' ((fs.zip fs').foldl (fun s p=>mE p.1.2 p.2.2 s) s))
 | _,_,s=>s
def mV (H:Hyp):SV→SV→MS→MS
 | .s p,.s x,s=>mS p x s
 | .agg p,.agg x,s=>aWo H p x s
 | _,_,s=>s
def bOF (H:Hyp) (m0 m:Mem):Nat→Nat→MS→MS
 | 0,_,s=>s
 | k+1,j,s=>match s.π[j]? with
   | none=>s
   | some (b0,b)=>bOF H m0 m k (j+1) (match m0[b0]?,m[b]? with
     | some B,some C=>aWo H B.aF C.aF s
     | _,_=>s)
def gV (ni nb na:Nat) (l0:List SV) (m0:Mem):Hyp→List SV→Mem→Option (Sb × List Nat):=fun H l m =>
 if decide (l.length=l0.length) then
  let s:=bOF H m0 m m0.length 0 ((l0.zip l).foldl (fun s p=>mV H p.1 p.2 s) ⟨[],[],[],[]⟩)
  some (⟨(List.range ni).map fun n=>aDF s.i n (.lit 0),(List.range nb).map fun n=>aDF s.b n (.blit false),(List.range na).map fun n=>aDF s.a n (.tab [])⟩,(List.range m0.length).map fun b=>aDF s.π b m.length)
 else none
noncomputable def bEz (H0:Hyp) (l0:List SV) (m0:Mem) (nd:List E) (v:SV) (om:Option Mem):Spec:=fun H l m=>@ite _ (H=H0∧l=l0∧m=m0) (Classical.propDecidable _) (some (nd,v,om)) none
theorem bKR {P:Program} {I:Interp} {f:FuncId} {s:Spec} {H0:Hyp} {l0:List SV} {m0:Mem} {nd0 nd:List E} {v0:SV} {om:Option Mem} (hs:bD P I f s) (h0:s H0 l0 m0=some (nd0,v0,om))
 (hw:∀ ρ:Env,ρ.I=I→H0.ok ρ→bG ρ nd→bG ρ nd0):bD P I f (bEz H0 l0 m0 nd v0 om):=by
 constructor
 intro H l m nd' v om' h ρ β ι w hI hH hn hm
 unfold bEz at h
 split at h
 ·rename_i hc
  obtain ⟨rfl,rfl,rfl⟩:=hc
  simp only [Option.some.injEq,Prod.mk.injEq] at h
  obtain ⟨rfl,rfl,rfl⟩:=h
  exact hs.1 _ _ _ _ _ _ h0 ρ β ι w hI hH (hw ρ hI hH hn) hm
 ·cases h
theorem bKQ (H0:Hyp) (l0:List SV) (m0:Mem) (nd:List E) (v:SV) (om:Option Mem):bEz H0 l0 m0 nd v om H0 l0 m0=some (nd,v,om):=by
 unfold bEz;rw [if_pos ⟨rfl,rfl,rfl⟩]
def yS (u:Int→List SV) (e:E) (s:Spec) (H:Hyp) (m:Mem) (j:Int):Option (List E × SV × Option Mem) :=
 match s { H with e:=(e,(j,j))::H.e } (u j) m with
 | some (nd,v,om)=>if dM v then none else some (nd.map (imp [mkEq H e (.lit j)]),v,om)
 | none=>none
def aLe (c:E) (m:Mem) (v1 v2:SV) (o1 o2:Option Mem):Option (SV × Option Mem):=match aFv c v1 v2 with
 | some v=>(match o1,o2 with
   | none,none=>some (v,none)
   | o1,o2=>match gX c (o1.getD m) (o2.getD m) with
     | some mm=>some (v,some mm)
     | none=>none)
 | none=>none
def aDK (u:Int→List SV) (e:E) (s:Spec) (H:Hyp) (m:Mem):List Int→Option (List E × SV × Option Mem)
 | []=>none
 | [j]=>yS u e s H m j
 | j::js=>match yS u e s H m j,aDK u e s H m js with
   | some (n1,v1,o1),some (n2,v2,o2)=>(match aLe (mkEq H e (.lit j)) m v1 v2 o1 o2 with
     | some (v,om)=>if dM v then none else some (n1++n2,v,om)
     | none=>none)
   | _,_=>none
def rC (a:Int):Nat→List Int
 | 0=>[]
 | n+1=>a::rC (a+1) n
def aHb (i:Nat) (most:Nat) (s:Spec):Spec:=fun H l m=>match l[i]? with
 | some (.s (.int k e))=>(match e with
   | .lit _=>s H l m
   | e=>match rng H e with
     | some (a,b)=>if a≤b∧b-a<most then aDK (fun j=>l.set i (.s (.int k (.lit j)))) e s H m (rC a (b-a+1).toNat) else none
     | none=>none)
 | _=>s H l m
section
variable {P:Program} {I:Interp} {f:FuncId} {s:Spec}
theorem zI:∀ (n:Nat) (a z:Int),a≤z→z<a+n→z ∈ rC a n
 | 0,a,z,h1,h2=>by omega
 | n+1,a,z,h1,h2=>by
   unfold rC
   by_cases h:z=a
   ·subst h;exact .head _
   ·exact .tail _ (zI n (a+1) z (by omega) (by omega))
def qP (ρ:Env) (β:dO) (ι:Loc) (m:Mem) (v:SV) (om:Option Mem) (r:Ending) (w':World):Prop :=
 ∃ ι',Loc.bV m.length ι ι'∧r=.returned (v.aC ρ ι')∧aH ρ β ι' (om.getD m) w'∧(om=none→ι'=ι)
theorem aDL (hs:bD P I f s) {u:Int→List SV} {e:E} {H:Hyp} {l:List SV} {m:Mem} {j:Int} {nd:List E} {v:SV} {om:Option Mem}
 (h:yS u e s H m j=some (nd,v,om)) {ρ:Env} {β:dO} {ι:Loc} {w:World} (hl:∀ j,e.i ρ=j→(u j).map (SV.aC ρ ι)=l.map (SV.aC ρ ι)) (hI:ρ.I=I) (hH:H.ok ρ) (hn:bG ρ nd) (hm:aH ρ β ι m w) (he:e.i ρ=j) :
 Calls P f (l.map (SV.aC ρ ι)).toArray w (qP ρ β ι m v om):=by
 unfold yS at h
 split at h
 ·rename_i nd' v' om' hq
  split at h
  ·cases h
  ·rename_i hp
   simp only [Bool.not_eq_true] at hp
   simp only [Option.some.injEq,Prod.mk.injEq] at h
   obtain ⟨rfl,rfl,rfl⟩:=h
   have hH':Hyp.ok { H with e:=(e,(j,j))::H.e } ρ:=⟨hH.x,fun p hp=>by rcases List.mem_cons.1 hp with rfl | hp;exact ⟨Int.le_of_eq he.symm,Int.le_of_eq he⟩;exact hH.e p hp,hH.a,hH.fi,hH.fa,hH.b⟩
   have hc:(mkEq H e (.lit j)).b ρ=true:=by rw [gJ hH,aD,he];exact decide_eq_true rfl
   have hn':bG ρ nd':=gQ hn (fun x hx=>by
    have:x=mkEq H e (.lit j):=by simpa using hx
    rw [this];exact hc)
   have hargs:=hl j he
   have:=hs.ok _ _ _ _ _ _ hq ρ β ι w hI hH' hn' hm
   rw [hargs] at this
   refine this.mono fun r w' hr=>?_
   cases om' with
   | none=>exact ⟨ι,fun _ _=>⟨rfl,rfl,rfl⟩,by rw [hr.1,aW hp],hr.2,fun _=>rfl⟩
   | some m' =>
     obtain ⟨ι',h1,h2,h3⟩:=hr
     exact ⟨ι',h1,by rw [h2,aW hp],h3,fun h=>by cases h⟩
 ·cases h
theorem bGZ (hs:bD P I f s) {u:Int→List SV} {e:E} {H:Hyp} {l:List SV} {m:Mem} {ρ:Env} {β:dO} {ι:Loc} {w:World} (hl:∀ j,e.i ρ=j→(u j).map (SV.aC ρ ι)=l.map (SV.aC ρ ι)) (hI:ρ.I=I) (hH:H.ok ρ) (hm:aH ρ β ι m w) :
 ∀ (js:List Int) (nd:List E) (v:SV) (om:Option Mem),aDK u e s H m js=some (nd,v,om)→bG ρ nd→e.i ρ ∈ js →
  dM v=false∧Calls P f (l.map (SV.aC ρ ι)).toArray w (qP ρ β ι m v om):=by
 intro js
 induction js with
 | nil=>intro nd v om h;simp [aDK] at h
 | cons j js ih =>
   intro nd v om h hn he
   cases js with
   | nil =>
     have hj:e.i ρ=j:=by simpa using he
     refine ⟨?_,aDL hs h hl hI hH hn hm hj⟩
     unfold aDK yS at h
     split at h
     ·split at h
      ·cases h
      ·rename_i hp
       simp only [Bool.not_eq_true] at hp
       simp only [Option.some.injEq,Prod.mk.injEq] at h
       obtain ⟨_,rfl,_⟩:=h;exact hp
     ·cases h
   | cons j2 js =>
     unfold aDK at h
     split at h
     ·rename_i n1 v1 o1 n2 v2 o2 h1 h2
      split at h
      ·rename_i v' om' hj
       split at h
       ·cases h
       ·rename_i hp
        simp only [Bool.not_eq_true] at hp
        simp only [Option.some.injEq,Prod.mk.injEq] at h
        obtain ⟨rfl,rfl,rfl⟩:=h
        have a1:bG ρ n1:=fun x hx=>hn x (List.mem_append_left _ hx)
        have a2:bG ρ n2:=fun x hx=>hn x (List.mem_append_right _ hx)
        refine ⟨hp,?_⟩
        have hb:(mkEq H e (.lit j)).b ρ=decide (e.i ρ=j):=by rw [gJ hH,aD]
        have key:∀ {r w'},(if (mkEq H e (.lit j)).b ρ then qP ρ β ι m v1 o1 r w' else qP ρ β ι m v2 o2 r w')→qP ρ β ι m v' om' r w':=by
         intro r w' hc
         unfold aLe at hj
         split at hj
         ·rename_i vv hv
          have gv:∀ ι',SV.aC ρ ι' vv=if (mkEq H e (.lit j)).b ρ then SV.aC ρ ι' v1 else SV.aC ρ ι' v2:=fun ι'=>aBP hv
          split at hj
          ·simp only [Option.some.injEq,Prod.mk.injEq] at hj
           obtain ⟨rfl,rfl⟩:=hj
           cases hq:(mkEq H e (.lit j)).b ρ <;> rw [hq] at hc gv <;> simp only [Bool.false_eq_true,if_false,if_true] at hc gv
           ·obtain ⟨ι',b1,b2,b3,b4⟩:=hc
            exact ⟨ι',b1,by rw [b2,gv],b3,b4⟩
           ·obtain ⟨ι',b1,b2,b3,b4⟩:=hc
            exact ⟨ι',b1,by rw [b2,gv],b3,b4⟩
          ·split at hj
           ·rename_i mm hmm
            simp only [Option.some.injEq,Prod.mk.injEq] at hj
            obtain ⟨rfl,rfl⟩:=hj
            cases hq:(mkEq H e (.lit j)).b ρ <;> rw [hq] at hc gv <;> simp only [Bool.false_eq_true,if_false,if_true] at hc gv
            ·obtain ⟨ι',b1,b2,b3,_⟩:=hc
             exact ⟨ι',b1,by rw [b2,gv],fQ hmm (by rw [hq];simpa using b3),fun h=>by cases h⟩
            ·obtain ⟨ι',b1,b2,b3,_⟩:=hc
             exact ⟨ι',b1,by rw [b2,gv],fQ hmm (by rw [hq];simpa using b3),fun h=>by cases h⟩
           ·cases hj
         ·cases hj
        by_cases hej:e.i ρ=j
        ·refine (aDL hs h1 hl hI hH a1 hm hej).mono fun r w' hr=>key ?_
         rw [hb,decide_eq_true hej];exact hr
        ·have he2:e.i ρ ∈ j2::js:=by
          rcases List.mem_cons.1 he with h | h
          ·exact absurd h hej
          ·exact h
         refine ((ih n2 v2 o2 h2 a2 he2).2).mono fun r w' hr=>key ?_
         rw [hb,decide_eq_false hej];simpa using hr
      ·cases h
     ·cases h
theorem bKg {ρ:Env} {ι:Loc} {l:List SV} {i:Nat} {x y:SV} (h:l[i]? = some x) (hy:y.aC ρ ι=x.aC ρ ι):(l.set i y).map (SV.aC ρ ι)=l.map (SV.aC ρ ι):=by
 apply List.ext_getElem?
 intro q
 rw [List.getElem?_map,List.getElem?_map,List.getElem?_set]
 split
 ·rename_i hq;subst hq
  split
  ·rw [h];simp only [Option.map_some,hy]
  ·rename_i hlt
   rw [List.getElem?_eq_none (by omega)] at h;cases h
 ·rfl
theorem aXt (hs:bD P I f s) {u:Int→List SV} {e:E} {a b:Int} {H:Hyp} {l:List SV} {m:Mem} {nd:List E} {v:SV} {om:Option Mem} (h:aDK u e s H m (rC a (b-a+1).toNat)=some (nd,v,om)) (hr:rng H e=some (a,b)) (hab:a≤b)
 {ρ:Env} {β:dO} {ι:Loc} {w:World} (hl:∀ j,e.i ρ=j→(u j).map (SV.aC ρ ι)=l.map (SV.aC ρ ι)) (hI:ρ.I=I) (hH:H.ok ρ) (hn:bG ρ nd) (hm:aH ρ β ι m w) {R:Ending→World→Prop}
 (h0:∀ r w',om=none→r=eZ ρ ι v→aH ρ β ι m w'→R r w') (h1:∀ r w' m' ι',om=some m'→Loc.bV m.length ι ι'→r=eZ ρ ι' v→aH ρ β ι' m' w'→R r w') :
 Calls P f (l.map (SV.aC ρ ι)).toArray w R:=by
 have hr2:=dH hH _ _ hr
 simp only [inR] at hr2
 obtain ⟨hp,hk⟩:=bGZ hs hl hI hH hm _ _ _ _ h hn (zI _ _ _ hr2.1 (by omega))
 refine hk.mono fun r w' hx=>?_
 obtain ⟨ι',b1,b2,b3,b4⟩:=hx
 cases om with
 | none =>
   have:=b4 rfl
   subst this
   exact h0 r w' rfl (by rw [b2,aW hp]) b3
 | some m'=>exact h1 r w' m' ι' rfl b1 (by rw [b2,aW hp]) b3
theorem aLf (i:Nat) (most:Nat) (hs:bD P I f s):bD P I f (aHb i most s):=by
 constructor
 intro H l m nd v om h ρ β ι w hI hH hn hm
 unfold aHb at h
 split at h
 ·rename_i k e hl
  split at h
  ·exact hs.ok _ _ _ _ _ _ h ρ β ι w hI hH hn hm
  ·split at h
   ·rename_i a b hr
    split at h
    ·rename_i hc
     exact aXt hs h hr hc.1 (fun j hj=>bKg hl (by simp only [SV.aC,S.aC,aD,hj])) hI hH hn hm (fun r w' e1 e2 e3=>by subst e1;exact ⟨e2,e3⟩) (fun r w' m' ι' e1 e2 e3 e4=>by subst e1;exact ⟨ι',e2,e3,e4⟩)
    ·cases h
   ·cases h
 ·exact hs.ok _ _ _ _ _ _ h ρ β ι w hI hH hn hm
end
structure iL (P:Program) (I:Interp) (f:FuncId) (ni nb na:Nat) (s:Spec):Prop where
 ok:∀ H l m nd v om,s H l m=some (nd,v,om)→∀ (ρ:Env) (β:dO) (ι:Loc) (w:World),ρ.I=I→dY ρ ni nb na→H.ok ρ→bG ρ nd→aH ρ β ι m w →
  Calls P f (l.map (SV.aC ρ ι)).toArray w fun e w'=>match om with
   | none=>e=eZ ρ ι v∧aH ρ β ι m w'
   | some m'=>∃ ι',Loc.bV m.length ι ι'∧e=eZ ρ ι' v∧aH ρ β ι' m' w'
theorem iL.of {P:Program} {I:Interp} {f:FuncId} {ni nb na:Nat} {s:Spec} (h:bD P I f s):iL P I f ni nb na s :=
 ⟨fun H l m nd v om hs ρ β ι w hI _ hH hn hm=>h.ok H l m nd v om hs ρ β ι w hI hH hn hm⟩
def SEq (ρ' ρ:Env):S→S→Prop
 | .int k x,.int k' y=>k=k'∧x.i ρ'=y.i ρ
 | .bool x,.bool y=>x.b ρ'=y.b ρ
 | .ptr b o,.ptr b' o'=>b=b'∧o.i ρ'=o'.i ρ
 | .slc b o l (.kn c),.slc b' o' l' (.kn c')=>b=b'∧o.i ρ'=o'.i ρ∧l.i ρ'=l'.i ρ∧c.i ρ'=c'.i ρ
 | .slc b o l (.op c),.slc b' o' l' (.op c')=>b=b'∧o.i ρ'=o'.i ρ∧l.i ρ'=l'.i ρ∧c.i ρ'=c'.i ρ
 | .xslc i j o l,.xslc i' j' o' l'=>i=i'∧j.i ρ'=j'.i ρ∧o.i ρ'=o'.i ρ∧l.i ρ'=l'.i ρ
 | .nil,.nil | .nilIface,.nilIface | .nilSlc,.nilSlc | .nilFn,.nilFn | .undef,.undef=>True
 | .str l,.str l'=>l=l'
 | .fn f [],.fn f' []=>f=f'
 | .ifc t k x,.ifc t' k' y=>t=t'∧k=k'∧x.i ρ'=y.i ρ
 | _,_=>False
def aDx (ρ' ρ:Env):Seg→Seg→Prop
 | .one x,.one y=>SEq ρ' ρ x y
 | .run k n A o,.run k' n' A' o'=>k=k'∧n.i ρ'=n'.i ρ∧∀ j,j<(n'.i ρ).toNat→A.a ρ' (o+j)=A'.a ρ (o'+j)
 | _,_=>False
def nP (ρ' ρ:Env):List Seg→List Seg→Prop
 | [],[]=>True
 | x::l,y::r=>aDx ρ' ρ x y∧nP ρ' ρ l r
 | _,_=>False
def bGz (ρ' ρ:Env) (B C:Blk):Prop:=(B.ty=C.ty∧B.wr=C.wr∧B.grow=C.grow∧B.dead=C.dead)∧(C.dead=true∨nP ρ' ρ B.aF C.aF)
def nW (ρ' ρ:Env):Mem→Mem→Prop
 | [],[]=>True
 | B::l,C::r=>bGz ρ' ρ B C∧nW ρ' ρ l r
 | _,_=>False
def aGR (ρ' ρ:Env):List (Bool × List Seg)→List (Bool × List Seg)→Prop
 | [],[]=>True
 | x::l,y::r=>x.1=y.1∧nP ρ' ρ x.2 y.2∧aGR ρ' ρ l r
 | _,_=>False
def VEq (ρ' ρ:Env):SV→SV→Prop
 | .s x,.s y=>SEq ρ' ρ x y
 | .agg l,.agg r=>nP ρ' ρ l r
 | .tup l,.tup r=>aGR ρ' ρ l r
 | _,_=>False
section
variable {ρ' ρ:Env} {ι:Loc}
theorem SEq.aC (hI:ρ'.I=ρ.I) {x y:S} (h:SEq ρ' ρ x y):x.aC ρ' ι=y.aC ρ ι:=by
 unfold SEq at h
 split at h
 ·obtain ⟨rfl,h⟩:=h;simp only [S.aC,h]
 ·simp only [S.aC,h]
 ·obtain ⟨rfl,h⟩:=h;simp only [S.aC,addr,h]
 ·obtain ⟨rfl,h1,h2,h3⟩:=h;simp only [S.aC,addr,h1,h2,h3]
 ·obtain ⟨rfl,h1,h2,h3⟩:=h;simp only [S.aC,addr,h1,h2,h3]
 ·obtain ⟨rfl,h1,h2,h3⟩:=h;simp only [S.aC,hI,h1,h2,h3]
 ·rfl
 ·rfl
 ·rfl
 ·rfl
 ·rfl
 ·subst h;rfl
 ·subst h;rfl
 ·obtain ⟨rfl,rfl,h⟩:=h;simp only [S.aC,h]
 ·cases h
theorem aDx.cells (hI:ρ'.I=ρ.I) {x y:Seg} (h:aDx ρ' ρ x y):x.cells ρ' ι=y.cells ρ ι:=by
 unfold aDx at h
 split at h
 ·rw [aX,aX,h.aC hI]
 ·obtain ⟨rfl,hn,ha⟩:=h
  simp only [Seg.cells,hn]
  apply List.map_congr_left
  intro j hj
  rw [ha j (by simpa using hj)]
 ·cases h
theorem nP.cells (hI:ρ'.I=ρ.I):∀ {l r:List Seg},nP ρ' ρ l r→cellsOf ρ' ι l=cellsOf ρ ι r
 | [],[],_=>rfl
 | [],_::_,h=>by cases h
 | _::_,[],h=>by cases h
 | x::l,y::r,h=>by
   obtain ⟨h1,h2⟩:=h
   rw [aE,aE,h1.cells hI,nP.cells hI h2]
theorem aGR.aC (hI:ρ'.I=ρ.I):∀ {l r:List (Bool × List Seg)},aGR ρ' ρ l r→(l.map fun p=>if p.1 then Value.agg (cellsOf ρ' ι p.2).toArray else ((cellsOf ρ' ι p.2)[0]?).getD Go.undef)=r.map fun p=>if p.1 then Value.agg (cellsOf ρ ι p.2).toArray else ((cellsOf ρ ι p.2)[0]?).getD Go.undef
 | [],[],_=>rfl
 | [],_::_,h=>by cases h
 | _::_,[],h=>by cases h
 | x::l,y::r,h=>by
   obtain ⟨h1,h2,h3⟩:=h
   rw [List.map_cons,List.map_cons,aGR.aC hI h3,h1,h2.cells hI]
theorem VEq.aC (hI:ρ'.I=ρ.I) {x y:SV} (h:VEq ρ' ρ x y):x.aC ρ' ι=y.aC ρ ι:=by
 unfold VEq at h
 split at h
 ·exact h.aC hI
 ·simp only [SV.aC,h.cells (ι:=ι) hI]
 ·simp only [SV.aC];rw [h.aC hI]
 ·cases h
theorem nW.at:∀ {m m':Mem},nW ρ' ρ m m'→m.length=m'.length∧∀ (i:Nat) (C:Blk),m'[i]? = some C→∃ B,m[i]? = some B∧bGz ρ' ρ B C
 | [],[],_=>⟨rfl,fun i C h=>by simp at h⟩
 | [],_::_,h=>by cases h
 | _::_,[],h=>by cases h
 | B::l,C::r,h=>by
   obtain ⟨h1,h2⟩:=h
   obtain ⟨e1,e2⟩:=nW.at h2
   refine ⟨by simp [e1],fun i D hD=>?_⟩
   cases i with
   | zero=>simp only [List.getElem?_cons_zero,Option.some.injEq] at hD;subst hD;exact ⟨B,rfl,h1⟩
   | succ i=>simpa using e2 i D (by simpa using hD)
theorem aH.tJ (hI:ρ'.I=ρ.I) {β:dO} {w:World} {m m':Mem} (h:nW ρ' ρ m m') (hm:aH ρ' β ι m w):aH ρ β ι m' w:=by
 obtain ⟨hl,hat⟩:=h.at
 refine ⟨fun i j C D hC hD hCd hDd hCn hDn hq=>?_,fun i C hC hCd hCn=>?_,fun i C hC hCd hCn=>?_,hm.agr,by rw [← hl];exact hm.len,by rw [← hl];exact hm.new,hm.size,by rw [← hl];exact hm.old,hm.os,hm.tape,hm.output,by rw [← hI];exact hm.xt,by rw [← hl,← hI];exact hm.xd⟩
 ·obtain ⟨B,hB,⟨_,_,_,hd⟩,_⟩:=hat i C hC
  obtain ⟨B',hB',⟨_,_,_,hd'⟩,_⟩:=hat j D hD
  exact hm.inj i j B B' hB hB' (by rw [hd];exact hCd) (by rw [hd'];exact hDd) hCn hDn hq
 ·obtain ⟨B,hB,⟨h1,h2,h3,hd⟩,hs⟩:=hat i C hC
  rcases hs with hs | hs
  ·rw [hCd] at hs;cases hs
  ·have:=hm.blk i B hB (by rw [hd];exact hCd) hCn
   rw [hs.cells hI,h1,h2,h3] at this;exact this
 ·obtain ⟨B,hB,⟨h1,h2,h3,hd⟩,hs⟩:=hat i C hC
  rcases hs with hs | hs
  ·rw [hCd] at hs;cases hs
  ·have:=hm.nils i B hB (by rw [hd];exact hCd) hCn
   rw [hs.cells hI,h3] at this;exact this
end
noncomputable def nR (H0:Hyp) (l0:List SV) (m0:Mem) (nd:List E) (v:SV) (om:Option Mem):Spec:=fun H l m=>@ite _ (H=H0∧l=l0∧m=m0) (Classical.propDecidable _) (some (nd,v,om)) none
theorem iD (H0:Hyp) (l0:List SV) (m0:Mem) (nd:List E) (v:SV) (om:Option Mem):nR H0 l0 m0 nd v om H0 l0 m0=some (nd,v,om):=by
 unfold nR;rw [if_pos ⟨rfl,rfl,rfl⟩]
def aKy (ρ:Env):Option Mem→Option Mem→Prop
 | none,none=>True
 | some m,some m'=>nW ρ ρ m m'
 | _,_=>False
theorem xI {P:Program} {I:Interp} {f:FuncId} {s:Spec} {ni nb na:Nat} {H0:Hyp} {l0:List SV} {m0:Mem} {nd0 nd:List E} {v0 v:SV} {om0 om:Option Mem} (hs:iL P I f ni nb na s) (h0:s H0 l0 m0=some (nd0,v0,om0)) (hp:dM v0=false) (hp':dM v=false)
 (hw:∀ ρ:Env,ρ.I=I→dY ρ ni nb na→H0.ok ρ→bG ρ nd→bG ρ nd0∧VEq ρ ρ v0 v∧aKy ρ om0 om):iL P I f ni nb na (nR H0 l0 m0 nd v om):=by
 constructor
 intro H l m nd' v' om' h ρ β ι w hI hz hH hn hm
 unfold nR at h
 split at h
 ·rename_i hc
  obtain ⟨rfl,rfl,rfl⟩:=hc
  simp only [Option.some.injEq,Prod.mk.injEq] at h
  obtain ⟨rfl,rfl,rfl⟩:=h
  obtain ⟨h1,h2,h3⟩:=hw ρ hI hz hH hn
  refine (hs.ok _ _ _ _ _ _ h0 ρ β ι w hI hz hH h1 hm).mono fun e w' hr=>?_
  have hv:∀ ι',eZ ρ ι' v0=eZ ρ ι' v:=fun ι'=>by rw [aW hp,aW hp',h2.aC rfl]
  cases om0 with
  | none=>cases om with
    | none=>exact ⟨by rw [hr.1,hv],hr.2⟩
    | some _=>cases h3
  | some m1=>cases om with
    | none=>cases h3
    | some m2 =>
      obtain ⟨ι',a1,a2,a3⟩:=hr
      exact ⟨ι',a1,by rw [a2,hv],a3.tJ rfl h3⟩
 ·cases h
theorem bLU {P:Program} {I:Interp} {f:FuncId} {s:Spec} {ni nb na:Nat} {H0:Hyp} {l0:List SV} {m0:Mem} {nd:List E} {v:SV} {m1:Mem} (hs:bD P I f s) (hp':dM v=false)
 (hw:∀ ρ:Env,ρ.I=I→dY ρ ni nb na→H0.ok ρ→bG ρ nd→∃ H1 l1 nd0 v0 m2,s H1 l1 m0=some (nd0,v0,m2)∧H1.ok ρ∧(∀ ι,l1.map (SV.aC ρ ι)=l0.map (SV.aC ρ ι))∧dM v0=false∧bG ρ nd0∧VEq ρ ρ v0 v∧nW ρ ρ (m2.getD m0) m1):iL P I f ni nb na (nR H0 l0 m0 nd v (some m1)):=by
 constructor
 intro H l m nd' v' om' h ρ β ι w hI hz hH hn hm
 unfold nR at h
 split at h
 ·rename_i hc
  obtain ⟨rfl,rfl,rfl⟩:=hc
  simp only [Option.some.injEq,Prod.mk.injEq] at h
  obtain ⟨rfl,rfl,rfl⟩:=h
  obtain ⟨H1,l1,nd0,v0,m2,h1,h2,h3,h4,h5,h6,h7⟩:=hw ρ hI hz hH hn
  rw [← h3]
  refine (hs.ok _ _ _ _ _ _ h1 ρ β ι w hI h2 h5 hm).mono fun e w' hr=>?_
  cases m2 with
  | none=>exact ⟨ι,Loc.bV.refl _ _,by rw [hr.1,aW h4,aW hp',h6.aC rfl],hr.2.tJ rfl h7⟩
  | some m2 =>
    obtain ⟨ι',a1,a2,a3⟩:=hr
    exact ⟨ι',a1,by rw [a2,aW h4,aW hp',h6.aC rfl],a3.tJ rfl h7⟩
 ·cases h
theorem jJ {P:Program} {I:Interp} {f:FuncId} {s:Spec} {ni nb na:Nat} {H0:Hyp} {l0:List SV} {m0:Mem} {nd0:List E} {v0:SV} {om:Option Mem} (hs:iL P I f ni nb na s) (h0:s H0 l0 m0=some (nd0,v0,om)) :
 bD P I f (gM (gV ni nb na l0 m0) H0 l0 m0 nd0 v0 om) :=
 aIP fun σ π H l m hf ρ β ι w hI hH hn hm=>by
  refine hs.ok H0 l0 m0 nd0 v0 om h0 (σ.env ρ) β ι w hI ?_ hH hn hm
  unfold gV at hf
  split at hf
  ·simp only [Option.some.injEq,Prod.mk.injEq] at hf
   obtain ⟨rfl,_⟩:=hf
   exact ⟨by simp [Sb.env],by simp [Sb.env],by simp [Sb.env]⟩
  ·cases hf
theorem aH.relabel {ρ:Env} {β:dO} {ι ι':Loc} {m:Mem} {w w':World} (h0:aH ρ β ι m w) (h:aH ρ β ι' m w') (ha:Loc.bV m.length ι ι') (hs:scM m=true):aH ρ β ι m w':=by
 have lt:∀ {i:Nat} {B:Blk},m[i]? = some B→i<m.length:=fun hB=>(List.getElem?_eq_some_iff.1 hB).1
 have sc:∀ {i:Nat} {B:Blk},m[i]? = some B→cellsOf ρ ι B.aF=cellsOf ρ ι' B.aF:=fun hB=>bM ha (List.all_eq_true.1 hs _ (List.mem_of_getElem? hB))
 refine ⟨h0.inj,fun i B hB hd hn=>?_,h0.nils,h0.agr,h0.len,h0.new,h.size,fun b hb hi=>h.old b hb fun i hi'=>?_,h.os,h.tape,h.output,h.xt,h0.xd⟩
 ·have a:=ha i (lt hB)
  obtain ⟨fz,rest,k1,k2,k3,k4⟩:=h.blk i B hB hd (by rw [← a.2.2];exact hn)
  exact ⟨fz,rest,by rw [a.1,sc hB];exact k1,k2,by rw [a.2.1,sc hB];exact k3,k4⟩
 ·rw [← (ha i hi').1];exact hi i hi'
def aFs (find:Hyp→List SV→Mem→Option (Sb × List Nat)) (H0:Hyp) (l0:List SV) (m0:Mem) (nd0:List E) (v0:SV):Spec:=fun H l m=>match gM find H0 l0 m0 nd0 v0 none H l m with
 | some (nd,v,_)=>if v.sc m.length&&!dM v then some (nd,v,none) else none
 | none=>none
theorem aYT {find:Hyp→List SV→Mem→Option (Sb × List Nat)} {H0 H:Hyp} {l0 l:List SV} {m0 m:Mem} {nd0 nd:List E} {v0 v:SV} {om:Option Mem} (h:gM find H0 l0 m0 nd0 v0 none H l m=some (nd,v,om)):om=some m∧scM m=true:=by
 unfold gM at h
 split at h
 ·cases h
 ·split at h
  ·rename_i hc
   simp only [Bool.and_eq_true] at hc
   simp only [Option.some.injEq,Prod.mk.injEq] at h
   exact ⟨h.2.2.symm,hc.1.1.1.1.2⟩
  ·cases h
theorem rN {P:Program} {I:Interp} {f:FuncId} {find:Hyp→List SV→Mem→Option (Sb × List Nat)} {H0:Hyp} {l0:List SV} {m0:Mem} {nd0:List E} {v0:SV} (hs:bD P I f (gM find H0 l0 m0 nd0 v0 none)):bD P I f (aFs find H0 l0 m0 nd0 v0):=by
 constructor
 intro H l m nd v om h ρ β ι w hI hH hn hm
 unfold aFs at h
 split at h
 ·rename_i nd' v' om' hq
  split at h
  ·rename_i hc
   simp only [Bool.and_eq_true,Bool.not_eq_true'] at hc
   simp only [Option.some.injEq,Prod.mk.injEq] at h
   obtain ⟨rfl,rfl,rfl⟩:=h
   obtain ⟨rfl,hsc⟩:=aYT hq
   refine (hs.ok _ _ _ _ _ _ hq ρ β ι w hI hH hn hm).mono fun e w' hr=>?_
   obtain ⟨ι',a1,a2,a3⟩:=hr
   exact ⟨by rw [a2,xH a1 hc.1],hm.relabel a3 a1 hsc⟩
  ·cases h
 ·cases h
def bAh (ρ' ρ:Env) (v:SV) (m:Mem) (v':SV) (m':Mem):Prop:=dM v'=false∧VEq ρ' ρ v' v∧nW ρ' ρ m' m
theorem bJd {P:Program} {I:Interp} {f:FuncId} {Γ:Ctx} {hc':aZ} {D:Dim} {hs:List Head} {cut:List Nat} {k u u0:Nat} {ni nb na:Nat} {H0:Hyp} {l0:List SV} {m0:Mem} {nd:List E} {v:SV} {m1:Mem} {lt:LT}
 (hΓ:cF P I Γ) (hP:P.follows .mixedOrders=true) (hst:hZ P Γ hc' D hs cut k u0 f H0 l0 m0=some lt) (hK:m0.length≤D.K) (hpan:dM v=false) (Inv:Env→Nat→Env→Prop) (μ:Nat→Env→Nat)
 (hmain:∀ ρ:Env,ρ.I=I→dY ρ ni nb na→H0.ok ρ→bG ρ nd→∃ ρ1:Env,ρ1.I=ρ.I∧dY ρ1 D.ni D.nb D.na∧H0.ok ρ1∧(∀ ι,l0.map (SV.aC ρ1 ι)=l0.map (SV.aC ρ ι))∧nW ρ ρ1 m0 m0 ∧
   lt.holds ρ1 (fun v' m'=>bAh ρ1 ρ v m1 v' m') (fun j todo ρ'=>(hs[j]?.map (·.todo))=some todo∧Inv ρ j ρ') ∧
   ∀ j h ρ',hs[j]? = some h→ρ'.I=I→dY ρ' D.ni D.nb D.na→Inv ρ j ρ'→∃ H',Hyp.ok H' ρ'∧∃ lt',cE P Γ hc' D hs cut k u f { h with H:=H' }=some lt' ∧
    lt'.holds ρ' (fun v' m'=>bAh ρ' ρ v m1 v' m') (fun j' todo ρ''=>(hs[j']?.map (·.todo))=some todo∧Inv ρ j' ρ''∧μ j' ρ''<μ j ρ')) :
 iL P I f ni nb na (nR H0 l0 m0 nd v (some m1)):=by
 constructor
 intro H l m nd' v' om' h ρ β ι w hI hz hH hn hm
 unfold nR at h
 split at h
 ·rename_i hc
  obtain ⟨rfl,rfl,rfl⟩:=hc
  simp only [Option.some.injEq,Prod.mk.injEq] at h
  obtain ⟨rfl,rfl,rfl⟩:=h
  obtain ⟨ρ1,e1,z1,h1,a1,c1,hl1,hseg⟩:=hmain ρ hI hz hH hn
  have hm1:aH ρ1 ⟨w,m.length,ι⟩ ι m w:=hm.now.tJ (by rw [e1]) c1
  unfold hZ at hst
  split at hst
  rotate_left
  ·cases hst
  rename_i fn hfn
  split at hst
  rotate_left
  ·cases hst
  rename_i c hcb
  split at hst
  rotate_left
  ·cases hst
  rename_i hlen
  rw [← a1]
  have td:∀ {j:Nat} {todo:List Item},(hs[j]?.map (·.todo))=some todo→∃ h,hs[j]? = some h∧todo=h.todo:=fun {j todo} hq=>by
   cases hj:hs[j]? with
   | none=>rw [hj] at hq;cases hq
   | some h=>rw [hj] at hq;simp only [Option.map_some,Option.some.injEq] at hq;exact ⟨h,rfl,hq.symm⟩
  refine aCp (u:=u) (β:=⟨w,m.length,ι⟩) (R:=fun e w'=>∃ ι',Loc.bV m.length ι ι'∧e=eZ ρ ι' v∧aH ρ β ι' m1 w') (Inv:=fun j ρ'=>Inv ρ j ρ') hΓ hP hfn hK hcb μ hlen hst (e1.trans hI) z1 h1 hm1 ?_ ?_
  ·refine LT.iF (fun v' m' hr=>?_) (fun j todo ρ' hq=>?_) hl1
   ·intro ι' w' hm'
    obtain ⟨p1,p2,p3⟩:=hr
    have h9:=hm'.tJ e1 p3
    exact ⟨ι',h9.agr.symm,by rw [aW p1,aW hpan,p2.aC e1],hm.since h9⟩
   ·exact ⟨td hq.1,hq.2⟩
  ·intro j h ρ' hj hI' hz' hInv
   obtain ⟨H',hH',lt',hs',hl'⟩:=hseg j h ρ' hj hI' hz' hInv
   unfold cE at hs'
   rw [hfn] at hs'
   refine ⟨H',hH',lt',hs',?_⟩
   refine LT.iF (fun v' m' hr=>?_) (fun j' todo ρ'' hq=>?_) hl'
   ·intro ι' w' hm'
    obtain ⟨p1,p2,p3⟩:=hr
    have h9:=hm'.tJ (hI'.trans hI.symm) p3
    exact ⟨ι',h9.agr.symm,by rw [aW p1,aW hpan,p2.aC (hI'.trans hI.symm)],hm.since h9⟩
   ·exact ⟨td hq.1,hq.2.1,hq.2.2⟩
 ·cases h
theorem cN {α:Type} {l:List α} {n:Nat} (h:l.length=n+1):∃ a r,l=a::r∧r.length=n:=by
 cases l with
 | nil=>simp at h
 | cons a r=>exact ⟨a,r,rfl,by simpa using h⟩
theorem app50 {ρ:Env} (h:ρ.I.fa=Ifa) (A:E):(E.app 50 (.cons A .nil)).a ρ=oS (A.a ρ):=by
 rw [aKW,h];rfl
theorem bJY (A:Nat→Int) (j:Nat):0≤oS A j∧oS A j≤255:=by
 unfold oS;split <;> omega
theorem rowB_word {A:Nat→Int} {k:Nat} (h:0≤A k∧A k≤65535):oS A (2*k)+oS A (2*k+1)*256=A k:=by
 unfold oS
 rw [if_pos (by omega),if_neg (by omega),show 2*k / 2=k by omega,show (2*k+1) / 2=k by omega]
 omega
theorem bEc {A:Nat→Int} {k:Nat}:oS A (2*k)=A k%256:=by
 unfold oS;rw [if_pos (by omega),show 2*k / 2=k by omega]
theorem bEb {A:Nat→Int} {k:Nat} (h:0≤A k∧A k≤65535):oS A (2*k+1)=A k / 256:=by
 unfold oS;rw [if_neg (by omega),show (2*k+1) / 2=k by omega];omega
end Go.Sx
