/- A run of a program by symbols, proved sound, third part: the frame of a law, arguments, loops, rows that came in. It imports no program. -/
import Derived.Test.YtcckecfjjccffaaSxH
set_option linter.unusedVariables false
set_option linter.unusedSimpArgs false
namespace Go.Sx
theorem cM (p:Prop) [Decidable p] (x y:Bool):((if p then x else y)=true)=((p→x=true)∧(¬ p→y=true)):=by
 by_cases h:p <;> simp [h]
theorem cL (p:Prop) [Decidable p] (x y:Bool):((if p then x else y)=false)=((p→x=false)∧(¬ p→y=false)):=by
 by_cases h:p <;> simp [h]
theorem cK (x y:Bool):((x == y)=true)=((x=true)↔(y=true)):=by cases x <;> cases y <;> simp
theorem cJ (x y:Bool):((x == y)=false)=¬ ((x=true)↔(y=true)):=by cases x <;> cases y <;> simp
section
variable {H:Type} {enc:TypeId × Value→H} {P:Program}
theorem aEi (hl:laidOutB P=true) {W W':World} (hb:RowKit.Below W.heap.size W W'):∀ {ts:List TypeId} {vs:List Value} {ds:List (DataW H)} {ps:List MemPlace},
 (∀ t ∈ ts,P.readableRec t=true∧t<P.types.size)→DataW.TrodAll enc P W 0 (fun _=>true) true ts vs ds ps→(∀ x ∈ ps,x.block<W.heap.size) →
 DataW.TrodAll enc P W' 0 (fun b=>decide (b<W.heap.size)) true ts vs ds ps:=by
 intro ts
 induction ts with
 | nil =>
   intro vs ds ps _ h _
   cases vs <;> cases ds <;> simp [DataW.TrodAll] at h ⊢
   exact h
 | cons t ts ih =>
   intro vs ds ps hr h hlt
   obtain ⟨v,vs',d,ds',p,q,rfl,rfl,rfl,G,J⟩:=ChangeShapes.trodAll_cons h
   refine ⟨p,q,RowKit.Below.trod hl (hr t (.head _)).1 (hr t (.head _)).2 G hb (fun x hx=>hlt x (by simp [hx])),ih (fun u hu=>hr u (.tail _ hu)) J (fun x hx=>hlt x (by simp [hx])),rfl⟩
theorem bDI {f:Func} {s:ChangeSpec} {tb:TypeId} (hl:laidOutB P=true) (hr0:(f.params.toList.all fun t=>P.readableRec t&&decide (t<P.types.size))=true)
 (hvars:s.vars=[]) (hres:f.resultTypes=#[tb]) (hb:P.underlying tb=some .bool)
 {W W':World} {args:Array Value} {ds gs:List (DataW H)} {before:List MemPlace} (hs:s.fn H (ds++gs)={ results:=[.lit (.bool true)],args:=ds })
 (hW:DataW.Whole enc P f.params.toList s.vars false W args.toList ds gs before) (hB:RowKit.Below W.heap.size W W'):s.post enc P f false true false false W args (.bool true) W':=by
 have hr:∀ t ∈ f.params.toList,P.readableRec t=true∧t<P.types.size:=fun t ht=>by
  have:=List.all_eq_true.1 hr0 t ht
  simpa using this
 have hlt:=hW.lt
 obtain ⟨p,q,G,J,rfl,hz,hn⟩:=id hW
 refine ⟨ds,gs,p++q,[],p,[],hW,?_,?_,?_,hB.frame _,fun h=>by cases h⟩
 ·rw [hs,hres]
  exact ⟨[],[],RowKit.shut_bool hb true,rfl,rfl⟩
 ·rw [hs]
  exact aEi hl hB hr G (fun x hx=>hlt x (by simp [hx]))
 ·rw [hs,hvars]
  simp [DataW.TrodVars]
end
def jS (P:Program):Nat→TypeId→Nat→Option (Option IntKind)
 | 0,_,_=>none
 | d+1,t,i=>match P.underlying t with
   | some (.int k)=>if i=0 then some (some k) else none
   | some .bool=>if i=0 then some none else none
   | some (.struct fs)=>match fs.toList.find? (fun f=>f.offset≤i&&i<f.offset+P.cellsOf f.type) with
     | some f=>jS P d f.type (i-f.offset)
     | none=>none
   | some (.array n e)=>if P.cellsOf e=0∨n*P.cellsOf e≤i then none else jS P d e (i%P.cellsOf e)
   | _=>none
def Fit:Option IntKind→Value→Prop
 | some k,v=>∃ z,v=.int k z∧inR (dS k) z
 | none,v=>∃ b,v=.bool b
theorem bQD {k:IntKind} {z:Int} (h:(Lit.int k z).wf=true):inR (dS k) z:=by
 cases k <;> simp [Lit.wf,IntKind.min,IntKind.max,IntKind.signed,IntKind.bits] at h <;> simp [inR,dS,iZ,bY] <;> omega
section
variable {H:Type} {enc:TypeId × Value→H} {P:Program} {w:World} {base:Nat} {spare:Nat→Bool} {held:Bool}
theorem aYL:∀ (d:Nat) (t:TypeId) (i:Nat) (k:Option IntKind) (fuel:Nat) (cs:List Value) (x:DataW H × List MemPlace),jS P d t i=some k →
 DataW.trod enc P w base spare held fuel t cs=some x→∃ v,cs[i]? = some v∧Fit k v:=by
 intro d
 induction d with
 | zero=>intro t i k fuel cs x h;simp [jS] at h
 | succ d ih =>
   intro t i k fuel cs x h hx
   unfold jS at h
   split at h
   ·rename_i kd hu
    split at h
    ·rename_i hi;subst hi
     simp only [Option.some.injEq] at h;subst h
     obtain ⟨a,e0,_,wa⟩:=DataW.trod_int hu hx
     subst e0
     exact ⟨_,rfl,a,rfl,bQD wa⟩
    ·cases h
   ·rename_i hu
    split at h
    ·rename_i hi;subst hi
     simp only [Option.some.injEq] at h;subst h
     obtain ⟨b,e0,_⟩:=DataW.trod_bool hu hx
     subst e0
     exact ⟨_,rfl,b,rfl⟩
    ·cases h
   ·rename_i fs hu
    split at h
    ·rename_i f hf
     have G:=List.find?_some hf
     have J:=List.mem_of_find?_eq_some hf
     simp only [Bool.and_eq_true,decide_eq_true_eq] at G
     obtain ⟨q,hq⟩:=List.mem_iff_getElem?.1 J
     obtain ⟨xs,m,_,_,hlen,hxs,hall⟩:=DataW.trod_struct hu hx
     have hq':fs[q]? = some f:=by rw [← Array.getElem?_toList];exact hq
     have hqlt:q<fs.size:=by
      rw [Array.getElem?_eq_some_iff] at hq';exact hq'.1
     have:=hall q f hq'
     rw [List.getElem?_eq_getElem (by omega)] at this
     obtain ⟨v,hv,hk⟩:=ih f.type (i-f.offset) k m _ _ h this
     refine ⟨v,?_,hk⟩
     rw [List.getElem?_take,List.getElem?_drop] at hv
     split at hv
     ·rw [← hv];congr 1;omega
     ·cases hv
    ·cases h
   ·rename_i n e hu
    split at h
    ·cases h
    ·rename_i hc
     obtain ⟨xs,m,_,_,hlen,hxs,hall⟩:=DataW.trod_array hu hx
     have hs:0<P.cellsOf e:=by omega
     have hq:i / P.cellsOf e<n:=by
      rw [Nat.div_lt_iff_lt_mul hs];omega
     have:=hall _ hq
     rw [List.getElem?_eq_getElem (by omega)] at this
     obtain ⟨v,hv,hk⟩:=ih e (i%P.cellsOf e) k m _ _ h this
     refine ⟨v,?_,hk⟩
     rw [List.getElem?_take,List.getElem?_drop] at hv
     split at hv
     ·rw [← hv];congr 1
      have:=Nat.div_add_mod i (P.cellsOf e)
      rw [Nat.mul_comm] at this;omega
     ·cases hv
   ·cases h
end
structure Sg where
 i:List (Nat × E)
 b:List (Nat × E)
 a:List (Nat × E)
 deriving DecidableEq,Repr
def kV {α:Type} (l:List α):List (Nat × α)→List α
 | []=>l
 | (k,z)::r=>(kV l r).set k z
def Env.app (σ:Sg) (ρ:Env):Env :=
 { ρ with i:=kV ρ.i (σ.i.map fun p=>(p.1,p.2.i ρ)),b:=kV ρ.b (σ.b.map fun p=>(p.1,p.2.b ρ)),a:=kV ρ.a (σ.a.map fun p=>(p.1,p.2.a ρ)) }
def oF (l:List (Nat × E)) (k:Nat):Option E:=(l.find? (fun p=>p.1 == k)).map (·.2)
def fx (σ:Sg):E→Bool
 | .v k=>(oF σ.i k).isNone
 | .bv k=>(oF σ.b k).isNone
 | .av k=>(oF σ.a k).isNone
 | .lit _ | .blit _ | .tab _ | .nil=>true
 | .add a b | .sub a b | .mul a b | .div a b | .mod a b | .tdiv a b | .tmod a b | .bits _ _ a b | .sel a b | .lt a b | .le a b | .eq a b | .and a b | .or a b | .iff a b | .cons a b=>fx σ a&&fx σ b
 | .pow2 a | .wrap _ a | .not a | .app _ a=>fx σ a
 | .ite a b c | .upd a b c=>fx σ a&&fx σ b&&fx σ c
 | .blt a b c d e=>fx σ a&&fx σ b&&fx σ c&&fx σ d&&fx σ e
 | .aeq _ a b c _ _=>fx σ a&&fx σ b&&fx σ c
section
variable {α:Type}
theorem mN (l:List α):∀ r,(kV l r).length=l.length
 | []=>rfl
 | (k,z)::r=>by simp [kV,mN l r]
theorem qB (l:List α):∀ (r:List (Nat × α)) (k:Nat),k<l.length→(kV l r)[k]? = match r.find? (fun p=>p.1 == k) with | some p=>some p.2 | none=>l[k]?
 | [],k,h=>rfl
 | (j,z)::r,k,h=>by
   simp only [kV,List.getElem?_set,mN]
   by_cases hj:j=k
   ·subst hj;simp [h]
   ·rw [if_neg hj,qB l r k h]
    have:(j == k)=false:=by simpa using hj
    simp [List.find?_cons,this]
theorem nG (l:List α):∀ (r:List (Nat × α)) (k:Nat),r.find? (fun p=>p.1 == k)=none→(kV l r)[k]? = l[k]?
 | [],k,_=>rfl
 | (j,z)::r,k,h=>by
   rw [List.find?_cons] at h
   split at h
   ·cases h
   ·rename_i hj
    simp only [kV,List.getElem?_set]
    rw [if_neg (by simpa using hj)]
    exact nG l r k h
end
section
variable {ρ:Env} {σ:Sg}
theorem oC {β:Type} (f:E→β) (l:List (Nat × E)) (k:Nat):(l.map fun p=>(p.1,f p.2)).find? (fun p=>p.1 == k)=(oF l k).map fun e=>(k,f e):=by
 unfold oF
 induction l with
 | nil=>rfl
 | cons p l ih =>
   simp only [List.map_cons,List.find?_cons]
   by_cases hp:(p.1 == k)=true
   ·have:p.1=k:=by simpa using hp
    simp [hp,this]
   ·simp only [Bool.not_eq_true] at hp
    simp only [hp]
    exact ih
theorem xY:∀ (e:E),fx σ e=true→den (ρ.app σ) e=den ρ e:=by
 intro e
 induction e with
 | v k =>
   intro h
   simp only [fx,Option.isNone_iff_eq_none] at h
   simp only [den,Env.app,List.getD_eq_getElem?_getD]
   rw [nG _ _ _ (by rw [oC (fun e=>e.i ρ),h];rfl)]
 | bv k =>
   intro h
   simp only [fx,Option.isNone_iff_eq_none] at h
   simp only [den,Env.app,List.getD_eq_getElem?_getD]
   rw [nG _ _ _ (by rw [oC (fun e=>e.b ρ),h];rfl)]
 | av k =>
   intro h
   simp only [fx,Option.isNone_iff_eq_none] at h
   simp only [den,Env.app,List.getD_eq_getElem?_getD]
   rw [nG _ _ _ (by rw [oC (fun e=>e.a ρ),h];rfl)]
 | lit _=>intro _;rfl
 | blit _=>intro _;rfl
 | tab _=>intro _;rfl
 | nil=>intro _;rfl
 | pow2 a ih=>intro h;simp only [fx] at h;simp only [den,ih h]
 | wrap k a ih=>intro h;simp only [fx] at h;simp only [den,ih h]
 | not a ih=>intro h;simp only [fx] at h;simp only [den,ih h]
 | app f a ih=>intro h;simp only [fx] at h;simp only [den,ih h];rfl
 | ite a b c iha ihb ihc=>intro h;simp only [fx,Bool.and_eq_true] at h;simp only [den,iha h.1.1,ihb h.1.2,ihc h.2]
 | upd a b c iha ihb ihc=>intro h;simp only [fx,Bool.and_eq_true] at h;simp only [den,iha h.1.1,ihb h.1.2,ihc h.2]
 | blt a b c d e iha ihb ihc ihd ihe=>intro h;simp only [fx,Bool.and_eq_true] at h;simp only [den,iha h.1.1.1.1,ihb h.1.1.1.2,ihc h.1.1.2,ihd h.1.2,ihe h.2]
 | aeq bit a b c o q iha ihb ihc=>intro h;simp only [fx,Bool.and_eq_true] at h;simp only [den,iha h.1.1,ihb h.1.2,ihc h.2]
 | bits o k a b iha ihb=>intro h;simp only [fx,Bool.and_eq_true] at h;simp only [den,iha h.1,ihb h.2]
 | _ a b iha ihb=>intro h;simp only [fx,Bool.and_eq_true] at h;simp only [den,iha h.1,ihb h.2]
def agI (σ:Sg) (p e:E):Bool:=match p with
 | .v k=>match oF σ.i k with
   | some x=>x == e
   | none=>e == .v k
 | p=>fx σ p&&p == e
def agB (σ:Sg) (p e:E):Bool:=match p with
 | .bv k=>match oF σ.b k with
   | some x=>x == e
   | none=>e == .bv k
 | p=>fx σ p&&p == e
def agA (σ:Sg) (p e:E):Bool:=match p with
 | .av k=>match oF σ.a k with
   | some x=>x == e
   | none=>e == .av k
 | p=>fx σ p&&p == e
def zT (σ:Sg) (ni nb na:Nat):Bool:=σ.i.all (fun p=>p.1<ni)&&σ.b.all (fun p=>p.1<nb)&&σ.a.all (fun p=>p.1<na)
structure eF (ρ:Env) (ni nb na:Nat):Prop where
 i:ρ.i.length=ni
 b:ρ.b.length=nb
 a:ρ.a.length=na
theorem eF.app {ni nb na:Nat} (h:eF ρ ni nb na):eF (ρ.app σ) ni nb na :=
 ⟨by simp [Env.app,mN,h.i],by simp [Env.app,mN,h.b],by simp [Env.app,mN,h.a]⟩
theorem aCy {l:List (Nat × E)} {n k:Nat} {e:E} (h:l.all (fun p=>p.1<n)=true) (hk:oF l k=some e):k<n:=by
 unfold oF at hk
 simp only [Option.map_eq_some_iff] at hk
 obtain ⟨p,hp,_⟩:=hk
 have G:=List.find?_some hp
 have J:=List.mem_of_find?_eq_some hp
 have O:=List.all_eq_true.1 h p J
 simp only [beq_iff_eq] at G
 simp only [decide_eq_true_eq] at O
 omega
variable {ni nb na:Nat}
theorem gN (hz:eF ρ ni nb na) (hs:zT σ ni nb na=true) {p e:E} (h:agI σ p e=true):p.i (ρ.app σ)=e.i ρ:=by
 simp only [zT,Bool.and_eq_true] at hs
 unfold agI at h
 split at h
 ·rename_i k
  split at h
  ·rename_i x hk
   simp only [beq_iff_eq] at h;subst h
   have hlt:=aCy hs.1.1 hk
   simp only [i_v,Env.app,List.getD_eq_getElem?_getD]
   rw [qB _ _ _ (by rw [hz.i];exact hlt),oC (fun e=>e.i ρ),hk];rfl
  ·rename_i hk
   simp only [beq_iff_eq] at h;subst h
   have:=xY (ρ:=ρ) (σ:=σ) (.v k) (by simp [fx,hk])
   simp only [E.i,this]
 ·simp only [Bool.and_eq_true,beq_iff_eq] at h
  obtain ⟨G,rfl⟩:=h
  simp only [E.i,xY _ G]
theorem bLE (hz:eF ρ ni nb na) (hs:zT σ ni nb na=true) {p e:E} (h:agB σ p e=true):p.b (ρ.app σ)=e.b ρ:=by
 simp only [zT,Bool.and_eq_true] at hs
 unfold agB at h
 split at h
 ·rename_i k
  split at h
  ·rename_i x hk
   simp only [beq_iff_eq] at h;subst h
   have hlt:=aCy hs.1.2 hk
   simp only [gP,Env.app,List.getD_eq_getElem?_getD]
   rw [qB _ _ _ (by rw [hz.b];exact hlt),oC (fun e=>e.b ρ),hk];rfl
  ·rename_i hk
   simp only [beq_iff_eq] at h;subst h
   have:=xY (ρ:=ρ) (σ:=σ) (.bv k) (by simp [fx,hk])
   simp only [E.b,this]
 ·simp only [Bool.and_eq_true,beq_iff_eq] at h
  obtain ⟨G,rfl⟩:=h
  simp only [E.b,xY _ G]
theorem bBT (hz:eF ρ ni nb na) (hs:zT σ ni nb na=true) {p e:E} (h:agA σ p e=true):p.a (ρ.app σ)=e.a ρ:=by
 simp only [zT,Bool.and_eq_true] at hs
 unfold agA at h
 split at h
 ·rename_i k
  split at h
  ·rename_i x hk
   simp only [beq_iff_eq] at h;subst h
   have hlt:=aCy hs.2 hk
   simp only [gJ,Env.app,List.getD_eq_getElem?_getD]
   rw [qB _ _ _ (by rw [hz.a];exact hlt),oC (fun e=>e.a ρ),hk];rfl
  ·rename_i hk
   simp only [beq_iff_eq] at h;subst h
   have:=xY (ρ:=ρ) (σ:=σ) (.av k) (by simp [fx,hk])
   simp only [E.a,this]
 ·simp only [Bool.and_eq_true,beq_iff_eq] at h
  obtain ⟨G,rfl⟩:=h
  simp only [E.a,xY _ G]
def xH (σ:Sg) (π:List Nat):List (Nat × E)→List (Nat × E)→Bool
 | [],[]=>true
 | p::l,q::r=>decide (π[p.1]? = some q.1)&&agI σ p.2 q.2&&xH σ π l r
 | _,_=>false
def agS (σ:Sg) (π:List Nat):S→S→Bool
 | .int k x,.int j y=>decide (k=j)&&agI σ x y
 | .bool x,.bool y=>agB σ x y
 | .nil,.nil | .nilSlc,.nilSlc | .nilFn,.nilFn | .undef,.undef | .nilIface,.nilIface=>true
 | .ptr b o,.ptr c q=>decide (π[b]? = some c)&&agI σ o q
 | .slc b o l (.kn c),.slc b' o' l' (.kn c')=>decide (π[b]? = some b')&&agI σ o o'&&agI σ l l'&&agI σ c c'
 | .slc b o l (.op c),.slc b' o' l' (.op c')=>decide (π[b]? = some b')&&agI σ o o'&&agI σ l l'&&agI σ c c'
 | .xslc i j o l,.xslc i' j' o' l'=>decide (i=i')&&agI σ j j'&&agI σ o o'&&agI σ l l'
 | .xptr i j k f,.xptr i' j' k' f'=>decide (i=i')&&agI σ j j'&&agI σ k k'&&decide (f=f')
 | .str l,.str l'=>decide (l=l')
 | .fn f l,.fn g r=>decide (f=g)&&xH σ π l r
 | .val n,.val m=>decide (n=m)
 | .ifc t k x,.ifc t' k' x'=>decide (t=t')&&decide (k=k')&&agI σ x x'
 | .xtl i j o l,.xtl i' j' o' l'=>decide (i=i')&&agI σ j j'&&agI σ o o'&&agI σ l l'
 | _,_=>false
def aZV (σ:Sg):List XF→List XF→Bool
 | [],[]=>true
 | f::l,g::r=>decide (f.1=g.1)&&agA σ f.2 g.2&&aZV σ l r
 | _,_=>false
def bBX (σ:Sg) (π:List Nat):Seg→Seg→Bool
 | .one x,.one y=>agS σ π x y
 | .run k n A o,.run k' n' A' o'=>decide (k=k')&&agI σ n n'&&agA σ A A'&&decide (o=o')
 | .rows n fs o,.rows n' fs' o'=>agI σ n n'&&aZV σ fs fs'&&decide (o=o')
 | _,_=>false
def qK (σ:Sg) (π:List Nat):List Seg→List Seg→Bool
 | [],[]=>true
 | p::l,q::r=>bBX σ π p q&&qK σ π l r
 | _,_=>false
def aEn (σ:Sg) (π:List Nat):List (Bool × List Seg)→List (Bool × List Seg)→Bool
 | [],[]=>true
 | p::l,q::r=>(p.1 == q.1)&&qK σ π p.2 q.2&&aEn σ π l r
 | _,_=>false
def agV (σ:Sg) (π:List Nat):SV→SV→Bool
 | .s x,.s y=>agS σ π x y
 | .agg l,.agg r=>qK σ π l r
 | .tup l,.tup r=>aEn σ π l r
 | _,_=>false
def agFr (σ:Sg) (π:List Nat) (fr:Fr) (head:Fr):Bool:=head.all fun f=>decide (f.g=[])&&match look fr f.t with
 | some ([],y)=>agV σ π f.x y
 | _=>false
def xG (σ:Sg) (π:List Nat) (m:Mem):Mem→List Nat→Bool
 | [],[]=>true
 | B::l,p::r=>(match m[p]? with | some C=>B.dead||(!C.dead&&decide (B.ty=C.ty)&&(!B.wr||C.wr)&&decide (B.grow=C.grow)&&qK σ π B.aH C.aH) | none=>false)&&xG σ π m l r
 | _,_=>false
def bBU (σ:Sg) (K:Nat) (π:List Nat) (m head:Mem):Bool :=
 decide π.Nodup&&decide (π.take K=List.range K)&&π.all (fun b=>decide (b<m.length))&&xG σ π m head π
section
variable {π:List Nat} {ι:Loc} {vs:List Value}
variable (hz:eF ρ ni nb na) (hs:zT σ ni nb na=true)
include hz hs
theorem aAf {b c:Nat} {o q:E} (hb:π[b]? = some c) (ho:agI σ o q=true):addr (ρ.app σ) (piv π ι) b o=addr ρ ι c q:=by
 simp only [addr,dE hb,gN hz hs ho]
theorem aEm:∀ {l r:List (Nat × E)},xH σ π l r=true→(l.map fun p=>Value.pointer (some (addr (ρ.app σ) (piv π ι) p.1 p.2)))=r.map fun p=>Value.pointer (some (addr ρ ι p.1 p.2))
 | [],[],_=>rfl
 | p::l,q::r,h=>by
   simp only [xH,Bool.and_eq_true,decide_eq_true_eq] at h
   simp only [List.map_cons,aAf hz hs h.1.1 h.1.2,aEm h.2]
 | [],_::_,h=>by simp [xH] at h
 | _::_,[],h=>by simp [xH] at h
theorem bBW {x y:S} (h:agS σ π x y=true):x.aC (ρ.app σ) (piv π ι)=y.aC ρ ι:=by
 unfold agS at h
 split at h
 ·simp only [Bool.and_eq_true,decide_eq_true_eq] at h
  simp only [S.aC,h.1,gN hz hs h.2]
 ·simp only [S.aC,bLE hz hs h]
 ·rfl
 ·rfl
 ·rfl
 ·rfl
 ·rfl
 ·simp only [Bool.and_eq_true,decide_eq_true_eq] at h
  simp only [S.aC,aAf hz hs h.1 h.2]
 ·simp only [Bool.and_eq_true,decide_eq_true_eq] at h
  simp only [S.aC,aAf hz hs h.1.1.1 h.1.1.2,gN hz hs h.1.2,gN hz hs h.2]
 ·simp only [Bool.and_eq_true,decide_eq_true_eq] at h
  simp only [S.aC,aAf hz hs h.1.1.1 h.1.1.2,gN hz hs h.1.2,gN hz hs h.2,(bN h.1.1.1).1,(bN h.1.1.1).2]
 ·simp only [Bool.and_eq_true,decide_eq_true_eq] at h
  simp only [S.aC,h.1.1.1,gN hz hs h.1.1.2,gN hz hs h.1.2,gN hz hs h.2];rfl
 ·simp only [Bool.and_eq_true,decide_eq_true_eq] at h
  simp only [S.aC,h.1.1.1,gN hz hs h.1.1.2,gN hz hs h.1.2,h.2];rfl
 ·simp only [decide_eq_true_eq] at h
  simp only [S.aC,h]
 ·simp only [Bool.and_eq_true,decide_eq_true_eq] at h
  simp only [S.aC,h.1,aEm hz hs h.2]
 ·simp only [decide_eq_true_eq] at h
  simp only [S.aC,h,Env.app]
 ·simp only [Bool.and_eq_true,decide_eq_true_eq] at h
  simp only [S.aC,h.1.1,h.1.2,gN hz hs h.2]
 ·simp only [Bool.and_eq_true,decide_eq_true_eq] at h
  simp only [S.aC,h.1.1.1,gN hz hs h.1.1.2,gN hz hs h.1.2,gN hz hs h.2];rfl
 ·cases h
theorem aVw:∀ {l r:List XF},aZV σ l r=true→∀ k,(l.map fun f=>XF.aC (ρ.app σ) f k)=r.map fun f=>XF.aC ρ f k
 | [],[],_,k=>rfl
 | f::l,g::r,h,k=>by
   simp only [aZV,Bool.and_eq_true,decide_eq_true_eq] at h
   have e:XF.aC (ρ.app σ) f k=XF.aC ρ g k:=by simp only [XF.aC,h.1.1,bBT hz hs h.1.2]
   rw [List.map_cons,List.map_cons,e,aVw h.2 k]
 | [],_::_,h,k=>by simp [aZV] at h
 | _::_,[],h,k=>by simp [aZV] at h
theorem bBY {x y:Seg} (h:bBX σ π x y=true):x.cells (ρ.app σ) (piv π ι)=y.cells ρ ι:=by
 unfold bBX at h
 split at h
 ·simp only [Seg.cells,bBW hz hs h]
 ·simp only [Bool.and_eq_true,decide_eq_true_eq] at h
  obtain ⟨⟨⟨rfl,G⟩,J⟩,rfl⟩:=h
  simp only [Seg.cells,gN hz hs G,bBT hz hs J]
 ·simp only [Bool.and_eq_true,decide_eq_true_eq] at h
  obtain ⟨⟨G,J⟩,rfl⟩:=h
  simp only [Seg.cells,gN hz hs G,aVw hz hs J]
 ·cases h
theorem sC:∀ {l r:List Seg},qK σ π l r=true→cellsOf (ρ.app σ) (piv π ι) l=cellsOf ρ ι r
 | [],[],_=>rfl
 | p::l,q::r,h=>by
   simp only [qK,Bool.and_eq_true] at h
   rw [aG,aG,bBY hz hs h.1,sC h.2]
 | [],_::_,h=>by simp [qK] at h
 | _::_,[],h=>by simp [qK] at h
theorem aIq:∀ {l r:List (Bool × List Seg)},aEn σ π l r=true→SV.aC (ρ.app σ) (piv π ι) (.tup l)=SV.aC ρ ι (.tup r)
 | [],[],_=>rfl
 | p::l,q::r,h=>by
   simp only [aEn,Bool.and_eq_true,beq_iff_eq] at h
   have:=aIq h.2
   simp only [SV.aC,Value.tuple.injEq,List.map_cons] at this ⊢
   rw [sC hz hs h.1.2,h.1.1]
   congr 2
   simpa using this
 | [],_::_,h=>by simp [aEn] at h
 | _::_,[],h=>by simp [aEn] at h
theorem bLF {x y:SV} (h:agV σ π x y=true):x.aC (ρ.app σ) (piv π ι)=y.aC ρ ι:=by
 unfold agV at h
 split at h
 ·exact bBW hz hs h
 ·simp only [SV.aC,sC hz hs h]
 ·exact aIq hz hs h
 ·cases h
theorem bGg {n:Nat} {a:Act} {fr head:Fr} (h:agFr σ π fr head=true) (hf:aR ρ ι n fr a):aR (ρ.app σ) (piv π ι) n head a:=by
 refine hf.sub fun t g' x' hl=>?_
 have key:∀ (l:Fr),(∀ f ∈ l,f ∈ head)→look l t=some (g',x')→∃ f ∈ head,f.t=t∧f.g=g'∧f.x=x':=by
  intro l
  induction l with
  | nil=>intro _ h;simp [gF] at h
  | cons f l ih =>
    intro hm h
    simp only [gF,dU] at h
    split at h
    ·rename_i ht
     split at h
     ·cases h
     ·simp only [Option.some.injEq,Prod.mk.injEq] at h
      exact ⟨f,hm f (.head _),ht,h.1,h.2⟩
    ·exact ih (fun f' hf'=>hm f' (.tail _ hf')) h
 obtain ⟨f,hf',rfl,rfl,rfl⟩:=key head (fun _ h=>h) hl
 have G:=List.all_eq_true.1 h f hf'
 simp only [Bool.and_eq_true,decide_eq_true_eq] at G
 refine ⟨G.1,?_⟩
 have J:=G.2
 split at J
 ·rename_i y hy
  exact ⟨y,hy,(bLF hz hs J).symm⟩
 ·cases J
theorem aEl {m:Mem}:∀ {l:Mem} {r:List Nat},xG σ π m l r=true→l.length=r.length∧∀ (i:Nat) (B:Blk),l[i]? = some B→∃ (p:Nat) (C:Blk),r[i]? = some p∧m[p]? = some C∧(B.dead=false→C.dead=false∧B.ty=C.ty∧(B.wr=true→C.wr=true)∧B.grow=C.grow∧cellsOf (ρ.app σ) (piv π ι) B.aH=cellsOf ρ ι C.aH)
 | [],[],_=>⟨rfl,fun i B h=>by simp at h⟩
 | B::l,p::r,h=>by
   simp only [xG,Bool.and_eq_true] at h
   obtain ⟨G,J⟩:=aEl h.2
   refine ⟨by simp [G],fun i D hD=>?_⟩
   cases i with
   | zero =>
     simp only [List.getElem?_cons_zero,Option.some.injEq] at hD;subst hD
     have O:=h.1
     split at O
     ·rename_i C hC
      refine ⟨p,C,rfl,hC,fun hd=>?_⟩
      rw [hd,Bool.false_or] at O
      simp only [Bool.and_eq_true,decide_eq_true_eq,Bool.or_eq_true,Bool.not_eq_true'] at O
      obtain ⟨⟨⟨⟨a1,a2⟩,a3⟩,a4⟩,a5⟩:=O
      exact ⟨a1,a2,fun hw=>by rcases a3 with h | h;(rw [hw] at h;cases h);exact h,a4,sC hz hs a5⟩
     ·cases O
   | succ i=>simpa using J i D (by simpa using hD)
 | [],_::_,h=>by simp [xG] at h
 | _::_,[],h=>by simp [xG] at h
theorem bBV {β:dN} {w:World} {K:Nat} {m head:Mem} (hK:β.k≤K) (hKh:K≤head.length) (h:bBU σ K π m head=true) (hm:aK ρ β ι m w):aK (ρ.app σ) β (piv π ι) head w:=by
 simp only [bBU,Bool.and_eq_true,decide_eq_true_eq] at h
 obtain ⟨⟨⟨hnd,hid⟩,hlt⟩,hb⟩:=h
 obtain ⟨hlen,hblk⟩:=aEl (ι:=ι) hz hs hb
 have hlt:∀ b ∈ π,b<m.length:=fun b hb=>by simpa using List.all_eq_true.1 hlt b hb
 have at_:∀ i,i<head.length→∃ p,π[i]? = some p∧p<m.length:=fun i hi=>by
  have hi':i<π.length:=by omega
  exact ⟨π[i],List.getElem?_eq_getElem hi',hlt _ (List.getElem_mem hi')⟩
 have id_:∀ i,i<K→π[i]? = some i:=fun i hi=>by
  have:=congrArg (fun l=>l[i]?) hid
  simp only [List.getElem?_take,if_pos hi,List.getElem?_range hi] at this
  exact this
 have back:∀ i j p,π[i]? = some p→π[j]? = some p→i=j:=fun i j p hi hj=>by
  have hi':=(List.getElem?_eq_some_iff.1 hi)
  have hj':=(List.getElem?_eq_some_iff.1 hj)
  exact (List.getElem_inj hnd).1 (hi'.2.trans hj'.2.symm)
 refine ⟨fun i j B D hB hD hBd hDd hBn hDn he=>?_,fun i B hB hBd hBn=>?_,fun i B hB hBd hBn=>?_,fun i hi=>?_,by omega,fun i G J=>?_,hm.size,fun b hb hi=>?_,hm.os,hm.tape,hm.output,hm.xt,fun i j a n c hv Z k hk=>?_⟩
 ·obtain ⟨p,C,hp,hC,G⟩:=hblk i B hB
  obtain ⟨q,F,hq,hF,J⟩:=hblk j D hD
  rw [dE hp,dE hq] at he
  rw [(bN hp).2] at hBn
  rw [(bN hq).2] at hDn
  have:=hm.inj _ _ C F hC hF (G hBd).1 (J hDd).1 hBn hDn he
  subst this
  exact back i j p hp hq
 ·obtain ⟨p,C,hp,hC,G⟩:=hblk i B hB
  obtain ⟨hCd,ht,hw,hg,hc⟩:=G hBd
  rw [(bN hp).2] at hBn
  obtain ⟨fz,rest,k1,k2,k3,k4⟩:=hm.blk p C hC hCd hBn
  rw [(bN hp).1,dE hp,hc,ht,hg]
  exact ⟨fz,rest,k1,fun h=>k2 (hw h),k3,k4⟩
 ·obtain ⟨p,C,hp,hC,G⟩:=hblk i B hB
  obtain ⟨hCd,ht,hw,hg,hc⟩:=G hBd
  rw [(bN hp).2] at hBn
  rw [hg,hc];exact hm.nils p C hC hCd hBn
 ·have:=id_ i (by omega)
  rw [dE this,(bN this).1,(bN this).2];exact hm.agr i hi
 ·obtain ⟨p,hp,hp'⟩:=at_ i J
  rw [dE hp]
  rcases hm.new p (by
   by_cases hc:p<K
   ·have:=back i p p hp (id_ p hc)
    omega
   ·omega) hp' with hn | ⟨j,hj,hn⟩
  ·exact .inl hn
  ·exact .inr ⟨j,hj,by rw [dE (id_ j (by omega))];exact hn⟩
 ·refine hm.old b hb fun i hi' he=>?_
  by_cases hc:i ∈ π
  ·obtain ⟨j,hj,hj'⟩:=List.getElem_of_mem hc
   exact hi j (by omega) (by rw [dE (List.getElem?_eq_some_iff.2 ⟨hj,hj'⟩)];exact he)
  ·by_cases hk:i<β.k
   ·exact hc (List.mem_of_getElem? (id_ i (by omega)))
   ·rcases hm.new i (by omega) hi' with hn | ⟨j,hj,hn⟩
    ·omega
    ·exact hi j (by omega) (by rw [dE (id_ j (by omega)),← hn];exact he)
 ·obtain ⟨p,hp,hp'⟩:=at_ k hk
  rw [dE hp];exact hm.xd i j a n c hv Z p hp'
end
end
structure Head where
 key:Nat
 todo:List Item
 H:Hyp
 fr:Fr
 m:Mem
structure Dim where
 ni:Nat
 nb:Nat
 na:Nat
 ui:Nat
 ub:Nat
 ua:Nat
 K:Nat
structure So where
 s:Sg
 p:List (Nat × Nat)
def So.i (D:Dim) (o:So):E→E→So
 | .v k,e=>if D.ui≤k&&(oF o.s.i k).isNone then { o with s:={ o.s with i:=(k,e)::o.s.i } } else o
 | _,_=>o
def So.b (D:Dim) (o:So):E→E→So
 | .bv k,e=>if D.ub≤k&&(oF o.s.b k).isNone then { o with s:={ o.s with b:=(k,e)::o.s.b } } else o
 | _,_=>o
def So.a (D:Dim) (o:So):E→E→So
 | .av k,e=>if D.ua≤k&&(oF o.s.a k).isNone then { o with s:={ o.s with a:=(k,e)::o.s.a } } else o
 | _,_=>o
def So.at (o:So) (b c:Nat):So:=if o.p.any (fun q=>q.1 == b) then o else { o with p:=(b,c)::o.p }
def So.iH (D:Dim):So→List (Nat × E)→List (Nat × E)→So
 | o,p::l,q::r=>So.iH D ((o.at p.1 q.1).i D p.2 q.2) l r
 | o,_,_=>o
def So.x (D:Dim) (o:So):S→S→So
 | .int _ x,.int _ y=>o.i D x y
 | .bool x,.bool y=>o.b D x y
 | .ptr b x,.ptr c y=>(o.at b c).i D x y
 | .slc b x l (.kn c),.slc b' x' l' (.kn c')=>(((o.at b b').i D x x').i D l l').i D c c'
 | .slc b x l (.op c),.slc b' x' l' (.op c')=>(((o.at b b').i D x x').i D l l').i D c c'
 | .xslc _ j x l,.xslc _ j' x' l'=>((o.i D j j').i D x x').i D l l'
 | .xptr _ j k _,.xptr _ j' k' _=>(o.i D j j').i D k k'
 | .fn _ l,.fn _ r=>o.iH D l r
 | .ifc _ _ x,.ifc _ _ y=>o.i D x y
 | _,_=>o
def So.seg (D:Dim) (o:So):Seg→Seg→So
 | .one x,.one y=>o.x D x y
 | .run _ n A _,.run _ n' A' _=>(o.i D n n').a D A A'
 | .rows n fs _,.rows n' fs' _=>(fs.zip fs').foldl (fun o p=>o.a D p.1.2 p.2.2) (o.i D n n')
 | _,_=>o
def So.aH (D:Dim):So→List Seg→List Seg→So
 | o,p::l,q::r=>So.aH D (o.seg D p q) l r
 | o,_,_=>o
def So.tup (D:Dim):So→List (Bool × List Seg)→List (Bool × List Seg)→So
 | o,p::l,q::r=>So.tup D (o.aH D p.2 q.2) l r
 | o,_,_=>o
def So.v (D:Dim) (o:So):SV→SV→So
 | .s x,.s y=>o.x D x y
 | .agg l,.agg r=>o.aH D l r
 | .tup l,.tup r=>o.tup D l r
 | _,_=>o
def So.fr (D:Dim) (fr:Fr):So→Fr→So
 | o,f::l=>So.fr D fr (match look fr f.t with | some (_,y)=>o.v D f.x y | none=>o) l
 | o,[]=>o
def So.pi (o:So) (b:Nat):Nat:=match o.p.find? (fun q=>q.1 == b) with | some q=>q.2 | none=>b
def So.mem (D:Dim) (m:Mem):Nat→So→Mem→So
 | b,o,B::l=>So.mem D m (b+1) (match m[o.pi b]? with | some C=>o.aH D B.aH C.aH | none=>o) l
 | _,o,[]=>o
def solve (D:Dim) (fr:Fr) (m:Mem) (h:Head):So :=
 So.mem D m 0 (So.mem D m 0 (So.fr D fr ⟨⟨[],[],[]⟩,(List.range D.K).map fun i=>(i,i)⟩ h.fr) h.m) h.m
inductive LT where
 | ret (v:SV) (m:Mem)
 | jump (j:Nat) (todo:List Item) (σ:Sg)
 | need (c:E) (t:LT)
 | ite (c:E) (t e:LT)
def headAt (hs:List Head) (todo:List Item):Option Nat:=match todo with
 | .code c::_=>hs.findIdx? (fun h=>h.key == key c)
 | _=>none
def bGW (D:Dim) (fr:Fr) (m:Mem) (h:Head):Option Sg :=
 let o:=solve D fr m h
 let π:=(List.range h.m.length).map o.pi
 if agFr o.s π fr h.fr&&bBU o.s D.K π m h.m&&zT o.s D.ni D.nb D.na&&decide (D.K≤h.m.length) then some o.s else none
def bGX (D:Dim) (H:Hyp) (fr:Fr) (m:Mem) (h:Head):Option Sg:=match bGW D fr m h with
 | some s=>some s
 | none=>bGW D fr (m.map (lI H)) h
def sT (D:Dim) (k:Nat) (H:Hyp) (fr:Fr) (m:Mem):Nat→List Head→Option (Nat × Sg)
 | _,[]=>none
 | j,h::r=>cond (Nat.beq h.key k) (match bGX D H fr m h with
   | some s=>some (j,s)
   | none=>sT D k H fr m (j+1) r) (sT D k H fr m (j+1) r)
theorem vZ {D:Dim} {k:Nat} {H:Hyp} {fr:Fr} {m:Mem}:∀ {hs:List Head} {j i:Nat} {s:Sg},sT D k H fr m j hs=some (i,s)→j≤i∧∃ h,hs[i-j]? = some h∧bGX D H fr m h=some s
 | [],j,i,s,h=>by cases h
 | x::r,j,i,s,h=>by
   have rec_:sT D k H fr m (j+1) r=some (i,s)→j≤i∧∃ h,(x::r)[i-j]? = some h∧bGX D H fr m h=some s:=fun h=>by
    obtain ⟨G,y,J,O⟩:=vZ h
    refine ⟨by omega,y,?_,O⟩
    rw [show i-j=(i-(j+1))+1 by omega,List.getElem?_cons_succ];exact J
   unfold sT at h
   cases hb:Nat.beq x.key k with
   | false=>rw [hb] at h;exact rec_ h
   | true =>
     rw [hb] at h
     simp only [cond_true] at h
     split at h
     ·rename_i s' hs'
      simp only [Option.some.injEq,Prod.mk.injEq] at h
      obtain ⟨rfl,rfl⟩:=h
      exact ⟨Nat.le_refl _,x,by simp,hs'⟩
     ·exact rec_ h
def close (D:Dim) (hs:List Head):Tree→Option LT
 | .ret v m=>some (.ret v m)
 | .stop todo H fr m=>match todo with
   | .code c::_=>(match sT D (key c) H fr m 0 hs with
     | some (j,s)=>some (.jump j todo s)
     | none=>none)
   | _=>none
 | .need c t=>(close D hs t).map (.need c)
 | .ite c t e=>match close D hs t,close D hs e with
   | some x,some y=>some (.ite c x y)
   | _,_=>none
 | _=>none
def LT.holds (ρ:Env) (ret:SV→Mem→Prop) (jump:Nat→List Item→Env→Prop):LT→Prop
 | .ret v m=>ret v m
 | .jump j todo σ=>jump j todo (ρ.app σ)
 | .need c t=>c.b ρ=true∧(c.b ρ=true→t.holds ρ ret jump)
 | .ite c t e=>(c.b ρ=true→t.holds ρ ret jump)∧(c.b ρ=false→e.holds ρ ret jump)
theorem LT.cI {ρ:Env} {r r':SV→Mem→Prop} {g g':Nat→List Item→Env→Prop} (hr:∀ v m,r v m→r' v m) (hg:∀ j t e,g j t e→g' j t e):∀ {t:LT},t.holds ρ r g→t.holds ρ r' g'
 | .ret _ _,h=>hr _ _ h
 | .jump _ _ _,h=>hg _ _ _ h
 | .need _ _,h=>⟨h.1,fun hc=>LT.cI hr hg (h.2 hc)⟩
 | .ite _ _ _,h=>⟨fun hc=>LT.cI hr hg (h.1 hc),fun hc=>LT.cI hr hg (h.2 hc)⟩
section
variable {P:Program} {f:FuncId} {fn:Func} {R:Ending→World→Prop} {ρ:Env} {β:dN} {n:Nat} {D:Dim} {hs:List Head} {Γ:Ctx} {I:Interp}
def aGK (P:Program) (f:FuncId) (R:Ending→World→Prop) (β:dN) (n:Nat) (h:Head) (ρ:Env):Prop :=
 ∀ ι a w,aR ρ ι n h.fr a→aK ρ β ι h.m w→nO P f R h.todo a w
theorem aIC (hK:β.k≤D.K) (hz:eF ρ D.ni D.nb D.na):∀ {t:Tree} {lt:LT},close D hs t=some lt →
 lt.holds ρ (fun v m=>∀ ι w,aK ρ β ι m w→R (fA ρ ι v) w) (fun j todo ρ'=>∃ h,hs[j]? = some h∧todo=h.todo∧aGK P f R β n h ρ')→t.holds P f R ρ β n []:=by
 intro t
 induction t with
 | ret v m =>
   intro lt h hl
   simp only [close,Option.some.injEq] at h;subst h
   exact hl
 | stop todo H fr m =>
   intro lt h hl
   simp only [close] at h
   split at h
   ·rename_i c0 r0
    split at h
    ·rename_i j s hj
     obtain ⟨_,hd,hhd,hfit⟩:=vZ hj
     rw [Nat.sub_zero] at hhd
     simp only [Option.some.injEq] at h;subst h
     obtain ⟨h',hh',ht,hg⟩:=hl
     rw [hhd] at hh'
     simp only [Option.some.injEq] at hh';subst hh'
     have hg2:∀ ι a w,aR (ρ.app s) ι n hd.fr a→aK (ρ.app s) β ι hd.m w→nO P f R (.code c0::r0) a w:=fun ι a w G J=>by rw [ht];exact hg ι a w G J
     have fit:∀ m1,bGW D fr m1 hd=some s→∀ ι a w,aR ρ ι n fr a→aK ρ β ι m1 w→nO P f R (.code c0::r0) a w:=by
      intro m1 hfit ι a w hf hm
      unfold bGW at hfit
      simp only at hfit
      split at hfit
      ·rename_i hc
       simp only [Bool.and_eq_true,decide_eq_true_eq] at hc
       simp only [Option.some.injEq] at hfit;subst hfit
       exact hg2 _ a w (bGg hz hc.1.2 hc.1.1.1 hf) (bBV hz hc.1.2 hK hc.2 hc.1.1.2 hm)
      ·cases hfit
     intro hH ι a w hf hm
     unfold bGX at hfit
     split at hfit
     ·rename_i s' hs'
      simp only [Option.some.injEq] at hfit;subst hfit
      exact fit m hs' ι a w hf hm
     ·exact fit _ hfit ι a w hf (hm.bOD hH)
    ·cases h
   ·cases h
 | need c t ih =>
   intro lt h hl
   simp only [close,Option.map_eq_some_iff] at h
   obtain ⟨x,hx,rfl⟩:=h
   exact ⟨hl.1,fun hc=>ih hx (hl.2 hc)⟩
 | ite c t e iht ihe =>
   intro lt h hl
   simp only [close] at h
   split at h
   ·rename_i x y hx hy
    simp only [Option.some.injEq] at h;subst h
    exact ⟨fun hc=>iht hx (hl.1 hc),fun hc=>ihe hy (hl.2 hc)⟩
   ·cases h
 | again=>intro lt h;simp [close] at h
 | fail=>intro lt h;simp [close] at h
theorem floyd {hc':aV} (hΓ:cA P I Γ) (hP:P.follows .mixedOrders=true) (hfn:P.funcs[f]? = some fn) (hK:β.k≤D.K) {k u:Nat} {cut:List Nat} {Inv:Nat→Env→Prop} {μ:Nat→Env→Nat}
 (hseg:∀ j h ρ,hs[j]? = some h→ρ.I=I→eF ρ D.ni D.nb D.na→Inv j ρ→∃ H',Hyp.ok H' ρ∧∃ lt,close D hs (run P Γ hc' fn n cut k u none h.todo H' h.fr h.m)=some lt ∧
   lt.holds ρ (fun v m=>∀ ι w,aK ρ β ι m w→R (fA ρ ι v) w) (fun j' todo ρ'=>(∃ h',hs[j']? = some h'∧todo=h'.todo)∧Inv j' ρ'∧μ j' ρ'<μ j ρ)) :
 ∀ N j h ρ,μ j ρ<N→hs[j]? = some h→ρ.I=I→eF ρ D.ni D.nb D.na→Inv j ρ→aGK P f R β n h ρ:=by
 intro N
 induction N with
 | zero=>intro j h ρ hN;omega
 | succ N ih =>
   intro j h ρ hN hj hI hz hInv ι a w hf hm
   obtain ⟨H',hH,lt,hcl,hl⟩:=hseg j h ρ hj hI hz hInv
   have:=aUP (R:=R) (bs:=[]) (cut:=cut) hΓ hI hP hfn k u none h.todo H' h.fr h.m ι a w (aIC (R:=R) (n:=n) hK hz hcl ?_) (fun _ hb=>by cases hb) hH hf hm
   ·simpa using this
   ·have key:∀ (t:LT),t.holds ρ (fun v m=>∀ ι w,aK ρ β ι m w→R (fA ρ ι v) w) (fun j' todo ρ'=>(∃ h',hs[j']? = some h'∧todo=h'.todo)∧Inv j' ρ'∧μ j' ρ'<μ j ρ) →
     t.holds ρ (fun v m=>∀ ι w,aK ρ β ι m w→R (fA ρ ι v) w) (fun j todo ρ'=>∃ h,hs[j]? = some h∧todo=h.todo∧aGK P f R β n h ρ'):=by
     intro t
     induction t with
     | ret v m=>exact fun h=>h
     | jump j' todo σ =>
       intro h
       obtain ⟨⟨h',hh,ht⟩,J,O⟩:=h
       exact ⟨h',hh,ht,ih j' h' _ (by omega) hh (by simpa [Env.app] using hI) hz.app J⟩
     | need c t ih=>exact fun h=>⟨h.1,fun hc=>ih (h.2 hc)⟩
     | ite c t e i1 i2=>exact fun h=>⟨fun hc=>i1 (h.1 hc),fun hc=>i2 (h.2 hc)⟩
    exact key lt hl
theorem zH {hc':aV} (hΓ:cA P I Γ) (hP:P.follows .mixedOrders=true) (hfn:P.funcs[f]? = some fn) (hK:β.k≤D.K) {c:Code} (hc:fn.body=some c) {k u u0:Nat} {cut:List Nat} {Inv:Nat→Env→Prop} (μ:Nat→Env→Nat)
 {H:Hyp} {l:List SV} {m:Mem} {ι:Loc} {w:World} {lt:LT} (hl:l.length≤fn.ntmps)
 (hrun:close D hs (run P Γ hc' fn fn.ntmps cut k u0 none [.code c] H (fO l) m)=some lt)
 (hI:ρ.I=I) (hz:eF ρ D.ni D.nb D.na) (hH:H.ok ρ) (hm:aK ρ β ι m w)
 (hlt:lt.holds ρ (fun v m=>∀ ι w,aK ρ β ι m w→R (fA ρ ι v) w) (fun j' todo ρ'=>(∃ h',hs[j']? = some h'∧todo=h'.todo)∧Inv j' ρ'))
 (hseg:∀ j h ρ,hs[j]? = some h→ρ.I=I→eF ρ D.ni D.nb D.na→Inv j ρ→∃ H',Hyp.ok H' ρ∧∃ lt,close D hs (run P Γ hc' fn fn.ntmps cut k u none h.todo H' h.fr h.m)=some lt ∧
   lt.holds ρ (fun v m=>∀ ι w,aK ρ β ι m w→R (fA ρ ι v) w) (fun j' todo ρ'=>(∃ h',hs[j']? = some h'∧todo=h'.todo)∧Inv j' ρ'∧μ j' ρ'<μ j ρ)) :
 Calls P f (l.map (SV.aC ρ ι)).toArray w R:=by
 refine aGB hΓ hI hP hfn hc hl (aIC (n:=fn.ntmps) hK hz hrun ?_) hH hm
 have key:∀ (t:LT),t.holds ρ (fun v m=>∀ ι w,aK ρ β ι m w→R (fA ρ ι v) w) (fun j' todo ρ'=>(∃ h',hs[j']? = some h'∧todo=h'.todo)∧Inv j' ρ') →
  t.holds ρ (fun v m=>∀ ι w,aK ρ β ι m w→R (fA ρ ι v) w) (fun j todo ρ'=>∃ h,hs[j]? = some h∧todo=h.todo∧aGK P f R β fn.ntmps h ρ'):=by
  intro t
  induction t with
  | ret v m=>exact fun h=>h
  | jump j' todo σ =>
    intro h
    obtain ⟨⟨h',hh,ht⟩,J⟩:=h
    exact ⟨h',hh,ht,floyd hΓ hP hfn hK hseg _ j' h' _ (Nat.lt_succ_self _) hh (by simpa [Env.app] using hI) hz.app J⟩
  | need c t ih=>exact fun h=>⟨h.1,fun hc=>ih (h.2 hc)⟩
  | ite c t e i1 i2=>exact fun h=>⟨fun hc=>i1 (h.1 hc),fun hc=>i2 (h.2 hc)⟩
 exact key lt hlt
end
def gD (P:Program) (Γ:Ctx) (hc':aV) (D:Dim) (hs:List Head) (cut:List Nat) (k u:Nat) (f:FuncId) (H:Hyp) (l:List SV) (m:Mem):Option LT:=match P.funcs[f]? with
 | some fn=>match fn.body with
   | some c=>if l.length≤fn.ntmps then close D hs (run P Γ hc' fn fn.ntmps cut k u none [.code c] H (fO l) m) else none
   | none=>none
 | none=>none
def mM (P:Program) (Γ:Ctx) (hc':aV) (D:Dim) (hs:List Head) (cut:List Nat) (k u:Nat) (f:FuncId) (h:Head):Option LT:=match P.funcs[f]? with
 | some fn=>close D hs (run P Γ hc' fn fn.ntmps cut k u none h.todo h.H h.fr h.m)
 | none=>none
def tX (K:Nat):Nat→List Item→Option (List Item)
 | 0,_=>none
 | n+1,todo=>match todo with
   | .code (.seq x y)::r=>cond (bCy [K] x) (some (.code x::.code y::r)) (tX K n (.code x::.code y::r))
   | .code (.loop c)::r=>cond (Nat.beq (key c) K) (some (.code c::.inLoop c::r)) (match tX K n (.code c::.inLoop c::r) with
     | some t=>some t
     | none=>tX K n r)
   | .code (.cond _ x y)::r=>(match tX K n (.code x::r) with
     | some t=>some t
     | none=>tX K n (.code y::r))
   | .code (.block id c)::r=>tX K n (.code c::.inBlock id::r)
   | .code (.scope c)::r=>tX K n (.code c::.inScope c::r)
   | .code .ret::_=>none
   | .code (.exit id)::r=>(match exitTo id r with
     | some r'=>tX K n r'
     | none=>none)
   | _::r=>tX K n r
   | []=>none
def mL (P:Program) (f:FuncId) (K:Nat):List Item:=match P.funcs[f]? with
 | some fn=>match fn.body with
   | some c=>(tX K 4000 [.code c]).getD []
   | none=>[]
 | none=>[]
section
variable {P:Program} {f:FuncId} {ρ:Env} {D:Dim} {hs:List Head} {Γ:Ctx} {I:Interp}
theorem aK.aGT {w w':World} {ι ι':Loc} {m:Mem} (h:aK ρ ⟨w,0,ι⟩ ι' m w'):RowKit.Below w.heap.size w w' :=
 ⟨h.os,h.tape,h.output,h.size,fun k hk=>h.old k hk fun i hi he=>by
   rcases h.new i (Nat.zero_le _) hi with G | ⟨j,hj,_⟩
   ·simp only at G;omega
   ·exact absurd hj (Nat.not_lt_zero _)⟩
theorem aGY {β:dN} {R:Ending→World→Prop} {hc':aV} (hΓ:cA P I Γ) (hP:P.follows .mixedOrders=true) (hK:β.k≤D.K) {k u u0:Nat} {cut:List Nat} (Inv:Nat→Env→Prop) (μ:Nat→Env→Nat) (ret:Env→SV→Mem→Prop)
 {H:Hyp} {l:List SV} {m:Mem} {ι:Loc} {w:World} {lt:LT}
 (hret:∀ ρ v m,ρ.I=I→ret ρ v m→∀ ι w,aK ρ β ι m w→R (fA ρ ι v) w)
 (hrun:gD P Γ hc' D hs cut k u0 f H l m=some lt) (hm:aK ρ β ι m w)
 (hI:ρ.I=I) (hz:eF ρ D.ni D.nb D.na) (hH:H.ok ρ) (hlt:lt.holds ρ (ret ρ) (fun j' todo ρ'=>(hs[j']?.map (·.todo))=some todo∧Inv j' ρ'))
 (hseg:∀ j h ρ,hs[j]? = some h→ρ.I=I→eF ρ D.ni D.nb D.na→Inv j ρ→∃ H',Hyp.ok H' ρ∧∃ lt,mM P Γ hc' D hs cut k u f { h with H:=H' }=some lt ∧
   lt.holds ρ (ret ρ) (fun j' todo ρ'=>(hs[j']?.map (·.todo))=some todo∧Inv j' ρ'∧μ j' ρ'<μ j ρ)) :
 Calls P f (l.map (SV.aC ρ ι)).toArray w R:=by
 unfold gD at hrun
 split at hrun
 ·rename_i fn hfn
  split at hrun
  ·rename_i c hc
   split at hrun
   ·rename_i hl
    have conv:∀ {todo:List Item} {j:Nat},(hs[j]?.map (·.todo))=some todo→∃ h',hs[j]? = some h'∧todo=h'.todo:=by
     intro todo j h
     simp only [Option.map_eq_some_iff] at h
     obtain ⟨h',G,J⟩:=h
     exact ⟨h',G,J.symm⟩
    refine zH (u:=u) hΓ hP hfn hK hc μ hl hrun hI hz hH hm (LT.cI (hret ρ · · hI) (fun j todo ρ' h=>⟨conv h.1,h.2⟩) hlt) fun j h ρ' hj hI' hz' hInv=>?_
    obtain ⟨H',G,lt',J,O⟩:=hseg j h ρ' hj hI' hz' hInv
    refine ⟨H',G,lt',?_,LT.cI (hret ρ' · · hI') (fun j todo ρ' h=>⟨conv h.1,h.2⟩) O⟩
    simpa only [mM,hfn] using J
   ·cases hrun
  ·cases hrun
 ·cases hrun
theorem aGX {β:dN} {R:Ending→World→Prop} {hc':aV} (hΓ:cA P I Γ) (hP:P.follows .mixedOrders=true) (hK:β.k≤D.K) {k u u0:Nat} {cut:List Nat} (Inv:Nat→Env→Prop) (μ:Nat→Env→Nat) (ret:Env→SV→Mem→Prop)
 {H:Hyp} {l:List SV} {m:Mem} {ι:Loc} {w:World} {lt:LT}
 (hret:∀ ρ v m,ρ.I=I→ret ρ v m→∀ ι w,aK ρ β ι m w→R (fA ρ ι v) w)
 (hrun:gD P Γ hc' D hs cut k u0 f H l m=some lt) (hm:aK ρ β ι m w)
 (hI:ρ.I=I) (hz:eF ρ D.ni D.nb D.na) (hH:H.ok ρ) (hlt:lt.holds ρ (ret ρ) (fun j' todo ρ'=>(hs[j']?.map (·.todo))=some todo∧Inv j' ρ'))
 (hseg:∀ j h ρ,hs[j]? = some h→ρ.I=I→eF ρ D.ni D.nb D.na→Inv j ρ→h.H.ok ρ∧∃ lt,mM P Γ hc' D hs cut k u f h=some lt ∧
   lt.holds ρ (ret ρ) (fun j' todo ρ'=>(hs[j']?.map (·.todo))=some todo∧Inv j' ρ'∧μ j' ρ'<μ j ρ)) :
 Calls P f (l.map (SV.aC ρ ι)).toArray w R :=
 aGY (u:=u) hΓ hP hK Inv μ ret hret hrun hm hI hz hH hlt fun j h ρ hj hI' hz' hInv=>by
  obtain ⟨G,lt',J,O⟩:=hseg j h ρ hj hI' hz' hInv
  exact ⟨h.H,G,lt',J,O⟩
theorem iR {β:dN} {R:Ending→World→Prop} {hc':aV} (hΓ:cA P I Γ) (hP:P.follows .mixedOrders=true) (hK:β.k≤D.K) {k u:Nat} {cut:List Nat} (Inv:Nat→Env→Prop) (μ:Nat→Env→Nat) (ret:Env→SV→Mem→Prop)
 {H:Hyp} {l:List SV} {m:Mem} {ι:Loc} {w:World} {lt:LT}
 (hret:∀ ρ v m,ρ.I=I→ret ρ v m→∀ ι w,aK ρ β ι m w→R (fA ρ ι v) w)
 (hrun:gD P Γ hc' D hs cut k u f H l m=some lt) (hm:aK ρ β ι m w)
 (hI:ρ.I=I) (hz:eF ρ D.ni D.nb D.na) (hH:H.ok ρ) (hlt:lt.holds ρ (ret ρ) (fun j' todo ρ'=>(hs[j']?.map (·.todo))=some todo∧Inv j' ρ'))
 (hseg:∀ j h ρ,hs[j]? = some h→ρ.I=I→eF ρ D.ni D.nb D.na→Inv j ρ→h.H.ok ρ∧∃ lt,mM P Γ hc' D hs cut k u f h=some lt ∧
   lt.holds ρ (ret ρ) (fun j' todo ρ'=>(hs[j']?.map (·.todo))=some todo∧Inv j' ρ'∧μ j' ρ'<μ j ρ)) :
 Calls P f (l.map (SV.aC ρ ι)).toArray w R :=
 aGX (u:=u) (u0:=u) hΓ hP hK Inv μ ret hret hrun hm hI hz hH hlt hseg
end
theorem Hyp.more {H:Hyp} {ρ:Env} (h:H.ok ρ) (es:List (E × Rng)) (bs:List (E × Bool)) (he:∀ p ∈ es,inR p.2 (p.1.i ρ)) (hb:∀ p ∈ bs,p.1.b ρ=p.2):Hyp.ok { H with e:=es++H.e,b:=bs++H.b } ρ :=
 ⟨h.x,fun p hp=>by rcases List.mem_append.1 hp with hp | hp;exact he p hp;exact h.e p hp,h.a,h.fi,h.fa,fun p hp=>by rcases List.mem_append.1 hp with hp | hp;exact hb p hp;exact h.b p hp⟩
def aAW (H:Hyp):E→Option Rng
 | .av n=>nD H.a n
 | .app f _=>nD H.fa f
 | .upd A _ x=>un (aAW H A) (rng H x)
 | .ite _ A B=>un (aAW H A) (aAW H B)
 | .tab []=>some (0,0)
 | .blt A _ _ B _=>un (aAW H A) (aAW H B)
 | _=>none
theorem sE {H:Hyp} {ρ:Env} (hH:H.ok ρ):∀ (e:E) (r:Rng),aAW H e=some r→∀ j,inR r (e.a ρ j)
 | .av n,r,h,j=>hH.a _ (gI h) j
 | .app f x,r,h,j=>by rw [zB];exact hH.fa _ (gI h) _ _ _ _
 | .upd A i x,r,h,j=>by
   simp only [aAW] at h
   rw [cC]
   simp only
   split
   ·exact rZ h fun q hq=>dG hH x q hq
   ·exact wY h fun q hq=>sE hH A q hq j
 | .ite c A B,r,h,j=>by
   simp only [aAW] at h
   rw [cD]
   split
   ·exact wY h fun q hq=>sE hH A q hq j
   ·exact rZ h fun q hq=>sE hH B q hq j
 | .tab [],r,h,j=>by
   simp only [aAW,Option.some.injEq] at h;subst h
   simp [inR,cB]
 | .blt A b c B d,r,h,j=>by
   simp only [aAW] at h
   rw [nP]
   simp only
   split
   ·exact rZ h fun q hq=>sE hH B q hq _
   ·exact wY h fun q hq=>sE hH A q hq j
def inB (r:Option Rng) (lo hi:Int):Bool:=match r with | some (a,b)=>decide (lo≤a)&&decide (b≤hi) | none=>false
theorem bF {H:Hyp} {ρ:Env} (hH:H.ok ρ) {e:E} {lo hi:Int} (h:inB (rng H e) lo hi=true):lo≤e.i ρ∧e.i ρ≤hi:=by
 unfold inB at h
 split at h
 ·rename_i a b hr
  have:=dG hH e _ hr
  simp only [Bool.and_eq_true,decide_eq_true_eq] at h
  simp only [inR] at this;omega
 ·cases h
theorem aTB {H:Hyp} {ρ:Env} (hH:H.ok ρ) {e:E} {lo hi:Int} (h:inB (aAW H e) lo hi=true):∀ j,lo≤e.a ρ j∧e.a ρ j≤hi:=by
 unfold inB at h
 split at h
 ·rename_i a b hr
  intro j
  have:=sE hH e _ hr j
  simp only [Bool.and_eq_true,decide_eq_true_eq] at h
  simp only [inR] at this;omega
 ·cases h
structure iF (x:Ext) (w:World) (ks:List (Option IntKind)):Prop where
 ok:x.ok w
 sz:x.sz=ks.length
 fit:∀ k f kd,k<x.n→ks[f]? = some kd→Fit kd (x.cell (k*ks.length+f))
 len:x.n≤maxLen
def aD (x:Ext) (s f:Nat):Nat→Int:=fun k=>if k<x.n then kJ (x.cell (k*s+f)) else 0
theorem aHK {α β:Type} {f:α→Option β}:∀ {l:List α} {r:List β},l.mapM f=some r→∀ (i:Nat) (x:α),l[i]? = some x→∃ y,f x=some y∧r[i]? = some y
 | [],r,h,i,x,hx=>by simp at hx
 | a::l,r,h,i,x,hx=>by
   rw [List.mapM_cons,Option.bind_eq_bind,Option.bind_eq_some_iff] at h
   obtain ⟨y,hy,h⟩:=h
   rw [Option.bind_eq_bind,Option.bind_eq_some_iff] at h
   obtain ⟨ys,hys,h⟩:=h
   simp only [Option.pure_def,Option.some.injEq] at h
   subst h
   cases i with
   | zero=>simp only [List.getElem?_cons_zero,Option.some.injEq] at hx;subst hx;exact ⟨y,hy,rfl⟩
   | succ i=>simpa using aHK hys i x (by simpa using hx)
section
variable {H:Type} {enc:TypeId × Value→H} {P:Program} {w:World} {base:Nat} {spare:Nat→Bool} {held:Bool}
theorem aUt {t e:TypeId} (ks:List (Option IntKind)) (dep:Nat) (ht:P.underlying t=some (.slice e)) (hk:(List.range ks.length).all (fun i=>decide (jS P dep e i=ks[i]?))=true) (hsz:P.cellsOf e=ks.length) (hpos:0<ks.length)
 {fuel:Nat} {cs:List Value} {y:DataW H × List MemPlace} (h:DataW.trod enc P w base spare held fuel t cs=some y):∃ x:Ext,cs=[x.v]∧iF x w ks∧(x.n=0∨∃ l sp,y.1=.slice l sp∧l.length=x.n):=by
 rcases Go.Deep.open_slice ht h with ⟨rfl,_⟩ | ⟨a,len,cap,mm,nn,Dd,Pl,rfl,hb,hl,hm,hmm,hy,hel0⟩
 ·exact ⟨⟨.slice none 0 0,0,ks.length,fun _=>Go.undef⟩,rfl,⟨⟨none,0,rfl,Nat.le_refl _,fun _=>⟨rfl,rfl⟩,fun a ha=>by cases ha⟩,rfl,fun k f kd hk=>absurd hk (Nat.not_lt_zero _),Nat.zero_le _⟩,Or.inl rfl⟩
 ·have hle:len≤mm:=by rw [hmm];split <;> omega
  have hel:∀ i,i<len→∃ cs',w.cells? base (a.add (i*ks.length)) ks.length=some cs'∧∃ z,DataW.trod enc P w base spare held nn e cs'=some z:=by
   intro i hi
   obtain ⟨cs',G,J⟩:=hel0 i (by omega)
   rw [hsz] at G
   exact ⟨cs',G,_,J⟩
  have hcell:∀ i f,i<len→f<ks.length→∃ v kd,w.cell? (a.add (i*ks.length+f))=some v∧ks[f]? = some kd∧Fit kd v:=by
   intro i f hi hf
   obtain ⟨cs',G,z,J⟩:=hel i hi
   have hkf:=of_decide_eq_true (List.all_eq_true.1 hk f (by simpa using hf))
   rw [List.getElem?_eq_getElem hf] at hkf
   obtain ⟨v,hv,hfit⟩:=aYL dep e f _ nn cs' z hkf J
   unfold World.cells? at G
   split at G
   ·obtain ⟨v',h4,h5⟩:=aHK G f f (by simp [hf])
    rw [hv] at h5;cases h5
    exact ⟨v,ks[f],by rw [← add_add];exact h4,List.getElem?_eq_getElem hf,hfit⟩
   ·cases G
  refine ⟨⟨.slice (some a) len cap,len,ks.length,fun k=>((w.cell? (a.add k)).getD Go.undef)⟩,rfl,⟨⟨some a,cap,rfl,hl,fun h=>by (cases h),fun a' ha' k hk'=>?_⟩,rfl,fun k f kd hk' hf=>?_,Nat.le_trans hl hm⟩,Or.inr ⟨_,_,by rw [hy],by simp⟩⟩
  ·simp only [Option.some.injEq] at ha';subst ha'
   have l7:k<len*ks.length:=hk'
   obtain ⟨v,kd,G,_,_⟩:=hcell (k / ks.length) (k%ks.length) (Nat.div_lt_of_lt_mul (by rw [Nat.mul_comm];exact l7)) (Nat.mod_lt _ hpos)
   rw [Nat.div_add_mod'] at G
   refine ⟨?_,by simp [G]⟩
   unfold World.cell? at G
   have hb:(a.add k).block=a.block:=by unfold Addr.add;split <;> rfl
   rw [hb] at G
   split at G
   ·rename_i hh;exact pI hh
   ·cases G
  ·have hf':f<ks.length:=(List.getElem?_eq_some_iff.1 hf).1
   obtain ⟨v,kd',G,J,O⟩:=hcell k f hk' hf'
   rw [hf] at J;cases J
   simp only [G,Option.getD_some];exact O
theorem yN {t e:TypeId} (ks:List (Option IntKind)) (dep:Nat) (ht:P.underlying t=some (.slice e)) (hk:(List.range ks.length).all (fun i=>decide (jS P dep e i=ks[i]?))=true) (hsz:P.cellsOf e=ks.length) (hpos:0<ks.length)
 {fuel:Nat} {cs:List Value} {y:DataW H × List MemPlace} (h:DataW.trod enc P w base spare held fuel t cs=some y):∃ x:Ext,cs=[x.v]∧iF x w ks:=by
 obtain ⟨x,G,J,_⟩:=aUt ks dep ht hk hsz hpos h
 exact ⟨x,G,J⟩
theorem trod_struct {t:TypeId} {fs:Array Field} (ht:P.underlying t=some (.struct fs)) {fuel:Nat} {cs:List Value} {y:DataW H × List MemPlace} (h:DataW.trod enc P w base spare held fuel t cs=some y) :
 cs.length=P.cellsOf t∧∀ (j:Nat) (f:Field),fs[j]? = some f→∃ fuel' z,DataW.trod enc P w base spare held fuel' f.type ((cs.drop f.offset).take (P.cellsOf f.type))=some z:=by
 cases fuel with
 | zero=>simp [DataW.trod] at h
 | succ fuel =>
   unfold DataW.trod at h
   rw [ht] at h
   simp only at h
   split at h
   ·rename_i hc
    refine ⟨hc,fun j f hj=>?_⟩
    rw [Option.map_eq_some_iff] at h
    obtain ⟨xs,hx,_⟩:=h
    obtain ⟨z,hz,_⟩:=aHK hx j f (by simpa using hj)
    exact ⟨fuel,z,hz⟩
   ·cases h
theorem bEs {W:World} {b0:Nat} {r:Reach} {t e:TypeId} {v:Value} {d:DataW H} {p:List MemPlace} (ks:List (Option IntKind)) (dep:Nat) (ht:P.underlying t=some (.slice e)) (hk:(List.range ks.length).all (fun i=>decide (jS P dep e i=ks[i]?))=true) (hsz:P.cellsOf e=ks.length) (hpos:0<ks.length)
 (hv:Value.okWide P W r b0 t v) (hd:DataW.Trod enc P w base spare held t v d p):∃ x:Ext,v=x.v∧iF x w ks:=by
 obtain ⟨fuel,hf⟩:=hd
 obtain ⟨x,hx,hfit⟩:=yN ks dep ht hk hsz hpos hf
 refine ⟨x,?_,hfit⟩
 cases v with
 | agg cs =>
   exfalso
   unfold Value.okWide at hv
   rw [ht] at hv
   simp only [Cell.okWide,ht,Cell.ok] at hv
 | _ =>
   simp only [Value.cells,List.cons.injEq,and_true] at hx
   exact hx
theorem bAv {W:World} {b0:Nat} {r:Reach} {t:TypeId} {v:Value} {d:DataW H} {p:List MemPlace} {f0 f1 f2:Field} {e0 V:TypeId} {k0 k1:Option IntKind} {k2:IntKind} (dep:Nat)
 (ht:P.underlying t=some (.struct #[f0,f1,f2])) (hsz:P.cellsOf t=3) (ho:f0.offset=0∧f1.offset=1)
 (hs0:P.underlying f0.type=some (.slice e0)) (hs1:P.underlying f1.type=some (.slice V))
 (hc:P.cellsOf f0.type=1∧P.cellsOf f1.type=1) (he:P.cellsOf e0=1∧P.cellsOf V=1)
 (hk:jS P dep e0 0=some k0∧jS P dep V 0=some k1) (l7:jS P dep t 2=some (some k2))
 (hv:Value.okWide P W r b0 t v) (hd:DataW.Trod enc P w base spare held t v d p):∃ (x0 x1:Ext) (b:Int),v=.agg #[x0.v,x1.v,.int k2 b]∧iF x0 w [k0]∧iF x1 w [k1]∧inR (dS k2) b:=by
 obtain ⟨cs,rfl,hcs,_⟩:∃ cs,v=.agg cs∧cs.size=P.cellsOf t∧Row.okWide P W r b0 t cs:=by
  unfold Value.okWide at hv;rw [ht] at hv;exact hv
 obtain ⟨fuel,hf⟩:=hd
 have qz:=aYL dep t 2 _ fuel _ _ l7 hf
 obtain ⟨G,J⟩:=trod_struct ht hf
 have one:∀ {e:TypeId} {k:Option IntKind},jS P dep e 0=some k→(List.range [k].length).all (fun i=>decide (jS P dep e i=[k][i]?))=true:=by
  intro e k h
  rw [List.all_eq_true]
  intro i hi
  have:i=0:=by simpa using hi
  subst this
  simp [h]
 obtain ⟨g0,z0,t0⟩:=J 0 f0 rfl
 obtain ⟨g1,z1,t1⟩:=J 1 f1 rfl
 obtain ⟨x0,q0,y0⟩:=yN [k0] dep hs0 (one hk.1) he.1 (by simp) t0
 obtain ⟨x1,q1,y1⟩:=yN [k1] dep hs1 (one hk.2) he.2 (by simp) t1
 rw [ho.1,hc.1] at q0
 rw [ho.2,hc.2] at q1
 obtain ⟨l⟩:=cs
 simp only [List.size_toArray,hsz] at hcs
 match l,hcs with
 | [a,b,c],_ =>
   simp only [Value.cells,List.drop_zero,List.take_succ_cons,List.take_zero,List.drop_succ_cons,List.cons.injEq,and_true] at q0 q1
   obtain ⟨vc,ec,⟨zc,rfl,rc⟩⟩:=qz
   simp only [Value.cells,List.getElem?_cons_zero,List.getElem?_cons_succ,Option.some.injEq] at ec
   subst ec
   exact ⟨x0,x1,zc,by rw [q0,q1],y0,y1,rc⟩
end
theorem fN {α:Type} {a b:α} {l r:List α} (h:a=b) (h':l=r):a::l=b::r:=by rw [h,h']
theorem dX {ρ:Env} {ι:Loc} {i:Nat} {n:E} {x:Ext} {w:World} {ks:List (Option IntKind)} (g:iF x w ks) (G:ρ.I.xs i 0=x) (J:n.i ρ=x.n):SV.aC ρ ι (.s (.xslc i (.lit 0) (.lit 0) n))=x.v:=by
 obtain ⟨b,c,V,_⟩:=g.ok.ok
 simp only [SV.aC,S.aC,aF,Int.toNat_zero,G,J,Int.toNat_natCast,Ext.sub,V,Nat.zero_mul,Nat.sub_zero]
 congr 1
 cases b <;> simp [Addr.add]
theorem tG {ρ:Env} {ι:Loc} {a b c:S} {va vb vc:Value} (ha:SV.aC ρ ι (.s a)=va) (hb:SV.aC ρ ι (.s b)=vb) (hc:SV.aC ρ ι (.s c)=vc):SV.aC ρ ι (.agg [.one a,.one b,.one c])=.agg #[va,vb,vc]:=by
 subst ha;subst hb;subst hc;rfl
theorem lA {ρ:Env} {i a:Nat} {n:E} {x:Ext} {w:World} {k:IntKind} (hx:iF x w [some k]) (G:ρ.I.xs i 0=x) (J:n.i ρ=x.n) (O:(ρ.a.getD a fun _=>0)=aD x 1 0):XI.ok ρ i ⟨n,[(some k,.av a)],[]⟩:=by
 refine ⟨by simp only [J];omega,by simp only [G,J];omega,by rw [G,hx.sz];rfl,by simp [XI.w],fun q hq f d hf=>?_,fun _ _ q p hp=>(by simp at hp),fun p hp=>(by cases hp)⟩
 simp only [J] at hq
 have hq:q<x.n:=by omega
 cases f with
 | zero =>
   simp only [List.getElem?_cons_zero,Option.some.injEq] at hf;subst hf
   obtain ⟨z,hz,_⟩:=hx.fit q 0 _ hq rfl
   simp only [List.length_singleton,Nat.mul_one,Nat.add_zero] at hz
   simp only [XI.w,List.length_singleton,List.length_nil,Nat.mul_one,Nat.add_zero,G,hz,XF.aC,gJ,O,aD,if_pos hq,kJ]
 | succ f=>simp at hf
theorem cW {x:Ext} {w:World} {k:IntKind} (hx:iF x w [some k]) (j:Nat):inR (dS k) (aD x 1 0 j):=by
 unfold aD
 split
 ·rename_i h
  obtain ⟨z,hz,hr⟩:=hx.fit j 0 _ h rfl
  simp only [List.length_singleton,Nat.mul_one,Nat.add_zero] at hz
  simp only [Nat.mul_one,Nat.add_zero,hz,kJ];exact hr
 ·cases k <;> simp [inR,dS,iZ,bY]
theorem dC {x:Ext} {w:World} {ks:List (Option IntKind)} (hx:iF x w ks):inR (0,9223372036854775807) (x.n:Int):=by
 have:=hx.len
 unfold maxLen at this
 simp only [inR];omega
structure PFit0 (x:Ext) (ys:Nat→Ext) (w:World):Prop where
 ok:x.ok w
 sz:x.sz=3
 num:∀ k f,k<x.n→f<2→Fit (some .i64) (x.cell (k*3+f))
 nest:∀ k,k<x.n→x.cell (k*3+2)=(ys k).v
 row:∀ k,iF (ys k) w [some .u8]
section
variable {H:Type} {enc:TypeId × Value→H} {P:Program} {w:World} {base:Nat} {spare:Nat→Bool} {held:Bool}
end
theorem aK.join {ρ ρ':Env} {β:dN} {ι ι0 ι':Loc} {m:Mem} {w w':World} {B B':Blk} (hm:aK ρ β ι m w) (h':aK ρ' ⟨w,0,ι0⟩ ι' [B'] w') (hs:m.all (fun B=>B.aH.all (Seg.sc m.length))=true) (hs':B.aH.all (Seg.sc m.length)=true)
 (hc:cellsOf ρ ι B.aH=cellsOf ρ' ι' B'.aH) (hB:B.ty=B'.ty∧B.wr=B'.wr∧B.grow=none∧B'.grow=none∧B.dead=false∧B'.dead=false):aK ρ β (cV ι m.length (ι' 0) 0 false) (m++[B]) w':=by
 obtain ⟨V,e2,e3,e4,e5,e6⟩:=hB
 have hnil:ι'.nil 0=false:=by
  cases h:ι'.nil 0 with
  | false=>rfl
  | true=>have:=(h'.nils 0 B' rfl e6 h).1;rw [e4] at this;cases this
 have hge:w.heap.size≤ι' 0:=(h'.new 0 (Nat.zero_le _) (by simp)).resolve_right (fun ⟨j,hj,_⟩=>absurd hj (Nat.not_lt_zero _))
 refine hm.push B (ι' 0) 0 false hs hs' (fun b hb=>h'.old b hb fun i hi=>?_) h'.size h'.os h'.tape h'.output hge (fun _ _=>?_) (fun _ h=>by cases h)
 ·have:i=0:=by simpa using hi
  subst this;omega
 ·obtain ⟨fz,rest,G,J,O,h4⟩:=h'.blk 0 B' rfl e6 hnil
  rw [h4 e4,List.append_nil] at G
  refine ⟨fz,[],by rw [hc,V,List.append_nil];exact G,by rw [e2];exact J,?_,fun _=>rfl⟩
  intro sz h
  rw [e3] at h;cases h
theorem bCl {P:Program} {I:Interp} {Γ:Ctx} {f:FuncId} {H:Hyp} {ρ:Env} (hΓ:cA P I Γ) (hP:P.follows .mixedOrders=true) {k u:Nat} {l:List SV} {nd:List E} {v:S} {hc':aV} (h:enter P Γ hc' k u f H l []=some (nd,.s v,none))
 (hI:ρ.I=I) (hH:H.ok ρ) (hn:bD ρ nd) (w:World) (hx:∀ i j,(ρ.I.xs i j).ok w) :
 Calls P f (l.map (SV.aC ρ Loc.id)).toArray w fun r w'=>r=.returned ((SV.s v).aC ρ Loc.id)∧RowKit.Below w.heap.size w w' :=
 ((bS hΓ hP k u).ok H l [] nd _ none h ρ ⟨w,0,Loc.id⟩ Loc.id w hI hH hn (aK.empty hx Loc.id)).mono fun r w' hr=>⟨hr.1,hr.2.toBelow⟩
def bHh:List IntKind→List SV→Option (List E)
 | [],[]=>some []
 | k::ks,.s (.int k' e)::l=>if k=k' then (bHh ks l).map (e::·) else none
 | _,_=>none
def aDA:Spec:=fun _ l _=>match l with
 | []=>some ([],.s (.bool (.blit true)),none)
 | _=>none
theorem aTl {P:Program} {I:Interp} {Γ:Ctx} {F:FuncId} {hc':aV} {k u:Nat} (hΓ:∀ I,cA P I Γ) (hP:P.follows .mixedOrders=true) (h:enter P Γ hc' k u F ⟨[],[],[],[],[],[]⟩ [] []=some ([],.s (.bool (.blit true)),none)):aX P I F aDA:=by
 constructor
 intro H l m nd v om hs ρ β ι w hI hH hn hm
 unfold aDA at hs
 split at hs
 ·simp only [Option.some.injEq,Prod.mk.injEq] at hs
  obtain ⟨rfl,rfl,rfl⟩:=hs
  let ρ0:Env:=⟨[],[],[],[],⟨fun _ _ _ _=>0,fun _ _ _ _=>false,fun _ _ _ _=>fun _=>0,fun _ _=>Ext.none⟩⟩
  have Z:Hyp.ok ⟨[],[],[],[],[],[]⟩ ρ0:=⟨by simp,by simp,by simp,by simp,by simp,by simp⟩
  exact (bCl (hΓ _) hP h (ρ:=ρ0) rfl Z (by intro e he;cases he) w (fun _ _=>Ext.jC w)).mono fun e w' ⟨V,e2⟩=>⟨by rw [V];rfl,hm.below e2⟩
 ·cases hs
def bPr (l l':List (Nat × Rng)):Bool:=l.all fun p=>l'.any fun q=>decide (q.1=p.1)&&decide (p.2.1≤q.2.1∧q.2.2≤p.2.2)
theorem aZH {l l':List (Nat × Rng)} {T:Nat→Int→Prop} (h:bPr l l'=true) (hl:∀ p ∈ l',∀ z,T p.1 z→inR p.2 z):∀ p ∈ l,∀ z,T p.1 z→inR p.2 z:=fun p hp z hz=>by
 have G:=List.all_eq_true.1 h p hp
 obtain ⟨q,hq,J⟩:=List.any_eq_true.1 G
 simp only [Bool.and_eq_true,decide_eq_true_eq] at J
 have O:=hl q hq z (by rw [J.1];exact hz)
 simp only [inR] at O ⊢
 exact ⟨Int.le_trans J.2.1 O.1,Int.le_trans O.2 J.2.2⟩
def piOf (n:Nat) (U l:List SV):List Nat:=(List.range n).map fun b=>match (U.zip l).find? (fun p=>match p.1 with | .s (.ptr c _)=>c == b | _=>false) with
 | some (_,.s (.ptr d _))=>d
 | _=>0
def orS (s t:Spec):Spec:=fun H l m=>match s H l m with
 | some r=>some r
 | none=>t H l m
theorem jE {P:Program} {I:Interp} {f:FuncId} {s t:Spec} (hs:aX P I f s) (ht:aX P I f t):aX P I f (orS s t):=by
 constructor
 intro H l m nd v om h
 unfold orS at h
 split at h
 ·rename_i r hr
  simp only [Option.some.injEq] at h;subst h
  exact hs.ok H l m nd v om hr
 ·exact ht.ok H l m nd v om h
section
variable {ρ:Env} {β:dN} {ι:Loc} {m m0:Mem} {w w':World} {π:List Nat}
theorem bAx {π:List Nat} (h:π.Nodup):∀ i j p:Nat,π[i]? = some p→π[j]? = some p→i=j:=fun i j p hi hj=>by
 have hi':=(List.getElem?_eq_some_iff.1 hi)
 have hj':=(List.getElem?_eq_some_iff.1 hj)
 exact (List.getElem_inj h).1 (hi'.2.trans hj'.2.symm)
end
def bQB (n:Int) (A:Nat→Int) (md:Int) (j:Nat):Int:=if 0<n then (A ((j:Int)%n).toNat+(j:Int) / n)%md else 0
def kW (b:Int) (j:Nat):Int:=(((j:Int)+(j:Int) / 128)%256*b)%256
def iJ (C:Nat→Int) (j:Nat):Int:=if j%3=0 then C (j / 3)%256 else if j%3=1 then C (j / 3) / 256%256 else C (j / 3) / 65536%256
def aCH (N:Nat→Int) (j:Nat):Int:=if j%2=0 then N ((j-6144) / 2)%256 else N ((j-6144) / 2) / 256
def mAt (n:Nat) (C:Nat→Int) (k:Nat) (N:Nat→Int) (b:Int) (j:Nat):Int :=
 if 6144≤j∧j<6144+2*k then aCH N j else if j<3*n then iJ C j else if j<8192 then kW b j else 0
def ramF (o:Int) (A:Nat→Int):Nat→Nat→Int
 | 0,_=>0
 | n+1,j=>if j=((o+n)%256).toNat then A n else ramF o A n j
def iW (A:Nat→Int) (j:Nat):Int:=if j%2=0 then A (j / 2)%256 else A (j / 2) / 256%256
def tP (n:Nat) (A:Nat→Int):Int:=(List.range n).foldl (fun s j=>(s*31+A j+7)%4294967296) 1
theorem oR (n:Nat) (A:Nat→Int):tP (n+1) A=(tP n A*31+A n+7)%4294967296:=by
 unfold tP;rw [List.range_succ,List.foldl_append];rfl
theorem vI {A B:Nat→Int}:∀ (n:Nat),(∀ j,j<n→A j=B j)→tP n A=tP n B
 | 0,_=>rfl
 | n+1,h=>by rw [oR,oR,vI n (fun j hj=>h j (by omega)),h n (by omega)]
theorem wW (n:Nat) (A:Nat→Int):0≤tP n A∧tP n A≤4294967295:=by
 cases n with
 | zero=>simp [tP]
 | succ n=>rw [oR];omega
def sgV (k q p c:Int):Int :=
 if k=1 then (aN .or .u16 q p)
 else if k=2 then (aN .and .u16 q p)
 else if k=3 then (aN .xor .u16 q p)
 else if k=4 then ((q-p)%65536)
 else if k=5 then ((q+p)%65536)
 else if k=6 then (((q-p)-c)%65536)
 else if k=7 then (((q+p)+c)%65536)
 else if k=8 then ((q+65535)%65536)
 else if k=9 then ((q+1)%65536)
 else if k=10 then (65535-q)
 else if k=11 then ((q / 2)+((q / 32768)*32768))
 else if k=12 then (((q%32768)*2)+c)
 else if k=13 then (((q%16384)*4)+3)
 else if k=14 then (((q%4096)*16)+15)
 else if k=15 then (((q%256)*256)+(q / 256))
 else q
def sgF (w k q p c:Int):Int :=
 if k=1 then (((if ((aN .or .u16 q p)≤32767) then 0 else 1)+(if (if (w≤31) then (32768≤(aN .or .u16 q p)) else (¬ (((w / 2)%2)=0))) then 2 else 0))+(if ((aN .or .u16 q p)=0) then 8 else 0))
 else if k=2 then (((if ((aN .and .u16 q p)≤32767) then 0 else 1)+(if (if (w≤31) then (32768≤(aN .and .u16 q p)) else (¬ (((w / 2)%2)=0))) then 2 else 0))+(if ((aN .and .u16 q p)=0) then 8 else 0))
 else if k=3 then (((if ((aN .xor .u16 q p)≤32767) then 0 else 1)+(if (if (w≤31) then (32768≤(aN .xor .u16 q p)) else (¬ (((w / 2)%2)=0))) then 2 else 0))+(if ((aN .xor .u16 q p)=0) then 8 else 0))
 else if k=4 then ((((((((q-p) / 32768)%2)+(if (if (w≤31) then (¬ ((((q-p) / 32768)%2)=0)) else (¬ (((w / 2)%2)=0))) then 2 else 0))+(if (q<p) then 4 else 0))+(if (((q-p)%65536)=0) then 8 else 0))+(if ((32768≤((if (q≤32767) then q else (q+(-65536)))-(if (p≤32767) then p else (p+(-65536)))))∨(((if (q≤32767) then q else (q+(-65536)))-(if (p≤32767) then p else (p+(-65536))))≤(-32769))) then 16 else 0))+(if (if ((32768≤((if (q≤32767) then q else (q+(-65536)))-(if (p≤32767) then p else (p+(-65536)))))∨(((if (q≤32767) then q else (q+(-65536)))-(if (p≤32767) then p else (p+(-65536))))≤(-32769))) then (w≤31) else (32≤w)) then 32 else 0))
 else if k=5 then ((((((((q+p) / 32768)%2)+(if (if (w≤31) then (¬ ((((q+p) / 32768)%2)=0)) else (¬ (((w / 2)%2)=0))) then 2 else 0))+(if ((q+p)≤65535) then 0 else 4))+(if (((q+p)%65536)=0) then 8 else 0))+(if ((32768≤((if (q≤32767) then q else (q+(-65536)))+(if (p≤32767) then p else (p+(-65536)))))∨(((if (q≤32767) then q else (q+(-65536)))+(if (p≤32767) then p else (p+(-65536))))≤(-32769))) then 16 else 0))+(if (if ((32768≤((if (q≤32767) then q else (q+(-65536)))+(if (p≤32767) then p else (p+(-65536)))))∨(((if (q≤32767) then q else (q+(-65536)))+(if (p≤32767) then p else (p+(-65536))))≤(-32769))) then (w≤31) else (32≤w)) then 32 else 0))
 else if k=6 then (((((((((q-p)-c) / 32768)%2)+(if (if (w≤31) then (¬ (((((q-p)-c) / 32768)%2)=0)) else (¬ (((w / 2)%2)=0))) then 2 else 0))+(if (q<(p+c)) then 4 else 0))+(if ((((q-p)-c)%65536)=0) then 8 else 0))+(if ((32768≤((if (q≤32767) then q else (q+(-65536)))-(if (p≤32767) then p else (p+(-65536)))))∨(((if (q≤32767) then q else (q+(-65536)))-(if (p≤32767) then p else (p+(-65536))))≤(-32769))) then 16 else 0))+(if (if ((32768≤((if (q≤32767) then q else (q+(-65536)))-(if (p≤32767) then p else (p+(-65536)))))∨(((if (q≤32767) then q else (q+(-65536)))-(if (p≤32767) then p else (p+(-65536))))≤(-32769))) then (w≤31) else (32≤w)) then 32 else 0))
 else if k=7 then (((((((((q+p)+c) / 32768)%2)+(if (if (w≤31) then (¬ (((((q+p)+c) / 32768)%2)=0)) else (¬ (((w / 2)%2)=0))) then 2 else 0))+(if (((q+p)+c)≤65535) then 0 else 4))+(if ((((q+p)+c)%65536)=0) then 8 else 0))+(if ((32768≤((if (q≤32767) then q else (q+(-65536)))+(if (p≤32767) then p else (p+(-65536)))))∨(((if (q≤32767) then q else (q+(-65536)))+(if (p≤32767) then p else (p+(-65536))))≤(-32769))) then 16 else 0))+(if (if ((32768≤((if (q≤32767) then q else (q+(-65536)))+(if (p≤32767) then p else (p+(-65536)))))∨(((if (q≤32767) then q else (q+(-65536)))+(if (p≤32767) then p else (p+(-65536))))≤(-32769))) then (w≤31) else (32≤w)) then 32 else 0))
 else if k=8 then (((((((((q+32767) / 32768)+1)%2)+(if (if (w≤31) then (¬ (((((q+32767) / 32768)+1)%2)=0)) else (¬ (((w / 2)%2)=0))) then 2 else 0))+(if (q≤0) then 4 else 0))+(if (((q+65535)%65536)=0) then 8 else 0))+(if (((if (q≤32767) then q else (q+(-65536)))+(-1))≤(-32769)) then 16 else 0))+(if (if (((if (q≤32767) then q else (q+(-65536)))+(-1))≤(-32769)) then (w≤31) else (32≤w)) then 32 else 0))
 else if k=9 then ((((((((q+1) / 32768)%2)+(if (if (w≤31) then (¬ ((((q+1) / 32768)%2)=0)) else (¬ (((w / 2)%2)=0))) then 2 else 0))+(if ((q+1)≤65535) then 0 else 4))+(if (((q+1)%65536)=0) then 8 else 0))+(if ((32768≤((if (q≤32767) then q else (q+(-65536)))+1))∨(((if (q≤32767) then q else (q+(-65536)))+1)≤(-32769))) then 16 else 0))+(if (if ((32768≤((if (q≤32767) then q else (q+(-65536)))+1))∨(((if (q≤32767) then q else (q+(-65536)))+1)≤(-32769))) then (w≤31) else (32≤w)) then 32 else 0))
 else if k=10 then (((if ((65535-q)≤32767) then 0 else 1)+(if (if (w≤31) then (32768≤(65535-q)) else (¬ (((w / 2)%2)=0))) then 2 else 0))+(if ((65535-q)=0) then 8 else 0))
 else if k=11 then ((((if (((q / 2)+((q / 32768)*32768))≤32767) then 0 else 1)+(if (if (w≤31) then (32768≤((q / 2)+((q / 32768)*32768))) else (¬ (((w / 2)%2)=0))) then 2 else 0))+(if ((q%2)=0) then 0 else 4))+(if (((q / 2)+((q / 32768)*32768))=0) then 8 else 0))
 else if k=12 then ((((if ((((q%32768)*2)+c)≤32767) then 0 else 1)+(if (if (w≤31) then (32768≤(((q%32768)*2)+c)) else (¬ (((w / 2)%2)=0))) then 2 else 0))+(if (q≤32767) then 0 else 4))+(if ((((q%32768)*2)+c)=0) then 8 else 0))
 else if k=13 then ((if ((((q%16384)*4)+3)≤32767) then 0 else 1)+(if (if (w≤31) then (32768≤(((q%16384)*4)+3)) else (¬ (((w / 2)%2)=0))) then 2 else 0))
 else if k=14 then ((if ((((q%4096)*16)+15)≤32767) then 0 else 1)+(if (if (w≤31) then (32768≤(((q%4096)*16)+15)) else (¬ (((w / 2)%2)=0))) then 2 else 0))
 else if k=15 then (((if ((((q%256)*256)+(q / 256))≤32767) then 0 else 1)+(if (if (w≤31) then (32768≤(((q%256)*256)+(q / 256))) else (¬ (((w / 2)%2)=0))) then 2 else 0))+(if ((((q%256)*256)+(q / 256))=0) then 8 else 0))
 else w
def tm1 (p:Int) (o:Bool) (T:Int) (s:Int × Int × Int):Int × Int × Int :=
 if (s.1+1)%p=0∧o=true then (if (s.2.1+1)%256=T then ((s.1+1)%p,0,(s.2.2+1)%16) else ((s.1+1)%p,(s.2.1+1)%256,s.2.2)) else ((s.1+1)%p,s.2.1,s.2.2)
def tmN (p:Int) (o:Bool) (T:Int):Nat→Int × Int × Int→Int × Int × Int
 | 0,s=>s
 | n+1,s=>tm1 p o T (tmN p o T n s)
def perT (k:Nat):Int:=if k=2 then 16 else 128
def tmv (k:Nat) (is:List Int) (bs:List Bool):Int × Int × Int:=tmN (perT k) (bs.getD 5 false) (is.getD 1 0) (is.getD 0 0).toNat (is.getD 2 0,is.getD 3 0,is.getD 4 0)
def setB (x b o:Int):Int:=(x-x / b%2*b+o*b)%65536
def sq0:E:=.div (.v 5) (.lit 64)
def sq1:E:=.mod sq0 (.lit 2)
def sq2:E:=.mul sq1 (.lit 64)
def sq3:E:=.sub (.v 5) sq2
def sq4:E:=.add sq3 (.lit 64)
def sq6:E:=.mul (.v 0) (.lit 3)
def sq7:E:=.add sq6 (.lit 2)
def sq8:E:=.sel (.av 0) sq7
def sq9:E:=.div sq8 (.lit 64)
def mQ:E:=.eq sq9 (.lit 2)
def oQ:E:=.eq sq9 (.lit 3)
def bIH:E:=.sel (.av 0) sq6
def vH:E:=.mod bIH (.lit 16)
def aIg:E:=.eq vH (.lit 12)
def sq28:E:=.add sq6 (.lit 1)
def bBc:E:=.sel (.av 0) sq28
def sq30:E:=.div bBc (.lit 32)
def sq31:E:=.mul sq8 (.lit 8)
def sq32:E:=.add sq30 sq31
def aDv:E:=.mod sq32 (.lit 512)
def sq34:E:=.eq aDv (.lit 176)
def sq35:E:=.mod (.v 5) (.lit 16)
def sq36:E:=.eq sq35 (.lit 0)
def sq37:E:=.eq aDv (.lit 177)
def sq38:E:=.not sq36
def sq39:E:=.eq aDv (.lit 178)
def sq40:E:=.eq sq35 (.lit 15)
def sq41:E:=.eq aDv (.lit 179)
def sq42:E:=.not sq40
def sq43:E:=.eq aDv (.lit 188)
def sq44:E:=.le (.v 12) (.lit 32767)
def sq45:E:=.eq aDv (.lit 190)
def sq46:E:=.le (.lit 32768) (.v 12)
def sq47:E:=.eq aDv (.lit 256)
def bPk:E:=.eq aDv (.lit 320)
def sq49:E:=.ite sq47 sq47 bPk
def sq50:E:=.le (.lit 128) aDv
def sq51:E:=.le aDv (.lit 174)
def sq52:E:=.and sq50 sq51
def bII:E:=.ite mQ aDv (.lit 0)
def sq54:E:=.mod bII (.lit 2)
def sq55:E:=.eq sq54 (.lit 0)
def sq56:E:=.and sq52 sq55
def sq57:E:=.div bII (.lit 4)
def sq58:E:=.mod sq57 (.lit 2)
def sq59:E:=.eq sq58 (.lit 0)
def sq60:E:=.ite sq59 (.v 13) (.v 14)
def sq61:E:=.div bII (.lit 8)
def sq62:E:=.add sq61 (.lit (-16))
def sq63:E:=.sel (.tab [4,8,16,32,1,2]) sq62
def sq64:E:=.tdiv sq60 sq63
def sq65:E:=.wrap .i64 sq64
def sq66:E:=.tmod sq65 (.lit 2)
def sq67:E:=.div bII (.lit 2)
def sq68:E:=.mod sq67 (.lit 2)
def sq69:E:=.eq sq66 sq68
def sq70:E:=.and sq56 sq69
def sq71:E:=.or sq49 sq70
def sq72:E:=.ite sq45 sq46 sq71
def sq73:E:=.ite sq43 sq44 sq72
def sq74:E:=.ite sq41 sq42 sq73
def sq75:E:=.ite sq39 sq40 sq74
def sq76:E:=.ite sq37 sq38 sq75
def bPl:E:=.ite sq34 sq36 sq76
def sq78:E:=.div bIH (.lit 4)
def sq79:E:=.mul bBc (.lit 64)
def sq80:E:=.add sq78 sq79
def sq81:E:=.mod sq80 (.lit 2048)
def sq82:E:=.ite mQ sq81 (.lit 0)
def sq83:E:=.add (.v 0) (.lit 1)
def bIJ:E:=.mod sq83 (.lit 2048)
def sq85:E:=.ite bPl sq82 bIJ
def sq86:E:=.eq sq9 (.lit 1)
def sq87:E:=.add (.v 15) (.lit 3)
def sq88:E:=.mod sq87 (.lit 4)
def sq89:E:=.sel (.av 1) sq88
def sq90:E:=.ite sq86 sq89 bIJ
def sq91:E:=.ite oQ bIJ sq90
def bPm:E:=.ite mQ sq85 sq91
def bPn:E:=.eq vH (.lit 0)
def bPo:E:=.eq vH (.lit 1)
def sq95:E:=.div bIH (.lit 64)
def sq96:E:=.mul bBc (.lit 4)
def sq97:E:=.add sq95 sq96
def sq98:E:=.mul sq8 (.lit 1024)
def sq99:E:=.add sq97 sq98
def sq100:E:=.mod sq99 (.lit 65536)
def sq101:E:=.ite oQ sq100 (.lit 0)
def mO:E:=.ite mQ (.lit 0) sq101
def sq103:E:=.ite bPo mO (.v 1)
def sq104:E:=.ite bPn (.v 1) sq103
def wT:E:=.or mQ oQ
def sq106:E:=.div bBc (.lit 128)
def sq107:E:=.ite wT (.lit 0) sq106
def aZv:E:=.eq sq107 (.lit 0)
def sq109:E:=.mod sq8 (.lit 16)
def aZw:E:=.ite wT (.lit 0) sq109
def sq111:E:=.div sq8 (.lit 16)
def sq112:E:=.mod sq111 (.lit 4)
def bFd:E:=.ite wT (.lit 0) sq112
def sq114:E:=.eq bFd (.lit 0)
def aTc:E:=.sel (.av 2) (.v 5)
def sq116:E:=.eq bFd (.lit 1)
def sq117:E:=.div bIH (.lit 16)
def mP:E:=.ite wT (.lit 0) sq117
def bKP:E:=.eq mP (.lit 0)
def bKQ:E:=.eq mP (.lit 1)
def bKR:E:=.eq mP (.lit 2)
def bKS:E:=.eq mP (.lit 3)
def bKT:E:=.eq mP (.lit 4)
def bKU:E:=.eq mP (.lit 5)
def bKV:E:=.eq mP (.lit 6)
def bKW:E:=.mul (.v 6) (.lit 2)
def sq127:E:=.add bKW (.lit 6144)
def sq128:E:=.sel (.av 0) sq127
def sq129:E:=.add bKW (.lit 6145)
def sq130:E:=.sel (.av 0) sq129
def sq131:E:=.mul sq130 (.lit 256)
def aZx:E:=.add sq128 sq131
def bKX:E:=.eq mP (.lit 7)
def sq134:E:=.div (.v 13) (.lit 2)
def sq135:E:=.mod sq134 (.lit 2)
def sq136:E:=.eq sq135 (.lit 0)
def sq137:E:=.ite sq136 (.lit 32768) (.lit 32767)
def bKY:E:=.eq mP (.lit 8)
def sq139:E:=.eq mP (.lit 9)
def sq140:E:=.or bKY sq139
def sq141:E:=.eq mP (.lit 10)
def sq142:E:=.eq mP (.lit 11)
def sq143:E:=.eq mP (.lit 12)
def sq144:E:=.or sq142 sq143
def sq145:E:=.eq mP (.lit 13)
def sq146:E:=.eq mP (.lit 14)
def sq147:E:=.ite sq146 (.v 8) aTc
def sq148:E:=.ite sq145 (.v 7) sq147
def sq149:E:=.ite sq144 (.lit 0) sq148
def sq150:E:=.ite sq141 (.v 12) sq149
def sq151:E:=.ite sq140 (.v 11) sq150
def sq152:E:=.ite bKX sq137 sq151
def sq153:E:=.ite bKV aZx sq152
def sq154:E:=.ite bKU (.v 6) sq153
def sq155:E:=.ite bKT (.v 5) sq154
def sq156:E:=.ite bKS (.v 3) sq155
def sq157:E:=.ite bKR (.v 2) sq156
def sq158:E:=.ite bKQ (.v 1) sq157
def kY:E:=.ite bKP (.v 4) sq158
def sq160:E:=.eq bFd (.lit 2)
def sq161:E:=.ite sq160 (.v 9) (.v 10)
def sq162:E:=.ite sq116 kY sq161
def aZy:E:=.ite sq114 aTc sq162
def sq164:E:=.div (.v 14) (.lit 4)
def bKZ:E:=.mod sq164 (.lit 2)
def sq166:E:=.app 40 (.cons aZw (.cons (.v 1) (.cons aZy (.cons bKZ .nil))))
def bLa:E:=.ite aZv sq166 (.v 1)
def sq168:E:=.ite bPo kY bLa
def sq169:E:=.ite bPn bLa sq168
def sq170:E:=.ite oQ sq104 sq169
def bFe:E:=.ite mQ (.v 1) sq170
def bFf:E:=.or bPn bPo
def bFg:E:=.eq vH (.lit 2)
def sq174:E:=.ite bFg mO (.v 2)
def sq175:E:=.ite bFf (.v 2) sq174
def sq176:E:=.div (.v 13) (.lit 4)
def bLb:E:=.mod sq176 (.lit 2)
def sq178:E:=.app 40 (.cons aZw (.cons (.v 2) (.cons aZy (.cons bLb .nil))))
def bLc:E:=.ite aZv (.v 2) sq178
def sq180:E:=.ite bFg kY bLc
def sq181:E:=.ite bFf bLc sq180
def sq182:E:=.ite oQ sq175 sq181
def bFh:E:=.ite mQ (.v 2) sq182
def bFi:E:=.or bFf bFg
def bFj:E:=.eq vH (.lit 3)
def sq186:E:=.ite bFj mO (.v 3)
def sq187:E:=.ite bFi (.v 3) sq186
def sq188:E:=.ite bFj kY (.v 3)
def sq189:E:=.ite bFi (.v 3) sq188
def sq190:E:=.ite oQ sq187 sq189
def bFk:E:=.ite mQ (.v 3) sq190
def bFl:E:=.or bFi bFj
def aZz:E:=.eq vH (.lit 4)
def bFm:E:=.or bFl aZz
def aZA:E:=.eq vH (.lit 5)
def aTd:E:=.or bFm aZA
def aTe:E:=.eq vH (.lit 6)
def sq198:E:=.or aTd aTe
def bFn:E:=.eq vH (.lit 7)
def sq200:E:=.or sq198 bFn
def sq201:E:=.eq vH (.lit 8)
def sq202:E:=.or sq200 sq201
def sq203:E:=.eq vH (.lit 9)
def aDu:E:=.or sq202 sq203
def aGC:E:=.eq vH (.lit 10)
def bFo:E:=.or aDu aGC
def zU:E:=.eq vH (.lit 11)
def sq208:E:=.or bFo zU
def sq209:E:=.or sq208 aIg
def aGD:E:=.eq vH (.lit 13)
def bFp:E:=.or sq209 aGD
def bFq:E:=.eq vH (.lit 14)
def sq213:E:=.ite bFq mO (.v 4)
def sq214:E:=.ite bFp (.v 4) sq213
def sq215:E:=.ite bFq kY (.v 4)
def sq216:E:=.ite bFp (.v 4) sq215
def sq217:E:=.ite oQ sq214 sq216
def bFr:E:=.ite mQ (.v 4) sq217
def sq219:E:=.mod mO (.lit 256)
def sq220:E:=.ite aZz sq219 (.v 5)
def sq221:E:=.ite bFl (.v 5) sq220
def sq222:E:=.mod kY (.lit 256)
def sq223:E:=.ite aZz sq222 (.v 5)
def aTf:E:=.ite bFl (.v 5) sq223
def sq225:E:=.div aTf (.lit 16)
def sq226:E:=.mul sq225 (.lit 16)
def sq227:E:=.div bBc (.lit 2)
def sq228:E:=.mod sq227 (.lit 16)
def sq229:E:=.ite wT (.lit 0) sq228
def sq230:E:=.mul sq229 (.lit 16)
def sq231:E:=.bits .xor .u16 sq226 sq230
def sq232:E:=.mod sq30 (.lit 4)
def bFs:E:=.ite wT (.lit 0) sq232
def sq234:E:=.eq bFs (.lit 0)
def sq235:E:=.eq bFs (.lit 1)
def sq236:E:=.add aTf (.lit 1)
def sq237:E:=.eq bFs (.lit 2)
def sq238:E:=.add aTf (.lit 65535)
def sq239:E:=.mod sq238 (.lit 65536)
def sq240:E:=.ite sq237 sq239 (.lit 0)
def sq241:E:=.ite sq235 sq236 sq240
def sq242:E:=.ite sq234 aTf sq241
def sq243:E:=.mod sq242 (.lit 16)
def sq244:E:=.bits .or .u16 sq231 sq243
def sq245:E:=.ite aZz aTf sq244
def sq246:E:=.ite oQ sq221 sq245
def bFt:E:=.ite mQ (.v 5) sq246
def sq248:E:=.mod mO (.lit 1024)
def sq249:E:=.ite aZA sq248 (.v 6)
def sq250:E:=.ite bFm (.v 6) sq249
def sq251:E:=.mod kY (.lit 1024)
def sq252:E:=.ite aZA sq251 (.v 6)
def bLd:E:=.ite bFm (.v 6) sq252
def sq254:E:=.mod bBc (.lit 2)
def sq255:E:=.ite wT (.lit 0) sq254
def sq256:E:=.sub bLd sq255
def sq257:E:=.mod sq256 (.lit 1024)
def sq258:E:=.ite aZA bLd sq257
def sq259:E:=.ite oQ sq250 sq258
def bFu:E:=.ite mQ (.v 6) sq259
def bLe:E:=.or aGC zU
def bLf:E:=.sel (.av 2) sq4
def bLg:E:=.ite aIg bLf (.v 7)
def sq264:E:=.ite bLe mO bLg
def sq265:E:=.ite aDu (.v 7) sq264
def sq266:E:=.ite bLe kY bLg
def sq267:E:=.ite aDu (.v 7) sq266
def sq268:E:=.ite oQ sq265 sq267
def bFv:E:=.ite mQ (.v 7) sq268
def bLh:E:=.or aIg aGD
def sq271:E:=.ite bLh mO (.v 8)
def sq272:E:=.ite zU aZx sq271
def sq273:E:=.ite bFo (.v 8) sq272
def sq274:E:=.ite bLh kY (.v 8)
def sq275:E:=.ite zU aZx sq274
def sq276:E:=.ite bFo (.v 8) sq275
def sq277:E:=.ite oQ sq273 sq276
def bFw:E:=.ite mQ (.v 8) sq277
def bFx:E:=.wrap .i16 (.v 7)
def bFy:E:=.wrap .i16 (.v 8)
def bLi:E:=.mul bFx bFy
def sq282:E:=.div bLi (.lit 32768)
def aZB:E:=.mod sq282 (.lit 65536)
def aZC:E:=.wrap .i16 mO
def bLj:E:=.mul aZC bFy
def sq286:E:=.div bLj (.lit 32768)
def sq287:E:=.mod sq286 (.lit 65536)
def bLk:E:=.wrap .i16 aZx
def bLl:E:=.mul aZC bLk
def sq290:E:=.div bLl (.lit 32768)
def sq291:E:=.mod sq290 (.lit 65536)
def bLm:E:=.wrap .i16 bLf
def bLn:E:=.mul bLm aZC
def sq294:E:=.div bLn (.lit 32768)
def sq295:E:=.mod sq294 (.lit 65536)
def bLo:E:=.mul bFx aZC
def sq297:E:=.div bLo (.lit 32768)
def sq298:E:=.mod sq297 (.lit 65536)
def sq299:E:=.ite aGD sq298 aZB
def sq300:E:=.ite aIg sq295 sq299
def sq301:E:=.ite zU sq291 sq300
def sq302:E:=.ite aGC sq287 sq301
def sq303:E:=.ite aDu aZB sq302
def aZD:E:=.wrap .i16 kY
def bLp:E:=.mul aZD bFy
def sq306:E:=.div bLp (.lit 32768)
def sq307:E:=.mod sq306 (.lit 65536)
def bLq:E:=.mul aZD bLk
def sq309:E:=.div bLq (.lit 32768)
def sq310:E:=.mod sq309 (.lit 65536)
def bLr:E:=.mul bLm aZD
def sq312:E:=.div bLr (.lit 32768)
def sq313:E:=.mod sq312 (.lit 65536)
def bLs:E:=.mul bFx aZD
def sq315:E:=.div bLs (.lit 32768)
def sq316:E:=.mod sq315 (.lit 65536)
def sq317:E:=.ite aGD sq316 aZB
def sq318:E:=.ite aIg sq313 sq317
def sq319:E:=.ite zU sq310 sq318
def sq320:E:=.ite aGC sq307 sq319
def sq321:E:=.ite aDu aZB sq320
def sq322:E:=.ite oQ sq303 sq321
def bFz:E:=.ite mQ (.v 9) sq322
def sq324:E:=.mod bLi (.lit 32768)
def aZE:E:=.mul sq324 (.lit 2)
def sq326:E:=.mod bLj (.lit 32768)
def sq327:E:=.mul sq326 (.lit 2)
def sq328:E:=.mod bLl (.lit 32768)
def sq329:E:=.mul sq328 (.lit 2)
def sq330:E:=.mod bLn (.lit 32768)
def sq331:E:=.mul sq330 (.lit 2)
def sq332:E:=.mod bLo (.lit 32768)
def sq333:E:=.mul sq332 (.lit 2)
def sq334:E:=.ite aGD sq333 aZE
def sq335:E:=.ite aIg sq331 sq334
def sq336:E:=.ite zU sq329 sq335
def sq337:E:=.ite aGC sq327 sq336
def sq338:E:=.ite aDu aZE sq337
def sq339:E:=.mod bLp (.lit 32768)
def sq340:E:=.mul sq339 (.lit 2)
def sq341:E:=.mod bLq (.lit 32768)
def sq342:E:=.mul sq341 (.lit 2)
def sq343:E:=.mod bLr (.lit 32768)
def sq344:E:=.mul sq343 (.lit 2)
def sq345:E:=.mod bLs (.lit 32768)
def sq346:E:=.mul sq345 (.lit 2)
def sq347:E:=.ite aGD sq346 aZE
def sq348:E:=.ite aIg sq344 sq347
def sq349:E:=.ite zU sq342 sq348
def sq350:E:=.ite aGC sq340 sq349
def sq351:E:=.ite aDu aZE sq350
def sq352:E:=.ite oQ sq338 sq351
def bFA:E:=.ite mQ (.v 10) sq352
def sq354:E:=.ite aTe mO (.v 11)
def sq355:E:=.ite aTd (.v 11) sq354
def sq356:E:=.ite aTe kY (.v 11)
def sq357:E:=.ite aTd (.v 11) sq356
def sq358:E:=.ite oQ sq355 sq357
def bFB:E:=.ite mQ (.v 11) sq358
def sq360:E:=.mod (.v 12) (.lit 32768)
def bLt:E:=.add sq360 (.lit 32768)
def sq362:E:=.div (.v 12) (.lit 32768)
def sq363:E:=.mul sq362 (.lit 32768)
def sq364:E:=.div (.v 12) (.lit 4096)
def sq365:E:=.mod sq364 (.lit 2)
def sq366:E:=.mul sq365 (.lit 4096)
def sq367:E:=.add sq363 sq366
def sq368:E:=.div (.v 12) (.lit 32)
def sq369:E:=.mod sq368 (.lit 4)
def sq370:E:=.mul sq369 (.lit 32)
def sq371:E:=.add sq367 sq370
def sq372:E:=.div (.v 12) (.lit 4)
def sq373:E:=.mod sq372 (.lit 4)
def sq374:E:=.mul sq373 (.lit 4)
def sq375:E:=.add sq371 sq374
def sq376:E:=.div mO (.lit 8192)
def sq377:E:=.mod sq376 (.lit 4)
def sq378:E:=.mul sq377 (.lit 8192)
def sq379:E:=.div mO (.lit 128)
def sq380:E:=.mod sq379 (.lit 32)
def sq381:E:=.mul sq380 (.lit 128)
def sq382:E:=.add sq378 sq381
def sq383:E:=.div mO (.lit 16)
def sq384:E:=.mod sq383 (.lit 2)
def sq385:E:=.mul sq384 (.lit 16)
def sq386:E:=.add sq382 sq385
def sq387:E:=.mod mO (.lit 4)
def sq388:E:=.add sq386 sq387
def sq389:E:=.bits .or .u16 sq375 sq388
def sq390:E:=.ite bFn sq389 (.v 12)
def sq391:E:=.ite aTe bLt sq390
def sq392:E:=.ite aTd (.v 12) sq391
def sq393:E:=.or bKP bKQ
def sq394:E:=.or sq393 bKR
def sq395:E:=.or sq394 bKS
def sq396:E:=.or sq395 bKT
def sq397:E:=.or sq396 bKU
def sq398:E:=.or sq397 bKV
def sq399:E:=.or sq398 bKX
def sq400:E:=.ite bKY bLt (.v 12)
def aDw:E:=.ite sq399 (.v 12) sq400
def sq402:E:=.mod aDw (.lit 32768)
def sq403:E:=.add sq402 (.lit 32768)
def sq404:E:=.div aDw (.lit 32768)
def sq405:E:=.mul sq404 (.lit 32768)
def sq406:E:=.div aDw (.lit 4096)
def sq407:E:=.mod sq406 (.lit 2)
def sq408:E:=.mul sq407 (.lit 4096)
def sq409:E:=.add sq405 sq408
def sq410:E:=.div aDw (.lit 32)
def sq411:E:=.mod sq410 (.lit 4)
def sq412:E:=.mul sq411 (.lit 32)
def sq413:E:=.add sq409 sq412
def sq414:E:=.div aDw (.lit 4)
def sq415:E:=.mod sq414 (.lit 4)
def sq416:E:=.mul sq415 (.lit 4)
def sq417:E:=.add sq413 sq416
def sq418:E:=.div kY (.lit 8192)
def sq419:E:=.mod sq418 (.lit 4)
def sq420:E:=.mul sq419 (.lit 8192)
def sq421:E:=.div kY (.lit 128)
def sq422:E:=.mod sq421 (.lit 32)
def sq423:E:=.mul sq422 (.lit 128)
def sq424:E:=.add sq420 sq423
def sq425:E:=.div kY (.lit 16)
def sq426:E:=.mod sq425 (.lit 2)
def sq427:E:=.mul sq426 (.lit 16)
def sq428:E:=.add sq424 sq427
def sq429:E:=.mod kY (.lit 4)
def sq430:E:=.add sq428 sq429
def sq431:E:=.bits .or .u16 sq417 sq430
def sq432:E:=.ite bFn sq431 aDw
def sq433:E:=.ite aTe sq403 sq432
def sq434:E:=.ite aTd aDw sq433
def sq435:E:=.ite oQ sq392 sq434
def bFC:E:=.ite mQ (.v 12) sq435
def sq437:E:=.app 41 (.cons (.v 13) (.cons aZw (.cons (.v 1) (.cons aZy (.cons bKZ .nil)))))
def sq438:E:=.ite aZv sq437 (.v 13)
def bFD:E:=.ite wT (.v 13) sq438
def sq440:E:=.or wT aZv
def sq441:E:=.app 41 (.cons (.v 14) (.cons aZw (.cons (.v 2) (.cons aZy (.cons bLb .nil)))))
def bFE:E:=.ite sq440 (.v 14) sq441
def sq443:E:=.add (.v 15) (.lit 1)
def sq444:E:=.mod sq443 (.lit 4)
def sq445:E:=.ite bPk sq444 (.v 15)
def sq446:E:=.ite bPl sq445 (.v 15)
def sq447:E:=.ite sq86 sq88 (.v 15)
def sq448:E:=.ite oQ (.v 15) sq447
def bFF:E:=.ite mQ sq446 sq448
def bFG:E:=.sel (.av 1) (.v 15)
def sq451:E:=.ite bPk bIJ bFG
def sq452:E:=.ite bPl sq451 bFG
def sq453:E:=.ite mQ sq452 bFG
def bFH:E:=.upd (.av 1) (.v 15) sq453
def bLu:E:=.or bFp bFq
def sq456:E:=.ite bLu aTc mO
def sq457:E:=.ite bLu aTc kY
def sq458:E:=.upd (.av 2) (.v 5) sq457
def sq459:E:=.sel sq458 (.v 5)
def sq460:E:=.ite oQ sq456 sq459
def sq461:E:=.ite mQ aTc sq460
def bFI:E:=.upd (.av 2) (.v 5) sq461
def stI:List E:=[bPm,bFe,bFh,bFk,bFr,bFt,bFu,bFv,bFw,bFz,bFA,bFB,bFC,bFD,bFE,bFF]
def stM:List Int:=[2048,65536,65536,65536,65536,256,1024,65536,65536,65536,65536,65536,65536,64,64,4]
def I0:Interp:=⟨fun k is _ _=>if k=40 then sgV (is.getD 0 0) (is.getD 1 0) (is.getD 2 0) (is.getD 3 0)%65536 else if k=41 then sgF (is.getD 0 0) (is.getD 1 0) (is.getD 2 0) (is.getD 3 0) (is.getD 4 0)%64 else 0,fun _ _ _ _=>false,fun _ _ _ _ _=>0,fun _ _=>Ext.none⟩
structure St where
 l:List Int
 S:Nat→Int
 R:Nat→Int
def stV (M:Nat→Int) (s:St):Env:=⟨s.l,[],[M,s.S,s.R],[],I0⟩
def st1 (M:Nat→Int) (s:St):St:=⟨List.zipWith (fun e m=>E.i (stV M s) e%m) stI stM,fun j=>E.a (stV M s) bFH j%2048,fun j=>E.a (stV M s) bFI j%65536⟩
def stN (M:Nat→Int):Nat→St→St
 | 0,s=>s
 | n+1,s=>st1 M (stN M n s)
def bFK (is:List Int) (xs:List (Nat→Int)):St:=stN (xs.getD 17 fun _=>0) (is.getD 0 0).toNat ⟨(is.drop 1).take 16,xs.getD 18 fun _=>0,xs.getD 19 fun _=>0⟩
def mZ:List E→E
 | []=>.nil
 | a::l=>.cons a (mZ l)
def aAe:List E:=[.v 0,.v 1,.v 2,.v 3,.v 4,.v 5,.v 6,.v 7,.v 8,.v 9,.v 10,.v 11,.v 12,.v 13,.v 14,.v 15]
def stX (n:E):E:=mZ ((n::aAe)++[.av 0,.av 1,.av 2])
def pY (o:Nat) (A:Nat→Int) (j:Nat):Int:=A (o+2*j)%256+A (o+2*j+1)%256*256
def Ifa:Nat→List Int→List Bool→List (Nat→Int)→Nat→Int
 | 0,is,_,xs=>bQB (is.getD 0 0) (xs.getD 1 fun _=>0) 65536
 | 1,is,_,xs=>bQB (is.getD 0 0) (xs.getD 1 fun _=>0) 256
 | 2,is,_,xs=>bQB (is.getD 0 0) (xs.getD 1 fun _=>0) 32768
 | 20,is,_,xs=>fun j=>mAt (min (is.getD 0 0).toNat 2048) (xs.getD 1 fun _=>0) (min (is.getD 2 0).toNat 1024) (xs.getD 3 fun _=>0) (is.getD 4 0) j%256
 | 21,is,_,xs=>fun j=>ramF (is.getD 0 0) (xs.getD 2 fun _=>0) (is.getD 1 0).toNat j%65536
 | 50,_,_,xs=>iW (xs.getD 0 fun _=>0)
 | 51,is,_,xs=>pY (is.getD 0 0).toNat (xs.getD 1 fun _=>0)
 | 90,is,_,xs=>fun j=>(bFK is xs).S j%2048
 | 91,is,_,xs=>fun j=>(bFK is xs).R j%65536
 | _,_,_,_=>fun _=>0
def Ifi:Nat→List Int→List Bool→List (Nat→Int)→Int
 | 10,is,_,xs=>tP (is.getD 0 0).toNat (xs.getD 1 fun _=>0)
 | 30,is,bs,_=>(tmv 0 is bs).1
 | 31,is,bs,_=>(tmv 1 is bs).1
 | 32,is,bs,_=>(tmv 2 is bs).1
 | 33,is,bs,_=>(tmv 0 is bs).2.1
 | 34,is,bs,_=>(tmv 1 is bs).2.1
 | 35,is,bs,_=>(tmv 2 is bs).2.1
 | 36,is,bs,_=>(tmv 0 is bs).2.2
 | 37,is,bs,_=>(tmv 1 is bs).2.2
 | 38,is,bs,_=>(tmv 2 is bs).2.2
 | 40,is,_,_=>sgV (is.getD 0 0) (is.getD 1 0) (is.getD 2 0) (is.getD 3 0)%65536
 | 41,is,_,_=>sgF (is.getD 0 0) (is.getD 1 0) (is.getD 2 0) (is.getD 3 0) (is.getD 4 0)%64
 | 43,is,_,_=>setB (is.getD 0 0) (is.getD 1 0) (is.getD 2 0)
 | k,is,_,xs=>if 70≤k∧k<86 then (bFK is xs).l.getD (k-70) 0%stM.getD (k-70) 1 else 0
def bLK (n:Nat) (z:Int) (A:Nat→Int):Bool:=(List.range n).all fun j=>decide (A j<z)
def Ifb:Nat→List Int→List Bool→List (Nat→Int)→Bool
 | 60,is,_,xs=>bLK (is.getD 0 0).toNat (is.getD 1 0) (xs.getD 2 fun _=>0)
 | _,_,_,_=>false
def Iv (xs:Nat→Nat→Ext):Interp:=⟨Ifi,Ifb,Ifa,xs⟩
def bIW (H:Hyp) (k:IntKind):SV→Option (E × E)
 | .s (.xslc i (.lit 0) (.lit 0) n)=>match oH H.x i with
   | some ⟨n',[(some k',.av a)],[]⟩=>match nD H.a a with
     | some (p,q)=>if n=n'∧k=k'∧iZ k≤p∧q≤bY k∧dK H maxLen n=true then some (n,.av a) else none
     | none=>none
   | _=>none
 | .s .nilSlc=>some (.lit 0,.tab [])
 | _=>none
section
variable {ρ:Env} {β:dN} {ι:Loc} {m:Mem} {w:World} {H:Hyp} {P:Program} {I:Interp}
theorem aZN (hH:H.ok ρ) (hm:aK ρ β ι m w) {k:IntKind} {v:SV} {p:E × E} (h:bIW H k v=some p):∃ x:Ext,iF x w [some k]∧v.aC ρ ι=x.v∧(x.n:Int)=p.1.i ρ∧∀ j:Nat,(j:Int)<x.n→aD x 1 0 j=p.2.a ρ j:=by
 unfold bIW at h
 split at h
 ·rename_i i n
  split at h
  ·rename_i n' k' a hx
   split at h
   ·rename_i p0 q0 ha
    split at h
    ·rename_i hc
     obtain ⟨rfl,rfl,G,J,O⟩:=hc
     simp only [Option.some.injEq] at h;subst h
     have hX:XI.ok ρ i ⟨n,[(some k,.av a)],[]⟩:=hH.x _ (hZ hx)
     have hmax:=bJ hH O
     have hn:(ρ.I.xs i 0).n=(n.i ρ).toNat:=hX.n
     have hpos:0≤n.i ρ:=hX.pos
     have hcell:∀ j,j<(n.i ρ).toNat→(ρ.I.xs i 0).cell j=.int k ((E.av a).a ρ j):=fun j hj=>by
      have:=hX.cell j hj 0 _ rfl
      simpa [XF.aC,XI.w] using this
     have hr:∀ j,inR (p0,q0) ((E.av a).a ρ j):=fun j=>hH.a _ (gI ha) j
     obtain ⟨b,c,V,e2,e3,e4⟩:=(hm.xD i 0).ok
     refine ⟨ρ.I.xs i 0,⟨hm.xD i 0,hX.sz,fun j f kd hj hf=>?_,by rw [hn];unfold maxLen at hmax ⊢;omega⟩,?_,by simp only [hn];omega,fun j hj=>?_⟩
     ·cases f with
      | zero =>
        simp only [List.getElem?_cons_zero,Option.some.injEq] at hf;subst hf
        simp only [List.length_singleton,Nat.mul_one,Nat.add_zero]
        refine ⟨_,hcell j (by omega),?_⟩
        have:=hr j
        simp only [inR,dS] at this ⊢;omega
      | succ f=>simp at hf
     ·show (ρ.I.xs i (E.i ρ (.lit 0)).toNat).sub (E.i ρ (.lit 0)).toNat (n.i ρ).toNat=(ρ.I.xs i 0).v
      simp only [aF,Int.toNat_zero,Ext.sub,V,Nat.zero_mul,Nat.sub_zero,← hn]
      congr 1
      cases b <;> simp [Addr.add]
     ·have hj':j<(ρ.I.xs i 0).n:=by omega
      simp only [aD,if_pos hj',Nat.mul_one,Nat.add_zero,hcell j (by omega),kJ]
    ·cases h
   ·cases h
  ·cases h
 ·simp only [Option.some.injEq] at h;subst h
  exact ⟨Ext.none,⟨Ext.jC w,rfl,fun j f kd hj=>absurd hj (Nat.not_lt_zero _),Nat.zero_le _⟩,rfl,rfl,fun j hj=>by exfalso;simp only [Ext.none] at hj;omega⟩
 ·cases h
end
structure XS where
 ph:Ph
 todo:List Item
 H:Hyp
 fr:Fr
 m:Mem
def bCn (H:Hyp) (m:Mem):SV→Bool
 | .s .nilSlc=>true
 | .s (.slc b off len (.kn c))=>leH H len c
 | .s (.slc b off len (.op k))=>match m[b]? with
   | some B=>decide (B.grow=some 1∧off=k)&&aO H 0 k&&(match mJ H 1 B.aH with | some q=>leA H off len q | none=>false)
   | none=>false
 | .s (.xslc i (.lit 0) off len)=>match oH H.x i with
   | some x=>aO H 0 off&&leH H (mkAdd off len) x.n
   | none=>false
 | .s (.xslc i j off len)=>match aCE H.x i with
   | some (L,_)=>aO H 0 j&&aO H 0 off&&leH H (mkAdd off len) (dY H L j)
   | none=>false
 | .s (.xtl _ _ _ _)=>true
 | _=>false
def mX (H:Hyp) (k:IntKind):E→Bool
 | .av n=>match nD H.a n with | some (p,q)=>decide (iZ k≤p∧q≤bY k) | none=>false
 | .app f _=>match nD H.fa f with | some (p,q)=>decide (iZ k≤p∧q≤bY k) | none=>false
 | .tab l=>decide (iZ k≤0∧0≤bY k)&&l.all fun z=>decide (iZ k≤z∧z≤bY k)
 | .upd A _ x=>mX H k A&&within H k x
 | .blt A _ _ B _=>mX H k A&&mX H k B
 | .ite _ A B=>mX H k A&&mX H k B
 | _=>false
def aAG (H:Hyp) (k:IntKind) (l:List Seg):Bool:=l.all fun
 | .one (.int _ x)=>within H k x
 | .run _ _ A _=>mX H k A
 | _=>false
def wQ (H:Hyp) (m:Mem) (k:IntKind) (x:SV):Option (List Seg × E):=match vG H m 1 x with
 | some (L,q)=>if fS k L&&aAG H k L&&bCn H m x&&dK H maxLen q then some (L,q) else none
 | none=>none
section
variable {ρ:Env} {ι:Loc} {H:Hyp} {P:Program} {w:World} {β:dN} {m:Mem} {fr:Fr} {n:Nat} {a:Act}
theorem bCf (hH:H.ok ρ) {k:IntKind}:∀ {A:E},mX H k A=true→∀ j,inR (dS k) (A.a ρ j):=by
 have w_:∀ {x:E},within H k x=true→inR (dS k) (x.i ρ):=fun {x} h=>by
  unfold within at h
  split at h
  ·rename_i p q hr
   have:=dG hH _ _ hr
   simp only [Bool.and_eq_true,decide_eq_true_eq] at h
   simp only [inR,dS] at this ⊢;omega
  ·cases h
 intro A
 induction A with
 | av n =>
   intro h j
   simp only [mX] at h
   split at h
   ·rename_i p q hl
    simp only [decide_eq_true_eq] at h
    have:=hH.a _ (gI hl) j
    simp only [inR,dS] at this ⊢
    rw [gJ]
    exact ⟨Int.le_trans h.1 this.1,Int.le_trans this.2 h.2⟩
   ·cases h
 | app f x =>
   intro h j
   simp only [mX] at h
   split at h
   ·rename_i p q hl
    simp only [decide_eq_true_eq] at h
    have:=hH.fa _ (gI hl) (den ρ x).is (den ρ x).bs (den ρ x).xs j
    simp only [inR,dS] at this ⊢
    rw [zB];omega
   ·cases h
 | tab l =>
   intro h j
   simp only [mX,Bool.and_eq_true,decide_eq_true_eq,List.all_eq_true] at h
   rw [cB]
   simp only [inR,dS]
   cases hj:l[j]? with
   | none=>simp only [List.getD_eq_getElem?_getD,hj,Option.getD_none];exact h.1
   | some z=>simp only [List.getD_eq_getElem?_getD,hj,Option.getD_some];exact h.2 z (List.mem_of_getElem? hj)
 | upd A i x ih _ _ =>
   intro h j
   simp only [mX,Bool.and_eq_true] at h
   rw [cC]
   simp only
   split
   ·exact w_ h.2
   ·exact ih h.1 j
 | blt A i n B q ih _ _ l9 _ =>
   intro h j
   simp only [mX,Bool.and_eq_true] at h
   rw [nP]
   simp only
   split
   ·exact l9 h.2 _
   ·exact ih h.1 j
 | ite c A B _ ih l9 =>
   intro h j
   simp only [mX,Bool.and_eq_true] at h
   rw [cD]
   split
   ·exact ih h.1 j
   ·exact l9 h.2 j
 | _=>intro h;simp [mX] at h
theorem vE (hH:H.ok ρ) {k:IntKind}:∀ {l:List Seg},fS k l=true→aAG H k l=true→∀ v ∈ cellsOf ρ ι l,∃ z,v=.int k z∧inR (dS k) z
 | [],_,_,v,hv=>by simp [cellsOf] at hv
 | x::l,h,hr,v,hv=>by
   simp only [fS,aAG,List.all_cons,Bool.and_eq_true] at h hr
   rw [aG,List.mem_append] at hv
   rcases hv with hv | hv
   ·cases x with
    | one s =>
      cases s <;> simp only [Bool.false_eq_true,decide_eq_true_eq,false_and] at h
      rename_i k' e
      obtain ⟨rfl,_⟩:=h
      simp only [Seg.cells,List.mem_singleton] at hv
      refine ⟨_,hv,?_⟩
      have G:=hr.1
      simp only at G
      unfold within at G
      split at G
      ·rename_i p q hrr
       have:=dG hH _ _ hrr
       simp only [Bool.and_eq_true,decide_eq_true_eq] at G
       simp only [inR,dS] at this ⊢;omega
      ·cases G
    | run k' nn A o =>
      simp only [decide_eq_true_eq] at h
      obtain ⟨rfl,_⟩:=h
      simp only [Seg.cells,List.mem_map] at hv
      obtain ⟨j,_,rfl⟩:=hv
      exact ⟨_,rfl,bCf hH hr.1 _⟩
    | rows _ _ _=>simp at h
   ·exact vE hH (l:=l) h.2 hr.2 v hv
theorem pX (hH:H.ok ρ) (hm:aK ρ β ι m w) {k:IntKind} {x:SV} {L:List Seg} {q:E} (h:wQ H m k x=some (L,q)) :
 0≤q.i ρ∧(cellsOf ρ ι L).length=(q.i ρ).toNat∧∃ X:Ext,iF X w [some k]∧x.aC ρ ι=X.v∧(X.n:Int)=q.i ρ∧∀ j,X.cell j=((cellsOf ρ ι L)[j]?).getD Go.undef:=by
 unfold wQ at h
 split at h
 ·rename_i L' q' hr
  split at h
  ·rename_i hc
   simp only [Bool.and_eq_true] at hc
   obtain ⟨⟨⟨hk,hrg⟩,hcap⟩,hmx⟩:=hc
   simp only [Option.some.injEq,Prod.mk.injEq] at h;obtain ⟨rfl,rfl⟩:=h
   obtain ⟨g9,hlen,base,C,hxc,hcell⟩:=lK (ι:=ι) hH hm (Nat.one_pos) hr
   rw [Nat.mul_one] at hlen
   have hmx:=bJ hH hmx
   have hC:(q'.i ρ).toNat≤C∧(base=none→(q'.i ρ).toNat=0∧C=0)∧∀ ad,base=some ad→0<(q'.i ρ).toNat→ad.block<w.heap.size:=by
    have blk:∀ ad,base=some ad→0<(q'.i ρ).toNat→ad.block<w.heap.size:=by
     intro ad hb hp
     obtain ⟨ad',hb',hcl⟩:=hcell hp
     rw [hb] at hb';simp only [Option.some.injEq] at hb';subst hb'
     have Z:0<(cellsOf ρ ι L').length:=by omega
     have:=hcl 0 _ (List.getElem?_eq_getElem Z)
     rw [Addr.add_zero'] at this
     unfold World.cell? at this
     split at this
     ·rename_i hh;exact (Array.getElem?_eq_some_iff.1 hh).1
     ·cases this
    refine ⟨?_,?_,blk⟩
    ·unfold bCn at hcap
     split at hcap
     ·simp only [vG,Option.some.injEq,Prod.mk.injEq] at hr;obtain ⟨_,rfl⟩:=hr;rw [aF];simp
     ·rename_i b off len c
      have hle:=nL hH hcap
      simp only [SV.aC,S.aC,Value.slice.injEq] at hxc
      obtain ⟨_,G,J⟩:=hxc
      omega
     ·rename_i b off len kk
      split at hcap
      ·rename_i B hB
       simp only [Bool.and_eq_true,decide_eq_true_eq] at hcap
       obtain ⟨⟨⟨hg,rfl⟩,hk0⟩,hcap⟩:=hcap
       have hk0:=aJ hH hk0
       split at hcap
       ·rename_i qq hqq
        have hle:=aCB hH hcap
        obtain ⟨hqq0,hql⟩:=iC (ι:=ι) hH hqq
        have hd:B.dead=false:=by
         simp only [vG,hB] at hr
         split at hr
         ·cases hr
         ·rename_i hd;simpa using hd
        simp only [SV.aC,S.aC] at hxc
        split at hxc
        ·rename_i hnl
         simp only [Value.slice.injEq] at hxc
         omega
        ·rename_i hnl
         simp only [Value.slice.injEq] at hxc
         obtain ⟨_,G,J⟩:=hxc
         cases hnil:ι.nil b with
         | true =>
           have:=(hm.nils b B hB hd hnil).2
           rw [this] at hql
           simp only [List.length_nil,Nat.mul_one] at hql
           rw [hnil] at hnl
           omega
         | false =>
           obtain ⟨fz,rest,_,_,k3,_⟩:=hm.blk b B hB hd hnil
           have k3:=(k3 1 hg).1
           rw [List.length_append,hql] at k3
           omega
       ·cases hcap
      ·cases hcap
     ·rename_i i off len
      split at hcap
      ·rename_i xi hx
       simp only [Bool.and_eq_true] at hcap
       obtain ⟨ho,hcap⟩:=hcap
       have ho:=aJ hH ho
       have hle:=nL hH hcap
       rw [aM] at hle
       have hX:=hH.x _ (hZ hx)
       obtain ⟨b,c,hv,hnc,e8,_⟩:=(hm.xD i 0).ok
       have hn:(ρ.I.xs i 0).n=(xi.n.i ρ).toNat:=hX.n
       simp only [SV.aC,S.aC,Ext.sub,aF,Int.toNat_zero,hv,Value.slice.injEq] at hxc
       obtain ⟨_,G,J⟩:=hxc
       omega
      ·cases hcap
     ·rename_i i j off len _
      split at hcap
      ·rename_i L' A' hx
       simp only [Bool.and_eq_true] at hcap
       obtain ⟨⟨hj,ho⟩,hcap⟩:=hcap
       have hj:=aJ hH hj
       have ho:=aJ hH ho
       have hle:=nL hH hcap
       rw [aM,gB hH] at hle
       obtain ⟨⟨i0,xi⟩,hq,hp⟩:=uJ hx
       obtain ⟨r0,rn,rs,rc⟩:=(hH.x _ hq).row _ hp (j.i ρ).toNat
       simp only at r0 rn rs rc
       obtain ⟨b,c,hv,hnc,e8,_⟩:=(hm.xD i (j.i ρ).toNat).ok
       simp only [SV.aC,S.aC,Ext.sub,hv,Value.slice.injEq] at hxc
       obtain ⟨_,G,J⟩:=hxc
       omega
      ·cases hcap
     ·rename_i i j o off
      obtain ⟨b,c,hv,hnc,e8,_⟩:=(hm.xD i (j.i ρ).toNat).ok
      simp only [SV.aC,S.aC,Ext.tl,hv,Value.slice.injEq] at hxc
      omega
     ·cases hcap
    ·intro hb
     subst hb
     have hz:(q'.i ρ).toNat=0:=by
      rcases Nat.eq_zero_or_pos (q'.i ρ).toNat with h | h
      ·exact h
      ·obtain ⟨ad,G,_⟩:=hcell h;cases G
     refine ⟨hz,?_⟩
     unfold bCn at hcap
     split at hcap
     ·simp only [SV.aC,S.aC,Value.slice.injEq] at hxc;exact hxc.2.2.symm
     ·simp only [SV.aC,S.aC,Value.slice.injEq,reduceCtorEq,false_and] at hxc
     ·simp only [SV.aC,S.aC] at hxc
      split at hxc
      ·simp only [Value.slice.injEq] at hxc;exact hxc.2.2.symm
      ·simp only [Value.slice.injEq,reduceCtorEq,false_and] at hxc
     ·rename_i i off len
      obtain ⟨b,c,hv,hnc,e8,_⟩:=(hm.xD i 0).ok
      simp only [SV.aC,S.aC,Ext.sub,aF,Int.toNat_zero,hv,Value.slice.injEq] at hxc
      obtain ⟨Z,G,J⟩:=hxc
      cases b with
      | none=>have:=(e8 rfl).2;omega
      | some ad=>simp at Z
     ·rename_i i j off len _
      obtain ⟨b,c,hv,hnc,e8,_⟩:=(hm.xD i (j.i ρ).toNat).ok
      simp only [SV.aC,S.aC,Ext.sub,hv,Value.slice.injEq] at hxc
      obtain ⟨Z,G,J⟩:=hxc
      cases b with
      | none=>have:=(e8 rfl).2;omega
      | some ad=>simp at Z
     ·rename_i i j o off
      obtain ⟨b,c,hv,hnc,e8,_⟩:=(hm.xD i (j.i ρ).toNat).ok
      simp only [SV.aC,S.aC,Ext.tl,hv,Value.slice.injEq] at hxc
      obtain ⟨Z,G,J⟩:=hxc
      cases b with
      | none=>have:=(e8 rfl).2;omega
      | some ad=>simp at Z
     ·cases hcap
   refine ⟨g9,hlen,⟨x.aC ρ ι,(q'.i ρ).toNat,1,fun j=>((cellsOf ρ ι L')[j]?).getD Go.undef⟩,⟨⟨base,C,hxc,hC.1,hC.2.1,fun ad hb j hj=>?_⟩,rfl,fun j f kd hj hf=>?_,by show (q'.i ρ).toNat≤maxLen;omega⟩,rfl,by show ((q'.i ρ).toNat:Int)=q'.i ρ;omega,fun j=>rfl⟩
   ·have hj:j<(q'.i ρ).toNat:=by simpa using hj
    obtain ⟨ad',hb',hcl⟩:=hcell (by omega)
    rw [hb] at hb';simp only [Option.some.injEq] at hb';subst hb'
    refine ⟨hC.2.2 ad hb (by omega),?_⟩
    have hjl:j<(cellsOf ρ ι L').length:=by omega
    rw [hcl j _ (List.getElem?_eq_getElem hjl)]
    simp [List.getElem?_eq_getElem hjl]
   ·have hjl:j<(cellsOf ρ ι L').length:=by
     have hj:j<(q'.i ρ).toNat:=hj
     omega
    obtain ⟨z,hz,hzr⟩:=vE hH hk hrg _ (List.getElem_mem hjl)
    cases f with
    | zero =>
      simp only [List.getElem?_cons_zero,Option.some.injEq] at hf;subst hf
      exact ⟨z,by simp [List.getElem?_eq_getElem hjl,hz],hzr⟩
    | succ f=>simp at hf
  ·cases h
 ·cases h
end
def bLJ (H:Hyp) (q:E) (l:List Seg):Option E:=match q with
 | .lit z=>if z≤64 then (match gE l with
    | some xs=>aDC H (xs.map Seg.one)
    | none=>aDC H l) else aDC H l
 | _=>aDC H l
theorem bGj {ρ:Env} {ι:Loc} {H:Hyp} (hH:H.ok ρ) {q:E} {l:List Seg} {A:E} (h:bLJ H q l=some A):∀ j,j<(cellsOf ρ ι l).length→A.a ρ j=kJ (((cellsOf ρ ι l)[j]?).getD Go.undef):=by
 have key:∀ xs:List S,cellsOf ρ ι (xs.map Seg.one)=xs.map (S.aC ρ ι):=by
  intro xs
  induction xs with
  | nil=>rfl
  | cons x xs ih=>rw [List.map_cons,aG,aY,ih];rfl
 unfold bLJ at h
 split at h
 ·split at h
  ·split at h
   ·rename_i xs hx
    intro j hj
    have:=oX (ι:=ι) hH h j
    rw [key xs,← eK hx] at this
    exact this hj
   ·exact oX hH h
  ·exact oX hH h
 ·exact oX hH h
def aVv (P:Program) (F:FuncId):Prop:=∀ (x:Ext) (w:World),iF x w [some .u8]→Calls P F #[x.v] w fun e w'=>e=.returned (.int .u32 (tP x.n (aD x 1 0)))∧RowKit.Below w.heap.size w w'
def bBl (q A:E):E:=.app 10 (.cons q (.cons A .nil))
def small (q:E):Bool:=match q with
 | .lit z=>decide (z≤12)
 | _=>false
def aZu:Spec:=fun H l m=>match l with
 | [x]=>match wQ H m .u8 x with
   | some (L,q)=>if small q then none else match bLJ H q L with
     | some A=>some ([],.s (.int .u32 (bBl q A)),none)
     | none=>none
   | none=>none
 | _=>none
def cQ:Spec:=fun H l m=>match l with
 | [x]=>match wQ H m .u8 x with
   | some (L,q)=>match aDC H L with
     | some A=>some ([],.s (.int .u32 (bBl q A)),none)
     | none=>none
   | none=>none
 | _=>none
def aVs (P:Program) (F:FuncId):Prop:=∀ (x y:Ext) (w:World),iF x w [some .u8]→iF y w [some .u8] →
 Calls P F #[x.v,y.v] w fun e w'=>e=.returned (.bool (decide (x.n=y.n∧∀ j,j<x.n→aD x 1 0 j=aD y 1 0 j)))∧RowKit.Below w.heap.size w w'
def vO (H:Hyp):Nat→List Seg→List Seg→Option E
 | 0,_,_=>none
 | k+1,l,r=>match l,r with
   | [],[]=>some (.blit true)
   | .one (.int _ x)::l,.one (.int _ y)::r=>(vO H k l r).map (mkAnd (mkEq H x y))
   | .run _ n A o::l,.run _ n' A' o'::r=>if n=n' then (vO H k l r).map (mkAnd (if A=A'∧o=o' then .blit true else .aeq false n A A' o o')) else (match n,n' with
     | .lit z,.lit z'=>if 0<z∧0<z' then
        (if z<z' then (vO H k l (.run .u8 (.lit (z'-z)) A' (o'+z.toNat)::r)).map (mkAnd (if A=A'∧o=o' then .blit true else .aeq false (.lit z) A A' o o'))
         else (vO H k (.run .u8 (.lit (z-z')) A (o+z'.toNat)::l) r).map (mkAnd (if A=A'∧o=o' then .blit true else .aeq false (.lit z') A A' o o'))) else none
     | _,_=>none)
   | .one (.int _ x)::l,.run _ (.lit n) A o::r=>if 0<n then (vO H k l (.run .u8 (.lit (n-1)) A (o+1)::r)).map (mkAnd (mkEq H x (dY H A (.lit o)))) else vO H k (.one (.int .u8 x)::l) r
   | .run _ (.lit n) A o::l,.one (.int _ x)::r=>if 0<n then (vO H k (.run .u8 (.lit (n-1)) A (o+1)::l) r).map (mkAnd (mkEq H (dY H A (.lit o)) x)) else vO H k l (.one (.int .u8 x)::r)
   | .run _ (.lit n) _ _::l,[]=>if n≤0 then vO H k l [] else none
   | [],.run _ (.lit n) _ _::r=>if n≤0 then vO H k [] r else none
   | _,_=>none
def bCk (H:Hyp) (L L':List Seg) (q q':E):Option E:=match mkEq H q q' with
 | .blit false=>some (.blit false)
 | _=>if L=L' then some (.blit true) else vO H 100000 L L'
def eV:Spec:=fun H l m=>match l with
 | [x,y]=>match wQ H m .u8 x,wQ H m .u8 y with
   | some (L,q),some (L',q')=>(bCk H L L' q q').map fun c=>([],.s (.bool c),none)
   | _,_=>none
 | _=>none
def bBL (P:Program) (F:FuncId) (ty:TypeId):Prop:=∀ (x:Ext) (w:World),iF x w [some .u8]→x.n≤67108864 →
 Calls P F #[x.v] w fun e w'=>∃ (ρ':Env) (ι':Loc) (B':Blk),e=.returned (.slice (some ⟨ι'.pos 0,0,none⟩) x.n x.n)∧aK ρ' ⟨w,0,Loc.id⟩ ι' [B'] w'∧B'.ty=ty∧B'.wr=true∧B'.grow=none∧B'.dead=false ∧
  cellsOf ρ' ι' B'.aH=(List.range x.n).map fun j=>Value.int .u8 (aD x 1 0 j)
def bHm (H:Hyp):Seg→Seg
 | .run k n A o=>.run k (aDH H n) A o
 | s=>s
def aTZ (H:Hyp) (L:List Seg):List Seg:=L.map (bHm H)
theorem aYO {H:Hyp} {ρ:Env} {ι:Loc} (hH:H.ok ρ):∀ L:List Seg,cellsOf ρ ι (aTZ H L)=cellsOf ρ ι L
 | []=>rfl
 | s::L=>by
   rw [show aTZ H (s::L)=bHm H s::aTZ H L from rfl,aG,aG,aYO hH L]
   congr 1
   cases s <;> simp only [bHm,Seg.cells,aCC hH]
theorem aYP {H:Hyp} {n:Nat}:∀ {L:List Seg},L.all (Seg.sc n)=true→(aTZ H L).all (Seg.sc n)=true
 | [],_=>rfl
 | s::L,h=>by
   simp only [List.all_cons,Bool.and_eq_true] at h
   rw [show aTZ H (s::L)=bHm H s::aTZ H L from rfl,List.all_cons,aYP h.2,Bool.and_true]
   cases s <;> first | exact h.1 | rfl
def fG (ty:TypeId):Spec:=fun H l m=>match l with
 | [x]=>match wQ H m .u8 x with
   | some (L,q)=>if dK H 67108864 q&&m.all (fun B=>B.aH.all (Seg.sc m.length)) then some ([],.s (.slc m.length (.lit 0) (aDH H q) (.kn (aDH H q))),some (m++[⟨ty,aTZ H L,true,none,false⟩])) else none
   | none=>none
 | _=>none
theorem aK.bIe {ρ ρ':Env} {β:dN} {ι:Loc} {B B':Blk} {w:World} (hm:aK ρ β ι [B] w) (hI:ρ'.I=ρ.I) (h:cellsOf ρ' ι B'.aH=cellsOf ρ ι B.aH) (V:B'.ty=B.ty) (e2:B'.wr=B.wr) (e3:B'.grow=B.grow) (e4:B'.dead=B.dead):aK ρ' β ι [B'] w:=by
 have b9:∀ {i:Nat} {C:Blk},[B'][i]? = some C→i=0∧C=B':=fun {i C} hC=>by
  cases i with
  | zero=>simp only [List.getElem?_cons_zero,Option.some.injEq] at hC;exact ⟨rfl,hC.symm⟩
  | succ i=>simp at hC
 refine ⟨fun i j C D hC hD _ _ _ _ _=>?_,fun i C hC hCd hCn=>?_,fun i C hC hCd hCn=>?_,hm.agr,hm.len,hm.new,hm.size,hm.old,hm.os,hm.tape,hm.output,by rw [hI];exact hm.xt,by rw [hI];exact hm.xd⟩
 ·rw [(b9 hC).1,(b9 hD).1]
 ·obtain ⟨rfl,rfl⟩:=b9 hC
  obtain ⟨fz,rest,k1,k2,k3,k4⟩:=hm.blk 0 B rfl (by rw [← e4];exact hCd) hCn
  exact ⟨fz,rest,by rw [h,V];exact k1,by rw [e2];exact k2,by rw [h,e3];exact k3,by rw [e3];exact k4⟩
 ·obtain ⟨rfl,rfl⟩:=b9 hC
  rw [e3,h]
  exact hm.nils 0 B rfl (by rw [← e4];exact hCd) hCn
def aVu (P:Program) (F:FuncId) (ty:TypeId):Prop:=(∀ (w:World) (base:Option Addr) (C:Nat),(base=none→C=0)→Calls P F #[.slice base 0 C] w fun e w'=>e=.returned (.tuple #[])∧RowKit.Below w.heap.size w w') ∧
 ∀ (ρ:Env) (ι:Loc) (B:Blk) (w:World) (o n C:Nat),aK ρ ⟨w,1,ι⟩ ι [B] w→B.ty=ty→B.wr=true→B.dead=false→(B.grow=none∨B.grow=some 1)→(∀ v ∈ cellsOf ρ ι B.aH,∃ z,v=Value.int .u8 z∧inR (dS .u8) z)→o+n≤(cellsOf ρ ι B.aH).length→(cellsOf ρ ι B.aH).length≤maxLen→0<n →
  Calls P F #[.slice (some ⟨ι 0,o,none⟩) n C] w fun e w'=>e=.returned (.tuple #[])∧∃ (ρ':Env) (ι':Loc) (B':Blk),aK ρ' ⟨w,1,ι⟩ ι' [B'] w'
def bCF (H:Hyp) (off len:E) (l:List Seg):Bool:=match mJ H 1 l with
 | some t=>leH H (mkAdd off len) t&&dK H maxLen t
 | none=>false
def dV (ty:TypeId):Spec:=fun H l m=>match l with
 | [.s .nilSlc]=>some ([],.tup [],none)
 | [.s (.slc b off len cap)]=>if len=.lit 0 then some ([],.tup [],none) else match m[b]?,wQ H m .u8 (.s (.slc b off len cap)) with
   | some B,some (L,q)=>if B.ty=ty∧B.wr=true∧B.dead=false∧(B.grow=none∨B.grow=some 1)∧fS .u8 B.aH=true∧aAG H .u8 B.aH=true∧aO H 1 len=true∧bCF H off len B.aH=true then some ([],.tup [],some (m.set b { B with dead:=true })) else none
   | _,_=>none
 | _=>none
section
variable {ρ:Env} {β:dN} {ι:Loc} {m:Mem} {w:World} {H:Hyp} {P:Program} {I:Interp}
theorem aSV (hH:H.ok ρ) {k:IntKind} {b:Nat} {off len:E} {cap:Cap} {L:List Seg} {q:E} (hr:wQ H m k (.s (.slc b off len cap))=some (L,q)) (hl:0<len.i ρ):0≤off.i ρ:=by
 unfold wQ at hr
 split at hr
 ·rename_i L' q' hv
  simp only [vG] at hv
  split at hv
  ·split at hv
   ·cases hv
   ·split at hv
    ·split at hv
     ·rename_i hc;rw [aF];exact hc.1
     ·cases hv
    ·split at hv
     ·rename_i hc;exact bEQ hc
     ·simp only [if_true,Option.map_eq_some_iff,Prod.mk.injEq] at hv
      obtain ⟨l,G,_⟩:=hv
      have:=aCl hH (off:=off) (len:=len) _ _ _ G
      omega
  ·cases hv
 ·cases hr
theorem tK {X:Ext} {L:List Seg} (h:∀ j,X.cell j=((cellsOf ρ ι L)[j]?).getD Go.undef) {j:Nat} (hj:j<X.n):aD X 1 0 j=kJ (((cellsOf ρ ι L)[j]?).getD Go.undef):=by
 simp only [aD,if_pos hj,Nat.mul_one,Nat.add_zero,h]
theorem specSum_ok {F:FuncId} (hv:aVv P F) (hfi:I.fi=Ifi):aX P I F aZu:=by
 constructor
 intro H l m nd v om h ρ β ι w hI hH hn hm
 unfold aZu at h
 split at h
 ·rename_i x
  split at h
  ·rename_i L q hr
   split at h
   ·cases h
   ·split at h
    ·rename_i A hA
     simp only [Option.some.injEq,Prod.mk.injEq] at h
     obtain ⟨rfl,rfl,rfl⟩:=h
     obtain ⟨g9,hlen,X,hX,f5,l8,e9⟩:=pX (ι:=ι) hH hm hr
     have hargs:([x].map (SV.aC ρ ι)).toArray=#[X.v]:=by simp [f5]
     rw [hargs]
     refine (hv X w hX).mono fun e w' ⟨G,J⟩=>⟨?_,hm.below J⟩
     rw [G,aW rfl]
     have hXn:X.n=(q.i ρ).toNat:=by omega
     have V:(bBl q A).i ρ=tP X.n (aD X 1 0):=by
      unfold bBl
      rw [bCS,iP,iP,pK,lD,lD,aTE,lC,lC,aTC,hI,hfi]
      simp only [Ifi,List.getD_cons_zero,List.getD_cons_succ,hXn]
      refine vI _ fun j hj=>?_
      rw [bGj (ι:=ι) hH hA j (by omega),tK e9 (by omega)]
     simp only [SV.aC,S.aC,V]
    ·cases h
  ·cases h
 ·cases h
theorem eI {F:FuncId} (hv:aVv P F) (hfi:I.fi=Ifi):aX P I F cQ:=by
 constructor
 intro H l m nd v om h ρ β ι w hI hH hn hm
 unfold cQ at h
 split at h
 ·rename_i x
  split at h
  ·rename_i L q hr
   split at h
   ·rename_i A hA
    simp only [Option.some.injEq,Prod.mk.injEq] at h
    obtain ⟨rfl,rfl,rfl⟩:=h
    obtain ⟨g9,hlen,X,hX,f5,l8,e9⟩:=pX (ι:=ι) hH hm hr
    have hargs:([x].map (SV.aC ρ ι)).toArray=#[X.v]:=by simp [f5]
    rw [hargs]
    refine (hv X w hX).mono fun e w' ⟨G,J⟩=>⟨?_,hm.below J⟩
    rw [G,aW rfl]
    have hXn:X.n=(q.i ρ).toNat:=by omega
    have V:(bBl q A).i ρ=tP X.n (aD X 1 0):=by
     unfold bBl
     rw [bCS,iP,iP,pK,lD,lD,aTE,lC,lC,aTC,hI,hfi]
     simp only [Ifi,List.getD_cons_zero,List.getD_cons_succ,hXn]
     refine vI _ fun j hj=>?_
     rw [oX (ι:=ι) hH hA j (by omega),tK e9 (by omega)]
    simp only [SV.aC,S.aC,V]
   ·cases h
  ·cases h
 ·cases h
theorem aZs {k:IntKind} {z:Int} {A:E} {o:Nat} {r:List Seg} (hz:0<z):cellsOf ρ ι (.run k (.lit z) A o::r)=.int k (A.a ρ o)::cellsOf ρ ι (.run k (.lit (z-1)) A (o+1)::r):=by
 rw [aG,aG]
 simp only [Seg.cells,aF]
 obtain ⟨p,hp⟩:∃ p:Nat,z.toNat=p+1:=⟨z.toNat-1,by omega⟩
 have hp':(z-1).toNat=p:=by omega
 rw [hp,hp',List.range_succ_eq_map,List.map_cons,List.map_map,List.cons_append,Nat.add_zero]
 congr 2
 apply List.map_congr_left
 intro j _
 simp only [Function.comp,Nat.succ_eq_add_one]
 congr 2;omega
theorem aZr {k:IntKind} {z y:Int} {A:E} {o:Nat} {r:List Seg} (hz:0≤y) (hy:y≤z):cellsOf ρ ι (.run k (.lit z) A o::r)=cellsOf ρ ι [.run k (.lit y) A o]++cellsOf ρ ι (.run k (.lit (z-y)) A (o+y.toNat)::r):=by
 rw [aG,aG (.run k (.lit (z-y)) A (o+y.toNat)),← List.append_assoc]
 congr 1
 simp only [cellsOf,List.flatMap_cons,List.flatMap_nil,List.append_nil,Seg.cells,aF]
 apply List.ext_getElem?
 intro j
 by_cases hj:j<y.toNat
 ·rw [List.getElem?_append_left (by simpa using hj),List.getElem?_map,List.getElem?_map,List.getElem?_range hj,List.getElem?_range (by omega)]
 ·rw [List.getElem?_append_right (by simp;omega),List.getElem?_map,List.getElem?_map]
  simp only [List.length_map,List.length_range]
  by_cases hj2:j<z.toNat
  ·rw [List.getElem?_range hj2,List.getElem?_range (by omega)]
   simp only [Option.map_some]
   congr 3;omega
  ·rw [List.getElem?_eq_none (by simp;omega),List.getElem?_eq_none (by simp;omega)];rfl
def eO (l:List Value):List Int:=l.map kJ
theorem gW (a b:List Value):eO (a++b)=eO a++eO b:=List.map_append
theorem bBS {n A A':E} {o o':Nat} {k k':IntKind}:(E.aeq false n A A' o o').b ρ=true↔eO (cellsOf ρ ι [.run k n A o])=eO (cellsOf ρ ι [.run k' n A' o']):=by
 rw [aIu]
 simp only [Bool.false_eq_true,if_false,eO,cellsOf,List.flatMap_cons,List.flatMap_nil,List.append_nil,Seg.cells,List.map_map,List.all_eq_true,List.mem_range,beq_iff_eq]
 constructor
 ·intro h;exact List.map_congr_left fun j hj=>h j (List.mem_range.1 hj)
 ·intro h j hj
  have:=congrArg (fun l=>l[j]?) h
  simpa [List.getElem?_range hj,kJ] using this
theorem yQ {n A A':E} {o o':Nat} {k k':IntKind}:(if A=A'∧o=o' then E.blit true else .aeq false n A A' o o').b ρ=true↔eO (cellsOf ρ ι [.run k n A o])=eO (cellsOf ρ ι [.run k' n A' o']):=by
 split
 ·rename_i h;obtain ⟨rfl,rfl⟩:=h
  rw [aP]
  simp [eO,cellsOf,Seg.cells,Function.comp_def,kJ]
 ·exact bBS
theorem oY {k k':IntKind} {n A:E} {o:Nat} {r:List Seg}:eO (cellsOf ρ ι (.run k n A o::r))=eO (cellsOf ρ ι (.run k' n A o::r)):=by
 rw [aG,aG,gW,gW]
 congr 1
 simp [eO,Seg.cells,Function.comp_def,kJ]
theorem zE {k k':IntKind} {x:E} {r:List Seg}:eO (cellsOf ρ ι (.one (.int k x)::r))=eO (cellsOf ρ ι (.one (.int k' x)::r)):=by
 rw [aG,aG,gW,gW];rfl
theorem aGN {a b c d:List Int} (h:a.length=c.length):(a++b=c++d)↔(a=c∧b=d):=⟨fun e=>List.append_inj e h,fun ⟨V,e2⟩=>by rw [V,e2]⟩
theorem bGp (hH:H.ok ρ):∀ (k:Nat) (l r:List Seg) (c:E),vO H k l r=some c→(c.b ρ=true↔eO (cellsOf ρ ι l)=eO (cellsOf ρ ι r)):=by
 intro k
 induction k with
 | zero=>intro l r c h;simp [vO] at h
 | succ k ih =>
   intro l r c h
   have one_:∀ (k':IntKind) (x:E) (l:List Seg),eO (cellsOf ρ ι (.one (.int k' x)::l))=x.i ρ::eO (cellsOf ρ ι l):=fun k' x l=>by rw [aG];rfl
   have run_:∀ (k':IntKind) (n A:E) (o:Nat) (l:List Seg),eO (cellsOf ρ ι (.run k' n A o::l))=eO (cellsOf ρ ι [.run k' n A o])++eO (cellsOf ρ ι l):=fun k' n A o l=>by
    rw [← gW,← cH];rfl
   have len_:∀ (k1 k2:IntKind) (n A A':E) (o o':Nat),(eO (cellsOf ρ ι [.run k1 n A o])).length=(eO (cellsOf ρ ι [.run k2 n A' o'])).length:=fun k1 k2 n A A' o o'=>by simp [eO,cellsOf,Seg.cells]
   unfold vO at h
   split at h
   ·simp only [Option.some.injEq] at h;subst h;simp [aP]
   ·rename_i _ x l _ y r
    simp only [Option.map_eq_some_iff] at h
    obtain ⟨c',hc,rfl⟩:=h
    rw [eA,Bool.and_eq_true,ih _ _ _ hc,gK hH,one_,one_,List.cons.injEq,decide_eq_true_eq]
   ·rename_i k1 n A o l k2 n' A' o' r
    split at h
    ·rename_i hn;subst hn
     simp only [Option.map_eq_some_iff] at h
     obtain ⟨c',hc,rfl⟩:=h
     rw [eA,Bool.and_eq_true,ih _ _ _ hc,run_ k1,run_ k2,aGN (len_ _ _ _ _ _ _ _),yQ]
    ·split at h
     ·rename_i z z' _
      split at h
      ·rename_i hz
       split at h
       ·rename_i hlt
        simp only [Option.map_eq_some_iff] at h
        obtain ⟨c',hc,rfl⟩:=h
        rw [eA,Bool.and_eq_true,ih _ _ _ hc,run_ k1,aZr (k:=k2) (show 0≤z by omega) (show z≤z' by omega),gW,aGN (len_ _ _ _ _ _ _ _),yQ (ι:=ι) (k:=k1) (k':=k2),oY (ρ:=ρ) (ι:=ι) (k:=.u8) (k':=k2) (n:=.lit (z'-z)) (A:=A') (o:=o'+z.toNat) (r:=r)]
       ·rename_i hlt
        simp only [Option.map_eq_some_iff] at h
        obtain ⟨c',hc,rfl⟩:=h
        rw [eA,Bool.and_eq_true,ih _ _ _ hc,run_ k2,aZr (k:=k1) (show 0≤z' by omega) (show z'≤z by omega),gW,aGN (len_ _ _ _ _ _ _ _),yQ (ι:=ι) (k:=k1) (k':=k2),oY (ρ:=ρ) (ι:=ι) (k:=.u8) (k':=k1) (n:=.lit (z-z')) (A:=A) (o:=o+z'.toNat) (r:=l)]
      ·cases h
     ·cases h
   ·rename_i _ x l k2 n A o r
    split at h
    ·rename_i hn
     simp only [Option.map_eq_some_iff] at h
     obtain ⟨c',hc,rfl⟩:=h
     rw [eA,Bool.and_eq_true,ih _ _ _ hc,gK hH,gB hH,aF,Int.toNat_natCast,one_,aZs hn]
     show _↔_=A.a ρ o::eO (cellsOf ρ ι (.run k2 (.lit (n-1)) A (o+1)::r))
     rw [List.cons.injEq,decide_eq_true_eq,oY (k:=.u8) (k':=k2)]
    ·rename_i hn
     rw [ih _ _ _ h,zE (k:=.u8)]
     have:eO (cellsOf ρ ι (.run k2 (.lit n) A o::r))=eO (cellsOf ρ ι r):=by
      rw [run_ k2];simp [eO,cellsOf,Seg.cells,aF,show n.toNat=0 by omega]
     rw [this]
   ·rename_i k1 n A o l _ x r
    split at h
    ·rename_i hn
     simp only [Option.map_eq_some_iff] at h
     obtain ⟨c',hc,rfl⟩:=h
     rw [eA,Bool.and_eq_true,ih _ _ _ hc,gK hH,gB hH,aF,Int.toNat_natCast,one_,aZs hn]
     show _↔A.a ρ o::eO (cellsOf ρ ι (.run k1 (.lit (n-1)) A (o+1)::l))=_
     rw [List.cons.injEq,decide_eq_true_eq,oY (k:=.u8) (k':=k1)]
    ·rename_i hn
     rw [ih _ _ _ h,zE (k:=.u8)]
     have:eO (cellsOf ρ ι (.run k1 (.lit n) A o::l))=eO (cellsOf ρ ι l):=by
      rw [run_ k1];simp [eO,cellsOf,Seg.cells,aF,show n.toNat=0 by omega]
     rw [this]
   ·rename_i k1 n A o l
    split at h
    ·rename_i hn
     rw [ih _ _ _ h]
     have:eO (cellsOf ρ ι (.run k1 (.lit n) A o::l))=eO (cellsOf ρ ι l):=by
      rw [run_ k1];simp [eO,cellsOf,Seg.cells,aF,show n.toNat=0 by omega]
     rw [this]
    ·cases h
   ·rename_i k1 n A o r
    split at h
    ·rename_i hn
     rw [ih _ _ _ h]
     have:eO (cellsOf ρ ι (.run k1 (.lit n) A o::r))=eO (cellsOf ρ ι r):=by
      rw [run_ k1];simp [eO,cellsOf,Seg.cells,aF,show n.toNat=0 by omega]
     rw [this]
    ·cases h
   ·cases h
theorem jH {F:FuncId} (hv:aVs P F):aX P I F eV:=by
 constructor
 intro H l m nd v om h ρ β ι w hI hH hn hm
 unfold eV at h
 split at h
 ·rename_i x y
  split at h
  ·rename_i L q L' q' hr hr'
   simp only [Option.map_eq_some_iff,Prod.mk.injEq] at h
   obtain ⟨c,hc,rfl,rfl,rfl⟩:=h
   obtain ⟨g9,hlen,X,hX,f5,l8,e9⟩:=pX (ι:=ι) hH hm hr
   obtain ⟨hq0',hlen',Y,hY,hv2,hn2,l6⟩:=pX (ι:=ι) hH hm hr'
   have hargs:([x,y].map (SV.aC ρ ι)).toArray=#[X.v,Y.v]:=by simp [f5,hv2]
   rw [hargs]
   refine (hv X Y w hX hY).mono fun e w' ⟨G,J⟩=>⟨?_,hm.below J⟩
   rw [G,aW rfl]
   have key:(X.n=Y.n∧∀ j,j<X.n→aD X 1 0 j=aD Y 1 0 j)↔eO (cellsOf ρ ι L)=eO (cellsOf ρ ι L'):=by
    have eX:∀ j,j<X.n→(eO (cellsOf ρ ι L))[j]? = some (aD X 1 0 j):=fun j hj=>by
     have:j<(cellsOf ρ ι L).length:=by omega
     rw [tK e9 hj]
     simp [eO,List.getElem?_eq_getElem this]
    have eY:∀ j,j<Y.n→(eO (cellsOf ρ ι L'))[j]? = some (aD Y 1 0 j):=fun j hj=>by
     have:j<(cellsOf ρ ι L').length:=by omega
     rw [tK l6 hj]
     simp [eO,List.getElem?_eq_getElem this]
    constructor
    ·rintro ⟨g1,g2⟩
     apply List.ext_getElem?
     intro j
     by_cases hj:j<X.n
     ·rw [eX j hj,eY j (by omega),g2 j hj]
     ·rw [List.getElem?_eq_none (by simp [eO];omega),List.getElem?_eq_none (by simp [eO];omega)]
    ·intro g
     have gl:=congrArg List.length g
     simp only [eO,List.length_map] at gl
     refine ⟨by omega,fun j hj=>?_⟩
     have:=eX j hj
     rw [g,eY j (by omega)] at this
     simpa using this.symm
   have hb:c.b ρ=true↔(X.n=Y.n∧∀ j,j<X.n→aD X 1 0 j=aD Y 1 0 j):=by
    unfold bCk at hc
    split at hc
    ·rename_i he
     simp only [Option.some.injEq] at hc;subst hc
     have:=gK hH q q'
     rw [he,aP] at this
     rw [aP]
     simp only [Bool.false_eq_true,false_iff,not_and]
     intro g
     have:¬ q.i ρ=q'.i ρ:=by simpa using this
     omega
    ·split at hc
     ·rename_i hL;subst hL
      simp only [Option.some.injEq] at hc;subst hc
      rw [key,aP];simp
     ·rw [key,bGp hH _ _ _ _ hc]
   simp only [SV.aC,S.aC]
   have:decide (X.n=Y.n∧∀ j,j<X.n→aD X 1 0 j=aD Y 1 0 j)=c.b ρ:=by
    cases hcb:c.b ρ
    ·rw [decide_eq_false_iff_not];intro g;rw [hb.2 g] at hcb;cases hcb
    ·rw [decide_eq_true_eq];exact hb.1 hcb
   rw [this]
  ·cases h
 ·cases h
theorem iT {F:FuncId} {ty:TypeId} (hv:bBL P F ty):aX P I F (fG ty):=by
 constructor
 intro H l m nd v om h ρ β ι w hI hH hn hm
 unfold fG at h
 split at h
 ·rename_i x
  split at h
  ·rename_i L q hr
   split at h
   ·rename_i hc
    simp only [Bool.and_eq_true] at hc
    have hqm:=bJ hH hc.1
    simp only [Option.some.injEq,Prod.mk.injEq] at h
    obtain ⟨rfl,rfl,rfl⟩:=h
    obtain ⟨g9,hlen,X,hX,f5,l8,e9⟩:=pX (ι:=ι) hH hm hr
    have hargs:([x].map (SV.aC ρ ι)).toArray=#[X.v]:=by simp [f5]
    rw [hargs]
    refine (hv X w hX (by omega)).mono fun e w' ⟨ρ',ι',B',he,hm',t1,t2,t3,t4,hcells⟩=>?_
    have hXn:X.n=(q.i ρ).toNat:=by omega
    have hsc:L.all (Seg.sc m.length)=true:=by
     unfold wQ at hr
     split at hr
     ·rename_i hv'
      split at hr
      ·simp only [Option.some.injEq,Prod.mk.injEq] at hr;obtain ⟨rfl,rfl⟩:=hr
       exact aAJ hv' hc.2
      ·cases hr
     ·cases hr
    refine ⟨cV ι m.length (ι'.pos 0) 0 false,cS _ _ _ _ _,?_,?_⟩
    ·rw [he,aW rfl]
     simp only [SV.aC,S.aC,addr,aF,aCC hH,cV,if_true,hXn]
     rfl
    ·refine hm.join hm' hc.2 (aYP hsc) ?_ ⟨t1.symm,t2.symm,rfl,t3,rfl,t4⟩
     rw [hcells,aYO hH]
     apply List.ext_getElem?
     intro j
     rw [List.getElem?_map]
     by_cases hj:j<X.n
     ·rw [List.getElem?_range hj,Option.map_some]
      have hjl:j<(cellsOf ρ ι L).length:=by omega
      obtain ⟨z,hz,_⟩:=hX.fit j 0 _ hj rfl
      simp only [List.length_singleton,Nat.mul_one,Nat.add_zero] at hz
      have h9:=e9 j
      rw [hz,List.getElem?_eq_getElem hjl,Option.getD_some] at h9
      rw [tK e9 hj,List.getElem?_eq_getElem hjl,Option.getD_some,← h9]
      rfl
     ·rw [List.getElem?_eq_none (show (cellsOf ρ ι L).length≤j by omega),List.getElem?_eq_none (by simp;omega)];rfl
   ·cases h
  ·cases h
 ·cases h
theorem jT {k:IntKind} {ι ι':Loc}:∀ {l:List Seg},fS k l=true→cellsOf ρ ι l=cellsOf ρ ι' l
 | [],_=>rfl
 | x::l,h=>by
   simp only [fS,List.all_cons,Bool.and_eq_true] at h
   rw [aG,aG,jT (ι:=ι) (ι':=ι') (l:=l) h.2]
   congr 1
   cases x with
   | one s=>cases s <;> simp only [Bool.false_eq_true,false_and] at h;rfl
   | run _ _ _ _=>rfl
   | rows _ _ _=>simp at h
theorem aK.single (hm:aK ρ β ι m w) {b:Nat} {B:Blk} (hB:m[b]? = some B) {k:IntKind} (hk:fS k B.aH=true):aK ρ ⟨w,1,piv [b] ι⟩ (piv [b] ι) [B] w:=by
 have hbl:b<m.length:=(List.getElem?_eq_some_iff.1 hB).1
 have e0:(piv [b] ι).pos 0=ι b∧(piv [b] ι).cap 0=ι.cap b∧(piv [b] ι).nil 0=ι.nil b:=by simp [piv]
 have at_:∀ {i:Nat} {C:Blk},[B][i]? = some C→i=0∧C=B:=fun {i C} h=>by
  cases i with
  | zero=>simp at h;exact ⟨rfl,h.symm⟩
  | succ i=>simp at h
 refine ⟨fun i j C D hC hD _ _ _ _ _=>by rw [(at_ hC).1,(at_ hD).1],fun i C hC hd hn=>?_,fun i C hC hd hn=>?_,Loc.bV.refl _ _,Nat.le_refl _,fun i G J=>?_,Nat.le_refl _,fun _ _ _=>rfl,rfl,rfl,rfl,hm.xD,fun i j a n c hv Z q hq=>?_⟩
 ·obtain ⟨rfl,rfl⟩:=at_ hC
  obtain ⟨fz,rest,k1,k2,k3,k4⟩:=hm.blk b C hB hd (by rw [← e0.2.2];exact hn)
  refine ⟨fz,rest,?_,k2,?_,k4⟩
  ·rw [e0.1,jT (ι:=piv [b] ι) (ι':=ι) hk];exact k1
  ·intro sz hs;rw [e0.2.1,jT (ι:=piv [b] ι) (ι':=ι) hk];exact k3 sz hs
 ·obtain ⟨rfl,rfl⟩:=at_ hC
  obtain ⟨k1,k2⟩:=hm.nils b C hB hd (by rw [← e0.2.2];exact hn)
  exact ⟨k1,by rw [jT (ι:=piv [b] ι) (ι':=ι) hk];exact k2⟩
 ·simp at G J;omega
 ·have:q=0:=by simpa using hq
  subst this
  rw [e0.1];exact hm.xd i j a n c hv Z b hbl
theorem aK.spoilt (hm:aK ρ β ι m w) {b:Nat} {B B' D:Blk} (hB:m[b]? = some B) (hd:B.dead=false) (hn:ι.nil b=false) (hD:D.dead=true) {ρ':Env} {ι':Loc} {w':World} (h':aK ρ' ⟨w,1,piv [b] ι⟩ ι' [B'] w'):aK ρ β ι (m.set b D) w':=by
 have hbl:b<m.length:=(List.getElem?_eq_some_iff.1 hB).1
 have hag:ι' 0=ι b:=(h'.agr 0 Nat.one_pos).1
 have keep:∀ q,q<w.heap.size→q ≠ ι b→w'.heap[q]? = w.heap[q]? := fun q hq hne=>h'.old q hq fun i hi=>by
  have:i=0:=by simpa using hi
  subst this;rw [hag];exact fun e=>hne e.symm
 have at_:∀ {i:Nat} {C:Blk},(m.set b D)[i]? = some C→C.dead=false→m[i]? = some C∧i ≠ b:=by
  intro i C h hCd
  rw [List.getElem?_set] at h
  split at h
  ·rename_i hbi;subst hbi
   simp only [hbl,if_true,Option.some.injEq] at h;subst h;rw [hD] at hCd;cases hCd
  ·rename_i hne;exact ⟨h,fun e=>hne e.symm⟩
 refine ⟨fun i j C E hC hE hCd hEd=>hm.inj i j C E (at_ hC hCd).1 (at_ hE hEd).1 hCd hEd,fun i C hC hCd hCn=>?_,fun i C hC hCd hCn=>hm.nils i C (at_ hC hCd).1 hCd hCn,hm.agr,by rw [List.length_set];exact hm.len,fun i G J=>hm.new i G (by rw [List.length_set] at J;exact J),Nat.le_trans hm.size h'.size,fun q hq hi=>?_,h'.os.trans hm.os,h'.tape.trans hm.tape,h'.output.trans hm.output,hm.xt,fun i j a n c hv Z q hq=>hm.xd i j a n c hv Z q (by rw [List.length_set] at hq;exact hq)⟩
 ·obtain ⟨hC',hib⟩:=at_ hC hCd
  obtain ⟨fz,rest,k1,k2,k3,k4⟩:=hm.blk i C hC' hCd hCn
  refine ⟨fz,rest,?_,k2,k3,k4⟩
  have hlt:ι i<w.heap.size:=(Array.getElem?_eq_some_iff.1 k1).1
  rw [keep (ι i) hlt fun e=>hib (hm.inj i b C B hC' hB hCd hd hCn hn e)]
  exact k1
 ·rw [List.length_set] at hi
  have hq':q<w.heap.size:=Nat.lt_of_lt_of_le hq hm.size
  rw [keep q hq' fun e=>hi b hbl e.symm]
  exact hm.old q hq hi
theorem bEZ (b:Nat) (off len:E) (cap:Cap) :
 ∃ base C,(S.slc b off len cap).aC ρ ι=.slice base (len.i ρ).toNat C∧(base=none→C=0):=by
 cases cap with
 | tl o k z=>exact ⟨_,_,rfl,fun h=>by cases h⟩
 | kn e=>exact ⟨some (addr ρ ι b off),(e.i ρ).toNat,rfl,fun h=>by cases h⟩
 | op e =>
   simp only [S.aC]
   split
   ·rename_i hc;exact ⟨none,0,by rw [hc.2],fun _=>rfl⟩
   ·exact ⟨_,_,rfl,fun h=>by cases h⟩
theorem iD {F:FuncId} {ty:TypeId} (hv:aVu P F ty):aX P I F (dV ty):=by
 constructor
 intro H l m nd v om h ρ β ι w hI hH hn hm
 have tup:fA ρ ι (.tup [])=.returned (.tuple #[]):=aW rfl
 unfold dV at h
 split at h
 ·simp only [Option.some.injEq,Prod.mk.injEq] at h
  obtain ⟨rfl,rfl,rfl⟩:=h
  exact (hv.1 w none 0 (fun _=>rfl)).mono fun e w' ⟨G,J⟩=>⟨by rw [G,tup],hm.below J⟩
 ·rename_i b off len cap
  split at h
  ·rename_i hl;subst hl
   simp only [Option.some.injEq,Prod.mk.injEq] at h
   obtain ⟨rfl,rfl,rfl⟩:=h
   obtain ⟨base,C,hc,hbC⟩:=bEZ (ρ:=ρ) (ι:=ι) b off (.lit 0) cap
   rw [aF] at hc
   have hargs:([SV.s (.slc b off (.lit 0) cap)].map (SV.aC ρ ι)).toArray=#[.slice base 0 C]:=by
    simp only [List.map_cons,List.map_nil]
    rw [show SV.aC ρ ι (.s (.slc b off (.lit 0) cap))=_ from hc];rfl
   rw [hargs]
   exact (hv.1 w base C hbC).mono fun e w' ⟨G,J⟩=>⟨by rw [G,tup],hm.below J⟩
  ·split at h
   ·rename_i B L q hB hr
    split at h
    ·rename_i hcc
     obtain ⟨hty,hwr,hd,hg,hk,hrg,k8,hfit⟩:=hcc
     simp only [Option.some.injEq,Prod.mk.injEq] at h
     obtain ⟨rfl,rfl,rfl⟩:=h
     have k8:=aJ hH k8
     obtain ⟨base,C,hc,hbase⟩:=aId (ρ:=ρ) (ι:=ι) b off len cap
     have hb:=hbase (by omega)
     subst hb
     have hargs:([SV.s (.slc b off len cap)].map (SV.aC ρ ι)).toArray=#[.slice (some (addr ρ ι b off)) (len.i ρ).toNat C]:=by
      simp only [List.map_cons,List.map_nil]
      rw [show SV.aC ρ ι (.s (.slc b off len cap))=_ from hc]
     rw [hargs]
     unfold bCF at hfit
     split at hfit
     ·rename_i t ht
      simp only [Bool.and_eq_true] at hfit
      obtain ⟨ht0,hlen⟩:=iC (ι:=ι) hH ht
      have hle:=nL hH hfit.1
      have hmx:=bJ hH hfit.2
      rw [aM] at hle
      rw [Nat.mul_one] at hlen
      have hnil:ι.nil b=false:=by
       cases hh:ι.nil b with
       | false=>rfl
       | true =>
         have V:=(hm.nils b B hB hd hh).2
         rw [V] at hlen
         have hr':=(lK (ι:=ι) hH hm Nat.one_pos (show vG H m 1 (.s (.slc b off len cap))=some (L,q) by
          unfold wQ at hr
          split at hr
          ·rename_i hv'
           split at hr
           ·simp only [Option.some.injEq,Prod.mk.injEq] at hr;obtain ⟨rfl,rfl⟩:=hr;exact hv'
           ·cases hr
          ·cases hr))
         obtain ⟨g9,_,base',C',hc',hcell⟩:=hr'
         have l6:(SV.s (.slc b off len cap)).aC ρ ι=_:=hc
         rw [l6] at hc'
         simp only [Value.slice.injEq] at hc'
         obtain ⟨e2,e3,_⟩:=hc'
         obtain ⟨ad,had,hcl⟩:=hcell (by omega)
         exfalso
         have hone:=hm.single hB hk
         have:len.i ρ≤0∨0≤off.i ρ∨off.i ρ<0:=by omega
         have hoff:0≤off.i ρ:=by
          have:=aSV hH (hr:=hr) (by omega)
          exact this
         simp only [List.length_nil] at hlen
         omega
      have hoff:0≤off.i ρ:=aSV hH (hr:=hr) (by omega)
      have e0:(piv [b] ι).pos 0=ι b:=by simp [piv]
      have hone:=hm.single hB hk
      have hcl:=hv.2 ρ (piv [b] ι) B w (off.i ρ).toNat (len.i ρ).toNat C hone hty hwr hd hg (fun v hv'=>vE hH hk hrg v hv') (by
       rw [jT (ι:=piv [b] ι) (ι':=ι) hk,hlen];omega) (by rw [jT (ι:=piv [b] ι) (ι':=ι) hk,hlen];omega) (by omega)
      rw [e0] at hcl
      refine hcl.mono fun e w' ⟨G,ρ',ι',B',J⟩=>⟨ι,Loc.bV.refl _ _,by rw [G,tup],?_⟩
      exact hm.spoilt hB hd hnil rfl J
     ·cases hfit
    ·cases h
   ·cases h
 ·cases h
end
structure Sb where
 i:List E
 b:List E
 a:List E
def Sb.env (σ:Sb) (ρ:Env):Env:=⟨σ.i.map (·.i ρ),σ.b.map (·.b ρ),σ.a.map (·.a ρ),ρ.vs,ρ.I⟩
def wsI:E→Bool
 | .v _ | .lit _ | .add _ _ | .sub _ _ | .mul _ _ | .div _ _ | .mod _ _ | .tdiv _ _ | .tmod _ _ | .pow2 _ | .wrap _ _ | .bits _ _ _ _ | .sel _ _=>true
 | .ite _ a b=>wsI a&&wsI b
 | _=>false
def wsB:E→Bool
 | .bv _ | .blit _ | .lt _ _ | .le _ _ | .eq _ _ | .not _ | .and _ _ | .or _ _ | .iff _ _ | .aeq _ _ _ _ _ _=>true
 | .ite _ a b=>wsB a&&wsB b
 | _=>false
def wsA:E→Bool
 | .av _ | .upd _ _ _ | .blt _ _ _ _ _ | .tab _=>true
 | .ite _ a b=>wsA a&&wsA b
 | _=>false
def coI (e:E):E:=if wsI e then e else .add e (.lit 0)
def coB (e:E):E:=if wsB e then e else .and e (.blit true)
def coA (e:E):E:=if wsA e then e else .upd e (.lit 0) (.sel e (.lit 0))
def qG (s:Nat) (r:E):E:=match s with | 0=>r | 1=>.blit false | 2=>.tab [] | _=>coI r
def uF (s:Nat) (r:E):E:=match s with | 0=>.lit 0 | 1=>r | 2=>.tab [] | _=>coB r
def aHA (s:Nat) (r:E):E:=match s with | 0=>.lit 0 | 1=>.blit false | 2=>r | _=>coA r
def bHk (c a b:E):E:=match c with
 | .blit true=>a
 | .blit false=>b
 | c=>.ite c a b
def sb (H:Hyp) (σ:Sb):E→Nat→E
 | .v n,s=>qG s (σ.i.getD n (.lit 0))
 | .bv n,s=>uF s (σ.b.getD n (.blit false))
 | .av n,s=>aHA s (σ.a.getD n (.tab []))
 | .lit z,s=>qG s (.lit z)
 | .blit z,s=>uF s (.blit z)
 | .add a b,s=>qG s (mkAdd (sb H σ a 0) (sb H σ b 0))
 | .sub a b,s=>qG s (mkSub (sb H σ a 0) (sb H σ b 0))
 | .mul a b,s=>qG s (mkMul (sb H σ a 0) (sb H σ b 0))
 | .div a b,s=>qG s (yI H (sb H σ a 0) (sb H σ b 0))
 | .mod a b,s=>qG s (oJ H (sb H σ a 0) (sb H σ b 0))
 | .tdiv a b,s=>qG s (.tdiv (sb H σ a 0) (sb H σ b 0))
 | .tmod a b,s=>qG s (.tmod (sb H σ a 0) (sb H σ b 0))
 | .pow2 a,s=>qG s (yJ (sb H σ a 0))
 | .wrap k a,s=>qG s (mkWrap H k (sb H σ a 0))
 | .bits o k a b,s=>qG s (aCN H o k (sb H σ a 0) (sb H σ b 0))
 | .ite c a b,s=>match s with
   | 0=>mkIte (sb H σ c 1) (sb H σ a 0) (sb H σ b 0)
   | 1=>mkIte (sb H σ c 1) (sb H σ a 1) (sb H σ b 1)
   | 2=>uM (sb H σ c 1) (sb H σ a 2) (sb H σ b 2)
   | _=>bHk (sb H σ c 1) (sb H σ a 3) (sb H σ b 3)
 | .sel A i,s=>qG s (kX H (dY H (sb H σ A 2) (sb H σ i 0)))
 | .lt a b,s=>uF s (mkLt H (sb H σ a 0) (sb H σ b 0))
 | .le a b,s=>uF s (mkLe H (sb H σ a 0) (sb H σ b 0))
 | .eq a b,s=>uF s (mkEq H (sb H σ a 0) (sb H σ b 0))
 | .not a,s=>uF s (mkNot (sb H σ a 1))
 | .and a b,s=>uF s (mkAnd (sb H σ a 1) (sb H σ b 1))
 | .or a b,s=>uF s (mkOr (sb H σ a 1) (sb H σ b 1))
 | .iff a b,s=>uF s (mkIff (sb H σ a 1) (sb H σ b 1))
 | .upd A i x,s=>aHA s (jK (sb H σ A 2) (sb H σ i 0) (kX H (sb H σ x 0)))
 | .blt A i n B j,s=>aHA s (.blt (sb H σ A 2) (sb H σ i 0) (sb H σ n 0) (sb H σ B 2) (sb H σ j 0))
 | .aeq bit n A B o q,s=>uF s (.aeq bit (sb H σ n 0) (sb H σ A 2) (sb H σ B 2) o q)
 | .tab l,s=>aHA s (.tab l)
 | .app f x,_=>.app f (sb H σ x 3)
 | .nil,s=>match s with | 0=>.lit 0 | 1=>.blit false | 2=>.tab [] | _=>.nil
 | .cons a r,s=>match s with | 0=>.lit 0 | 1=>.blit false | 2=>.tab [] | _=>.cons (sb H σ a 3) (sb H σ r 3)
section
variable {ρ:Env} {H:Hyp} {σ:Sb}
theorem aVo:∀ e:E,wsI e=true→den ρ e=.ofI (e.i ρ)
 | .v _,_ | .lit _,_ | .add _ _,_ | .sub _ _,_ | .mul _ _,_ | .div _ _,_ | .mod _ _,_ | .tdiv _ _,_ | .tmod _ _,_ | .pow2 _,_ | .wrap _ _,_ | .bits _ _ _ _,_ | .sel _ _,_=>rfl
 | .ite c a b,h=>by
   simp only [wsI,Bool.and_eq_true] at h
   have G:=aVo a h.1
   have J:=aVo b h.2
   simp only [E.i,den]
   cases (den ρ c).b
   ·simp only [Bool.false_eq_true,if_false];exact J
   ·simp only [if_true];exact G
theorem aVn:∀ e:E,wsB e=true→den ρ e=.ofB (e.b ρ)
 | .bv _,_ | .blit _,_ | .lt _ _,_ | .le _ _,_ | .eq _ _,_ | .not _,_ | .and _ _,_ | .or _ _,_ | .iff _ _,_ | .aeq _ _ _ _ _ _,_=>rfl
 | .ite c a b,h=>by
   simp only [wsB,Bool.and_eq_true] at h
   have G:=aVn a h.1
   have J:=aVn b h.2
   simp only [E.b,den]
   cases (den ρ c).b
   ·simp only [Bool.false_eq_true,if_false];exact J
   ·simp only [if_true];exact G
theorem aVm:∀ e:E,wsA e=true→den ρ e=.ofA (e.a ρ)
 | .av _,_ | .upd _ _ _,_ | .blt _ _ _ _ _,_ | .tab _,_=>rfl
 | .ite c a b,h=>by
   simp only [wsA,Bool.and_eq_true] at h
   have G:=aVm a h.1
   have J:=aVm b h.2
   simp only [E.a,den]
   cases (den ρ c).b
   ·simp only [Bool.false_eq_true,if_false];exact J
   ·simp only [if_true];exact G
theorem bLZ (e:E):den ρ (coI e)=.ofI (e.i ρ):=by
 unfold coI
 split
 ·rename_i h;exact aVo e h
 ·simp only [den,E.i,D.ofI,Int.add_zero]
theorem bLY (e:E):den ρ (coB e)=.ofB (e.b ρ):=by
 unfold coB
 split
 ·rename_i h;exact aVn e h
 ·simp only [den,E.b,D.ofB,Bool.and_true]
theorem bLX (e:E):den ρ (coA e)=.ofA (e.a ρ):=by
 unfold coA
 split
 ·rename_i h;exact aVm e h
 ·simp only [den,E.a,D.ofA,D.ofI]
  congr 1;funext j
  by_cases h:j=Int.toNat 0
  ·exact (if_pos h).trans (by rw [h])
  ·exact if_neg h
def Sok (s:Nat) (ρ ρ':Env) (e r:E):Prop:=match s with
 | 0=>r.i ρ=e.i ρ' | 1=>r.b ρ=e.b ρ' | 2=>r.a ρ=e.a ρ' | _=>den ρ r=den ρ' e
theorem hU {ρ':Env} {e r:E} {z:Int} (s:Nat) (he:den ρ' e=.ofI z) (hr:r.i ρ=z):Sok s ρ ρ' e (qG s r):=by
 match s with
 | 0=>simp only [Sok,qG,E.i] at *;rw [he,hr];rfl
 | 1=>simp only [Sok,qG,E.b] at *;rw [he];rfl
 | 2=>simp only [Sok,qG,E.a] at *;rw [he];rfl
 | s+3=>simp only [Sok,qG];rw [he,bLZ,hr]
theorem kC {ρ':Env} {e r:E} {z:Bool} (s:Nat) (he:den ρ' e=.ofB z) (hr:r.b ρ=z):Sok s ρ ρ' e (uF s r):=by
 match s with
 | 0=>simp only [Sok,uF,E.i] at *;rw [he];rfl
 | 1=>simp only [Sok,uF,E.b] at *;rw [he,hr];rfl
 | 2=>simp only [Sok,uF,E.a] at *;rw [he];rfl
 | s+3=>simp only [Sok,uF];rw [he,bLY,hr]
theorem aAv {ρ':Env} {e r:E} {z:Nat→Int} (s:Nat) (he:den ρ' e=.ofA z) (hr:r.a ρ=z):Sok s ρ ρ' e (aHA s r):=by
 match s with
 | 0=>simp only [Sok,aHA,E.i] at *;rw [he];rfl
 | 1=>simp only [Sok,aHA,E.b] at *;rw [he];rfl
 | 2=>simp only [Sok,aHA,E.a] at *;rw [he,hr];rfl
 | s+3=>simp only [Sok,aHA];rw [he,bLX,hr]
theorem getD_map' {α β:Type} (f:α→β) (d:α):∀ (l:List α) (n:Nat),(l.map f).getD n (f d)=f (l.getD n d)
 | [],n=>by simp
 | a::l,0=>by simp
 | a::l,n+1=>by simp
theorem bO (hH:H.ok ρ):∀ (e:E) (s:Nat),Sok s ρ (σ.env ρ) e (sb H σ e s)
 | .v n,s=>hU s rfl (by simp only [Sb.env];exact (getD_map' (fun e:E=>e.i ρ) (.lit 0) σ.i n).symm)
 | .bv n,s=>kC s rfl (by simp only [Sb.env];exact (getD_map' (fun e:E=>e.b ρ) (.blit false) σ.b n).symm)
 | .av n,s=>aAv s rfl (by simp only [Sb.env];exact (getD_map' (fun e:E=>e.a ρ) (.tab []) σ.a n).symm)
 | .lit z,s=>hU s rfl rfl
 | .blit z,s=>kC s rfl rfl
 | .add a b,s=>hU s rfl (by rw [aM];exact congr (congrArg _ (bO hH a 0)) (bO hH b 0))
 | .sub a b,s=>hU s rfl (by rw [fD];exact congr (congrArg _ (bO hH a 0)) (bO hH b 0))
 | .mul a b,s=>hU s rfl (by rw [dD];exact congr (congrArg _ (bO hH a 0)) (bO hH b 0))
 | .div a b,s=>hU s rfl (by rw [aCO hH];exact congr (congrArg _ (bO hH a 0)) (bO hH b 0))
 | .mod a b,s=>hU s rfl (by rw [sW hH];exact congr (congrArg _ (bO hH a 0)) (bO hH b 0))
 | .tdiv a b,s=>hU s rfl (by rw [bX];exact congr (congrArg _ (bO hH a 0)) (bO hH b 0))
 | .tmod a b,s=>hU s rfl (by rw [bU];exact congr (congrArg _ (bO hH a 0)) (bO hH b 0))
 | .pow2 a,s=>hU s rfl (by rw [wF];exact congrArg (fun z:Int=>(2:Int) ^ z.toNat) (bO hH a 0))
 | .wrap k a,s=>hU s rfl (by rw [iM hH];exact congrArg k.wrap (bO hH a 0))
 | .bits o k a b,s=>hU s rfl (by rw [oI hH];exact congr (congrArg _ (bO hH a 0)) (bO hH b 0))
 | .ite c a b,s=>by
   have hc:(sb H σ c 1).b ρ=c.b (σ.env ρ):=bO hH c 1
   match s with
   | 0 =>
     have G:(sb H σ a 0).i ρ=a.i (σ.env ρ):=bO hH a 0
     have J:(sb H σ b 0).i ρ=b.i (σ.env ρ):=bO hH b 0
     show (mkIte _ _ _).i ρ=(E.ite c a b).i _
     rw [gA,aT,hc,G,J]
   | 1 =>
     have G:(sb H σ a 1).b ρ=a.b (σ.env ρ):=bO hH a 1
     have J:(sb H σ b 1).b ρ=b.b (σ.env ρ):=bO hH b 1
     show (mkIte _ _ _).b ρ=(E.ite c a b).b _
     rw [aYU,cR,hc,G,J]
   | 2 =>
     have G:(sb H σ a 2).a ρ=a.a (σ.env ρ):=bO hH a 2
     have J:(sb H σ b 2).a ρ=b.a (σ.env ρ):=bO hH b 2
     show (uM _ _ _).a ρ=(E.ite c a b).a _
     rw [aCP,cD,hc,G,J]
   | s+3 =>
     have G:den ρ (sb H σ a 3)=den (σ.env ρ) a:=bO hH a 3
     have J:den ρ (sb H σ b 3)=den (σ.env ρ) b:=bO hH b 3
     have O:∀ x:E,x.b ρ=c.b (σ.env ρ)→den ρ (bHk x (sb H σ a 3) (sb H σ b 3))=den (σ.env ρ) (.ite c a b):=fun x hx=>by
      have e:den ρ (bHk x (sb H σ a 3) (sb H σ b 3))=den ρ (.ite x (sb H σ a 3) (sb H σ b 3)):=by
       unfold bHk
       split <;> simp [den,D.ofB]
      rw [e]
      simp only [den,G,J]
      rw [show (den ρ x).b=(den (σ.env ρ) c).b from hx]
     exact O _ hc
 | .sel A i,s=>hU s rfl (by
    have G:(sb H σ A 2).a ρ=A.a (σ.env ρ):=bO hH A 2
    have J:(sb H σ i 0).i ρ=i.i (σ.env ρ):=bO hH i 0
    rw [lH hH,gB hH,G,J];rfl)
 | .lt a b,s=>kC s rfl (by
    have G:(sb H σ a 0).i ρ=a.i (σ.env ρ):=bO hH a 0
    have J:(sb H σ b 0).i ρ=b.i (σ.env ρ):=bO hH b 0
    rw [dR hH,G,J];rfl)
 | .le a b,s=>kC s rfl (by
    have G:(sb H σ a 0).i ρ=a.i (σ.env ρ):=bO hH a 0
    have J:(sb H σ b 0).i ρ=b.i (σ.env ρ):=bO hH b 0
    rw [bM hH,G,J];rfl)
 | .eq a b,s=>kC s rfl (by
    have G:(sb H σ a 0).i ρ=a.i (σ.env ρ):=bO hH a 0
    have J:(sb H σ b 0).i ρ=b.i (σ.env ρ):=bO hH b 0
    rw [gK hH,G,J];rfl)
 | .not a,s=>kC s rfl (by rw [bR];exact congrArg _ (bO hH a 1))
 | .and a b,s=>kC s rfl (by rw [eA];exact congr (congrArg _ (bO hH a 1)) (bO hH b 1))
 | .or a b,s=>kC s rfl (by rw [jW];exact congr (congrArg _ (bO hH a 1)) (bO hH b 1))
 | .iff a b,s=>kC s rfl (by rw [aAB];exact congr (congrArg _ (bO hH a 1)) (bO hH b 1))
 | .upd A i x,s=>aAv s rfl (by
    have G:(sb H σ A 2).a ρ=A.a (σ.env ρ):=bO hH A 2
    have J:(sb H σ i 0).i ρ=i.i (σ.env ρ):=bO hH i 0
    have O:(sb H σ x 0).i ρ=x.i (σ.env ρ):=bO hH x 0
    rw [kD,lH hH,G,J,O];rfl)
 | .blt A i n B j,s=>aAv s rfl (by
    have G:(sb H σ A 2).a ρ=A.a (σ.env ρ):=bO hH A 2
    have J:(sb H σ i 0).i ρ=i.i (σ.env ρ):=bO hH i 0
    have O:(sb H σ n 0).i ρ=n.i (σ.env ρ):=bO hH n 0
    have h4:(sb H σ B 2).a ρ=B.a (σ.env ρ):=bO hH B 2
    have h5:(sb H σ j 0).i ρ=j.i (σ.env ρ):=bO hH j 0
    rw [nP,G,J,O,h4,h5];rfl)
 | .aeq bit n A B o q,s=>kC s rfl (by
    have G:(sb H σ A 2).a ρ=A.a (σ.env ρ):=bO hH A 2
    have O:(sb H σ n 0).i ρ=n.i (σ.env ρ):=bO hH n 0
    have h4:(sb H σ B 2).a ρ=B.a (σ.env ρ):=bO hH B 2
    rw [aIu,G,O,h4];rfl)
 | .tab l,s=>aAv s rfl rfl
 | .app f x,s=>by
   have G:den ρ (sb H σ x 3)=den (σ.env ρ) x:=bO hH x 3
   have hd:den ρ (.app f (sb H σ x 3))=den (σ.env ρ) (.app f x):=by simp only [den,G];rfl
   match s with
   | 0=>exact congrArg D.i hd
   | 1=>exact congrArg D.b hd
   | 2=>exact congrArg D.a hd
   | s+3=>exact hd
 | .nil,s=>match s with | 0=>rfl | 1=>rfl | 2=>rfl | s+3=>rfl
 | .cons a r,s=>by
   have G:den ρ (sb H σ a 3)=den (σ.env ρ) a:=bO hH a 3
   have J:den ρ (sb H σ r 3)=den (σ.env ρ) r:=bO hH r 3
   match s with
   | 0=>rfl
   | 1=>rfl
   | 2=>rfl
   | s+3 =>
     show den ρ (.cons _ _)=den _ (.cons a r)
     simp only [den,G,J]
end
def sbC (H:Hyp) (σ:Sb):Cap→Cap
 | .kn e=>.kn (sb H σ e 0)
 | .op e=>.op (sb H σ e 0)
 | .tl o k z=>.tl (sb H σ o 0) (sb H σ k 0) z
def sbS (H:Hyp) (σ:Sb):S→S
 | .int k e=>.int k (sb H σ e 0)
 | .bool e=>.bool (sb H σ e 1)
 | .ptr b o=>.ptr b (sb H σ o 0)
 | .slc b o l c=>.slc b (sb H σ o 0) (sb H σ l 0) (sbC H σ c)
 | .xslc i j o l=>.xslc i (sb H σ j 0) (sb H σ o 0) (sb H σ l 0)
 | .xptr i j k f=>.xptr i (sb H σ j 0) (sb H σ k 0) f
 | .fn f l=>.fn f (l.map fun p=>(p.1,sb H σ p.2 0))
 | .ifc t k e=>.ifc t k (sb H σ e 0)
 | .xtl i j o off=>.xtl i (sb H σ j 0) (sb H σ o 0) (sb H σ off 0)
 | .strE l=>.strE (l.map fun e=>sb H σ e 0)
 | x=>x
def sbX (H:Hyp) (σ:Sb) (f:XF):XF:=(f.1,sb H σ f.2 2)
def sbG (H:Hyp) (σ:Sb):Seg→Seg
 | .one x=>.one (sbS H σ x)
 | .run k n A o=>.run k (sb H σ n 0) (sb H σ A 2) o
 | .rows n fs o=>.rows (sb H σ n 0) (fs.map (sbX H σ)) o
def sbV (H:Hyp) (σ:Sb):SV→SV
 | .s x=>.s (sbS H σ x)
 | .agg l=>.agg (l.map (sbG H σ))
 | .tup l=>.tup (l.map fun p=>(p.1,p.2.map (sbG H σ)))
 | .junk=>.junk
section
variable {ρ:Env} {H:Hyp} {σ:Sb} {ι:Loc}
theorem sbI (hH:H.ok ρ) (e:E):(sb H σ e 0).i ρ=e.i (σ.env ρ):=bO hH e 0
theorem sbB (hH:H.ok ρ) (e:E):(sb H σ e 1).b ρ=e.b (σ.env ρ):=bO hH e 1
theorem sbA (hH:H.ok ρ) (e:E):(sb H σ e 2).a ρ=e.a (σ.env ρ):=bO hH e 2
theorem bEU (hH:H.ok ρ):∀ x:S,(sbS H σ x).aC ρ ι=x.aC (σ.env ρ) ι
 | .int k e=>by simp only [sbS,S.aC,sbI hH]
 | .bool e=>by simp only [sbS,S.aC,sbB hH]
 | .ptr b o=>by simp only [sbS,S.aC,addr,sbI hH]
 | .slc b o l (.kn c)=>by simp only [sbS,sbC,S.aC,addr,sbI hH]
 | .slc b o l (.op c)=>by simp only [sbS,sbC,S.aC,addr,sbI hH]
 | .slc b o l (.tl _ _ _)=>by simp only [sbS,sbC,S.aC,addr,sbI hH]
 | .xslc i j o l=>by simp only [sbS,S.aC,sbI hH];rfl
 | .xptr i j k f=>by simp only [sbS,S.aC,sbI hH];rfl
 | .fn f l=>by
   simp only [sbS,S.aC,List.map_map,Function.comp_def,addr,sbI hH]
 | .ifc t k e=>by simp only [sbS,S.aC,sbI hH]
 | .xtl i j o off=>by simp only [sbS,S.aC,sbI hH];rfl
 | .strE l=>by simp only [sbS,S.aC,List.map_map,Function.comp_def,sbI hH]
 | .nil | .nilIface | .nilSlc | .str _ | .nilFn | .val _ | .undef=>rfl
theorem bPe (hH:H.ok ρ) (f:XF) (j:Nat):XF.aC ρ (sbX H σ f) j=XF.aC (σ.env ρ) f j:=by
 obtain ⟨k,e⟩:=f
 cases k <;> simp only [sbX,XF.aC,sbA hH]
theorem bPd (hH:H.ok ρ):∀ x:Seg,(sbG H σ x).cells ρ ι=x.cells (σ.env ρ) ι
 | .one x=>by simp only [sbG,Seg.cells,bEU hH]
 | .run k n A o=>by simp only [sbG,Seg.cells,sbI hH,sbA hH]
 | .rows n fs o=>by simp only [sbG,Seg.cells,sbI hH,List.map_map,Function.comp_def,bPe hH]
theorem wS (hH:H.ok ρ):∀ l:List Seg,cellsOf ρ ι (l.map (sbG H σ))=cellsOf (σ.env ρ) ι l
 | []=>rfl
 | x::l=>by rw [List.map_cons,aG,aG,bPd hH,wS hH l]
theorem bEV (hH:H.ok ρ):∀ x:SV,(sbV H σ x).aC ρ ι=x.aC (σ.env ρ) ι
 | .s x=>bEU hH x
 | .agg l=>by simp only [sbV,SV.aC,wS hH]
 | .tup l=>by simp only [sbV,SV.aC,List.map_map,Function.comp_def,wS hH]
 | .junk=>rfl
end
structure bBO (ρ ρ':Env) (ι:Loc) (π:List Nat) (m m0:Mem):Prop where
 nodup:π.Nodup
 len:π.length=m0.length
 at_:∀ (j:Nat) (B:Blk),m0[j]? = some B→∃ (p:Nat) (C:Blk),π[j]? = some p∧m[p]? = some C∧B.dead=false∧C.dead=false∧B.ty=C.ty∧B.wr=C.wr∧B.grow=C.grow∧cellsOf ρ' (piv π ι) B.aH=cellsOf ρ ι C.aH
 nn:∀ p ∈ π,ι.nil p=false
section
variable {ρ ρ':Env} {β:dN} {ι ι1:Loc} {m m0 m1:Mem} {w w':World} {π:List Nat}
theorem aK.pickG (h:bBO ρ ρ' ι π m m0) (hI:ρ'.I=ρ.I) (hm:aK ρ β ι m w):aK ρ' ⟨w,m0.length,piv π ι⟩ (piv π ι) m0 w:=by
 have hblk:=h.at_
 refine ⟨fun i j B D hB hD hBd hDd hBn hDn he=>?_,fun i B hB hBd hBn=>?_,fun i B hB hBd hBn=>?_,Loc.bV.refl _ _,Nat.le_refl _,fun i G J=>absurd J (Nat.not_lt.2 G),Nat.le_refl _,fun _ _ _=>rfl,rfl,rfl,rfl,by rw [hI];exact hm.xD,fun i j a n c hv Z k hk=>?_⟩
 ·obtain ⟨p,C,hp,hC,_,c1,_,_,_,_⟩:=hblk i B hB
  obtain ⟨q,F,hq,hF,_,f1,_,_,_,_⟩:=hblk j D hD
  rw [dE hp,dE hq] at he
  rw [(bN hp).2] at hBn
  rw [(bN hq).2] at hDn
  have:=hm.inj _ _ C F hC hF c1 f1 hBn hDn he
  subst this
  exact bAx h.nodup i j p hp hq
 ·obtain ⟨p,C,hp,hC,_,c1,ht,hw,hg,hc⟩:=hblk i B hB
  rw [(bN hp).2] at hBn
  obtain ⟨fz,rest,k1,k2,k3,k4⟩:=hm.blk p C hC c1 hBn
  rw [(bN hp).1,dE hp,hc,ht,hw,hg]
  exact ⟨fz,rest,k1,k2,k3,k4⟩
 ·obtain ⟨p,C,hp,hC,_,c1,ht,hw,hg,hc⟩:=hblk i B hB
  rw [(bN hp).2] at hBn
  rw [hg,hc];exact hm.nils p C hC c1 hBn
 ·obtain ⟨p,C,hp,hC,_⟩:=hblk k m0[k] (List.getElem?_eq_getElem hk)
  rw [hI] at hv Z
  rw [dE hp];exact hm.xd i j a n c hv Z p (List.getElem?_eq_some_iff.1 hC).1
def cO (ι:Loc) (K n0:Nat) (ι1:Loc):Loc:=⟨fun i=>if i<K then ι.pos i else ι1.pos (n0+(i-K)),fun i=>if i<K then ι.cap i else ι1.cap (n0+(i-K)),fun i=>if i<K then ι.nil i else ι1.nil (n0+(i-K))⟩
theorem kH (K n0:Nat) (ι1:Loc):Loc.bV K ι (cO ι K n0 ι1):=fun i h=>by simp [cO,h]
def cX (π:List Nat) (K n1:Nat):List Nat:=π++(List.range (n1-π.length)).map (K+·)
structure aVt (ρ ρ':Env) (ι2:Loc) (π:List Nat) (m m1 m':Mem):Prop where
 len:m'.length=m.length+(m1.length-π.length)
 le:π.length≤m1.length
 other:∀ i,i<m.length→i ∉ π→m'[i]? = m[i]?
 at_:∀ (j:Nat) (B:Blk),m1[j]? = some B→∃ (p:Nat) (C:Blk),(cX π m.length m1.length)[j]? = some p∧m'[p]? = some C∧B.dead=C.dead∧B.ty=C.ty∧B.wr=C.wr∧B.grow=C.grow∧cellsOf ρ' (piv (cX π m.length m1.length) ι2) B.aH=cellsOf ρ ι2 C.aH
theorem jY {K n1 j p:Nat} (h:π[j]? = some p):(cX π K n1)[j]? = some p:=by
 have hj:=(List.getElem?_eq_some_iff.1 h).1
 unfold cX
 rw [List.getElem?_append_left hj];exact h
theorem pU {K n1 q:Nat} (h:π.length+q<n1):(cX π K n1)[π.length+q]? = some (K+q):=by
 unfold cX
 rw [List.getElem?_append_right (by omega),List.getElem?_map,List.getElem?_range (by omega)]
 simp
theorem aK.bIG {m':Mem} (h:bBO ρ ρ' ι π m m0) (hI:ρ'.I=ρ.I) (hm:aK ρ β ι m w) (h':aK ρ' ⟨w,m0.length,piv π ι⟩ ι1 m1 w') (hs:aVt ρ ρ' (cO ι m.length m0.length ι1) π m m1 m')
 (hsc:m.all (fun B=>B.aH.all (Seg.sc m.length))=true) (hsc1:m1.all (fun B=>B.aH.all (Seg.sc m1.length))=true):aK ρ β (cO ι m.length m0.length ι1) m' w':=by
 have hlo:=kH (ι:=ι) m.length m0.length ι1
 have hlen:=h.len
 have hle:=hs.le
 have hml:=hs.len
 -- the picked blocks
 have b9:∀ j,j<π.length→∃ p C,π[j]? = some p∧p<m.length∧m[p]? = some C∧C.dead=false∧ι.nil p=false:=fun j hj=>by
  obtain ⟨p,C,hp,hC,_,c1,_⟩:=h.at_ j _ (List.getElem?_eq_getElem (by omega))
  exact ⟨p,C,hp,(List.getElem?_eq_some_iff.1 hC).1,hC,c1,h.nn p (List.mem_of_getElem? hp)⟩
 have k9:∀ j p,π[j]? = some p→ι1.pos j=ι.pos p∧ι1.cap j=ι.cap p∧ι1.nil j=ι.nil p:=fun j p hp=>by
  have hj:j<m0.length:=by have:=(List.getElem?_eq_some_iff.1 hp).1;omega
  have:=h'.agr j hj
  exact ⟨this.1.trans (dE hp),this.2.1.trans (bN hp).1,this.2.2.trans (bN hp).2⟩
 have i8:∀ q,(cO ι m.length m0.length ι1).pos (m.length+q)=ι1.pos (π.length+q)∧(cO ι m.length m0.length ι1).cap (m.length+q)=ι1.cap (π.length+q)∧(cO ι m.length m0.length ι1).nil (m.length+q)=ι1.nil (π.length+q):=fun q=>by
  have:¬ m.length+q<m.length:=by omega
  rw [hlen]
  refine ⟨?_,?_,?_⟩ <;> simp only [cO,if_neg this,Nat.add_sub_cancel_left]
 -- where the call's blocks lie now
 have loc1:∀ j p,j<m1.length→(cX π m.length m1.length)[j]? = some p→ι1.pos j=(cO ι m.length m0.length ι1).pos p∧ι1.cap j=(cO ι m.length m0.length ι1).cap p∧ι1.nil j=(cO ι m.length m0.length ι1).nil p:=fun j p hj hp=>by
  by_cases hc:j<π.length
  ·obtain ⟨p',C,hp',hlt,_⟩:=b9 j hc
   rw [jY hp',Option.some.injEq] at hp;subst hp
   have a:=k9 j p' hp'
   have b:=hlo p' hlt
   exact ⟨a.1.trans b.1,a.2.1.trans b.2.1,a.2.2.trans b.2.2⟩
  ·obtain ⟨q,rfl⟩:∃ q,j=π.length+q:=⟨j-π.length,by omega⟩
   rw [pU hj,Option.some.injEq] at hp;subst hp
   exact ⟨(i8 q).1.symm,(i8 q).2.1.symm,(i8 q).2.2.symm⟩
 have has:∀ j,j<m1.length→∃ p,(cX π m.length m1.length)[j]? = some p:=fun j hj=>by
  obtain ⟨p,C,hp,_⟩:=hs.at_ j _ (List.getElem?_eq_getElem hj)
  exact ⟨p,hp⟩
 have agree1:Loc.bV m1.length ι1 (piv (cX π m.length m1.length) (cO ι m.length m0.length ι1)):=fun j hj=>by
  obtain ⟨p,hp⟩:=has j hj
  have:=loc1 j p hj hp
  exact ⟨this.1.trans (dE hp).symm,this.2.1.trans (bN hp).1.symm,this.2.2.trans (bN hp).2.symm⟩
 -- each block is either another's or the call's
 have cls:∀ (i:Nat) (C:Blk),m'[i]? = some C→(i<m.length∧i ∉ π∧m[i]? = some C)∨(∃ (j:Nat) (B:Blk),(cX π m.length m1.length)[j]? = some i∧j<m1.length∧m1[j]? = some B∧B.dead=C.dead∧B.ty=C.ty∧B.wr=C.wr∧B.grow=C.grow∧cellsOf ρ' ι1 B.aH=cellsOf ρ (cO ι m.length m0.length ι1) C.aH):=fun i C hC=>by
  have fin:∀ j,j<m1.length→(cX π m.length m1.length)[j]? = some i→∃ (j:Nat) (B:Blk),(cX π m.length m1.length)[j]? = some i∧j<m1.length∧m1[j]? = some B∧B.dead=C.dead∧B.ty=C.ty∧B.wr=C.wr∧B.grow=C.grow∧cellsOf ρ' ι1 B.aH=cellsOf ρ (cO ι m.length m0.length ι1) C.aH:=fun j hj hp=>by
   obtain ⟨p,C',hp',hC',V,e2,e3,e4,e5⟩:=hs.at_ j _ (List.getElem?_eq_getElem hj)
   rw [hp,Option.some.injEq] at hp';subst hp'
   rw [hC,Option.some.injEq] at hC';subst hC'
   refine ⟨j,_,hp,hj,List.getElem?_eq_getElem hj,V,e2,e3,e4,?_⟩
   rw [← e5]
   exact bK agree1 (List.all_eq_true.1 hsc1 _ (List.getElem_mem hj))
  by_cases hi:i<m.length
  ·by_cases hp:i ∈ π
   ·obtain ⟨j,hj⟩:=List.getElem?_of_mem hp
    exact .inr (fin j (by have:=(List.getElem?_eq_some_iff.1 hj).1;omega) (jY hj))
   ·exact .inl ⟨hi,hp,by rw [← hs.other i hi hp];exact hC⟩
  ·obtain ⟨q,rfl⟩:∃ q,i=m.length+q:=⟨i-m.length,by omega⟩
   have hlt:=(List.getElem?_eq_some_iff.1 hC).1
   exact .inr (fin (π.length+q) (by omega) (pU (by omega)))
 -- another's block lies where none of the call's lies
 have apart:∀ (i:Nat) (C:Blk),i<m.length→i ∉ π→m[i]? = some C→C.dead=false→ι.nil i=false→∀ j,j<m1.length→ι1 j ≠ ι i:=fun i C hi hp hC hd hn j hj he=>by
  have key:∀ a p D,π[a]? = some p→m[p]? = some D→D.dead=false→ι.nil p=false→ι p ≠ ι i:=fun a p D ha hD hDd hDn he=>by
   have:=hm.inj p i D C hD hC hDd hd hDn hn he
   subst this
   exact hp (List.mem_of_getElem? ha)
  by_cases hc:j<π.length
  ·obtain ⟨p,D,hp',_,hD,hDd,hDn⟩:=b9 j hc
   exact key j p D hp' hD hDd hDn ((k9 j p hp').1.symm.trans he)
  ·rcases h'.new j (by show m0.length≤j;omega) hj with hn' | ⟨a,ha,hn'⟩
   ·obtain ⟨fz,rest,k1,_⟩:=hm.blk i C hC hd hn
    have hlt:=(Array.getElem?_eq_some_iff.1 k1).1
    have hn'':w.heap.size≤ι1 j:=hn'
    omega
   ·have ha':a<π.length:=by rw [hlen];exact ha
    obtain ⟨p,D,hp',_,hD,hDd,hDn⟩:=b9 a ha'
    refine key a p D hp' hD hDd hDn ?_
    rw [← (k9 a p hp').1];exact hn'.symm.trans he
 refine ⟨fun i j C D hC hD hCd hDd hCn hDn he=>?_,fun i C hC hCd hCn=>?_,fun i C hC hCd hCn=>?_,(hlo.mono hm.len).symm.trans hm.agr,by rw [hml];have:=hm.len;omega,fun i G J=>?_,Nat.le_trans hm.size h'.size,fun b hb hi=>?_,h'.os.trans hm.os,h'.tape.trans hm.tape,h'.output.trans hm.output,hm.xt,fun i j a n c hv Z k hk=>?_⟩
 ·rcases cls i C hC with ⟨hi,hip,d0⟩ | ⟨p,B,hp,hpl,hB,V,_⟩ <;> rcases cls j D hD with ⟨hj,hjp,hD2⟩ | ⟨q,F,hq,hql,hF,f1,_⟩
  ·rw [← (hlo i hi).1,← (hlo j hj).1] at he
   rw [← (hlo i hi).2.2] at hCn
   rw [← (hlo j hj).2.2] at hDn
   exact hm.inj i j C D d0 hD2 hCd hDd hCn hDn he
  ·rw [← (hlo i hi).1,← (loc1 q j hql hq).1] at he
   rw [← (hlo i hi).2.2] at hCn
   exact absurd he.symm (apart i C hi hip d0 hCd hCn q hql)
  ·rw [← (hlo j hj).1,← (loc1 p i hpl hp).1] at he
   rw [← (hlo j hj).2.2] at hDn
   exact absurd he (apart j D hj hjp hD2 hDd hDn p hpl)
  ·rw [← (loc1 p i hpl hp).1,← (loc1 q j hql hq).1] at he
   rw [← (loc1 p i hpl hp).2.2] at hCn
   rw [← (loc1 q j hql hq).2.2] at hDn
   have:=h'.inj p q B F hB hF (V.trans hCd) (f1.trans hDd) hCn hDn he
   subst this
   rw [hp,Option.some.injEq] at hq;exact hq
 ·rcases cls i C hC with ⟨hi,hip,d0⟩ | ⟨p,B,hp,hpl,hB,V,e2,e3,e4,e5⟩
  ·rw [← (hlo i hi).2.2] at hCn
   obtain ⟨fz,rest,k1,k2⟩:=hm.blk i C d0 hCd hCn
   have hlt:=(Array.getElem?_eq_some_iff.1 k1).1
   rw [← (hlo i hi).1,← (hlo i hi).2.1,← bK hlo (List.all_eq_true.1 hsc _ (List.mem_of_getElem? d0))]
   refine ⟨fz,rest,?_,k2⟩
   rw [h'.old (ι i) hlt (fun j hj=>apart i C hi hip d0 hCd hCn j hj)];exact k1
  ·rw [← (loc1 p i hpl hp).2.2] at hCn
   obtain ⟨fz,rest,k1,k2,k3,k4⟩:=h'.blk p B hB (V.trans hCd) hCn
   rw [← (loc1 p i hpl hp).1,← (loc1 p i hpl hp).2.1,← e5,← e2,← e3,← e4]
   exact ⟨fz,rest,k1,k2,k3,k4⟩
 ·rcases cls i C hC with ⟨hi,hip,d0⟩ | ⟨p,B,hp,hpl,hB,V,e2,e3,e4,e5⟩
  ·rw [← (hlo i hi).2.2] at hCn
   rw [← bK hlo (List.all_eq_true.1 hsc _ (List.mem_of_getElem? d0))];exact hm.nils i C d0 hCd hCn
  ·rw [← (loc1 p i hpl hp).2.2] at hCn
   rw [← e5,← e4];exact h'.nils p B hB (V.trans hCd) hCn
 ·by_cases hc:i<m.length
  ·rw [← (hlo i hc).1]
   rcases hm.new i G hc with hn | ⟨j,hj,hn⟩
   ·exact .inl hn
   ·exact .inr ⟨j,hj,by rw [hn];exact (hlo j (Nat.lt_of_lt_of_le hj hm.len)).1⟩
  ·obtain ⟨q,rfl⟩:∃ q,i=m.length+q:=⟨i-m.length,by omega⟩
   rw [(i8 q).1]
   rcases h'.new (π.length+q) (by show m0.length≤_;omega) (by omega) with hn | ⟨a,ha,hn⟩
   ·exact .inl (Nat.le_trans hm.size hn)
   ·obtain ⟨p,D,hp',hlt,_⟩:=b9 a (by rw [hlen];exact ha)
    have e:ι1.pos (π.length+q)=ι.pos p:=hn.trans (k9 a p hp').1
    rw [e]
    by_cases hpk:p<β.k
    ·exact .inr ⟨p,hpk,(hlo p hlt).1⟩
    ·rcases hm.new p (by omega) hlt with hn | ⟨j,hj,hn⟩
     ·exact .inl hn
     ·exact .inr ⟨j,hj,by rw [hn];exact (hlo j (Nat.lt_of_lt_of_le hj hm.len)).1⟩
 ·rw [← hm.old b hb fun i hi'=>by
   have:=hi i (by rw [hml];omega)
   rwa [← (hlo i hi').1] at this]
  refine h'.old b (Nat.lt_of_lt_of_le hb hm.size) fun j hj=>?_
  obtain ⟨p,hp⟩:=has j hj
  rw [(loc1 j p hj hp).1]
  obtain ⟨p',C',hp',hC',_⟩:=hs.at_ j _ (List.getElem?_eq_getElem hj)
  rw [hp,Option.some.injEq] at hp';subst hp'
  exact hi p (List.getElem?_eq_some_iff.1 hC').1
 ·by_cases hc:k<m.length
  ·rw [← (hlo k hc).1];exact hm.xd i j a n c hv Z k hc
  ·obtain ⟨q,rfl⟩:∃ q,k=m.length+q:=⟨k-m.length,by omega⟩
   rw [(i8 q).1]
   rw [← hI] at hv Z
   exact h'.xd i j a n c hv Z _ (by omega)
end
def uE (H:Hyp):List Seg→List Seg→Bool
 | [],[]=>true
 | l,[.run k n A 0]=>decide (l=[.run k n A 0])||(fS k l&&decide (mJ H 1 l=some n)&&decide (aDC H l=some A))
 | x::l,y::r=>decide (x=y)&&uE H l r
 | _,_=>false
def lT (H:Hyp) (lo hi:Int):E→Bool
 | .av n=>inB (nD H.a n) lo hi
 | .app f _=>inB (nD H.fa f) lo hi
 | .upd A _ x=>inB (rng H x) lo hi&&lT H lo hi A
 | .blt A _ _ B _=>lT H lo hi A&&lT H lo hi B
 | .ite _ A B=>lT H lo hi A&&lT H lo hi B
 | .tab l=>decide (lo≤0)&&decide (0≤hi)&&l.all fun z=>decide (lo≤z)&&decide (z≤hi)
 | _=>false
def bFL (H0 H:Hyp) (σ:Sb):Bool :=
 (H0.e.all fun p=>inB (rng H (sb H σ p.1 0)) p.2.1 p.2.2)&&(H0.a.all fun p=>lT H p.2.1 p.2.2 (sb H σ (.av p.1) 2))&&bPr H0.fi H.fi&&bPr H0.fa H.fa&&(H0.b.all fun p=>decide (fQ H (sb H σ p.1 1)=.blit p.2))&&H0.x.isEmpty
def yR (H:Hyp) (σ:Sb) (π0:List Nat) (m:Mem):Mem→List Nat→Bool
 | [],[]=>true
 | B::l,p::r=>(match m[p]? with
   | some C=>!B.dead&&!C.dead&&decide (B.ty=C.ty)&&decide (B.wr=C.wr)&&decide (B.grow=C.grow)&&aHO H C&&uE H C.aH ((B.aH.map (sbG H σ)).map (mI π0))
   | none=>false)&&yR H σ π0 m l r
 | _,_=>false
section
variable {ρ:Env} {β:dN} {ι ι1:Loc} {m m0 m1:Mem} {w w':World} {π:List Nat} {H H0:Hyp} {σ:Sb}
theorem bAg (hH:H.ok ρ):∀ {l r:List Seg},uE H l r=true→cellsOf ρ ι r=cellsOf ρ ι l:=by
 intro l r
 induction l,r using uE.induct with
 | case1=>intro _;rfl
 | case2 l k n A =>
   intro h
   simp only [uE,Bool.or_eq_true,Bool.and_eq_true,decide_eq_true_eq] at h
   rcases h with h | ⟨⟨G,J⟩,O⟩
   ·rw [h]
   ·obtain ⟨hn,hl⟩:=iC (ι:=ι) hH J
    have hA:=oX (ι:=ι) hH O
    rw [Nat.mul_one] at hl
    simp only [cellsOf,List.flatMap_cons,List.flatMap_nil,List.append_nil,Seg.cells]
    apply List.ext_getElem?
    intro j
    rw [List.getElem?_map]
    by_cases hj:j<(n.i ρ).toNat
    ·rw [List.getElem?_range hj]
     have hj':j<(cellsOf ρ ι l).length:=by omega
     have hv:=List.getElem?_eq_getElem hj'
     obtain ⟨z,hz⟩:=rA (ρ:=ρ) (ι:=ι) G _ (List.getElem_mem hj')
     have:=hA j hj'
     rw [hv,hz] at this
     change _=(cellsOf ρ ι l)[j]?
     rw [hv,hz]
     simp only [Option.map_some,Nat.zero_add,this,Option.getD_some,kJ]
    ·rw [List.getElem?_eq_none (by simpa using hj),Option.map_none]
     exact (List.getElem?_eq_none (by change (cellsOf ρ ι l).length≤j;omega)).symm
 | case3 x l y r _ ih =>
   intro h
   simp only [uE,Bool.and_eq_true,decide_eq_true_eq] at h
   obtain ⟨rfl,J⟩:=h
   rw [aG,aG,ih J]
 | case4 l r G J O =>
   intro h
   unfold uE at h
   split at h <;> first | rfl | exact (O _ _ _ _ rfl rfl).elim | exact (J _ _ _ _ rfl rfl).elim | (exfalso;simp_all;done) | cases h
theorem aHD {r:Option Rng} {lo hi z:Int} (h:inB r lo hi=true) (hz:∀ q,r=some q→inR q z):lo≤z∧z≤hi:=by
 unfold inB at h
 split at h
 ·rename_i a b
  have:=hz _ rfl
  simp only [Bool.and_eq_true,decide_eq_true_eq] at h
  simp only [inR] at this;omega
 ·cases h
theorem lM (hH:H.ok ρ) {lo hi:Int}:∀ (e:E),lT H lo hi e=true→∀ j,lo≤e.a ρ j∧e.a ρ j≤hi
 | .av n,h,j=>aHD h fun q hq=>hH.a _ (gI hq) j
 | .app f x,h,j=>by rw [zB];exact aHD h fun q hq=>hH.fa _ (gI hq) _ _ _ _
 | .upd A i x,h,j=>by
   simp only [lT,Bool.and_eq_true] at h
   rw [cC]
   by_cases hj:j=(i.i ρ).toNat
   ·simp only [if_pos hj];exact aHD h.1 fun q hq=>dG hH x q hq
   ·simp only [if_neg hj];exact lM hH A h.2 j
 | .blt A i n B q,h,j=>by
   simp only [lT,Bool.and_eq_true] at h
   rw [nP]
   simp only
   split
   ·exact lM hH B h.2 _
   ·exact lM hH A h.1 j
 | .ite c A B,h,j=>by
   simp only [lT,Bool.and_eq_true] at h
   rw [cD]
   split
   ·exact lM hH A h.1 j
   ·exact lM hH B h.2 j
 | .tab l,h,j=>by
   simp only [lT,Bool.and_eq_true,decide_eq_true_eq,List.all_eq_true] at h
   rw [cB]
   simp only [List.getD_eq_getElem?_getD]
   cases hz:l[j]? with
   | none=>simp only [Option.getD_none];omega
   | some z =>
     have:=h.2 z (List.mem_of_getElem? hz)
     simp only [Option.getD_some];exact this
theorem bFM (h:bFL H0 H σ=true) (hH:H.ok ρ):H0.ok (σ.env ρ):=by
 simp only [bFL,Bool.and_eq_true,List.all_eq_true] at h
 obtain ⟨⟨⟨⟨⟨G,J⟩,O⟩,h4⟩,h5⟩,h6⟩:=h
 refine ⟨fun p hp=>?_,fun p hp=>?_,fun p hp j=>?_,fun p hp is bs xs=>?_,fun p hp is bs xs j=>?_,fun p hp=>?_⟩
 ·rw [List.isEmpty_iff] at h6;rw [h6] at hp;cases hp
 ·have:=aHD (G p hp) fun q hq=>dG hH _ q hq
  rw [sbI hH] at this;exact this
 ·have:=lM hH _ (J p hp) j
  rw [sbA hH] at this;exact this
 ·exact aZH (T:=fun n z=>∃ is bs xs,z=ρ.I.fi n is bs xs) O (fun p hp z hz=>by obtain ⟨is,bs,xs,rfl⟩:=hz;exact hH.fi p hp is bs xs) p hp _ ⟨is,bs,xs,rfl⟩
 ·exact aZH (T:=fun n z=>∃ is bs xs j,z=ρ.I.fa n is bs xs j) h4 (fun p hp z hz=>by obtain ⟨is,bs,xs,j,rfl⟩:=hz;exact hH.fa p hp is bs xs j) p hp _ ⟨is,bs,xs,j,rfl⟩
 ·have h7:=of_decide_eq_true (h5 p hp)
  have e:=jP hH (sb H σ p.1 1)
  rw [h7,aP,sbB hH] at e
  exact e.symm
end
def setAt:List Nat→Mem→Mem→Mem
 | p::r,B::l,m=>setAt r l (m.set p B)
 | _,_,m=>m
def rX (H:Hyp) (σ:Sb) (π2:List Nat) (B:Blk):Blk:={ B with aH:=((B.aH.map (sbG H σ)).map (sZ H)).map (mI π2) }
def tH (H:Hyp) (σ:Sb) (π:List Nat) (m m1:Mem):Mem :=
 setAt π (m1.map (rX H σ (cX π m.length m1.length))) m++(m1.map (rX H σ (cX π m.length m1.length))).drop π.length
def scM (m:Mem):Bool:=m.all fun B=>B.aH.all (Seg.sc m.length)
theorem aSE {ρ:Env} {ι:Loc} {H:Hyp} (hH:H.ok ρ) (l:List Seg):cellsOf ρ ι (l.map (sZ H))=cellsOf ρ ι l:=by
 unfold cellsOf
 rw [List.flatMap_map]
 congr 1;funext s
 cases s with
 | one x=>simp only [sZ,Seg.cells,uR hH]
 | _=>rfl
def fC (find:Hyp→List SV→Mem→Option (Sb × List Nat)) (H0:Hyp) (U:List SV) (m0:Mem) (Q:List E) (v0:SV) (om:Option Mem):Spec:=fun H l m =>
 match find H l m with
 | none=>none
 | some (σ,π) =>
   if decide π.Nodup&&yR H σ π m m0 π&&decide (l=U.map fun x=>lJ π (sbV H σ x))&&bFL H0 H σ&&scM m&&scM (om.getD m0)&&v0.sc (om.getD m0).length&&decide (π.length≤(om.getD m0).length)
    && decide ((gX v0).isSome=(gX (lJ (cX π m.length (om.getD m0).length) (sbV H σ v0))).isSome)
   then some (Q.map (fun e=>sb H σ e 1),lJ (cX π m.length (om.getD m0).length) (sbV H σ v0),some (match om with | none=>m | some m1=>tH H σ π m m1))
   else none
section
variable {ρ:Env} {β:dN} {ι ι1:Loc} {m m0 m1:Mem} {w w':World} {π:List Nat} {H H0:Hyp} {σ:Sb}
theorem lR:∀ (π:List Nat) (l m:Mem),(setAt π l m).length=m.length
 | [],_,_=>by simp [setAt]
 | _::_,[],_=>by simp [setAt]
 | p::r,B::l,m=>by rw [setAt,lR r l];simp
theorem rV {i:Nat}:∀ (π:List Nat) (l m:Mem),i ∉ π→(setAt π l m)[i]? = m[i]?
 | [],_,_,_=>by simp [setAt]
 | _::_,[],_,_=>by simp [setAt]
 | p::r,B::l,m,h=>by
   simp only [List.mem_cons,not_or] at h
   rw [setAt,rV r l _ h.2,List.getElem?_set_ne (fun e=>h.1 e.symm)]
theorem aSY {p:Nat} {B:Blk}:∀ (π:List Nat) (l m:Mem) (j:Nat),π.Nodup→(∀ q ∈ π,q<m.length)→π[j]? = some p→l[j]? = some B→(setAt π l m)[p]? = some B
 | [],_,_,j,_,_,h,_=>by simp at h
 | _::_,[],_,j,_,_,_,h=>by simp at h
 | q::r,C::l,m,0,hn,hl,h,h'=>by
   simp only [List.getElem?_cons_zero,Option.some.injEq] at h h'
   subst h;subst h'
   have hq:=(List.nodup_cons.1 hn).1
   rw [setAt,rV r l _ hq,List.getElem?_set_self (hl q (.head _))]
 | q::r,C::l,m,j+1,hn,hl,h,h'=>by
   simp only [List.getElem?_cons_succ] at h h'
   rw [setAt]
   exact aSY r l _ j (List.nodup_cons.1 hn).2 (fun x hx=>by rw [List.length_set];exact hl x (.tail _ hx)) h h'
theorem aGp (hH:H.ok ρ) (hm:aK ρ β ι m w):∀ {l:Mem} {r:List Nat},yR H σ π m l r=true→r.length=l.length∧(∀ (j:Nat) (B:Blk),l[j]? = some B→∃ (p:Nat) (C:Blk),r[j]? = some p∧m[p]? = some C∧B.dead=false∧C.dead=false∧B.ty=C.ty∧B.wr=C.wr∧B.grow=C.grow∧cellsOf (σ.env ρ) (piv π ι) B.aH=cellsOf ρ ι C.aH)∧∀ p ∈ r,ι.nil p=false
 | [],[],_=>⟨rfl,fun j B h=>by simp at h,fun p hp=>by cases hp⟩
 | B::l,p::r,h=>by
   simp only [yR,Bool.and_eq_true] at h
   obtain ⟨G,J,h2'⟩:=aGp hH hm h.2
   have O:=h.1
   split at O
   ·rename_i C hC
    simp only [Bool.and_eq_true,decide_eq_true_eq,Bool.not_eq_true'] at O
    obtain ⟨⟨⟨⟨⟨⟨a1,a2⟩,a3⟩,a4⟩,a5⟩,a6⟩,a7⟩:=O
    refine ⟨by simp [G],fun j D hD=>?_,fun q hq=>?_⟩
    ·cases j with
     | zero =>
       simp only [List.getElem?_cons_zero,Option.some.injEq] at hD;subst hD
       refine ⟨p,C,rfl,hC,a1,a2,a3,a4,a5,?_⟩
       rw [← bAg hH a7,jZ,wS hH]
     | succ j=>simpa using J j D (by simpa using hD)
    ·rcases List.mem_cons.1 hq with rfl | hq
     ·exact aGm hH hm hC a2 a6
     ·exact h2' q hq
   ·cases O
 | [],_::_,h=>by simp [yR] at h
 | _::_,[],h=>by simp [yR] at h
theorem bCB (hH:H.ok ρ) {v0:SV} {π2:List Nat} (h:(gX v0).isSome=(gX (lJ π2 (sbV H σ v0))).isSome):fA (σ.env ρ) (piv π2 ι) v0=fA ρ ι (lJ π2 (sbV H σ v0)):=by
 cases hp:gX v0 with
 | some x =>
   obtain ⟨⟨t,k,e,rfl⟩,rfl⟩:=pT hp
   have V:lJ π2 (sbV H σ (aDd (.ifc t k e)))=aDd (.ifc t k (sb H σ e 0)):=rfl
   rw [V]
   show Ending.panicked [aUv ((S.ifc t k e).aC (σ.env ρ) (piv π2 ι))]=Ending.panicked [aUv ((S.ifc t k (sb H σ e 0)).aC ρ ι)]
   simp only [S.aC,sbI hH]
 | none =>
   rw [hp] at h
   have hp2:gX (lJ π2 (sbV H σ v0))=none:=by
    cases hq:gX (lJ π2 (sbV H σ v0)) with
    | none=>rfl
    | some y=>rw [hq] at h;cases h
   simp only [fA,hp,hp2]
   rw [aAE,bEV hH]
theorem bAy {π:List Nat} {n1:Nat} (hn:π.length=m0.length) (hlt:∀ p ∈ π,p<m.length):Loc.bV m0.length (piv π ι) (piv (cX π m.length m0.length) (cO ι m.length m0.length ι1)):=fun j hj=>by
 have hj':j<π.length:=by omega
 have hp:=List.getElem?_eq_getElem hj'
 have hq:=jY (K:=m.length) (n1:=m0.length) hp
 have hl:=kH (ι:=ι) m.length m0.length ι1 _ (hlt _ (List.getElem_mem hj'))
 exact ⟨(dE hp).trans (hl.1.trans (dE hq).symm),(bN hp).1.trans (hl.2.1.trans (bN hq).1.symm),(bN hp).2.trans (hl.2.2.trans (bN hq).2.symm)⟩
theorem aGh {P:Program} {I:Interp} {f:FuncId} {find:Hyp→List SV→Mem→Option (Sb × List Nat)} {U:List SV} {Q:List E} {v0:SV} {om:Option Mem}
 (hs:∀ (σ:Sb) (π:List Nat) (H:Hyp) (l:List SV) (m:Mem),find H l m=some (σ,π)→∀ (ρ:Env) (β:dN) (ι:Loc) (w:World),ρ.I=I→H0.ok (σ.env ρ)→bD (σ.env ρ) Q→aK (σ.env ρ) β ι m0 w →
   Calls P f (U.map (SV.aC (σ.env ρ) ι)).toArray w fun e w'=>match om with
    | none=>e=fA (σ.env ρ) ι v0∧aK (σ.env ρ) β ι m0 w'
    | some m'=>∃ ι',Loc.bV m0.length ι ι'∧e=fA (σ.env ρ) ι' v0∧aK (σ.env ρ) β ι' m' w'):aX P I f (fC find H0 U m0 Q v0 om):=by
 constructor
 intro H l m nd v om' h ρ β ι w hI hH hn hm
 unfold fC at h
 split at h
 ·cases h
 ·rename_i σ π hfind
  split at h
  ·rename_i hc
   simp only [Bool.and_eq_true,decide_eq_true_eq] at hc
   obtain ⟨⟨⟨⟨⟨⟨⟨⟨c1,c2⟩,c3⟩,c4⟩,c5⟩,c6⟩,c7⟩,c8⟩,c9⟩:=hc
   simp only [Option.some.injEq,Prod.mk.injEq] at h
   obtain ⟨rfl,rfl,rfl⟩:=h
   obtain ⟨p1,p2,p3⟩:=aGp (ι:=ι) hH hm c2
   have hP:bBO ρ (σ.env ρ) ι π m m0:=⟨c1,p1,p2,p3⟩
   have hlt:∀ p ∈ π,p<m.length:=fun p hp=>by
    obtain ⟨j,hj⟩:=List.getElem?_of_mem hp
    have hjl:j<m0.length:=by have:=(List.getElem?_eq_some_iff.1 hj).1;omega
    obtain ⟨p',C,hp',hC,_⟩:=p2 j _ (List.getElem?_eq_getElem hjl)
    rw [hj,Option.some.injEq] at hp';subst hp'
    exact (List.getElem?_eq_some_iff.1 hC).1
   have hnd:bD (σ.env ρ) Q:=fun e he=>by
    have:=hn _ (List.mem_map.2 ⟨e,he,rfl⟩)
    rw [sbB hH] at this;exact this
   have G:=hs σ π H l m hfind ρ ⟨w,m0.length,piv π ι⟩ (piv π ι) w hI (bFM c4 hH) hnd (hm.pickG hP rfl)
   have hargs:l.map (SV.aC ρ ι)=U.map (SV.aC (σ.env ρ) (piv π ι)):=by
    rw [c3,List.map_map]
    refine List.map_congr_left fun x _=>?_
    show SV.aC ρ ι (lJ π (sbV H σ x))=_
    rw [aAE,bEV hH]
   rw [hargs]
   have fin:∀ (m1 m':Mem) (ι1:Loc) (e:Ending) (w':World),π.length≤m1.length→scM m1=true→v0.sc m1.length=true→(gX v0).isSome=(gX (lJ (cX π m.length m1.length) (sbV H σ v0))).isSome →
    e=fA (σ.env ρ) ι1 v0→aK (σ.env ρ) ⟨w,m0.length,piv π ι⟩ ι1 m1 w'→Loc.bV m0.length (piv π ι) ι1→aVt ρ (σ.env ρ) (cO ι m.length m0.length ι1) π m m1 m' →
    ∃ ι',Loc.bV m.length ι ι'∧e=fA ρ ι' (lJ (cX π m.length m1.length) (sbV H σ v0))∧aK ρ β ι' m' w':=fun m1 m' ι1 e w' d1 d2 d3 d4 d5 d6 d7 d8=>by
    refine ⟨cO ι m.length m0.length ι1,kH _ _ _,?_,hm.bIG hP rfl d6 d8 c5 d2⟩
    rw [d5,← bCB hH d4]
    refine uD (k:=m1.length) (fun j hj=>?_) d3
    by_cases hc:j<π.length
    ·have hp:=List.getElem?_eq_getElem hc
     have hq:=jY (K:=m.length) (n1:=m1.length) hp
     have hl:=kH (ι:=ι) m.length m0.length ι1 _ (hlt _ (List.getElem_mem hc))
     have ha:=d7 j (by omega)
     exact ⟨ha.1.symm.trans ((dE hp).trans (hl.1.trans (dE hq).symm)),ha.2.1.symm.trans ((bN hp).1.trans (hl.2.1.trans (bN hq).1.symm)),ha.2.2.symm.trans ((bN hp).2.trans (hl.2.2.trans (bN hq).2.symm))⟩
    ·obtain ⟨q,rfl⟩:∃ q,j=π.length+q:=⟨j-π.length,by omega⟩
     have hq:=pU (K:=m.length) hj
     have hno:¬ m.length+q<m.length:=by omega
     refine ⟨?_,?_,?_⟩
     ·rw [dE hq];simp only [cO,if_neg hno,Nat.add_sub_cancel_left,p1]
     ·rw [(bN hq).1];simp only [cO,if_neg hno,Nat.add_sub_cancel_left,p1]
     ·rw [(bN hq).2];simp only [cO,if_neg hno,Nat.add_sub_cancel_left,p1]
   refine G.mono fun e w' J=>?_
   cases om with
   | none =>
     refine fin m0 m (piv π ι) e w' (by omega) c6 c7 c9 J.1 J.2 (Loc.bV.refl _ _) ⟨by omega,by omega,fun _ _ _=>rfl,fun j B hB=>?_⟩
     obtain ⟨p,C,hp,hC,a1,a2,a3,a4,a5,a6⟩:=p2 j B hB
     refine ⟨p,C,jY hp,hC,a1.trans a2.symm,a3,a4,a5,?_⟩
     rw [← bK (bAy (n1:=0) p1 hlt) (List.all_eq_true.1 c6 _ (List.mem_of_getElem? hB)),a6]
     exact bK (kH _ _ _) (List.all_eq_true.1 c5 _ (List.mem_of_getElem? hC))
   | some m1 =>
     obtain ⟨ι1,V,e2,e3⟩:=J
     refine fin m1 (tH H σ π m m1) ι1 e w' c8 c6 c7 c9 e2 e3 V ⟨?_,c8,fun i hi hp=>?_,fun j B hB=>?_⟩
     ·simp [tH,lR]
     ·rw [tH,List.getElem?_append_left (by rw [lR];exact hi),rV _ _ _ hp]
     ·have hj:=(List.getElem?_eq_some_iff.1 hB).1
      have cells:cellsOf (σ.env ρ) (piv (cX π m.length m1.length) (cO ι m.length m0.length ι1)) B.aH=cellsOf ρ (cO ι m.length m0.length ι1) (rX H σ (cX π m.length m1.length) B).aH:=by
       simp only [rX];rw [jZ,aSE hH,wS hH]
      have hmap:(m1.map (rX H σ (cX π m.length m1.length)))[j]? = some (rX H σ (cX π m.length m1.length) B):=by rw [List.getElem?_map,hB];rfl
      by_cases hc:j<π.length
      ·have hp:=List.getElem?_eq_getElem hc
       refine ⟨_,rX H σ (cX π m.length m1.length) B,jY hp,?_,rfl,rfl,rfl,rfl,cells⟩
       rw [tH,List.getElem?_append_left (by rw [lR];exact hlt _ (List.getElem_mem hc))]
       exact aSY _ _ _ j c1 hlt hp hmap
      ·obtain ⟨q,rfl⟩:∃ q,j=π.length+q:=⟨j-π.length,by omega⟩
       refine ⟨_,rX H σ (cX π m.length m1.length) B,pU hj,?_,rfl,rfl,rfl,rfl,cells⟩
       rw [tH,List.getElem?_append_right (by rw [lR];omega),lR,Nat.add_sub_cancel_left,List.getElem?_drop]
       exact hmap
  ·cases h
theorem gG {P:Program} {I:Interp} {f:FuncId} {s:Spec} {find:Hyp→List SV→Mem→Option (Sb × List Nat)} {U:List SV} {Q:List E} {v0:SV} {om:Option Mem} (hs:aX P I f s) (Z:s H0 U m0=some (Q,v0,om)):aX P I f (fC find H0 U m0 Q v0 om) :=
 aGh fun σ _ _ _ _ _ ρ β ι w hI hH hn hm=>hs.ok H0 U m0 Q v0 om Z (σ.env ρ) β ι w hI hH hn hm
end
structure MS where
 i:List (Nat × E)
 b:List (Nat × E)
 a:List (Nat × E)
 π:List (Nat × Nat)
def aAX {α:Type} (l:List (Nat × α)) (n:Nat) (d:α):α:=match l with
 | []=>d
 | (k,x)::r=>cond (Nat.beq k n) x (aAX r n d)
def mE:E→E→MS→MS
 | .v n,e,s=>{ s with i:=(n,e)::s.i }
 | .bv n,e,s=>{ s with b:=(n,e)::s.b }
 | .av n,e,s=>{ s with a:=(n,e)::s.a }
 | .app _ p,.app _ e,s=>mE p e s
 | .cons p q,.cons e f,s=>mE q f (mE p e s)
 | .add p q,.add e f,s | .sub p q,.sub e f,s | .mul p q,.mul e f,s | .div p q,.div e f,s | .mod p q,.mod e f,s | .sel p q,.sel e f,s | .eq p q,.eq e f,s | .lt p q,.lt e f,s | .le p q,.le e f,s | .and p q,.and e f,s | .or p q,.or e f,s=>mE q f (mE p e s)
 | .not p,.not e,s=>mE p e s
 | .ite p q r,.ite e f g,s | .upd p q r,.upd e f g,s=>mE r g (mE q f (mE p e s))
 | .blt p q r t u,.blt e f g h k,s=>mE u k (mE t h (mE r g (mE q f (mE p e s))))
 | _,_,s=>s
def mB (p b:Nat) (s:MS):MS:=if s.π.any (fun q=>Nat.beq q.1 p) then s else { s with π:=s.π++[(p,b)] }
def mS:S→S→MS→MS
 | .int _ p,.int _ e,s=>mE p e s
 | .bool p,.bool e,s=>mE p e s
 | .ptr b o,.ptr b' o',s=>mE o o' (mB b b' s)
 | .slc b o l c,.slc b' o' l' c',s=>mE o o' (mE l l' ((match c,c' with | .kn x,.kn y=>mE x y | .op x,.op y=>mE x y | .tl x y _,.tl x' y' _=>fun s=>mE x x' (mE y y' s) | _,_=>id) (mB b b' s)))
 | .fn _ l,.fn _ l',s=>(l.zip l').foldl (fun s p=>mE p.1.2 p.2.2 (mB p.1.1 p.2.1 s)) s
 | .ifc _ _ p,.ifc _ _ e,s=>mE p e s
 | _,_,s=>s
def aSp (H:Hyp):List Seg→List Seg→MS→MS
 | [.run _ n A 0],l,s=>match mJ H 1 l,aDC H l with
   | some n',some A'=>mE n n' (mE A A' s)
   | _,_=>s
 | .one p::r,.one x::l,s=>aSp H r l (mS p x s)
 | .run _ n A _::r,.run _ n' A' _::l,s=>aSp H r l (mE n n' (mE A A' s))
 | .rows n fs _::r,.rows n' fs' _::l,s=>aSp H r l (mE n n' ((fs.zip fs').foldl (fun s p=>mE p.1.2 p.2.2 s) s))
 | _,_,s=>s
def mV (H:Hyp):SV→SV→MS→MS
 | .s p,.s x,s=>mS p x s
 | .agg p,.agg x,s=>aSp H p x s
 | _,_,s=>s
def bKx (H:Hyp) (m0 m:Mem):Nat→Nat→MS→MS
 | 0,_,s=>s
 | k+1,j,s=>match s.π[j]? with
   | none=>s
   | some (b0,b)=>bKx H m0 m k (j+1) (match m0[b0]?,m[b]? with
     | some B,some C=>aSp H B.aH C.aH s
     | _,_=>s)
def fK (ni nb na:Nat) (U:List SV) (m0:Mem):Hyp→List SV→Mem→Option (Sb × List Nat):=fun H l m =>
 if decide (l.length=U.length) then
  let s:=bKx H m0 m m0.length 0 ((U.zip l).foldl (fun s p=>mV H p.1 p.2 s) ⟨[],[],[],[]⟩)
  some (⟨(List.range ni).map fun n=>aAX s.i n (.lit 0),(List.range nb).map fun n=>aAX s.b n (.blit false),(List.range na).map fun n=>aAX s.a n (.tab [])⟩,(List.range m0.length).map fun b=>aAX s.π b m.length)
 else none
noncomputable def aZO (H0:Hyp) (U:List SV) (m0:Mem) (nd:List E) (v:SV) (om:Option Mem):Spec:=fun H l m=>@ite _ (H=H0∧l=U∧m=m0) (Classical.propDecidable _) (some (nd,v,om)) none
theorem aTq {P:Program} {I:Interp} {f:FuncId} {s:Spec} {H0:Hyp} {U:List SV} {m0:Mem} {Q nd:List E} {v0:SV} {om:Option Mem} (hs:aX P I f s) (Z:s H0 U m0=some (Q,v0,om))
 (hw:∀ ρ:Env,ρ.I=I→H0.ok ρ→bD ρ nd→bD ρ Q):aX P I f (aZO H0 U m0 nd v0 om):=by
 constructor
 intro H l m nd' v om' h ρ β ι w hI hH hn hm
 unfold aZO at h
 split at h
 ·rename_i hc
  obtain ⟨rfl,rfl,rfl⟩:=hc
  simp only [Option.some.injEq,Prod.mk.injEq] at h
  obtain ⟨rfl,rfl,rfl⟩:=h
  exact hs.1 _ _ _ _ _ _ Z ρ β ι w hI hH (hw ρ hI hH hn) hm
 ·cases h
theorem aTp (H0:Hyp) (U:List SV) (m0:Mem) (nd:List E) (v:SV) (om:Option Mem):aZO H0 U m0 nd v om H0 U m0=some (nd,v,om):=by
 unfold aZO;rw [if_pos ⟨rfl,rfl,rfl⟩]
def vN (u:Int→List SV) (e:E) (s:Spec) (H:Hyp) (m:Mem) (j:Int):Option (List E × SV × Option Mem) :=
 match s { H with e:=(e,(j,j))::H.e } (u j) m with
 | some (nd,v,om)=>if dL v then none else some (nd.map (imp [mkEq H e (.lit j)]),v,om)
 | none=>none
def aIx (c:E) (m:Mem) (v1 v2:SV) (o1 o2:Option Mem):Option (SV × Option Mem):=match aCL c v1 v2 with
 | some v=>(match o1,o2 with
   | none,none=>some (v,none)
   | o1,o2=>match gU c (o1.getD m) (o2.getD m) with
     | some mm=>some (v,some mm)
     | none=>none)
 | none=>none
def aBb (u:Int→List SV) (e:E) (s:Spec) (H:Hyp) (m:Mem):List Int→Option (List E × SV × Option Mem)
 | []=>none
 | [j]=>vN u e s H m j
 | j::js=>match vN u e s H m j,aBb u e s H m js with
   | some (n1,v1,o1),some (n2,v2,o2)=>(match aIx (mkEq H e (.lit j)) m v1 v2 o1 o2 with
     | some (v,om)=>if dL v then none else some (n1++n2,v,om)
     | none=>none)
   | _,_=>none
def qX (a:Int):Nat→List Int
 | 0=>[]
 | n+1=>a::qX (a+1) n
def aEt (i:Nat) (most:Nat) (s:Spec):Spec:=fun H l m=>match l[i]? with
 | some (.s (.int k e))=>(match e with
   | .lit _=>s H l m
   | e=>match rng H e with
     | some (a,b)=>if a≤b∧b-a<most then aBb (fun j=>l.set i (.s (.int k (.lit j)))) e s H m (qX a (b-a+1).toNat) else none
     | none=>none)
 | _=>s H l m
section
variable {P:Program} {I:Interp} {f:FuncId} {s:Spec}
theorem wC:∀ (n:Nat) (a z:Int),a≤z→z<a+n→z ∈ qX a n
 | 0,a,z,G,J=>by omega
 | n+1,a,z,G,J=>by
   unfold qX
   by_cases h:z=a
   ·subst h;exact .head _
   ·exact .tail _ (wC n (a+1) z (by omega) (by omega))
def qJ (ρ:Env) (β:dN) (ι:Loc) (m:Mem) (v:SV) (om:Option Mem) (r:Ending) (w':World):Prop :=
 ∃ ι',Loc.bV m.length ι ι'∧r=.returned (v.aC ρ ι')∧aK ρ β ι' (om.getD m) w'∧(om=none→ι'=ι)
theorem aBc (hs:aX P I f s) {u:Int→List SV} {e:E} {H:Hyp} {l:List SV} {m:Mem} {j:Int} {nd:List E} {v:SV} {om:Option Mem}
 (h:vN u e s H m j=some (nd,v,om)) {ρ:Env} {β:dN} {ι:Loc} {w:World} (hl:∀ j,e.i ρ=j→(u j).map (SV.aC ρ ι)=l.map (SV.aC ρ ι)) (hI:ρ.I=I) (hH:H.ok ρ) (hn:bD ρ nd) (hm:aK ρ β ι m w) (he:e.i ρ=j) :
 Calls P f (l.map (SV.aC ρ ι)).toArray w (qJ ρ β ι m v om):=by
 unfold vN at h
 split at h
 ·rename_i nd' v' om' hq
  split at h
  ·cases h
  ·rename_i hp
   simp only [Bool.not_eq_true] at hp
   simp only [Option.some.injEq,Prod.mk.injEq] at h
   obtain ⟨rfl,rfl,rfl⟩:=h
   have hH':Hyp.ok { H with e:=(e,(j,j))::H.e } ρ:=⟨hH.x,fun p hp=>by rcases List.mem_cons.1 hp with rfl | hp;exact ⟨Int.le_of_eq he.symm,Int.le_of_eq he⟩;exact hH.e p hp,hH.a,hH.fi,hH.fa,hH.b⟩
   have hc:(mkEq H e (.lit j)).b ρ=true:=by rw [gK hH,aF,he];exact decide_eq_true rfl
   have hn':bD ρ nd':=gO hn (fun x hx=>by
    have:x=mkEq H e (.lit j):=by simpa using hx
    rw [this];exact hc)
   have hargs:=hl j he
   have:=hs.ok _ _ _ _ _ _ hq ρ β ι w hI hH' hn' hm
   rw [hargs] at this
   refine this.mono fun r w' hr=>?_
   cases om' with
   | none=>exact ⟨ι,fun _ _=>⟨rfl,rfl,rfl⟩,by rw [hr.1,aW hp],hr.2,fun _=>rfl⟩
   | some m' =>
     obtain ⟨ι',G,J,O⟩:=hr
     exact ⟨ι',G,by rw [J,aW hp],O,fun h=>by cases h⟩
 ·cases h
theorem bCo (hs:aX P I f s) {u:Int→List SV} {e:E} {H:Hyp} {l:List SV} {m:Mem} {ρ:Env} {β:dN} {ι:Loc} {w:World} (hl:∀ j,e.i ρ=j→(u j).map (SV.aC ρ ι)=l.map (SV.aC ρ ι)) (hI:ρ.I=I) (hH:H.ok ρ) (hm:aK ρ β ι m w) :
 ∀ (js:List Int) (nd:List E) (v:SV) (om:Option Mem),aBb u e s H m js=some (nd,v,om)→bD ρ nd→e.i ρ ∈ js →
  dL v=false∧Calls P f (l.map (SV.aC ρ ι)).toArray w (qJ ρ β ι m v om):=by
 intro js
 induction js with
 | nil=>intro nd v om h;simp [aBb] at h
 | cons j js ih =>
   intro nd v om h hn he
   cases js with
   | nil =>
     have hj:e.i ρ=j:=by simpa using he
     refine ⟨?_,aBc hs h hl hI hH hn hm hj⟩
     unfold aBb vN at h
     split at h
     ·split at h
      ·cases h
      ·rename_i hp
       simp only [Bool.not_eq_true] at hp
       simp only [Option.some.injEq,Prod.mk.injEq] at h
       obtain ⟨_,rfl,_⟩:=h;exact hp
     ·cases h
   | cons j2 js =>
     unfold aBb at h
     split at h
     ·rename_i n1 v1 o1 n2 v2 o2 G J
      split at h
      ·rename_i v' om' hj
       split at h
       ·cases h
       ·rename_i hp
        simp only [Bool.not_eq_true] at hp
        simp only [Option.some.injEq,Prod.mk.injEq] at h
        obtain ⟨rfl,rfl,rfl⟩:=h
        have a1:bD ρ n1:=fun x hx=>hn x (List.mem_append_left _ hx)
        have a2:bD ρ n2:=fun x hx=>hn x (List.mem_append_right _ hx)
        refine ⟨hp,?_⟩
        have hb:(mkEq H e (.lit j)).b ρ=decide (e.i ρ=j):=by rw [gK hH,aF]
        have key:∀ {r w'},(if (mkEq H e (.lit j)).b ρ then qJ ρ β ι m v1 o1 r w' else qJ ρ β ι m v2 o2 r w')→qJ ρ β ι m v' om' r w':=by
         intro r w' hc
         unfold aIx at hj
         split at hj
         ·rename_i vv hv
          have gv:∀ ι',SV.aC ρ ι' vv=if (mkEq H e (.lit j)).b ρ then SV.aC ρ ι' v1 else SV.aC ρ ι' v2:=fun ι'=>yG hv
          split at hj
          ·simp only [Option.some.injEq,Prod.mk.injEq] at hj
           obtain ⟨rfl,rfl⟩:=hj
           cases hq:(mkEq H e (.lit j)).b ρ <;> rw [hq] at hc gv <;> simp only [Bool.false_eq_true,if_false,if_true] at hc gv
           ·obtain ⟨ι',b1,b2,b3,b4⟩:=hc
            exact ⟨ι',b1,by rw [b2,gv],b3,b4⟩
           ·obtain ⟨ι',b1,b2,b3,b4⟩:=hc
            exact ⟨ι',b1,by rw [b2,gv],b3,b4⟩
          ·split at hj
           ·rename_i mm hmm
            simp only [Option.some.injEq,Prod.mk.injEq] at hj
            obtain ⟨rfl,rfl⟩:=hj
            cases hq:(mkEq H e (.lit j)).b ρ <;> rw [hq] at hc gv <;> simp only [Bool.false_eq_true,if_false,if_true] at hc gv
            ·obtain ⟨ι',b1,b2,b3,_⟩:=hc
             exact ⟨ι',b1,by rw [b2,gv],fV hmm (by rw [hq];simpa using b3),fun h=>by cases h⟩
            ·obtain ⟨ι',b1,b2,b3,_⟩:=hc
             exact ⟨ι',b1,by rw [b2,gv],fV hmm (by rw [hq];simpa using b3),fun h=>by cases h⟩
           ·cases hj
         ·cases hj
        by_cases hej:e.i ρ=j
        ·refine (aBc hs G hl hI hH a1 hm hej).mono fun r w' hr=>key ?_
         rw [hb,decide_eq_true hej];exact hr
        ·have he2:e.i ρ ∈ j2::js:=by
          rcases List.mem_cons.1 he with h | h
          ·exact absurd h hej
          ·exact h
         refine ((ih n2 v2 o2 J a2 he2).2).mono fun r w' hr=>key ?_
         rw [hb,decide_eq_false hej];simpa using hr
      ·cases h
     ·cases h
theorem bEX {ρ:Env} {ι:Loc} {l:List SV} {i:Nat} {x y:SV} (h:l[i]? = some x) (hy:y.aC ρ ι=x.aC ρ ι):(l.set i y).map (SV.aC ρ ι)=l.map (SV.aC ρ ι):=by
 apply List.ext_getElem?
 intro q
 rw [List.getElem?_map,List.getElem?_map,List.getElem?_set]
 split
 ·rename_i hq;subst hq
  split
  ·rw [h];simp only [Option.map_some,hy]
  ·rename_i hlt
   rw [List.getElem?_eq_none (by omega)] at h;cases h
 ·rfl
theorem aTG (hs:aX P I f s) {u:Int→List SV} {e:E} {a b:Int} {H:Hyp} {l:List SV} {m:Mem} {nd:List E} {v:SV} {om:Option Mem} (h:aBb u e s H m (qX a (b-a+1).toNat)=some (nd,v,om)) (hr:rng H e=some (a,b)) (hab:a≤b)
 {ρ:Env} {β:dN} {ι:Loc} {w:World} (hl:∀ j,e.i ρ=j→(u j).map (SV.aC ρ ι)=l.map (SV.aC ρ ι)) (hI:ρ.I=I) (hH:H.ok ρ) (hn:bD ρ nd) (hm:aK ρ β ι m w) {R:Ending→World→Prop}
 (Z:∀ r w',om=none→r=fA ρ ι v→aK ρ β ι m w'→R r w') (G:∀ r w' m' ι',om=some m'→Loc.bV m.length ι ι'→r=fA ρ ι' v→aK ρ β ι' m' w'→R r w') :
 Calls P f (l.map (SV.aC ρ ι)).toArray w R:=by
 have hr2:=dG hH _ _ hr
 simp only [inR] at hr2
 obtain ⟨hp,hk⟩:=bCo hs hl hI hH hm _ _ _ _ h hn (wC _ _ _ hr2.1 (by omega))
 refine hk.mono fun r w' hx=>?_
 obtain ⟨ι',b1,b2,b3,b4⟩:=hx
 cases om with
 | none =>
   have:=b4 rfl
   subst this
   exact Z r w' rfl (by rw [b2,aW hp]) b3
 | some m'=>exact G r w' m' ι' rfl b1 (by rw [b2,aW hp]) b3
theorem aIy (i:Nat) (most:Nat) (hs:aX P I f s):aX P I f (aEt i most s):=by
 constructor
 intro H l m nd v om h ρ β ι w hI hH hn hm
 unfold aEt at h
 split at h
 ·rename_i k e hl
  split at h
  ·exact hs.ok _ _ _ _ _ _ h ρ β ι w hI hH hn hm
  ·split at h
   ·rename_i a b hr
    split at h
    ·rename_i hc
     exact aTG hs h hr hc.1 (fun j hj=>bEX hl (by simp only [SV.aC,S.aC,aF,hj])) hI hH hn hm (fun r w' V e2 e3=>by subst V;exact ⟨e2,e3⟩) (fun r w' m' ι' V e2 e3 e4=>by subst V;exact ⟨ι',e2,e3,e4⟩)
    ·cases h
   ·cases h
 ·exact hs.ok _ _ _ _ _ _ h ρ β ι w hI hH hn hm
end
structure fI (P:Program) (I:Interp) (f:FuncId) (ni nb na:Nat) (s:Spec):Prop where
 ok:∀ H l m nd v om,s H l m=some (nd,v,om)→∀ (ρ:Env) (β:dN) (ι:Loc) (w:World),ρ.I=I→eF ρ ni nb na→H.ok ρ→bD ρ nd→aK ρ β ι m w →
  Calls P f (l.map (SV.aC ρ ι)).toArray w fun e w'=>match om with
   | none=>e=fA ρ ι v∧aK ρ β ι m w'
   | some m'=>∃ ι',Loc.bV m.length ι ι'∧e=fA ρ ι' v∧aK ρ β ι' m' w'
theorem fI.of {P:Program} {I:Interp} {f:FuncId} {ni nb na:Nat} {s:Spec} (h:aX P I f s):fI P I f ni nb na s :=
 ⟨fun H l m nd v om hs ρ β ι w hI _ hH hn hm=>h.ok H l m nd v om hs ρ β ι w hI hH hn hm⟩
def SEq (ρ' ρ:Env):S→S→Prop
 | .int k x,.int k' y=>k=k'∧x.i ρ'=y.i ρ
 | .bool x,.bool y=>x.b ρ'=y.b ρ
 | .ptr b o,.ptr b' o'=>b=b'∧o.i ρ'=o'.i ρ
 | .slc b o l (.kn c),.slc b' o' l' (.kn c')=>b=b'∧o.i ρ'=o'.i ρ∧l.i ρ'=l'.i ρ∧c.i ρ'=c'.i ρ
 | .slc b o l (.op c),.slc b' o' l' (.op c')=>b=b'∧o.i ρ'=o'.i ρ∧l.i ρ'=l'.i ρ∧c.i ρ'=c'.i ρ
 | .xslc i j o l,.xslc i' j' o' l'=>i=i'∧j.i ρ'=j'.i ρ∧o.i ρ'=o'.i ρ∧l.i ρ'=l'.i ρ
 | .nil,.nil | .nilIface,.nilIface | .nilSlc,.nilSlc | .nilFn,.nilFn | .undef,.undef=>True
 | .str l,.str l'=>l=l'
 | .fn f [],.fn f' []=>f=f'
 | .ifc t k x,.ifc t' k' y=>t=t'∧k=k'∧x.i ρ'=y.i ρ
 | _,_=>False
def aAP (ρ' ρ:Env):Seg→Seg→Prop
 | .one x,.one y=>SEq ρ' ρ x y
 | .run k n A o,.run k' n' A' o'=>k=k'∧n.i ρ'=n'.i ρ∧∀ j,j<(n'.i ρ).toNat→A.a ρ' (o+j)=A'.a ρ (o'+j)
 | _,_=>False
def nI (ρ' ρ:Env):List Seg→List Seg→Prop
 | [],[]=>True
 | x::l,y::r=>aAP ρ' ρ x y∧nI ρ' ρ l r
 | _,_=>False
def bBK (ρ' ρ:Env) (B C:Blk):Prop:=(B.ty=C.ty∧B.wr=C.wr∧B.grow=C.grow∧B.dead=C.dead)∧(C.dead=true∨nI ρ' ρ B.aH C.aH)
def mR (ρ' ρ:Env):Mem→Mem→Prop
 | [],[]=>True
 | B::l,C::r=>bBK ρ' ρ B C∧mR ρ' ρ l r
 | _,_=>False
def aEj (ρ' ρ:Env):List (Bool × List Seg)→List (Bool × List Seg)→Prop
 | [],[]=>True
 | x::l,y::r=>x.1=y.1∧nI ρ' ρ x.2 y.2∧aEj ρ' ρ l r
 | _,_=>False
def VEq (ρ' ρ:Env):SV→SV→Prop
 | .s x,.s y=>SEq ρ' ρ x y
 | .agg l,.agg r=>nI ρ' ρ l r
 | .tup l,.tup r=>aEj ρ' ρ l r
 | _,_=>False
section
variable {ρ' ρ:Env} {ι:Loc}
theorem SEq.aC (hI:ρ'.I=ρ.I) {x y:S} (h:SEq ρ' ρ x y):x.aC ρ' ι=y.aC ρ ι:=by
 unfold SEq at h
 split at h
 ·obtain ⟨rfl,h⟩:=h;simp only [S.aC,h]
 ·simp only [S.aC,h]
 ·obtain ⟨rfl,h⟩:=h;simp only [S.aC,addr,h]
 ·obtain ⟨rfl,G,J,O⟩:=h;simp only [S.aC,addr,G,J,O]
 ·obtain ⟨rfl,G,J,O⟩:=h;simp only [S.aC,addr,G,J,O]
 ·obtain ⟨rfl,G,J,O⟩:=h;simp only [S.aC,hI,G,J,O]
 ·rfl
 ·rfl
 ·rfl
 ·rfl
 ·rfl
 ·subst h;rfl
 ·subst h;rfl
 ·obtain ⟨rfl,rfl,h⟩:=h;simp only [S.aC,h]
 ·cases h
theorem aAP.cells (hI:ρ'.I=ρ.I) {x y:Seg} (h:aAP ρ' ρ x y):x.cells ρ' ι=y.cells ρ ι:=by
 unfold aAP at h
 split at h
 ·rw [aY,aY,h.aC hI]
 ·obtain ⟨rfl,hn,ha⟩:=h
  simp only [Seg.cells,hn]
  apply List.map_congr_left
  intro j hj
  rw [ha j (by simpa using hj)]
 ·cases h
theorem nI.cells (hI:ρ'.I=ρ.I):∀ {l r:List Seg},nI ρ' ρ l r→cellsOf ρ' ι l=cellsOf ρ ι r
 | [],[],_=>rfl
 | [],_::_,h=>by cases h
 | _::_,[],h=>by cases h
 | x::l,y::r,h=>by
   obtain ⟨G,J⟩:=h
   rw [aG,aG,G.cells hI,nI.cells hI J]
theorem aEj.aC (hI:ρ'.I=ρ.I):∀ {l r:List (Bool × List Seg)},aEj ρ' ρ l r→(l.map fun p=>if p.1 then Value.agg (cellsOf ρ' ι p.2).toArray else ((cellsOf ρ' ι p.2)[0]?).getD Go.undef)=r.map fun p=>if p.1 then Value.agg (cellsOf ρ ι p.2).toArray else ((cellsOf ρ ι p.2)[0]?).getD Go.undef
 | [],[],_=>rfl
 | [],_::_,h=>by cases h
 | _::_,[],h=>by cases h
 | x::l,y::r,h=>by
   obtain ⟨G,J,O⟩:=h
   rw [List.map_cons,List.map_cons,aEj.aC hI O,G,J.cells hI]
theorem VEq.aC (hI:ρ'.I=ρ.I) {x y:SV} (h:VEq ρ' ρ x y):x.aC ρ' ι=y.aC ρ ι:=by
 unfold VEq at h
 split at h
 ·exact h.aC hI
 ·simp only [SV.aC,h.cells (ι:=ι) hI]
 ·simp only [SV.aC];rw [h.aC hI]
 ·cases h
theorem mR.at:∀ {m m':Mem},mR ρ' ρ m m'→m.length=m'.length∧∀ (i:Nat) (C:Blk),m'[i]? = some C→∃ B,m[i]? = some B∧bBK ρ' ρ B C
 | [],[],_=>⟨rfl,fun i C h=>by simp at h⟩
 | [],_::_,h=>by cases h
 | _::_,[],h=>by cases h
 | B::l,C::r,h=>by
   obtain ⟨G,J⟩:=h
   obtain ⟨V,e2⟩:=mR.at J
   refine ⟨by simp [V],fun i D hD=>?_⟩
   cases i with
   | zero=>simp only [List.getElem?_cons_zero,Option.some.injEq] at hD;subst hD;exact ⟨B,rfl,G⟩
   | succ i=>simpa using e2 i D (by simpa using hD)
theorem aK.tB (hI:ρ'.I=ρ.I) {β:dN} {w:World} {m m':Mem} (h:mR ρ' ρ m m') (hm:aK ρ' β ι m w):aK ρ β ι m' w:=by
 obtain ⟨hl,hat⟩:=h.at
 refine ⟨fun i j C D hC hD hCd hDd hCn hDn hq=>?_,fun i C hC hCd hCn=>?_,fun i C hC hCd hCn=>?_,hm.agr,by rw [← hl];exact hm.len,by rw [← hl];exact hm.new,hm.size,by rw [← hl];exact hm.old,hm.os,hm.tape,hm.output,by rw [← hI];exact hm.xt,by rw [← hl,← hI];exact hm.xd⟩
 ·obtain ⟨B,hB,⟨_,_,_,hd⟩,_⟩:=hat i C hC
  obtain ⟨B',hB',⟨_,_,_,hd'⟩,_⟩:=hat j D hD
  exact hm.inj i j B B' hB hB' (by rw [hd];exact hCd) (by rw [hd'];exact hDd) hCn hDn hq
 ·obtain ⟨B,hB,⟨G,J,O,hd⟩,hs⟩:=hat i C hC
  rcases hs with hs | hs
  ·rw [hCd] at hs;cases hs
  ·have:=hm.blk i B hB (by rw [hd];exact hCd) hCn
   rw [hs.cells hI,G,J,O] at this;exact this
 ·obtain ⟨B,hB,⟨G,J,O,hd⟩,hs⟩:=hat i C hC
  rcases hs with hs | hs
  ·rw [hCd] at hs;cases hs
  ·have:=hm.nils i B hB (by rw [hd];exact hCd) hCn
   rw [hs.cells hI,O] at this;exact this
end
noncomputable def iY (H0:Hyp) (U:List SV) (m0:Mem) (nd:List E) (v:SV) (om:Option Mem):Spec:=fun H l m=>@ite _ (H=H0∧l=U∧m=m0) (Classical.propDecidable _) (some (nd,v,om)) none
theorem dT (H0:Hyp) (U:List SV) (m0:Mem) (nd:List E) (v:SV) (om:Option Mem):iY H0 U m0 nd v om H0 U m0=some (nd,v,om):=by
 unfold iY;rw [if_pos ⟨rfl,rfl,rfl⟩]
def aEc (ρ:Env):Option Mem→Option Mem→Prop
 | none,none=>True
 | some m,some m'=>mR ρ ρ m m'
 | _,_=>False
theorem qT {P:Program} {I:Interp} {f:FuncId} {s:Spec} {ni nb na:Nat} {H0:Hyp} {U:List SV} {m0:Mem} {Q nd:List E} {v0 v:SV} {m4 om:Option Mem} (hs:fI P I f ni nb na s) (Z:s H0 U m0=some (Q,v0,m4)) (hp:dL v0=false) (hp':dL v=false)
 (hw:∀ ρ:Env,ρ.I=I→eF ρ ni nb na→H0.ok ρ→bD ρ nd→bD ρ Q∧VEq ρ ρ v0 v∧aEc ρ m4 om):fI P I f ni nb na (iY H0 U m0 nd v om):=by
 constructor
 intro H l m nd' v' om' h ρ β ι w hI hz hH hn hm
 unfold iY at h
 split at h
 ·rename_i hc
  obtain ⟨rfl,rfl,rfl⟩:=hc
  simp only [Option.some.injEq,Prod.mk.injEq] at h
  obtain ⟨rfl,rfl,rfl⟩:=h
  obtain ⟨G,J,O⟩:=hw ρ hI hz hH hn
  refine (hs.ok _ _ _ _ _ _ Z ρ β ι w hI hz hH G hm).mono fun e w' hr=>?_
  have hv:∀ ι',fA ρ ι' v0=fA ρ ι' v:=fun ι'=>by rw [aW hp,aW hp',J.aC rfl]
  cases m4 with
  | none=>cases om with
    | none=>exact ⟨by rw [hr.1,hv],hr.2⟩
    | some _=>cases O
  | some m1=>cases om with
    | none=>cases O
    | some m2 =>
      obtain ⟨ι',a1,a2,a3⟩:=hr
      exact ⟨ι',a1,by rw [a2,hv],a3.tB rfl O⟩
 ·cases h
theorem bGU {P:Program} {I:Interp} {f:FuncId} {s:Spec} {ni nb na:Nat} {H0:Hyp} {U:List SV} {m0:Mem} {nd:List E} {v:SV} {m1:Mem} (hs:aX P I f s) (hp':dL v=false)
 (hw:∀ ρ:Env,ρ.I=I→eF ρ ni nb na→H0.ok ρ→bD ρ nd→∃ H1 l1 Q v0 m2,s H1 l1 m0=some (Q,v0,m2)∧H1.ok ρ∧(∀ ι,l1.map (SV.aC ρ ι)=U.map (SV.aC ρ ι))∧dL v0=false∧bD ρ Q∧VEq ρ ρ v0 v∧mR ρ ρ (m2.getD m0) m1):fI P I f ni nb na (iY H0 U m0 nd v (some m1)):=by
 constructor
 intro H l m nd' v' om' h ρ β ι w hI hz hH hn hm
 unfold iY at h
 split at h
 ·rename_i hc
  obtain ⟨rfl,rfl,rfl⟩:=hc
  simp only [Option.some.injEq,Prod.mk.injEq] at h
  obtain ⟨rfl,rfl,rfl⟩:=h
  obtain ⟨H1,l1,Q,v0,m2,G,J,O,h4,h5,h6,h7⟩:=hw ρ hI hz hH hn
  rw [← O]
  refine (hs.ok _ _ _ _ _ _ G ρ β ι w hI J h5 hm).mono fun e w' hr=>?_
  cases m2 with
  | none=>exact ⟨ι,Loc.bV.refl _ _,by rw [hr.1,aW h4,aW hp',h6.aC rfl],hr.2.tB rfl h7⟩
  | some m2 =>
    obtain ⟨ι',a1,a2,a3⟩:=hr
    exact ⟨ι',a1,by rw [a2,aW h4,aW hp',h6.aC rfl],a3.tB rfl h7⟩
 ·cases h
theorem fB {P:Program} {I:Interp} {f:FuncId} {s:Spec} {ni nb na:Nat} {H0:Hyp} {U:List SV} {m0:Mem} {Q:List E} {v0:SV} {om:Option Mem} (hs:fI P I f ni nb na s) (Z:s H0 U m0=some (Q,v0,om)) :
 aX P I f (fC (fK ni nb na U m0) H0 U m0 Q v0 om) :=
 aGh fun σ π H l m hf ρ β ι w hI hH hn hm=>by
  refine hs.ok H0 U m0 Q v0 om Z (σ.env ρ) β ι w hI ?_ hH hn hm
  unfold fK at hf
  split at hf
  ·simp only [Option.some.injEq,Prod.mk.injEq] at hf
   obtain ⟨rfl,_⟩:=hf
   exact ⟨by simp [Sb.env],by simp [Sb.env],by simp [Sb.env]⟩
  ·cases hf
theorem aK.relabel {ρ:Env} {β:dN} {ι ι':Loc} {m:Mem} {w w':World} (Z:aK ρ β ι m w) (h:aK ρ β ι' m w') (ha:Loc.bV m.length ι ι') (hs:scM m=true):aK ρ β ι m w':=by
 have lt:∀ {i:Nat} {B:Blk},m[i]? = some B→i<m.length:=fun hB=>(List.getElem?_eq_some_iff.1 hB).1
 have sc:∀ {i:Nat} {B:Blk},m[i]? = some B→cellsOf ρ ι B.aH=cellsOf ρ ι' B.aH:=fun hB=>bK ha (List.all_eq_true.1 hs _ (List.mem_of_getElem? hB))
 refine ⟨Z.inj,fun i B hB hd hn=>?_,Z.nils,Z.agr,Z.len,Z.new,h.size,fun b hb hi=>h.old b hb fun i hi'=>?_,h.os,h.tape,h.output,h.xt,Z.xd⟩
 ·have a:=ha i (lt hB)
  obtain ⟨fz,rest,k1,k2,k3,k4⟩:=h.blk i B hB hd (by rw [← a.2.2];exact hn)
  exact ⟨fz,rest,by rw [a.1,sc hB];exact k1,k2,by rw [a.2.1,sc hB];exact k3,k4⟩
 ·rw [← (ha i hi').1];exact hi i hi'
def aCI (find:Hyp→List SV→Mem→Option (Sb × List Nat)) (H0:Hyp) (U:List SV) (m0:Mem) (Q:List E) (v0:SV):Spec:=fun H l m=>match fC find H0 U m0 Q v0 none H l m with
 | some (nd,v,_)=>if v.sc m.length&&!dL v then some (nd,v,none) else none
 | none=>none
theorem aUf {find:Hyp→List SV→Mem→Option (Sb × List Nat)} {H0 H:Hyp} {U l:List SV} {m0 m:Mem} {Q nd:List E} {v0 v:SV} {om:Option Mem} (h:fC find H0 U m0 Q v0 none H l m=some (nd,v,om)):om=some m∧scM m=true:=by
 unfold fC at h
 split at h
 ·cases h
 ·split at h
  ·rename_i hc
   simp only [Bool.and_eq_true] at hc
   simp only [Option.some.injEq,Prod.mk.injEq] at h
   exact ⟨h.2.2.symm,hc.1.1.1.1.2⟩
  ·cases h
theorem rG {P:Program} {I:Interp} {f:FuncId} {find:Hyp→List SV→Mem→Option (Sb × List Nat)} {H0:Hyp} {U:List SV} {m0:Mem} {Q:List E} {v0:SV} (hs:aX P I f (fC find H0 U m0 Q v0 none)):aX P I f (aCI find H0 U m0 Q v0):=by
 constructor
 intro H l m nd v om h ρ β ι w hI hH hn hm
 unfold aCI at h
 split at h
 ·rename_i nd' v' om' hq
  split at h
  ·rename_i hc
   simp only [Bool.and_eq_true,Bool.not_eq_true'] at hc
   simp only [Option.some.injEq,Prod.mk.injEq] at h
   obtain ⟨rfl,rfl,rfl⟩:=h
   obtain ⟨rfl,hsc⟩:=aUf hq
   refine (hs.ok _ _ _ _ _ _ hq ρ β ι w hI hH hn hm).mono fun e w' hr=>?_
   obtain ⟨ι',a1,a2,a3⟩:=hr
   exact ⟨by rw [a2,uD a1 hc.1],hm.relabel a3 a1 hsc⟩
  ·cases h
 ·cases h
def mT (ρ' ρ:Env) (v:SV) (m:Mem) (v':SV) (m':Mem):Prop:=dL v'=false∧VEq ρ' ρ v' v∧mR ρ' ρ m' m
theorem rE {P:Program} {I:Interp} {f:FuncId} {Γ:Ctx} {hc':aV} {D:Dim} {hs:List Head} {cut:List Nat} {k u u0:Nat} {ni nb na:Nat} {H0:Hyp} {U:List SV} {m0:Mem} {nd:List E} {v:SV} {m1:Mem} {lt:LT}
 (hΓ:cA P I Γ) (hP:P.follows .mixedOrders=true) (hst:gD P Γ hc' D hs cut k u0 f H0 U m0=some lt) (hK:m0.length≤D.K) (hpan:dL v=false) (Inv:Env→Nat→Env→Prop) (μ:Nat→Env→Nat)
 (hmain:∀ ρ:Env,ρ.I=I→eF ρ ni nb na→H0.ok ρ→bD ρ nd→∃ ρ1:Env,ρ1.I=ρ.I∧eF ρ1 D.ni D.nb D.na∧H0.ok ρ1∧(∀ ι,U.map (SV.aC ρ1 ι)=U.map (SV.aC ρ ι))∧mR ρ ρ1 m0 m0 ∧
   lt.holds ρ1 (fun v' m'=>mT ρ1 ρ v m1 v' m') (fun j todo ρ'=>(hs[j]?.map (·.todo))=some todo∧Inv ρ j ρ') ∧
   ∀ j h ρ',hs[j]? = some h→ρ'.I=I→eF ρ' D.ni D.nb D.na→Inv ρ j ρ'→∃ H',Hyp.ok H' ρ'∧∃ lt',mM P Γ hc' D hs cut k u f { h with H:=H' }=some lt' ∧
    lt'.holds ρ' (fun v' m'=>mT ρ' ρ v m1 v' m') (fun j' todo ρ''=>(hs[j']?.map (·.todo))=some todo∧Inv ρ j' ρ''∧μ j' ρ''<μ j ρ')) :
 fI P I f ni nb na (iY H0 U m0 nd v (some m1)):=by
 constructor
 intro H l m nd' v' om' h ρ β ι w hI hz hH hn hm
 unfold iY at h
 split at h
 ·rename_i hc
  obtain ⟨rfl,rfl,rfl⟩:=hc
  simp only [Option.some.injEq,Prod.mk.injEq] at h
  obtain ⟨rfl,rfl,rfl⟩:=h
  obtain ⟨ρ1,V,z1,G,a1,c1,k8,hseg⟩:=hmain ρ hI hz hH hn
  have hm1:aK ρ1 ⟨w,m.length,ι⟩ ι m w:=hm.now.tB (by rw [V]) c1
  unfold gD at hst
  split at hst
  rotate_left
  ·cases hst
  rename_i fn hfn
  split at hst
  rotate_left
  ·cases hst
  rename_i c hcb
  split at hst
  rotate_left
  ·cases hst
  rename_i hlen
  rw [← a1]
  have td:∀ {j:Nat} {todo:List Item},(hs[j]?.map (·.todo))=some todo→∃ h,hs[j]? = some h∧todo=h.todo:=fun {j todo} hq=>by
   cases hj:hs[j]? with
   | none=>rw [hj] at hq;cases hq
   | some h=>rw [hj] at hq;simp only [Option.map_some,Option.some.injEq] at hq;exact ⟨h,rfl,hq.symm⟩
  refine zH (u:=u) (β:=⟨w,m.length,ι⟩) (R:=fun e w'=>∃ ι',Loc.bV m.length ι ι'∧e=fA ρ ι' v∧aK ρ β ι' m1 w') (Inv:=fun j ρ'=>Inv ρ j ρ') hΓ hP hfn hK hcb μ hlen hst (V.trans hI) z1 G hm1 ?_ ?_
  ·refine LT.cI (fun v' m' hr=>?_) (fun j todo ρ' hq=>?_) k8
   ·intro ι' w' hm'
    obtain ⟨p1,p2,p3⟩:=hr
    have h9:=hm'.tB V p3
    exact ⟨ι',h9.agr.symm,by rw [aW p1,aW hpan,p2.aC V],hm.since h9⟩
   ·exact ⟨td hq.1,hq.2⟩
  ·intro j h ρ' hj hI' hz' hInv
   obtain ⟨H',hH',lt',hs',hl'⟩:=hseg j h ρ' hj hI' hz' hInv
   unfold mM at hs'
   rw [hfn] at hs'
   refine ⟨H',hH',lt',hs',?_⟩
   refine LT.cI (fun v' m' hr=>?_) (fun j' todo ρ'' hq=>?_) hl'
   ·intro ι' w' hm'
    obtain ⟨p1,p2,p3⟩:=hr
    have h9:=hm'.tB (hI'.trans hI.symm) p3
    exact ⟨ι',h9.agr.symm,by rw [aW p1,aW hpan,p2.aC (hI'.trans hI.symm)],hm.since h9⟩
   ·exact ⟨td hq.1,hq.2.1,hq.2.2⟩
 ·cases h
theorem aL {α:Type} {l:List α} {n:Nat} (h:l.length=n+1):∃ a r,l=a::r∧r.length=n:=by
 cases l with
 | nil=>simp at h
 | cons a r=>exact ⟨a,r,rfl,by simpa using h⟩
theorem bCc {ρ:Env} (h:ρ.I.fa=Ifa) (A:E):(E.app 50 (.cons A .nil)).a ρ=iW (A.a ρ):=by
 rw [zB,h];rfl
theorem aSU (A:Nat→Int) (j:Nat):0≤iW A j∧iW A j≤255:=by
 unfold iW;split <;> omega
theorem rowB_word {A:Nat→Int} {k:Nat} (h:0≤A k∧A k≤65535):iW A (2*k)+iW A (2*k+1)*256=A k:=by
 unfold iW
 rw [if_pos (by omega),if_neg (by omega),show 2*k / 2=k by omega,show (2*k+1) / 2=k by omega]
 omega
theorem aAI {A:Nat→Int} {k:Nat}:iW A (2*k)=A k%256:=by
 unfold iW;rw [if_pos (by omega),show 2*k / 2=k by omega]
theorem aAH {A:Nat→Int} {k:Nat} (h:0≤A k∧A k≤65535):iW A (2*k+1)=A k / 256:=by
 unfold iW;rw [if_neg (by omega),show (2*k+1) / 2=k by omega];omega
def agr:E→Bool
 | .v i=>Nat.blt i 16
 | .bv _=>false
 | .av i=>Nat.blt i 3
 | .lit _ | .blit _ | .tab _ | .nil=>true
 | .add a b | .sub a b | .mul a b | .div a b | .mod a b | .tdiv a b | .tmod a b | .sel a b | .lt a b | .le a b | .eq a b | .and a b | .or a b | .iff a b | .cons a b=>cond (agr a) (agr b) false
 | .pow2 a | .wrap _ a | .not a=>agr a
 | .bits _ _ a b=>cond (agr a) (agr b) false
 | .ite a b c | .upd a b c=>cond (agr a) (cond (agr b) (agr c) false) false
 | .blt _ _ _ _ _ | .aeq _ _ _ _ _ _=>false
 | .app f a=>cond (Nat.beq f 40) (agr a) (cond (Nat.beq f 41) (agr a) false)
theorem aVC {a b:Bool} (h:cond a b false=true):a=true∧b=true:=by cases a <;> simp_all
theorem bGh {ρ ρ':Env} (h:∀ i,i<16→ρ.i.getD i 0=ρ'.i.getD i 0) (ha:∀ i,i<3→(ρ.a.getD i fun _=>0)=ρ'.a.getD i fun _=>0)
 (hI:∀ f,f=40∨f=41→ρ.I.fi f=ρ'.I.fi f∧ρ.I.fb f=ρ'.I.fb f∧ρ.I.fa f=ρ'.I.fa f):∀ e,agr e=true→den ρ e=den ρ' e:=by
 intro e
 induction e with
 | v i=>intro g;simp only [agr] at g;simp only [den,h i (by rw [Nat.blt_eq] at g;exact g)]
 | bv i=>intro g;simp [agr] at g
 | av i=>intro g;simp only [agr] at g;simp only [den,ha i (by rw [Nat.blt_eq] at g;exact g)]
 | lit _ | blit _ | tab _ | nil=>intro _;rfl
 | add a b p q | sub a b p q | mul a b p q | div a b p q | mod a b p q | tdiv a b p q | tmod a b p q | sel a b p q | lt a b p q | le a b p q | eq a b p q | and a b p q | or a b p q | iff a b p q | cons a b p q =>
   intro g;obtain ⟨g1,g2⟩:=aVC g;simp only [den,p g1,q g2]
 | pow2 a p | wrap k a p | not a p=>intro g;simp only [den,p g]
 | bits o k a b p q=>intro g;obtain ⟨g1,g2⟩:=aVC g;simp only [den,p g1,q g2]
 | ite a b c p q r | upd a b c p q r=>intro g;obtain ⟨g1,g2⟩:=aVC g;obtain ⟨g2,g3⟩:=aVC g2;simp only [den,p g1,q g2,r g3]
 | blt _ _ _ _ _=>intro g;simp [agr] at g
 | aeq _ _ _ _ _ _=>intro g;simp [agr] at g
 | app f a p =>
   intro g
   simp only [agr] at g
   have hf:(f=40∨f=41)∧agr a=true:=by
    cases G:Nat.beq f 40 with
    | true=>rw [G] at g;exact ⟨Or.inl (Nat.eq_of_beq_eq_true G),g⟩
    | false =>
      rw [G] at g
      cases J:Nat.beq f 41 with
      | true=>rw [J] at g;exact ⟨Or.inr (Nat.eq_of_beq_eq_true J),g⟩
      | false=>rw [J] at g;cases g
   obtain ⟨i1,i2,i3⟩:=hI f hf.1
   simp only [den,p hf.2,i1,i2,i3]
theorem nR (ρ:Env):∀ l:List E,(den ρ (mZ l)).is=l.map (E.i ρ)∧(den ρ (mZ l)).xs=l.map (E.a ρ)
 | []=>⟨rfl,rfl⟩
 | a::l=>⟨congrArg (_::·) (nR ρ l).1,congrArg (_::·) (nR ρ l).2⟩
def stE (ρ:Env) (l:List E) (S R:E):St:=⟨l.map (E.i ρ),E.a ρ S,E.a ρ R⟩
theorem aZG (ρ:Env) (n:E) (l:List E) (hl:l.length=16) (M S R:E):bFK (((n::l)++[M,S,R]).map (E.i ρ)) (((n::l)++[M,S,R]).map (E.a ρ))=stN (E.a ρ M) (E.i ρ n).toNat (stE ρ l S R):=by
 obtain ⟨a0,r0,Z,hl⟩:=aL hl
 obtain ⟨a1,r1,G,hl⟩:=aL hl
 obtain ⟨a2,r2,J,hl⟩:=aL hl
 obtain ⟨a3,r3,O,hl⟩:=aL hl
 obtain ⟨a4,r4,h4,hl⟩:=aL hl
 obtain ⟨a5,r5,h5,hl⟩:=aL hl
 obtain ⟨a6,r6,h6,hl⟩:=aL hl
 obtain ⟨a7,r7,h7,hl⟩:=aL hl
 obtain ⟨a8,r8,h8,hl⟩:=aL hl
 obtain ⟨a9,r9,h9,hl⟩:=aL hl
 obtain ⟨f7,r10,j6,hl⟩:=aL hl
 obtain ⟨f8,r11,j7,hl⟩:=aL hl
 obtain ⟨f9,r12,j8,hl⟩:=aL hl
 obtain ⟨g4,r13,j9,hl⟩:=aL hl
 obtain ⟨g5,r14,k5,hl⟩:=aL hl
 obtain ⟨g6,r15,k6,hl⟩:=aL hl
 have hn:=List.eq_nil_of_length_eq_zero hl
 rw [hn] at k6
 rw [k6] at k5
 rw [k5] at j9
 rw [j9] at j8
 rw [j8] at j7
 rw [j7] at j6
 rw [j6] at h9
 rw [h9] at h8
 rw [h8] at h7
 rw [h7] at h6
 rw [h6] at h5
 rw [h5] at h4
 rw [h4] at O
 rw [O] at J
 rw [J] at G
 rw [G] at Z
 rw [Z]
 rfl
def IvF (I:Interp):Prop:=I.fi=Ifi∧I.fb=Ifb∧I.fa=Ifa
theorem IvF.of {I:Interp} {xs:Nat→Nat→Ext} (h:I=Iv xs):IvF I:=by rw [h];exact ⟨rfl,rfl,rfl⟩
theorem bJj (ρ:Env) (hI:IvF ρ.I) (k:Nat) (hk:k<16) (n:E) (l:List E) (hl:l.length=16) (M S R:E) :
 E.i ρ (.app (70+k) (mZ ((n::l)++[M,S,R])))=(stN (E.a ρ M) (E.i ρ n).toNat (stE ρ l S R)).l.getD k 0%stM.getD k 1:=by
 rw [bCS,hI.1,(nR ρ _).1,(nR ρ _).2,← aZG ρ n l hl M S R]
 rcases (show k=0∨k=1∨k=2∨k=3∨k=4∨k=5∨k=6∨k=7∨k=8∨k=9∨k=10∨k=11∨k=12∨k=13∨k=14∨k=15 by omega) with rfl | rfl | rfl | rfl | rfl | rfl | rfl | rfl | rfl | rfl | rfl | rfl | rfl | rfl | rfl | rfl <;> rfl
theorem bCe (ρ:Env) (hI:IvF ρ.I) (n:E) (l:List E) (hl:l.length=16) (M S R:E) (j:Nat) :
 E.a ρ (.app 90 (mZ ((n::l)++[M,S,R]))) j=(stN (E.a ρ M) (E.i ρ n).toNat (stE ρ l S R)).S j%2048∧E.a ρ (.app 91 (mZ ((n::l)++[M,S,R]))) j=(stN (E.a ρ M) (E.i ρ n).toNat (stE ρ l S R)).R j%65536:=by
 rw [zB,zB,hI.2.2,(nR ρ _).1,(nR ρ _).2,← aZG ρ n l hl M S R]
 exact ⟨rfl,rfl⟩
structure St.ok (s:St):Prop where
 len:s.l.length=16
 l:∀ k,k<16→0≤s.l.getD k 0∧s.l.getD k 0<stM.getD k 1
 S:∀ j,0≤s.S j∧s.S j<2048
 R:∀ j,0≤s.R j∧s.R j<65536
theorem xI {p:Nat→Prop} (h:p 0∧p 1∧p 2∧p 3∧p 4∧p 5∧p 6∧p 7∧p 8∧p 9∧p 10∧p 11∧p 12∧p 13∧p 14∧p 15):∀ k,k<16→p k:=by
 obtain ⟨Z,G,J,O,h4,h5,h6,h7,h8,h9,j6,j7,j8,j9,k5,k6⟩:=h
 intro k hk
 rcases (show k=0∨k=1∨k=2∨k=3∨k=4∨k=5∨k=6∨k=7∨k=8∨k=9∨k=10∨k=11∨k=12∨k=13∨k=14∨k=15 by omega) with rfl | rfl | rfl | rfl | rfl | rfl | rfl | rfl | rfl | rfl | rfl | rfl | rfl | rfl | rfl | rfl <;> assumption
theorem bIL:∀ k,k<16→0<stM.getD k 1:=xI (by decide)
theorem bFJ (M:Nat→Int) (s:St):∀ k,k<16→(st1 M s).l.getD k 0=E.i (stV M s) (stI.getD k .nil)%stM.getD k 1 :=
 xI ⟨rfl,rfl,rfl,rfl,rfl,rfl,rfl,rfl,rfl,rfl,rfl,rfl,rfl,rfl,rfl,rfl⟩
theorem bPp (M:Nat→Int) (s:St):(st1 M s).ok :=
 ⟨rfl,fun k hk=>by rw [bFJ M s k hk];have:=bIL k hk;exact ⟨Int.emod_nonneg _ (by omega),Int.emod_lt_of_pos _ this⟩,fun j=>⟨Int.emod_nonneg _ (by decide),Int.emod_lt_of_pos _ (by decide)⟩,fun j=>⟨Int.emod_nonneg _ (by decide),Int.emod_lt_of_pos _ (by decide)⟩⟩
theorem aIh (M:Nat→Int) (s:St) (h:s.ok):∀ n,(stN M n s).ok
 | 0=>h
 | n+1=>bPp M _
theorem St.ext' {s t:St} (hs:s.l.length=16) (ht:t.l.length=16) (h:∀ k,k<16→s.l.getD k 0=t.l.getD k 0) (hS:∀ j,s.S j=t.S j) (hR:∀ j,s.R j=t.R j):s=t:=by
 obtain ⟨a,b,c⟩:=s
 obtain ⟨a',b',c'⟩:=t
 have V:a=a':=by
  apply List.ext_getElem (hs.trans ht.symm)
  intro k G J
  have:=h k (by simpa using (by simpa using hs ▸ G))
  simpa [List.getD_eq_getElem?_getD,List.getElem?_eq_getElem G,List.getElem?_eq_getElem J] using this
 have e2:b=b':=funext hS
 have e3:c=c':=funext hR
 subst V e2 e3;rfl
theorem bLI (ρ:Env) (hI:IvF ρ.I) (n:E) (l:List E) (hl:l.length=16) (M S R:E) (hs:(stE ρ l S R).ok) (k:Nat) (hk:k<16) :
 E.i ρ (.app (70+k) (mZ ((n::l)++[M,S,R])))=(stN (E.a ρ M) (E.i ρ n).toNat (stE ρ l S R)).l.getD k 0:=by
 rw [bJj ρ hI k hk n l hl M S R]
 have:=(aIh (E.a ρ M) _ hs (E.i ρ n).toNat).l k hk
 exact Int.emod_eq_of_lt this.1 this.2
theorem bJk (ρ:Env) (hI:IvF ρ.I) (n:E) (l:List E) (hl:l.length=16) (M S R:E) (hs:(stE ρ l S R).ok) (j:Nat) :
 E.a ρ (.app 90 (mZ ((n::l)++[M,S,R]))) j=(stN (E.a ρ M) (E.i ρ n).toNat (stE ρ l S R)).S j∧E.a ρ (.app 91 (mZ ((n::l)++[M,S,R]))) j=(stN (E.a ρ M) (E.i ρ n).toNat (stE ρ l S R)).R j:=by
 have h:=aIh (E.a ρ M) _ hs (E.i ρ n).toNat
 obtain ⟨G,J⟩:=bCe ρ hI n l hl M S R j
 exact ⟨G.trans (Int.emod_eq_of_lt (h.S j).1 (h.S j).2),J.trans (Int.emod_eq_of_lt (h.R j).1 (h.R j).2)⟩
def bIK (n:E) (l:List E) (M S R:E) (ρ:Env):St:=⟨(List.range 16).map fun k=>E.i ρ (.app (70+k) (mZ ((n::l)++[M,S,R]))),E.a ρ (.app 90 (mZ ((n::l)++[M,S,R]))),E.a ρ (.app 91 (mZ ((n::l)++[M,S,R])))⟩
theorem aZF (ρ:Env) (hI:IvF ρ.I) (n:E) (l:List E) (hl:l.length=16) (M S R:E) (hs:(stE ρ l S R).ok) :
 bIK n l M S R ρ=stN (E.a ρ M) (E.i ρ n).toNat (stE ρ l S R) :=
 St.ext' rfl (aIh _ _ hs _).len (fun k hk=>(xI (p:=fun k=>(bIK n l M S R ρ).l.getD k 0=E.i ρ (.app (70+k) (mZ ((n::l)++[M,S,R])))) ⟨rfl,rfl,rfl,rfl,rfl,rfl,rfl,rfl,rfl,rfl,rfl,rfl,rfl,rfl,rfl,rfl⟩ k hk).trans (bLI ρ hI n l hl M S R hs k hk))
  (fun j=>(bJk ρ hI n l hl M S R hs j).1) (fun j=>(bJk ρ hI n l hl M S R hs j).2)
section
variable {ρ:Env}
theorem aIi (hI:IvF ρ.I) (e:E) (g:agr e=true):den (stV (E.a ρ (.av 0)) (stE ρ aAe (.av 1) (.av 2))) e=den ρ e:=by
 refine bGh ?_ ?_ ?_ e g
 ·exact xI ⟨rfl,rfl,rfl,rfl,rfl,rfl,rfl,rfl,rfl,rfl,rfl,rfl,rfl,rfl,rfl,rfl⟩
 ·intro i hi
  rcases (show i=0∨i=1∨i=2 by omega) with rfl | rfl | rfl <;> rfl
 ·intro f hf
  rw [hI.1,hI.2.1,hI.2.2]
  rcases hf with rfl | rfl <;> exact ⟨rfl,rfl,rfl⟩
theorem tO (hI:IvF ρ.I) (k:Nat) (hk:k<16) (e:E) (m:Int) (he:stI.getD k .nil=e) (hm:stM.getD k 1=m) (g:agr e=true) (r:0≤E.i ρ e∧E.i ρ e≤m-1):E.i ρ e=E.i ρ (.app (70+k) (stX (.lit 1))):=by
 have h:=bJj ρ hI k hk (.lit 1) aAe rfl (.av 0) (.av 1) (.av 2)
 refine Eq.trans ?_ h.symm
 show _=(st1 _ (stN _ 0 _)).l.getD k 0%_
 rw [bFJ _ _ k hk,he,hm]
 show _=(den _ e).i%m%m
 rw [show stN (E.a ρ (.av 0)) 0 (stE ρ aAe (.av 1) (.av 2))=stE ρ aAe (.av 1) (.av 2) from rfl,aIi hI e g]
 have r':0≤(den ρ e).i∧(den ρ e).i≤m-1:=r
 rw [Int.emod_emod_of_dvd _ (Int.dvd_refl m),Int.emod_eq_of_lt r'.1 (by omega)]
 rfl
theorem st_S (hI:IvF ρ.I) (e:E) (g:agr e=true) (he:∀ M s,(st1 M s).S=fun j=>E.a (stV M s) e j%2048) (r:∀ j,0≤E.a ρ e j∧E.a ρ e j≤2047) (j:Nat):E.a ρ e j=E.a ρ (.app 90 (stX (.lit 1))) j:=by
 refine Eq.trans ?_ (bCe ρ hI (.lit 1) aAe rfl (.av 0) (.av 1) (.av 2) j).1.symm
 show _=(st1 _ (stE ρ aAe (.av 1) (.av 2))).S j%2048
 rw [he]
 show (den ρ e).a j=(den _ e).a j%2048%2048
 rw [aIi hI e g]
 have:=r j
 have h:0≤(den ρ e).a j∧(den ρ e).a j≤2047:=this
 omega
theorem st_R (hI:IvF ρ.I) (e:E) (g:agr e=true) (he:∀ M s,(st1 M s).R=fun j=>E.a (stV M s) e j%65536) (r:∀ j,0≤E.a ρ e j∧E.a ρ e j≤65535) (j:Nat):E.a ρ e j=E.a ρ (.app 91 (stX (.lit 1))) j:=by
 refine Eq.trans ?_ (bCe ρ hI (.lit 1) aAe rfl (.av 0) (.av 1) (.av 2) j).2.symm
 show _=(st1 _ (stE ρ aAe (.av 1) (.av 2))).R j%65536
 rw [he]
 show (den ρ e).a j=(den _ e).a j%65536%65536
 rw [aIi hI e g]
 have:=r j
 have h:0≤(den ρ e).a j∧(den ρ e).a j≤65535:=this
 omega
end
theorem St.ok.rg {s:St} (h:s.ok) (k:Nat) (hk:k<16) (m:Int) (hm:stM.getD k 1=m+1):0≤s.l.getD k 0∧s.l.getD k 0≤m:=by
 have:=h.l k hk;omega
theorem St.ok.rS {s:St} (h:s.ok) (j:Nat):0≤s.S j∧s.S j≤2047:=by have:=h.S j;omega
theorem St.ok.rR {s:St} (h:s.ok) (j:Nat):0≤s.R j∧s.R j≤65535:=by have:=h.R j;omega
theorem St.bKy {a0 a1 a2 a3 a4 a5 a6 a7 a8 a9 f7 f8 f9 g4 g5 g6:Int} {S R:Nat→Int} (Z:0≤a0∧a0≤2047) (G:0≤a1∧a1≤65535) (J:0≤a2∧a2≤65535) (O:0≤a3∧a3≤65535) (h4:0≤a4∧a4≤65535) (h5:0≤a5∧a5≤255) (h6:0≤a6∧a6≤1023) (h7:0≤a7∧a7≤65535) (h8:0≤a8∧a8≤65535) (h9:0≤a9∧a9≤65535) (j6:0≤f7∧f7≤65535) (j7:0≤f8∧f8≤65535) (j8:0≤f9∧f9≤65535) (j9:0≤g4∧g4≤63) (k5:0≤g5∧g5≤63) (k6:0≤g6∧g6≤3) (hS:∀ j,0≤S j∧S j≤2047) (hR:∀ j,0≤R j∧R j≤65535) :
 St.ok ⟨[a0,a1,a2,a3,a4,a5,a6,a7,a8,a9,f7,f8,f9,g4,g5,g6],S,R⟩:=by
 refine ⟨rfl,xI ?_,fun j=>?_,fun j=>?_⟩
 ·refine ⟨?_,?_,?_,?_,?_,?_,?_,?_,?_,?_,?_,?_,?_,?_,?_,?_⟩
  ·show 0≤a0∧a0<2048;omega
  ·show 0≤a1∧a1<65536;omega
  ·show 0≤a2∧a2<65536;omega
  ·show 0≤a3∧a3<65536;omega
  ·show 0≤a4∧a4<65536;omega
  ·show 0≤a5∧a5<256;omega
  ·show 0≤a6∧a6<1024;omega
  ·show 0≤a7∧a7<65536;omega
  ·show 0≤a8∧a8<65536;omega
  ·show 0≤a9∧a9<65536;omega
  ·show 0≤f7∧f7<65536;omega
  ·show 0≤f8∧f8<65536;omega
  ·show 0≤f9∧f9<65536;omega
  ·show 0≤g4∧g4<64;omega
  ·show 0≤g5∧g5<64;omega
  ·show 0≤g6∧g6<4;omega
 ·have:=hS j;show 0≤S j∧S j<2048;omega
 ·have:=hR j;show 0≤R j∧R j<65536;omega
theorem bIV (ρ:Env) (A:E):E.a ρ (.upd A (.lit 0) (.sel A (.lit 0)))=E.a ρ A:=by
 rw [cC]
 funext j
 show (if j=(0:Int).toNat then E.a ρ A (0:Int).toNat else E.a ρ A j)=E.a ρ A j
 split
 ·rename_i h;rw [h]
 ·rfl
theorem bCd {ρ:Env} (h:ρ.I.fa=Ifa) (o A:E):(E.app 51 (.cons o (.cons A .nil))).a ρ=pY (o.i ρ).toNat (A.a ρ):=by
 rw [zB,h];rfl
theorem aDo (o:Nat) (A:Nat→Int) (j:Nat):0≤pY o A j∧pY o A j≤65535:=by
 unfold pY;omega
theorem bAR {o:Nat} {A:Nat→Int} (h:∀ j,0≤A j∧A j≤255) (j:Nat):iW (pY o A) j=A (o+j):=by
 unfold iW
 split
 ·rename_i hj
  have q:=h (o+2*(j / 2));have q1:=h (o+2*(j / 2)+1)
  rw [show o+j=o+2*(j / 2) by omega]
  unfold pY;omega
 ·rename_i hj
  have q:=h (o+2*(j / 2));have q1:=h (o+2*(j / 2)+1)
  rw [show o+j=o+2*(j / 2)+1 by omega]
  unfold pY;omega
end Go.Sx
