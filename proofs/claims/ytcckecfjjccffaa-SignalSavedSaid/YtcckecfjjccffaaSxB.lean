/- A run of a program by symbols, proved sound, second part: operations that write, calls, regions, the code, ways that meet again. It imports no program. -/
import Derived.Test.YtcckecfjjccffaaSxA
set_option linter.unusedVariables false
set_option linter.unusedSimpArgs false
namespace Go.Sx
def dU:List Seg→Option Nat
 | []=>some 0
 | .one _::l=>(dU l).map (·+1)
 | .run _ (.lit z) _ _::l=>if 0≤z then (dU l).map (·+z.toNat) else none
 | .rows (.lit z) fs _::l=>if 0≤z then (dU l).map (·+z.toNat*fs.length) else none
 | _=>none
def pack:List Seg→List Seg
 | []=>[]
 | .one (.int k (.lit 0))::l =>
   match pack l with
   | .run k' (.lit n) (.tab []) o::r=>if k=k'∧0≤n then .run k (.lit (n+1)) (.tab []) o::r else .run k (.lit 1) (.tab []) 0::.run k' (.lit n) (.tab []) o::r
   | r=>.run k (.lit 1) (.tab []) 0::r
 | x::l=>x::pack l
def aDg:List Seg→Option (List XF)
 | []=>some []
 | .one (.int k (.lit _))::l=>(aDg l).map ((some k,.tab [])::·)
 | .one (.bool (.blit _))::l=>(aDg l).map ((none,.tab [])::·)
 | _=>none
def bGt (sh:TypeId→Option (List Seg)):List Field→Option (List Seg)
 | []=>some []
 | f::l=>match sh f.type,bGt sh l with
   | some a,some b=>some (a++b)
   | _,_=>none
def aVS (P:Program):Nat→TypeId→Option (List Seg)
 | 0,_=>none
 | d+1,t=>match P.underlying t with
   | some (.int k)=>some [.one (.int k (.lit 0))]
   | some .bool=>some [.one (.bool (.blit false))]
   | some (.pointer _)=>some [.one .nil]
   | some (.slice _)=>some [.one .nilSlc]
   | some (.func ..)=>some [.one .nilFn]
   | some .string=>some [.one (.str [])]
   | some (.interface _)=>some [.one .nilIface]
   | some (.struct fs)=>bGt (aVS P d) fs.toList
   | some (.array n e)=>match aVS P d e with
     | some [.one (.int k _)]=>some [.run k (.lit n) (.tab []) 0]
     | some l=>match aDg l with
       | some fs=>if 2≤fs.length∧2≤n then some [.rows (.lit n) fs 0] else some (List.replicate n l).flatten
       | none=>if n≤64 then some (List.replicate n l).flatten else none
     | none=>none
   | _=>none
def vQ:List Seg→Option (List (Nat × List S))
 | []=>some []
 | .one x::l=>(vQ l).map ((1,[x])::·)
 | .run k (.lit n) (.tab []) _::l=>if 0≤n then (vQ l).map ((n.toNat,[.int k (.lit 0)])::·) else none
 | .rows (.lit n) fs _::l=>if 0≤n∧fs.all (fun f=>decide (f.2=.tab []))=true then (vQ l).map ((n.toNat,fs.map fun f=>match f.1 with | some k=>.int k (.lit 0) | none=>.bool (.blit false))::·) else none
 | _=>none
def isS:S→Value→Bool
 | .int k (.lit 0),.int k' z=>decide (k=k')&&decide (z=0)
 | .bool (.blit false),.bool b=>!b
 | x,v=>decide (sI v=some x)
def aWu:List Value→List S→List S→Nat→List (Nat × List S)→Bool
 | [],cur,_,n,rest=>cur.isEmpty&&(n == 0&&rest.isEmpty)
 | v::l,cur,full,n,rest=>match cur with
   | x::cur'=>if isS x v then aWu l cur' full n rest else false
   | []=>match n with
     | n+1=>match full with
       | x::f=>if isS x v then aWu l f (x::f) n rest else false
       | []=>false
     | 0=>match rest with
       | (n+1,x::f)::rest'=>if isS x v then aWu l f (x::f) n rest' else false
       | _=>false
def yI (P:Program) (t:TypeId):Option SV :=
 match (P.info? t).bind (·.zero) with
 | some z=>match z with
   | .agg cs=>match aVS P 12 t with
     | some sh=>match vQ sh with
       | some pl=>if aWu cs.toList [] [] 0 pl=true then some (.agg sh) else none
       | none=>none
     | none=>none
   | z=>ofValue z
 | none=>none
section
variable {ρ:Env} {ι:Loc} {P:Program} {w:World}
theorem eG:∀ {l:List Seg} {n:Nat},dU l=some n→(cellsOf ρ ι l).length=n
 | [],n,h=>by simp only [dU,Option.some.injEq] at h;subst h;rfl
 | .one x::l,n,h=>by
   simp only [dU,Option.map_eq_some_iff] at h
   obtain ⟨k,hk,rfl⟩:=h
   rw [aD,aT,List.length_append,eG hk];simp;omega
 | .run kd e A o::l,n,h=>by
   cases e with
   | lit z =>
     simp only [dU] at h
     split at h
     ·simp only [Option.map_eq_some_iff] at h
      obtain ⟨k,hk,rfl⟩:=h
      rw [aD,List.length_append,aZ,aC,eG hk];omega
     ·cases h
   | _=>simp [dU] at h
 | .rows e fs o::l,n,h=>by
   cases e with
   | lit z =>
     simp only [dU] at h
     split at h
     ·simp only [Option.map_eq_some_iff] at h
      obtain ⟨k,hk,rfl⟩:=h
      rw [aD,List.length_append,eF,aC,eG hk];omega
     ·cases h
   | _=>simp [dU] at h
theorem aBR {x:S} (hx:∀ n,x ≠ .val n):(x.aB ρ ι).cells=#[x.aB ρ ι]:=by
 cases x with
 | val n=>exact absurd rfl (hx n)
 | slc b off len c=>cases c <;> simp only [S.aB] <;> (try split) <;> rfl
 | xslc i j off len=>simp only [S.aB,Ext.sub];split <;> rfl
 | xtl i j o off=>simp only [S.aB,Ext.tl];split <;> rfl
 | xptr i j k f=>simp only [S.aB,Ext.ptr];split <;> rfl
 | _=>rfl
theorem bGm (k:IntKind) (n:Nat) (o:Nat):(Seg.run k (.lit n) (.tab []) o).cells ρ ι=List.replicate n (.int k 0):=by
 simp only [Seg.cells,aC,Int.toNat_natCast,cC,List.getD_nil]
 rw [List.map_const'];simp
def gK (ρ:Env) (ι:Loc) (l:List S):List Value:=l.map fun x=>x.aB ρ ι
def aHf (ρ:Env) (ι:Loc) (l:List (Nat × List S)):List Value:=l.flatMap fun p=>(List.replicate p.1 (gK ρ ι p.2)).flatten
theorem aUY {x:S} {v:Value} (h:isS x v=true):v=x.aB ρ ι:=by
 unfold isS at h
 split at h
 ·simp only [Bool.and_eq_true,decide_eq_true_eq] at h;obtain ⟨rfl,rfl⟩:=h;rfl
 ·rename_i b;cases b <;> simp at h;rfl
 ·exact sJ (of_decide_eq_true h)
theorem bKg:∀ {l:List Value} {cur full:List S} {n:Nat} {rest:List (Nat × List S)},aWu l cur full n rest=true →
 l=gK ρ ι cur++((List.replicate n (gK ρ ι full)).flatten++aHf ρ ι rest):=by
 intro l
 induction l with
 | nil =>
   intro cur full n rest h
   simp only [aWu,Bool.and_eq_true,List.isEmpty_iff,beq_iff_eq] at h
   obtain ⟨rfl,rfl,rfl⟩:=h;rfl
 | cons v l ih =>
   intro cur full n rest h
   unfold aWu at h
   cases cur with
   | cons x cur' =>
     simp only at h
     split at h
     ·rename_i hx;rw [ih h,aUY (ρ:=ρ) (ι:=ι) hx];simp [gK]
     ·cases h
   | nil =>
     cases n with
     | succ n =>
       cases full with
       | nil=>cases h
       | cons x f =>
         simp only at h
         split at h
         ·rename_i hx
          rw [ih h,aUY (ρ:=ρ) (ι:=ι) hx];simp [gK,List.replicate_succ]
         ·cases h
     | zero =>
       simp only at h
       split at h
       ·split at h
        ·rename_i hx
         rw [ih h,aUY (ρ:=ρ) (ι:=ι) hx];simp [gK,aHf,List.replicate_succ]
        ·cases h
       ·cases h
theorem bBJ:∀ {l:List Seg} {p:List (Nat × List S)},vQ l=some p→aHf ρ ι p=cellsOf ρ ι l:=by
 intro l
 induction l with
 | nil=>intro p h;simp only [vQ,Option.some.injEq] at h;subst h;rfl
 | cons s l ih =>
   intro p h
   unfold vQ at h
   split at h
   ·contradiction
   ·rename_i e1;cases e1
    simp only [Option.map_eq_some_iff] at h
    obtain ⟨q,hq,rfl⟩:=h
    rw [aD,aT,← ih hq];simp [aHf,gK]
   ·rename_i e1;cases e1
    split at h
    ·rename_i k n o hn
     simp only [Option.map_eq_some_iff] at h
     obtain ⟨q,hq,rfl⟩:=h
     obtain ⟨n,rfl⟩:=Int.eq_ofNat_of_zero_le hn
     rw [aD,← ih hq,bGm]
     simp [aHf,gK,S.aB,aC]
    ·cases h
   ·rename_i e1;cases e1
    split at h
    ·rename_i n fs o hn
     simp only [Option.map_eq_some_iff] at h
     obtain ⟨q,hq,rfl⟩:=h
     rw [aD,← ih hq]
     have hc:∀ j,(fs.map fun f=>XF.aB ρ f j)=gK ρ ι (fs.map fun f=>match f.1 with | some k=>S.int k (.lit 0) | none=>.bool (.blit false)):=by
      intro j
      rw [gK,List.map_map]
      refine List.map_congr_left fun f hf=>?_
      have F:=List.all_eq_true.1 hn.2 f hf
      simp only [decide_eq_true_eq] at F
      simp only [XF.aB,F,cC,List.getD_nil,Function.comp]
      split <;> rename_i he <;> simp [he,S.aB,aC,aN]
     have hr:(Seg.rows (.lit n) fs o).cells ρ ι=(List.replicate n.toNat (gK ρ ι (fs.map fun f=>match f.1 with | some k=>S.int k (.lit 0) | none=>.bool (.blit false)))).flatten:=by
      simp only [Seg.cells,aC]
      rw [show (fun j=>fs.map fun f=>XF.aB ρ f (o+j))=fun _=>gK ρ ι (fs.map fun f=>match f.1 with | some k=>S.int k (.lit 0) | none=>.bool (.blit false)) from funext fun j=>hc _]
      generalize gK ρ ι _=L
      rw [List.flatMap_def,List.map_const'];simp
     rw [hr];simp [aHf]
    ·cases h
   ·cases h
theorem pM {t:TypeId} {v:SV} (h:yI P t=some v):(zeroValue t).run P w=.ok (v.aB ρ ι) w:=by
 unfold yI at h
 split at h
 ·rename_i z hz
  rw [Option.bind_eq_some_iff] at hz
  obtain ⟨i,hi,hz⟩:=hz
  have:(zeroValue t).run P w=.ok z w:=by simp [zeroValue,typeInfo,hi,hz]
  rw [this]
  split at h
  ·rename_i cs
   split at h
   ·split at h
    ·rename_i pl hpl
     split at h
     ·rename_i hc
      simp only [Option.some.injEq] at h;subst h
      have:=bKg (ρ:=ρ) (ι:=ι) hc
      simp only [gK,List.map_nil,List.replicate_zero,List.flatten_nil,List.nil_append,bBJ hpl] at this
      simp only [SV.aB,← this]
     ·cases h
    ·cases h
   ·cases h
  ·rw [aDI (ρ:=ρ) (ι:=ι) h]
 ·cases h
end
def bGw (aE:List Seg) (off n:Nat) (new:List Seg):Option (List Seg) :=
 if dU new=some n then
  match bQ off aE,bG (off+n) aE with
  | some a,some b=>some (a++new++b)
  | _,_=>none
 else none
def aHK:SV→Option (List Seg)
 | .s (.val _)=>none
 | .s x=>some [.one x]
 | .agg l=>some l
 | _=>none
def aDV (place:Nat→Option (Nat × Nat)):List Seg→List (Nat × SV)→Option (List Seg)
 | aE,[]=>some aE
 | aE,(i,v)::r=>match place i,aHK v with
   | some (off,n),some l=>match bGw aE off n l with
     | some s=>aDV place s r
     | none=>none
   | _,_=>none
def aTV (P:Program):List Field→Option (List (Nat × Nat))
 | []=>some []
 | f::l=>match cL P f.type,aTV P l with
   | some n,some r=>some ((f.offset,n)::r)
   | _,_=>none
def aVC (P:Program) (t:TypeId) (parts:List (Nat × SV)):Option (List E × SV) :=
 match yI P t with
 | some (.agg z)=>match P.underlying t with
   | some (.struct fs)=>match aTV P fs.toList with
     | some ps=>(aDV (ps[·]?) z parts).map fun l=>([],.agg l)
     | none=>none
   | some (.array _ e)=>match cL P e with
     | some n=>(aDV (fun i=>some (i*n,n)) z parts).map fun l=>([],.agg l)
     | none=>none
   | _=>none
 | _=>none
section
variable {ρ:Env} {ι:Loc} {P:Program} {w:World}
theorem aFh {v:SV} {l:List Seg} (h:aHK v=some l):(v.aB ρ ι).cells=(cellsOf ρ ι l).toArray:=by
 unfold aHK at h
 split at h
 ·cases h
 ·rename_i x hx
  simp only [Option.some.injEq] at h;subst h
  show (S.aB ρ ι x).cells=_
  rw [aBR (fun n hn=>hx n hn)];simp [cellsOf,Seg.cells]
 ·simp only [Option.some.injEq] at h;subst h;rfl
 ·cases h
theorem aAr (off:Nat):∀ (l:List Value) (k:Nat) (cs:Array Value),off+k+l.length≤cs.size →
 ((l.zipIdx k).foldl (fun cs (p:Value × Nat)=>cs.setIfInBounds (off+p.2) p.1) cs).toList=cs.toList.take (off+k)++l++cs.toList.drop (off+k+l.length)
 | [],k,cs,h=>by simp
 | v::l,k,cs,h=>by
   simp only [List.length_cons] at h
   simp only [List.zipIdx_cons,List.foldl_cons]
   rw [aAr off l (k+1) _ (by simp;omega)]
   apply List.ext_getElem?
   intro j
   simp only [Array.toList_setIfInBounds,List.getElem?_append,List.length_append,List.length_take,List.length_set,List.getElem?_take,List.getElem?_set,List.getElem?_drop,List.length_cons,Array.length_toList]
   by_cases F:j<off+k
   ·rw [if_pos (by omega),if_pos (by omega),if_pos (by omega),if_neg (by omega),if_pos (by omega),if_pos (by omega),if_pos F]
   ·by_cases J:j=off+k
    ·subst J
     rw [if_pos (by omega),if_pos (by omega),if_pos (by omega),if_pos rfl,if_pos (by omega),if_pos (by omega),if_neg (by omega),show off+k-min (off+k) cs.size=0 by omega];rfl
    ·by_cases M:j<off+k+1+l.length
     ·rw [if_pos (by omega),if_neg (by omega),if_pos (by omega),if_neg (by omega),show j-min (off+k) cs.size=(j-min (off+(k+1)) cs.size)+1 by omega,List.getElem?_cons_succ]
     ·rw [if_neg (by omega),if_neg (by omega),if_neg (by omega)]
      congr 1;omega
theorem xO {place:Nat→Option (Nat × Nat)}:∀ {parts:List (Nat × SV)} {aE l:List Seg},aDV place aE parts=some l →
 Instr.fill place (cellsOf ρ ι aE).toArray (parts.map fun p=>(p.1,p.2.aB ρ ι))=some (cellsOf ρ ι l).toArray
 | [],aE,l,h=>by simp only [aDV,Option.some.injEq] at h;subst h;rfl
 | (i,v)::r,aE,l,h=>by
   simp only [aDV] at h
   split at h
   ·rename_i off n l' hp hv
    split at h
    ·rename_i s hs
     unfold bGw at hs
     split at hs
     ·rename_i hlen
      split at hs
      ·rename_i a b ha hb
       simp only [Option.some.injEq] at hs;subst hs
       have e1:=dX (ρ:=ρ) (ι:=ι) _ _ _ ha
       have e2:=dI (ρ:=ρ) (ι:=ι) _ _ _ hb
       have e3:=eG (ρ:=ρ) (ι:=ι) hlen
       have e4:=aFh (ρ:=ρ) (ι:=ι) hv
       have hf:((v.aB ρ ι).cells.zipIdx.foldl (fun cs (p:Value × Nat)=>cs.setIfInBounds (off+p.2) p.1) (cellsOf ρ ι aE).toArray)=(cellsOf ρ ι (a++l'++b)).toArray:=by
        rw [e4,cA,cA,e1.1,e2.1]
        have:=aAr off (cellsOf ρ ι l') 0 (cellsOf ρ ι aE).toArray (by simp;omega)
        simp only [Nat.add_zero] at this
        rw [e3] at this
        rw [← this]
        simp
       simp only [List.map_cons,Instr.fill,hp]
       have hsz:(v.aB ρ ι).cells.size=n:=by rw [e4];simpa using e3
       have hle:off+(v.aB ρ ι).cells.size≤(cellsOf ρ ι aE).toArray.size:=by rw [hsz];simpa using e2.2
       rw [if_neg (by simp [hsz];rw [hsz] at hle;simpa using hle)]
       rw [show ((v.aB ρ ι).cells.zipIdx.foldl (fun cs x=>match x with | (c,j)=>cs.setIfInBounds (off+j) c) (cellsOf ρ ι aE).toArray)=_ from hf]
       exact xO h
      ·cases hs
     ·cases hs
    ·cases h
   ·cases h
theorem aTW (w:World):∀ {l:List Field} {r:List (Nat × Nat)},aTV P l=some r→(l.mapM fun f=>do pure (f.offset,← sizeOf f.type):Sem (List (Nat × Nat))).run P w=.ok r w
 | [],r,h=>by simp only [aTV,Option.some.injEq] at h;subst h;simp
 | f::l,r,h=>by
   simp only [aTV] at h
   split at h
   ·rename_i n r' hn hr
    simp only [Option.some.injEq] at h;subst h
    have:=aTW w hr
    rw [List.mapM_cons]
    simp only [Sem.run_bind,bD hn,Result.andThen_ok,Sem.run_pure,this]
   ·cases h
theorem bBM {t:TypeId} {parts:List (Nat × SV)} {nd:List E} {r:SV} (h:aVC P t parts=some (nd,r)) :
 (Instr.build t (parts.map fun p=>(p.1,p.2.aB ρ ι)).toArray).run P w=.ok (r.aB ρ ι) w:=by
 unfold aVC at h
 split at h
 ·rename_i z hz
  have hzero:=pM (ρ:=ρ) (ι:=ι) (w:=w) hz
  unfold Instr.build
  rw [Sem.run_bind,hzero,Result.andThen_ok]
  rw [show (SV.aB ρ ι (.agg z)).cells=(cellsOf ρ ι z).toArray from rfl]
  split at h
  ·rename_i fs hu
   split at h
   ·rename_i ps hps
    simp only [Option.map_eq_some_iff,Prod.mk.injEq] at h
    obtain ⟨l,hl,rfl,rfl⟩:=h
    rw [Sem.run_bind,run_underlying hu,Result.andThen_ok]
    have hm:(fs.mapM fun f=>do pure (f.offset,← sizeOf f.type):Sem (Array (Nat × Nat))).run P w=.ok ps.toArray w:=by
     have:=aTW w hps
     rw [Array.mapM_eq_mapM_toList,Sem.run_map,this]
     rfl
    have key:=xO (ρ:=ρ) (ι:=ι) hl
    generalize (parts.map fun p=>(p.1,p.2.aB ρ ι))=pp at key ⊢
    simp only [Sem.run_bind,hm,Result.andThen_ok]
    simp [key,SV.aB]
   ·cases h
  ·rename_i n e hu
   split at h
   ·rename_i k hk
    simp only [Option.map_eq_some_iff,Prod.mk.injEq] at h
    obtain ⟨l,hl,rfl,rfl⟩:=h
    rw [Sem.run_bind,run_underlying hu,Result.andThen_ok]
    have key:=xO (ρ:=ρ) (ι:=ι) hl
    generalize (parts.map fun p=>(p.1,p.2.aB ρ ι))=pp at key ⊢
    simp [bD hk,key,SV.aB]
   ·cases h
  ·cases h
 ·cases h
theorem bBR {z:List Value} {k:Nat} (hz:z.length=k):∀ n,(List.range (n*k)).map (fun i=>z[i%k]!)=(List.replicate n z).flatten:=by
 intro n
 induction n with
 | zero=>simp
 | succ n ih =>
   rw [Nat.succ_mul,List.range_add,List.map_append,ih,List.replicate_succ',List.flatten_append]
   congr 1
   simp only [List.map_map,List.flatten_cons,List.flatten_nil,List.append_nil]
   apply List.ext_getElem?
   intro j
   simp only [List.getElem?_map,Function.comp_def]
   by_cases hj:j<k
   ·rw [List.getElem?_range hj]
    simp only [Option.map_some,Nat.mul_add_mod_self_right,Nat.mod_eq_of_lt hj]
    rw [List.getElem?_eq_getElem (by omega),getElem!_pos z j (by omega)]
   ·rw [List.getElem?_eq_none (by simp;omega),List.getElem?_eq_none (by omega)];rfl
theorem aEr (l:List (List Seg)):cellsOf ρ ι l.flatten=(l.map (cellsOf ρ ι)).flatten:=by
 induction l with
 | nil=>rfl
 | cons a l ih=>rw [List.flatten_cons,cA,ih];rfl
end
def aDq (k:IntKind):List Seg→Option (List Int)
 | []=>some []
 | .one (.int k' (.lit z))::l=>if k'=k then (aDq k l).map (z::·) else none
 | _=>none
def aWh (l:List Seg):List Seg :=
 match l with
 | .one (.int k _)::_=>match aDq k l with
   | some zs=>[.run k (.lit zs.length) (.tab zs) 0]
   | none=>l
 | _=>l
def bBP (P:Program) (e:TypeId) (len n:Nat) (idx:List Nat) (vals:List SV):Option (List Seg) :=
 match yI P e with
 | some z0=>match aHK z0 with
   | some zs=>if n ≠ 0∧dU zs=some n∧len ≠ 0 then (aDV (fun i=>some (i*n,n)) (List.replicate len zs).flatten (idx.zip vals)).map aWh else none
   | none=>none
 | none=>none
section
variable {ρ:Env} {ι:Loc} {P:Program} {w:World}
theorem aGS {k:IntKind}:∀ {l:List Seg} {zs:List Int},aDq k l=some zs→cellsOf ρ ι l=zs.map fun z=>.int k z
 | [],zs,h=>by simp only [aDq,Option.some.injEq] at h;subst h;rfl
 | x::l,zs,h=>by
   unfold aDq at h
   split at h
   ·contradiction
   ·rename_i heq
    cases heq
    split at h
    ·rename_i hk;subst hk
     simp only [Option.map_eq_some_iff] at h
     obtain ⟨r,hr,rfl⟩:=h
     rw [aD,aGS hr];rfl
    ·cases h
   ·cases h
theorem bCJ (l:List Seg):cellsOf ρ ι (aWh l)=cellsOf ρ ι l:=by
 unfold aWh
 split
 ·split
  ·rename_i zs hz
   rw [aGS (ρ:=ρ) (ι:=ι) hz]
   simp only [cellsOf,List.flatMap_cons,List.flatMap_nil,List.append_nil,Seg.cells,aC,cC,Int.toNat_natCast,Nat.zero_add]
   apply List.ext_getElem?
   intro j
   simp only [List.getElem?_map]
   by_cases hj:j<zs.length
   ·rw [List.getElem?_range hj,List.getElem?_eq_getElem hj]
    simp [List.getD_eq_getElem?_getD,List.getElem?_eq_getElem hj]
   ·rw [List.getElem?_eq_none (by simpa using hj),List.getElem?_eq_none (by omega)];rfl
  ·rfl
 ·rfl
theorem bAo {e:TypeId} {len n:Nat} {idx:List Nat} {vals:List SV} {l:List Seg} (h:bBP P e len n idx vals=some l) :
 len*n ≠ 0∧∃ z,(zeroValue e).run P w=.ok z w∧Instr.fill (fun i=>some (i*n,n)) ((Array.range (len*n)).map (z.cells[·%z.cells.size]!)) (idx.zip (vals.map (SV.aB ρ ι)))=some (cellsOf ρ ι l).toArray:=by
 unfold bBP at h
 split at h
 ·rename_i z0 hz
  split at h
  ·rename_i zs hzs
   split at h
   ·rename_i hc
    simp only [Option.map_eq_some_iff] at h
    obtain ⟨l',hl',rfl⟩:=h
    refine ⟨Nat.mul_ne_zero hc.2.2 hc.1,z0.aB ρ ι,pM hz,?_⟩
    have e1:=aFh (ρ:=ρ) (ι:=ι) hzs
    have e2:=eG (ρ:=ρ) (ι:=ι) hc.2.1
    have e3:((Array.range (len*n)).map ((z0.aB ρ ι).cells[·%(z0.aB ρ ι).cells.size]!))=(cellsOf ρ ι (List.replicate len zs).flatten).toArray:=by
     rw [e1,aEr,List.map_replicate,← bBR e2]
     apply Array.ext'
     simp [e2]
    rw [e3,bCJ]
    have:=xO (ρ:=ρ) (ι:=ι) hl'
    rw [← this]
    congr 1
    rw [List.zip_map_right]
    rfl
   ·cases h
  ·cases h
 ·cases h
end
def aTt (bit:Bool) (n A B:E) (o q:Nat):E:=if A=B∧o=q then .blit true else .aeq bit n A B o q
def aDd (n:E) (o q:Nat):List XF→List XF→Option E
 | [],[]=>some (.blit true)
 | f::l,g::r=>if f.1=g.1 then (aDd n o q l r).map fun e=>mkAnd (aTt f.1.isNone n f.2 g.2 o q) e else none
 | _,_=>none
def xA (eq:List Seg→List Seg→Option E) (sz:Nat):Nat→List Seg→List Seg→Option E
 | 0,_,_=>some (.blit true)
 | k+1,l,r=>match bQ sz l,bQ sz r,bG sz l,bG sz r with
   | some a,some b,some l',some r'=>match eq a b,xA eq sz k l' r' with
     | some e,some e'=>some (mkAnd e e')
     | _,_=>none
   | _,_,_,_=>none
def bIC (eq:TypeId→List Seg→List Seg→Option E) (P:Program) (l r:List Seg):List Field→Option E
 | []=>some (.blit true)
 | f::fs=>if f.name = "_" then none else match cL P f.type,bG f.offset l,bG f.offset r with
   | some n,some Y,some r1=>match bQ n Y,bQ n r1 with
     | some a,some b=>match eq f.type a b,bIC eq P l r fs with
       | some e,some e'=>some (mkAnd e e')
       | _,_=>none
     | _,_=>none
   | _,_,_=>none
def aGK (P:Program):List Field→Nat→List XF→Bool
 | [],_,[]=>true
 | g::gs,i,f::fs=>decide (g.name ≠ "_")&&decide (g.offset=i)&&decide (jH P g.type=some false)&&(match P.underlying g.type,f.1 with | some (.int _),some _=>true | some .bool,none=>true | _,_=>false)&&aGK P gs (i+1) fs
 | _,_,_=>false
def eqT (P:Program) (H:Hyp):Nat→TypeId→List Seg→List Seg→Option E
 | 0,_,_,_=>none
 | d+1,t,l,r=>match P.underlying t with
   | some (.int _)=>match l,r with
     | [.one (.int k a)],[.one (.int k' b)]=>if k=k' then some (mkEq H a b) else none
     | _,_=>none
   | some .bool=>match l,r with
     | [.one (.bool a)],[.one (.bool b)]=>some (mkIff a b)
     | _,_=>none
   | some (.struct fs)=>if P.stoodInHeld t then none else bIC (eqT P H d) P l r fs.toList
   | some (.array n e)=>match P.underlying e,l,r with
     | some (.int _),[.run k (.lit z) A o],[.run k' (.lit z') B q]=>if k=k'∧z=n∧z'=n∧cL P e=some 1∧d ≠ 0 then some (aTt false (.lit n) A B o q) else none
     | some (.struct gs),[.rows (.lit z) fs o],[.rows (.lit z') fs' q] =>
       if z=n∧z'=n∧cL P e=some fs.length∧0<fs.length∧P.stoodInHeld e=false∧aGK P gs.toList 0 fs=true∧2≤d then aDd (.lit n) o q fs fs' else none
     | _,_,_=>match cL P e with
       | some sz=>if n≤64∧jH P e=some true then xA (eqT P H d e) sz n l r else none
       | none=>none
   | _=>none
def nU (d:Nat) (e:TypeId) (sz:Nat) (xs ys:Array Value):List Nat→Sem Bool
 | []=>pure true
 | i::l=>do
   let a ← part e xs (i*sz)
   let b ← part e ys (i*sz)
   let r ← Op.equalIn d e a b
   if (!r)=true then pure false else nU d e sz xs ys l
section
variable {P:Program} {w:World}
theorem run_equalIn_array (d:Nat) (t:TypeId) (xs ys:Array Value) {n sz:Nat} {e:TypeId} (ht:P.underlying t=some (.array n e)) (hs:cL P e=some sz) :
 (Op.equalIn (d+1) t (.agg xs) (.agg ys)).run P w=(nU d e sz xs ys (List.range n)).run P w:=by
 simp only [Op.equalIn,Sem.run_bind,run_underlying ht,Result.andThen_ok,bD hs]
 rw [Std.Legacy.Range.forIn_eq_forIn_range']
 have hr:List.range' [:n].start [:n].size [:n].step=List.range n:=by simp [Std.Legacy.Range.size,List.range_eq_range']
 rw [hr]
 generalize List.range n=is
 induction is generalizing w with
 | nil=>simp [nU]
 | cons i is ih =>
   simp only [List.forIn_cons,nU,Sem.run_bind,Sem.run_ite]
   generalize (part e xs (i*sz)).run P w=r1
   cases r1 with
   | ok a w1 =>
     simp only [Result.andThen_ok]
     generalize (part e ys (i*sz)).run P w1=r2
     cases r2 with
     | ok b w2 =>
       simp only [Result.andThen_ok]
       generalize (Op.equalIn d e a b).run P w2=r3
       cases r3 with
       | ok r w3 =>
         cases r
         ·simp only [Result.andThen_ok,Bool.not_false,if_true,Sem.run_pure]
         ·simp only [Result.andThen_ok,Bool.not_true,Bool.false_eq_true,if_false,Sem.run_pure]
          exact ih
       | halt x w3=>simp [Result.andThen]
     | halt x w2=>simp [Result.andThen]
   | halt x w1=>simp [Result.andThen]
variable {ρ:Env} {ι:Loc} {H:Hyp}
def kW (P:Program) (ρ:Env) (ι:Loc) (t:TypeId) (l:List Seg):Value:=if jH P t=some true then .agg (cellsOf ρ ι l).toArray else ((cellsOf ρ ι l)[0]?).getD Go.undef
theorem aTB {t:TypeId} {l Y a:List Seg} {off n:Nat} {g:Bool} (hg:jH P t=some g) (hs:cL P t=some n) (hd:bG off l=some Y) (ht:bQ n Y=some a) (F:g=false→(cellsOf ρ ι a) ≠ []) :
 (part t (cellsOf ρ ι l).toArray off).run P w=.ok (kW P ρ ι t a) w:=by
 have e1:=dI (ρ:=ρ) (ι:=ι) _ _ _ hd
 have e2:=dX (ρ:=ρ) (ι:=ι) _ _ _ ht
 unfold part kW
 cases g with
 | true =>
   rw [Sem.run_bind,jK hg,Result.andThen_ok,if_pos hg]
   simp only [if_true,Sem.run_bind,bD hs,Result.andThen_ok,Sem.run_pure]
   congr 2
   rw [e2.1,e1.1]
   apply Array.ext'
   simp [List.take_drop,Nat.add_comm]
 | false =>
   rw [Sem.run_bind,fN hg,Result.andThen_ok]
   have hno:¬ jH P t=some true:=by rw [hg];simp
   rw [if_neg hno]
   simp only [Bool.false_eq_true,if_false]
   have hne:=F rfl
   rw [e2.1,e1.1] at hne ⊢
   have hlen:0<((cellsOf ρ ι l).drop off).length∧0<n:=by
    constructor
    ·rcases hc:(cellsOf ρ ι l).drop off with _ | ⟨v,r⟩
     ·rw [hc] at hne;simp at hne
     ·simp
    ·rcases n with _ | n
     ·simp at hne
     ·omega
   have hoff:off<(cellsOf ρ ι l).length:=by simp only [List.length_drop] at hlen;omega
   rw [List.getElem?_take,if_pos hlen.2,List.getElem?_drop,Nat.add_zero]
   simp [hoff]
theorem bIE {d:Nat} {t:TypeId} {l r:List Seg} {e:E} (h:eqT P H d t l r=some e) (hg:jH P t=some false):cellsOf ρ ι l ≠ []∧cellsOf ρ ι r ≠ []:=by
 cases d with
 | zero=>simp [eqT] at h
 | succ d =>
   unfold eqT at h
   unfold jH at hg
   split at h
   ·split at h
    ·simp [aD,aT]
    ·cases h
   ·split at h
    ·simp [aD,aT]
    ·cases h
   ·rename_i hu;rw [hu] at hg;cases hg
   ·rename_i hu;rw [hu] at hg;cases hg
   ·cases h
theorem bBb {t:TypeId} {n:Nat} (h:cL P t=some n) {d:Nat} {l r:List Seg} {e:E} (he:eqT P H d t l r=some e):∃ g,jH P t=some g:=by
 cases d with
 | zero=>simp [eqT] at he
 | succ d =>
   unfold eqT at he
   unfold jH
   split at he
   ·rename_i hu;exact ⟨false,by rw [hu]⟩
   ·rename_i hu;exact ⟨false,by rw [hu]⟩
   ·rename_i hu;exact ⟨true,by rw [hu]⟩
   ·rename_i hu;exact ⟨true,by rw [hu]⟩
   ·cases he
theorem aZq {n:E} {o q:Nat}:∀ {fs gs:List XF} {e:E},aDd n o q fs gs=some e→fs.length=gs.length∧(e.b ρ=true↔∀ j,j<(n.i ρ).toNat→(fs.map fun f=>XF.aB ρ f (o+j))=gs.map fun g=>XF.aB ρ g (q+j))
 | [],[],e,h=>by simp only [aDd,Option.some.injEq] at h;subst h;simp [aN]
 | [],_::_,e,h=>by simp [aDd] at h
 | _::_,[],e,h=>by simp [aDd] at h
 | f::fs,g::gs,e,h=>by
   simp only [aDd] at h
   split at h
   ·rename_i hk
    simp only [Option.map_eq_some_iff] at h
    obtain ⟨e',he',rfl⟩:=h
    obtain ⟨F,J⟩:=aZq he'
    refine ⟨by simp [F],?_⟩
    have M:(aTt f.1.isNone n f.2 g.2 o q).b ρ=true↔∀ j,j<(n.i ρ).toNat→XF.aB ρ f (o+j)=XF.aB ρ g (q+j):=by
     unfold aTt
     split
     ·rename_i hc
      rw [aN]
      simp only [true_iff]
      intro j _
      simp only [XF.aB,hk,hc.1,hc.2]
     ·rw [aJg,List.all_eq_true]
      simp only [List.mem_range]
      refine forall_congr' fun j=>forall_congr' fun hj=>?_
      simp only [XF.aB,← hk]
      cases hf:f.1 with
      | some k=>simp
      | none =>
        simp only [Option.isNone_none,if_true,Value.bool.injEq]
        by_cases F:f.2.a ρ (o+j)=0 <;> by_cases J:g.2.a ρ (q+j)=0 <;> simp [F,J,bne,BEq.beq]
    rw [dS,Bool.and_eq_true,J,M]
    constructor
    ·rintro ⟨a,b⟩ j hj;rw [List.map_cons,List.map_cons,a j hj,b j hj]
    ·intro a
     refine ⟨fun j hj=>?_,fun j hj=>?_⟩
     ·have:=a j hj;rw [List.map_cons,List.map_cons] at this;exact (List.cons.inj this).1
     ·have:=a j hj;rw [List.map_cons,List.map_cons] at this;exact (List.cons.inj this).2
   ·cases h
theorem zC {d sz:Nat} {e:TypeId} {xs ys:Array Value} {f:Nat→Bool}:∀ (l:List Nat),(∀ i ∈ l,∃ a b,(part e xs (i*sz)).run P w=.ok a w∧(part e ys (i*sz)).run P w=.ok b w∧(Op.equalIn d e a b).run P w=.ok (f i) w) →
 (nU d e sz xs ys l).run P w=.ok (l.all f) w
 | [],_=>rfl
 | i::l,h=>by
   obtain ⟨a,b,F,J,M⟩:=h i (.head _)
   simp only [nU,Sem.run_bind,F,J,M,Result.andThen_ok,List.all_cons]
   cases f i
   ·simp
   ·simp only [Bool.not_true,Bool.false_eq_true,if_false,Bool.true_and]
    exact zC l fun i hi=>h i (.tail _ hi)
theorem aZt {D:Nat} {xs ys:List Value}:∀ {gs:List Field} {i:Nat} {fs fs':List XF} {a b:Nat},aGK P gs i fs=true→fs.map (·.1)=fs'.map (·.1)→xs.drop i=(fs.map fun f=>XF.aB ρ f a)→ys.drop i=(fs'.map fun f=>XF.aB ρ f b) →
 ∃ t:Bool,(Op.eqFields (D+1) xs.toArray ys.toArray gs).run P w=.ok t w∧(t=true↔xs.drop i=ys.drop i)
 | [],i,[],[],a,b,_,_,hx,hy=>⟨true,rfl,by rw [hx,hy];simp⟩
 | [],i,[],_::_,a,b,_,h,_,_=>by simp at h
 | [],i,_::_,fs',a,b,h,_,_,_=>by simp [aGK] at h
 | g::gs,i,[],fs',a,b,h,_,_,_=>by simp [aGK] at h
 | g::gs,i,f::fs,[],a,b,_,h,_,_=>by simp at h
 | g::gs,i,f::fs,f'::fs',a,b,h,hk,hx,hy=>by
   simp only [aGK,Bool.and_eq_true,decide_eq_true_eq] at h
   obtain ⟨⟨⟨⟨F,J⟩,M⟩,T⟩,Z⟩:=h
   simp only [List.map_cons,List.cons.injEq] at hk
   have hx1:xs[i]? = some (XF.aB ρ f a):=by have:=congrArg (fun l=>l[0]?) hx;simpa using this
   have hy1:ys[i]? = some (XF.aB ρ f' b):=by have:=congrArg (fun l=>l[0]?) hy;simpa using this
   have hx2:xs.drop (i+1)=fs.map fun f=>XF.aB ρ f a:=by have:=congrArg List.tail hx;simpa [List.tail_drop] using this
   have hy2:ys.drop (i+1)=fs'.map fun f=>XF.aB ρ f b:=by have:=congrArg List.tail hy;simpa [List.tail_drop] using this
   obtain ⟨t,ht,htt⟩:=aZt Z hk.2 hx2 hy2
   have px:(part g.type xs.toArray g.offset).run P w=.ok (XF.aB ρ f a) w:=by
    unfold part;rw [Sem.run_bind,fN M,Result.andThen_ok];simp [J,hx1]
   have py:(part g.type ys.toArray g.offset).run P w=.ok (XF.aB ρ f' b) w:=by
    unfold part;rw [Sem.run_bind,fN M,Result.andThen_ok];simp [J,hy1]
   have hc:∃ c:Bool,(Op.equalIn (D+1) g.type (XF.aB ρ f a) (XF.aB ρ f' b)).run P w=.ok c w∧(c=true↔XF.aB ρ f a=XF.aB ρ f' b):=by
    split at T
    ·rename_i kk k hu hf
     have hf':f'.1=some k:=by rw [← hk.1,hf]
     simp only [XF.aB,hf,hf']
     exact ⟨_,run_equalIn_int w D g.type _ _ _ _ hu,by simp⟩
    ·rename_i hu hf
     have hf':f'.1=none:=by rw [← hk.1,hf]
     simp only [XF.aB,hf,hf']
     exact ⟨_,run_equalIn_bool' w D g.type _ _ hu,by simp⟩
    ·cases T
   obtain ⟨c,a0,hc2⟩:=hc
   refine ⟨c&&t,?_,?_⟩
   ·simp only [Op.eqFields,Sem.run_ite,Sem.run_bind]
    rw [if_pos F,px,Result.andThen_ok,py,Result.andThen_ok,a0,Result.andThen_ok]
    cases c
    ·simp
    ·simp only [Bool.not_true,Bool.false_eq_true,if_false,Bool.true_and];exact ht
   ·rw [Bool.and_eq_true,hc2,htt,hx2,hy2,hx,hy,List.map_cons,List.map_cons,List.cons.injEq]
theorem aDe {n:E} {o q:Nat}:∀ {fs gs:List XF} {e:E},aDd n o q fs gs=some e→fs.map (·.1)=gs.map (·.1)
 | [],[],e,h=>rfl
 | [],_::_,e,h=>by simp [aDd] at h
 | _::_,[],e,h=>by simp [aDd] at h
 | f::fs,g::gs,e,h=>by
   simp only [aDd] at h
   split at h
   ·rename_i hk
    simp only [Option.map_eq_some_iff] at h
    obtain ⟨e',he',rfl⟩:=h
    rw [List.map_cons,List.map_cons,hk,aDe he']
   ·cases h
theorem bOY (hH:H.ok ρ):∀ (d:Nat) (t:TypeId) (l r:List Seg) (e:E),eqT P H d t l r=some e→∀ D,d≤D→(Op.equalIn D t (kW P ρ ι t l) (kW P ρ ι t r)).run P w=.ok (e.b ρ) w:=by
 intro d
 induction d with
 | zero=>intro t l r e h;simp [eqT] at h
 | succ d ih =>
   intro t l r e h D hD
   obtain ⟨D,rfl⟩:∃ k,D=k+1:=⟨D-1,by omega⟩
   have hD':d≤D:=by omega
   unfold eqT at h
   split at h
   ·rename_i k hu
    have hv:∀ l,kW P ρ ι t l=((cellsOf ρ ι l)[0]?).getD Go.undef:=fun l=>by unfold kW;rw [if_neg (by unfold jH;rw [hu];simp)]
    split at h
    ·split at h
     ·rename_i ka a kb b hk
      subst hk
      simp only [Option.some.injEq] at h;subst h
      rw [hv,hv]
      simp only [aD,aT,List.singleton_append,List.getElem?_cons_zero,Option.getD_some,S.aB]
      rw [run_equalIn_int w D t _ _ _ _ hu,gC hH];rfl
     ·cases h
    ·cases h
   ·rename_i hu
    have hv:∀ l,kW P ρ ι t l=((cellsOf ρ ι l)[0]?).getD Go.undef:=fun l=>by unfold kW;rw [if_neg (by unfold jH;rw [hu];simp)]
    split at h
    ·simp only [Option.some.injEq] at h;subst h
     rw [hv,hv]
     simp only [aD,aT,List.singleton_append,List.getElem?_cons_zero,Option.getD_some,S.aB]
     rw [run_equalIn_bool' w D t _ _ hu,aBn]
    ·cases h
   ·rename_i fs hu
    have hv:∀ l,kW P ρ ι t l=.agg (cellsOf ρ ι l).toArray:=fun l=>by unfold kW;rw [if_pos (by unfold jH;rw [hu])]
    split at h
    ·cases h
    ·rename_i hst
     have hfo:P.fieldsOf t=fs:=by unfold Program.fieldsOf;rw [hu]
     rw [hv,hv,run_equalIn_struct w D t _ _ (by rw [hfo];exact hu) (by simpa using hst),hfo]
     generalize fs.toList=L at h
     clear hu hfo hv
     induction L generalizing e with
     | nil=>simp only [bIC,Option.some.injEq] at h;subst h;rfl
     | cons f L ihL =>
       simp only [bIC] at h
       split at h
       ·cases h
       ·rename_i hname
        split at h
        ·rename_i n Y r1 hs W hr1
         split at h
         ·rename_i a b ha hb
          split at h
          ·rename_i e1 e2 X a4
           simp only [Option.some.injEq] at h;subst h
           obtain ⟨g,hg⟩:=bBb hs X
           have ha0:g=false→cellsOf ρ ι a ≠ []∧cellsOf ρ ι b ≠ []:=fun hh=>bIE X (by rw [hg,hh])
           simp only [Op.eqFields,Sem.run_ite,Sem.run_bind]
           rw [if_pos hname,aTB hg hs W ha (fun hh=>(ha0 hh).1),Result.andThen_ok,aTB hg hs hr1 hb (fun hh=>(ha0 hh).2),Result.andThen_ok,ih _ _ _ _ X D hD',Result.andThen_ok,dS]
           cases e1.b ρ
           ·simp
           ·simp only [Bool.not_true,Bool.false_eq_true,if_false,Bool.true_and]
            exact ihL _ a4
          ·cases h
         ·cases h
        ·cases h
   ·rename_i n e0 hu
    have hv:∀ l,kW P ρ ι t l=.agg (cellsOf ρ ι l).toArray:=fun l=>by unfold kW;rw [if_pos (by unfold jH;rw [hu])]
    rw [hv,hv]
    split at h
    ·rename_i k0 k z A o k' z' B q hue
     split at h
     ·rename_i hc
      obtain ⟨rfl,rfl,rfl,hs,hd0⟩:=hc
      simp only [Option.some.injEq] at h;subst h
      rw [run_equalIn_array D t _ _ hu hs]
      have hg:jH P e0=some false:=by unfold jH;rw [hue]
      obtain ⟨D',rfl⟩:∃ k,D=k+1:=⟨D-1,by omega⟩
      have key:∀ (A:E) (o i:Nat),i<n→(part e0 (cellsOf ρ ι [Seg.run k (.lit n) A o]).toArray (i*1)).run P w=.ok (.int k (A.a ρ (o+i))) w:=by
       intro A o i hi
       unfold part
       rw [Sem.run_bind,fN hg,Result.andThen_ok]
       have:(cellsOf ρ ι [Seg.run k (.lit n) A o])[i]? = some (.int k (A.a ρ (o+i))):=by
        rw [aD,List.getElem?_append_left (by rw [aZ,aC];simpa using hi),jB _ _ _ _ _ (by rw [aC];simpa using hi)]
       simp only [Bool.false_eq_true,if_false,Nat.mul_one,List.getElem?_toArray,this,Sem.run_pure]
      rw [zC (f:=fun i=>A.a ρ (o+i) == B.a ρ (q+i)) _ (fun i hi=>⟨_,_,key A o i (by simpa using hi),key B q i (by simpa using hi),run_equalIn_int w D' e0 _ _ _ _ hue⟩)]
      congr 1
      unfold aTt
      split
      ·rename_i hAB
       obtain ⟨rfl,rfl⟩:=hAB
       rw [aN,List.all_eq_true];simp
      ·rw [aJg,aC];simp
     ·cases h
    ·rename_i gs z fs o z' fs' q hue
     split at h
     ·rename_i hc
      obtain ⟨rfl,rfl,hs,hpos,hst,hfl,hd2⟩:=hc
      have hg:jH P e0=some true:=by unfold jH;rw [hue]
      rw [run_equalIn_array D t _ _ hu hs]
      obtain ⟨D',rfl⟩:∃ k,D=k+1+1:=⟨D-2,by omega⟩
      have hkk:=aDe h
      obtain ⟨hll,hiff⟩:=aZq (ρ:=ρ) h
      have key:∀ (fs:List XF) (o i:Nat) (hl:0<fs.length) (hs:cL P e0=some fs.length),i<n→(part e0 (cellsOf ρ ι [Seg.rows (.lit n) fs o]).toArray (i*fs.length)).run P w=.ok (.agg (fs.map fun f=>XF.aB ρ f (o+i)).toArray) w:=by
       intro fs o i hl hs hi
       unfold part
       rw [Sem.run_bind,jK hg,Result.andThen_ok]
       simp only [if_true,Sem.run_bind,bD hs,Result.andThen_ok,Sem.run_pure]
       congr 2
       rw [aD,show cellsOf ρ ι []=[] from rfl,List.append_nil]
       apply Array.ext'
       simp only [List.extract_toArray,List.extract_eq_take_drop]
       rw [show i*fs.length+fs.length-i*fs.length=fs.length by omega,uD (n:Int) fs o i hl (by omega),uC _ _ _ hl (by omega),List.take_append_of_le_length (by simp),List.take_of_length_le (by simp)]
      have cmp:∀ i,i<n→∃ c:Bool,(Op.equalIn (D'+1+1) e0 (.agg (fs.map fun f=>XF.aB ρ f (o+i)).toArray) (.agg (fs'.map fun f=>XF.aB ρ f (q+i)).toArray)).run P w=.ok c w∧(c=true↔(fs.map fun f=>XF.aB ρ f (o+i))=(fs'.map fun f=>XF.aB ρ f (q+i))):=by
       intro i hi
       have hfo:P.fieldsOf e0=gs:=by unfold Program.fieldsOf;rw [hue]
       rw [run_equalIn_struct w (D'+1) e0 _ _ (by rw [hfo];exact hue) hst,hfo]
       obtain ⟨c,c1,c2⟩:=aZt (w:=w) (D:=D') (xs:=fs.map fun f=>XF.aB ρ f (o+i)) (ys:=fs'.map fun f=>XF.aB ρ f (q+i)) hfl hkk rfl rfl
       exact ⟨c,c1,by simpa using c2⟩
      have cmp':∃ f:Nat→Bool,∀ i,i<n→(Op.equalIn (D'+1+1) e0 (.agg (fs.map fun f=>XF.aB ρ f (o+i)).toArray) (.agg (fs'.map fun f=>XF.aB ρ f (q+i)).toArray)).run P w=.ok (f i) w∧(f i=true↔(fs.map fun f=>XF.aB ρ f (o+i))=(fs'.map fun f=>XF.aB ρ f (q+i))):=by
       classical
       exact ⟨fun i=>if hi:i<n then Classical.choose (cmp i hi) else true,fun i hi=>by simp only [dif_pos hi];exact Classical.choose_spec (cmp i hi)⟩
      obtain ⟨f,hf⟩:=cmp'
      rw [zC (f:=f) _ (fun i hi=>⟨_,_,key fs o i hpos hs (by simpa using hi),by rw [hll];exact key fs' q i (by omega) (by rw [← hll];exact hs) (by simpa using hi),(hf i (by simpa using hi)).1⟩)]
      congr 1
      rw [Bool.eq_iff_iff,hiff,List.all_eq_true,aC]
      constructor
      ·intro a j hj;exact (hf j (by simpa using hj)).2.1 (a j (by simpa using hj))
      ·intro a j hj;exact (hf j (by simpa using hj)).2.2 (a j (by simpa using hj))
     ·cases h
    ·split at h
     ·rename_i sz hs
      split at h
      ·rename_i hc
       obtain ⟨_,hg⟩:=hc
       rw [run_equalIn_array D t _ _ hu hs]
       have key:∀ (k:Nat) (l r L R:List Seg) (i:Nat) (e:E),xA (eqT P H d e0) sz k l r=some e→cellsOf ρ ι l=(cellsOf ρ ι L).drop (i*sz)→cellsOf ρ ι r=(cellsOf ρ ι R).drop (i*sz) →
        (nU D e0 sz (cellsOf ρ ι L).toArray (cellsOf ρ ι R).toArray (List.range' i k)).run P w=.ok (e.b ρ) w:=by
        intro k
        induction k with
        | zero=>intro l r L R i e he _ _;simp only [xA,Option.some.injEq] at he;subst he;rfl
        | succ k ihk =>
          intro l r L R i e he hl hr
          simp only [xA] at he
          split at he
          ·rename_i a b l' r' ha hb hl' hr'
           split at he
           ·rename_i e1 e2 X a4
            simp only [Option.some.injEq] at he;subst he
            have a1:=dX (ρ:=ρ) (ι:=ι) _ _ _ ha
            have b1:=dX (ρ:=ρ) (ι:=ι) _ _ _ hb
            have l2:=dI (ρ:=ρ) (ι:=ι) _ _ _ hl'
            have r2:=dI (ρ:=ρ) (ι:=ι) _ _ _ hr'
            have pv:∀ (L l a:List Seg),cellsOf ρ ι l=(cellsOf ρ ι L).drop (i*sz)→cellsOf ρ ι a=(cellsOf ρ ι l).take sz→(part e0 (cellsOf ρ ι L).toArray (i*sz)).run P w=.ok (kW P ρ ι e0 a) w:=by
             intro L l a F J
             unfold part kW
             rw [Sem.run_bind,jK hg,Result.andThen_ok,if_pos hg]
             simp only [if_true,Sem.run_bind,bD hs,Result.andThen_ok,Sem.run_pure]
             congr 2
             rw [J,F]
             apply Array.ext'
             simp [List.take_drop,Nat.add_comm]
            rw [List.range'_succ]
            simp only [nU,Sem.run_bind]
            rw [pv L l a hl a1.1,Result.andThen_ok,pv R r b hr b1.1,Result.andThen_ok,ih _ _ _ _ X D hD',Result.andThen_ok,dS]
            cases e1.b ρ
            ·simp
            ·simp only [Bool.not_true,Bool.false_eq_true,if_false,Bool.true_and]
             refine ihk l' r' L R (i+1) e2 a4 ?_ ?_
             ·rw [l2.1,hl,List.drop_drop,Nat.add_mul,Nat.one_mul]
             ·rw [r2.1,hr,List.drop_drop,Nat.add_mul,Nat.one_mul]
           ·cases he
          ·cases he
       rw [List.range_eq_range']
       exact key n _ _ _ _ 0 e h (by simp) (by simp)
      ·cases h
     ·cases h
   ·cases h
end
def bGb (H:Hyp) (G:List E) (fr:Fr) (c a b:Operand):Option (List E × SV) :=
 match cM G fr c with
 | some (.s (.bool e0)) =>
   match fK H e0 with
   | .blit true=>(cM G fr a).map fun x=>([],x)
   | .blit false=>(cM G fr b).map fun x=>([],x)
   | e=>match cM (e0::e::G) fr a,cM (mkNot e0::mkNot e::G) fr b with
     | some (.s (.bool x)),some (.s (.bool y))=>some ([],.s (.bool (aIB e x y)))
     | some (.s (.int k x)),some (.s (.int k' y))=>if k=k' then some ([],.s (.int k (qM e x y))) else none
     | some x,some y=>if x=y then some ([],x) else none
     | _,_=>none
 | _=>none
def bQn (P:Program) (H:Hyp) (t:TypeId) (x:SV):Option (List E × SV) :=
 match P.underlying t,x with
 | some .string,.s (.str l)=>some ([],.s (.int .i64 (.lit l.length)))
 | some (.slice _),.s (.slc _ _ len _)=>if aL H 0 len then some ([],.s (.int .i64 len)) else none
 | some (.slice _),.s (.xslc _ _ _ len)=>if aL H 0 len then some ([],.s (.int .i64 len)) else none
 | some (.slice _),.s (.xtl _ _ _ _)=>some ([],.s (.int .i64 (.lit 0)))
 | some (.slice _),.s .nilSlc=>some ([],.s (.int .i64 (.lit 0)))
 | some (.array n _),_=>some ([],.s (.int .i64 (.lit n)))
 | some (.pointer r),_=>match P.underlying r with
   | some (.array n _)=>some ([],.s (.int .i64 (.lit n)))
   | _=>none
 | _,_=>none
def qMM (H:Hyp) (mx:Bool) (x y:SV):Option (List E × SV) :=
 match x,y with
 | .s (.int k a),.s (.int _ b)=>some ([],.s (.int k (if mx then mkIte (mkLt H a b) b a else mkIte (mkLt H b a) b a)))
 | _,_=>none
def rB (G:List E) (fr:Fr):List Operand→Option (List SV)
 | []=>some []
 | o::l=>match cM G fr o,rB G fr l with
   | some x,some r=>some (x::r)
   | _,_=>none
def bFT:List SV→Option (List (Nat × E))
 | []=>some []
 | .s (.ptr b off)::l=>(bFT l).map ((b,off)::·)
 | _=>none
def aIH (P:Program) (H:Hyp) (op:BinOp) (t:TypeId) (x y:SV):Option (List E × SV) :=
 match x,y with
 | .agg l,.agg r=>if P.eqGuardType P.depth t=true∨jH P t ≠ some true then none else match op with
   | .eql=>(eqT P H 12 t l r).map fun e=>([],.s (.bool e))
   | .neq=>(eqT P H 12 t l r).map fun e=>([],.s (.bool (mkNot e)))
   | _=>none
 | x,y=>bQl P H op t x y
def aJh (d:E):Option SV→Option E
 | none=>some d
 | some (.s (.int _ e))=>some e
 | _=>none
def aDL (G:List E) (fr:Fr):Option Operand→Option (Option SV)
 | none=>some none
 | some x=>(cM G fr x).map some
def aVG (P:Program) (H:Hyp) (t:TypeId) (x:SV) (lo hi:Option SV):Option (List E × SV) :=
 match x with
 | .s (.ptr b off)=>match bDl P t with
   | some (n,e)=>match cL P e,aJh (.lit 0) lo,aJh (.lit n) hi with
     | some s,some l,some h=>if aL H 0 off then some ([mkLe H (.lit 0) l,mkLe H l h,mkLe H h (.lit n),mkLt H l (.lit n)],.s (.slc b (mkAdd off (mkMul l (.lit s))) (mkSub h l) (.kn (mkSub (.lit n) l)))) else none
     | _,_,_=>none
   | none=>none
 | .s (.str l)=>if aIs P t then match aJh (.lit 0) lo,aJh (.lit l.length) hi with
    | some (.lit p),some (.lit q)=>if 0≤p∧p≤q∧q≤l.length then some ([],.s (.str ((l.drop p.toNat).take (q.toNat-p.toNat)))) else none
    | _,_=>none
   else none
 | .s (.xslc i (.lit 0) off len)=>match jC P t,oY H.x i with
   | some e,some xi=>match aJh (.lit 0) lo,aJh len hi with
     | some l,some h=>if cL P e=some xi.w∧aL H 0 off=true∧aL H 0 len=true then
        (if fK H (mkEq H (mkAdd off l) xi.n)=.blit true then some ([mkLe H (.lit 0) l,mkLe H l h,mkLe H (mkAdd off h) xi.n,mkLe H h l],.s (.xtl i (.lit 0) off (mkAdd off l))) else
        some ([mkLe H (.lit 0) l,mkLe H l h,mkLe H (mkAdd off h) xi.n,mkOr (mkOr (mkLe H l (.lit 0)) (mkLt H l h)) (mkLt H (mkAdd off l) xi.n)],.s (.xslc i (.lit 0) (mkAdd off l) (mkSub h l)))) else none
     | _,_=>none
   | _,_=>none
 | _=>none
def aDk (P:Program) (t:TypeId):Option Bool:=match P.underlying t with | some (.interface _)=>some true | some _=>some false | none=>none
def aDl:Operand→Bool
 | .const .nilIface=>true
 | _=>false
def bAm (P:Program) (op:BinOp) (t:TypeId) (b:Bool):Option (List E × SV):=if aDk P t=some true then match op with
 | .eql=>some ([],.s (.bool (.blit b)))
 | .neq=>some ([],.s (.bool (.blit !b)))
 | _=>none
 else none
def aIC (H:Hyp) (C:Blk):Bool:=C.grow.isNone||match C.aE with
 | .one _::_=>true
 | .run _ n _ _::_=>aL H 1 n
 | _=>false
def aDG (H:Hyp) (m:Mem) (b:Nat):Bool:=match m[b]? with
 | some C=>!C.dead&&aIC H C
 | none=>false
def bFW (P:Program) (H:Hyp) (m:Mem) (op:BinOp) (t:TypeId) (u v:SV):Option (List E × SV):=match u,v with
 | .s (.slc b off len (.op k)),.s .nilSlc=>if (aL H 1 len||aDG H m b)&&rZ P t then (match op with
    | .eql=>some ([],.s (.bool (.blit false)))
    | .neq=>some ([],.s (.bool (.blit true)))
    | _=>none) else none
 | .s (.slc _ _ _ (.tl _ _ _)),.s .nilSlc=>if rZ P t then (match op with
    | .eql=>some ([],.s (.bool (.blit false)))
    | .neq=>some ([],.s (.bool (.blit true)))
    | _=>none) else none
 | .s (.xslc i (.lit 0) off len),.s .nilSlc=>(match oY H.x i with
   | some x=>if aL H 1 len&&rZ P t&&decide (len=x.n) then (match op with
     | .eql=>some ([],.s (.bool (.blit false)))
     | .neq=>some ([],.s (.bool (.blit true)))
     | _=>none) else none
   | none=>none)
 | u,v=>aIH P H op t u v
def bFU (P:Program) (H:Hyp) (m:Mem) (op:BinOp) (t:TypeId) (nc:Bool) (u v:SV):Option (List E × SV):=cond nc (match u with
 | .s .nilIface=>bAm P op t true
 | .s (.ifc _ _ _)=>bAm P op t false
 | _=>none) (bFW P H m op t u v)
def bQo (P:Program) (t:TypeId):SV→Option (List E × SV)
 | .agg [.one (.int k e)]=>if aDk P t=some false then some ([],.s (.ifc t k e)) else none
 | _=>none
def aIG (P:Program) (t:TypeId):SV→Option (List E × SV)
 | .s (.ifc t' k e)=>if aDk P t=some false∧t'=t then some ([],.tup [(true,[.one (.int k e)]),(false,[.one (.bool (.blit true))])]) else none
 | _=>none
def qop (P:Program) (H:Hyp) (G:List E) (fr:Fr) (m:Mem) (o:Op):Option (List E × SV) :=
 match o with
 | .move x | .assign x=>(cM G fr x).map fun v=>([],v)
 | .pick c a b=>bGb H G fr c a b
 | .nilCheck x=>match cM G fr x with | some v=>bQp v | none=>none
 | .binOp op t x y _=>match cM G fr x,cM G fr y with
   | some u,some v=>bFU P H m op t (aDl y) u v
   | _,_=>none
 | .makeInterface t x=>match cM G fr x with | some v=>bQo P t v | none=>none
 | .typeAssert x s t true=>match cM G fr x with | some v=>aIG P t v | none=>none
 | .unOp op _ x=>match cM G fr x with | some v=>qUn H op v | none=>none
 | .convert s d x=>match cM G fr x with | some v=>bFY P H s d v | none=>none
 | .load t x=>match cM G fr x with | some v=>bAl P H m t v | none=>none
 | .fieldAddr t x f=>match cM G fr x with | some v=>vS P H t v f | none=>none
 | .field t x f=>match cM G fr x with | some v=>aVD P t v f | none=>none
 | .indexAddr t x y=>match cM G fr x,cM G fr y with
   | some u,some v=>vT P H t u v
   | _,_=>none
 | .index t x y=>match cM G fr x,cM G fr y with
   | some u,some v=>aVE P H t u v
   | _,_=>none
 | .extract x i=>match cM G fr x with | some v=>aDU v i | none=>none
 | .slice t x lo hi none=>match cM G fr x,aDL G fr lo,aDL G fr hi with
   | some u,some a,some b=>aVG P H t u a b
   | _,_,_=>none
 | .makeFunc (.func f) first iC=>if first.size=0 then match rB G fr iC.toList with
    | some l=>(bFT l).map fun c=>([],.s (.fn f c))
    | none=>none
   else none
 | .build t parts=>match rB G fr (parts.toList.map (·.2)) with
   | some l=>aVC P t ((parts.toList.map (·.1)).zip l)
   | none=>none
 | .call ⟨.builtin b,args,ts⟩ =>
   match b,rB G fr args.toList,ts.toList with
   | .len,some [x],t::_=>bQn P H t x
   | .max,some [x,y],_=>qMM H true x y
   | .min,some [x,y],_=>qMM H false x y
   | _,_,_=>none
 | _=>none
section
variable {ρ:Env} {ι:Loc} {H:Hyp} {P:Program} {w:World} {β:dH} {m:Mem} {fr:Fr} {n:Nat} {a:Act} {G:List E}
theorem bGc (hH:H.ok ρ) (hf:aP ρ ι n fr a) (hG:eA ρ G) {c x y:Operand} {nd:List E} {r:SV} (h:bGb H G fr c x y=some (nd,r)) :
 ∃ b,a.eval c=.bool b∧(if b then a.eval x else a.eval y)=r.aB ρ ι:=by
 unfold bGb at h
 split at h
 ·rename_i e0 hc
  have ec:=aO hf hG hc
  have hd:=kL hH e0
  rw [show SV.aB ρ ι (.s (.bool e0))=.bool (e0.b ρ) from rfl,← hd] at ec
  generalize fK H e0=e at h ec hd
  refine ⟨e.b ρ,ec,?_⟩
  split at h
  ·simp only [Option.map_eq_some_iff,Prod.mk.injEq] at h
   obtain ⟨v,hv,_,rfl⟩:=h
   rw [aN,if_pos rfl];exact aO hf hG hv
  ·simp only [Option.map_eq_some_iff,Prod.mk.injEq] at h
   obtain ⟨v,hv,_,rfl⟩:=h
   rw [aN,if_neg (by simp)];exact aO hf hG hv
  ·have F:∀ {v},cM (e0::e::G) fr x=some v→e.b ρ=true→a.eval x=v.aB ρ ι:=fun hv he =>
    aO hf (fun g hg=>by cases hg with | head=>rw [← hd];exact he | tail _ hg=>cases hg with | head=>exact he | tail _ hg=>exact hG g hg) hv
   have J:∀ {v},cM (mkNot e0::mkNot e::G) fr y=some v→¬ e.b ρ=true→a.eval y=v.aB ρ ι:=fun hv he =>
    aO hf (fun g hg=>by cases hg with | head=>rw [bO,← hd];simp [he] | tail _ hg=>cases hg with | head=>rw [bO];simp [he] | tail _ hg=>exact hG g hg) hv
   split at h
   ·rename_i u v hx hy
    simp only [Option.some.injEq,Prod.mk.injEq] at h;obtain ⟨rfl,rfl⟩:=h
    simp only [SV.aB,S.aB,aTv]
    split
    ·rename_i he;rw [F hx he];rfl
    ·rename_i he;rw [J hy he];rfl
   ·rename_i k u k' v hx hy
    split at h
    ·rename_i hk;subst hk
     simp only [Option.some.injEq,Prod.mk.injEq] at h;obtain ⟨rfl,rfl⟩:=h
     simp only [SV.aB,S.aB,mW]
     split
     ·rename_i he;rw [F hx he];rfl
     ·rename_i he;rw [J hy he];rfl
    ·cases h
   ·rename_i u v _ _ hx hy
    split at h
    ·rename_i hk;subst hk
     simp only [Option.some.injEq,Prod.mk.injEq] at h;obtain ⟨rfl,rfl⟩:=h
     split
     ·rename_i he;exact F hx he
     ·rename_i he;exact J hy he
    ·cases h
   ·cases h
 ·cases h
theorem kG (hf:aP ρ ι n fr a) (hG:eA ρ G):∀ {l:List Operand} {r:List SV},rB G fr l=some r→l.map a.eval=r.map (SV.aB ρ ι)
 | [],r,h=>by simp only [rB,Option.some.injEq] at h;subst h;rfl
 | o::l,r,h=>by
   simp only [rB] at h
   split at h
   ·rename_i x r' hx hr
    simp only [Option.some.injEq] at h;subst h
    rw [List.map_cons,List.map_cons,aO hf hG hx,kG hf hG hr]
   ·cases h
theorem bAi:∀ {l:List SV} {r:List (Nat × E)},bFT l=some r→l.map (SV.aB ρ ι)=r.map fun p=>.pointer (some (addr ρ ι p.1 p.2))
 | [],r,h=>by simp only [bFT,Option.some.injEq] at h;subst h;rfl
 | x::l,r,h=>by
   unfold bFT at h
   split at h
   ·contradiction
   ·rename_i heq;cases heq
    simp only [Option.map_eq_some_iff] at h
    obtain ⟨r',hr,rfl⟩:=h
    rw [List.map_cons,List.map_cons,bAi hr];rfl
   ·cases h
theorem bJp (hH:H.ok ρ) (hm:aG ρ β ι m w) {t:TypeId} {ty:TypeId} {x:SV} {nd:List E} {r:SV} (h:bQn P H t x=some (nd,r)) (ts:Array TypeId) (ht:ts[0]? = some t) :
 (Builtin.len_ ts ty #[x.aB ρ ι]).run P w=.ok (r.aB ρ ι) w:=by
 unfold bQn at h
 unfold Builtin.len_
 split at h
 ·rename_i l hu
  simp only [Option.some.injEq,Prod.mk.injEq] at h;obtain ⟨rfl,rfl⟩:=h
  simp [ht,run_underlying hu,SV.aB,S.aB,goInt,aC]
  show (l.toArray.size:Int)=l.length
  simp
 ·rename_i b off len cap hu
  split at h
  ·rename_i hc
   simp only [Option.some.injEq,Prod.mk.injEq] at h;obtain ⟨rfl,rfl⟩:=h
   have:=aF hH hc
   have hv:∃ q c',(S.slc b off len cap).aB ρ ι=.slice q (len.i ρ).toNat c':=by
    cases cap with
    | kn c=>exact ⟨_,_,rfl⟩
    | op k =>
      simp only [S.aB]
      split
      ·rename_i hc;rw [hc.2];exact ⟨_,_,rfl⟩
      ·exact ⟨_,_,rfl⟩
    | tl o k z=>exact ⟨_,_,rfl⟩
   obtain ⟨q,c',hv⟩:=hv
   rw [show SV.aB ρ ι (.s (.slc b off len cap))=S.aB ρ ι (.slc b off len cap) from rfl,hv]
   simp [ht,run_underlying hu,SV.aB,S.aB,goInt]
   omega
  ·cases h
 ·rename_i i j off len hu
  split at h
  ·rename_i hc
   simp only [Option.some.injEq,Prod.mk.injEq] at h;obtain ⟨rfl,rfl⟩:=h
   have:=aF hH hc
   obtain ⟨b,c,e1,_⟩:=(hm.xt i (j.i ρ).toNat).ok
   rw [show SV.aB ρ ι (.s (.xslc i j off len))=(ρ.I.xs i (j.i ρ).toNat).sub (off.i ρ).toNat (len.i ρ).toNat from rfl,Ext.sub,e1]
   simp [ht,run_underlying hu,SV.aB,S.aB,goInt]
   omega
  ·cases h
 ·rename_i i j o off hu
  simp only [Option.some.injEq,Prod.mk.injEq] at h;obtain ⟨rfl,rfl⟩:=h
  obtain ⟨b,c,e1,_⟩:=(hm.xt i (j.i ρ).toNat).ok
  rw [show SV.aB ρ ι (.s (.xtl i j o off))=(ρ.I.xs i (j.i ρ).toNat).tl (o.i ρ).toNat (off.i ρ).toNat from rfl,Ext.tl,e1]
  simp [ht,run_underlying hu,SV.aB,S.aB,goInt,aC]
 ·rename_i hu
  simp only [Option.some.injEq,Prod.mk.injEq] at h;obtain ⟨rfl,rfl⟩:=h
  simp [ht,run_underlying hu,SV.aB,S.aB,goInt,aC]
 ·rename_i hu
  simp only [Option.some.injEq,Prod.mk.injEq] at h;obtain ⟨rfl,rfl⟩:=h
  simp [ht,run_underlying hu,SV.aB,S.aB,goInt,aC]
 ·rename_i hu
  split at h
  ·rename_i hu'
   simp only [Option.some.injEq,Prod.mk.injEq] at h;obtain ⟨rfl,rfl⟩:=h
   simp [ht,run_underlying hu,run_underlying hu',SV.aB,S.aB,goInt,aC]
  ·cases h
 ·cases h
theorem bGa (hH:H.ok ρ) {mx:Bool} {x y:SV} {nd:List E} {r:SV} (h:qMM H mx x y=some (nd,r)) (ts:Array TypeId) (ty:TypeId) :
 (if mx then (Builtin.max_ ts ty #[x.aB ρ ι,y.aB ρ ι]).run P w else (Builtin.min_ ts ty #[x.aB ρ ι,y.aB ρ ι]).run P w)=.ok (r.aB ρ ι) w:=by
 unfold qMM at h
 split at h
 ·simp only [Option.some.injEq,Prod.mk.injEq] at h;obtain ⟨rfl,rfl⟩:=h
  cases mx
  ·simp [Builtin.min_,Builtin.min2,SV.aB,S.aB,fR,dL hH]
  ·simp [Builtin.max_,Builtin.max2,SV.aB,S.aB,fR,dL hH]
 ·cases h
theorem aVB (hH:H.ok ρ) {op:BinOp} {t:TypeId} {x y:SV} {nd:List E} {r:SV} (h:aIH P H op t x y=some (nd,r)) (hn:bC ρ nd) (a b:Operand) :
 (do eqGuard op t a b (x.aB ρ ι) (y.aB ρ ι);binOp op t (x.aB ρ ι) (y.aB ρ ι):Sem Value).run P w=.ok (r.aB ρ ι) w:=by
 unfold aIH at h
 split at h
 ·rename_i l r'
  split at h
  ·cases h
  ·rename_i hc
   simp only [not_or,Bool.not_eq_true,Decidable.not_not] at hc
   have hv:∀ l,SV.aB ρ ι (.agg l)=kW P ρ ι t l:=fun l=>by unfold kW;rw [if_pos hc.2];rfl
   have hq:∀ e,eqT P H 12 t l r'=some e→(Op.equalIn 10000 t (.agg (cellsOf ρ ι l).toArray) (.agg (cellsOf ρ ι r').toArray)).run P w=.ok (e.b ρ) w:=fun e he=>by
    have:=bOY (ρ:=ρ) (ι:=ι) (w:=w) hH 12 t l r' e he 10000 (by omega)
    rw [← hv,← hv] at this;exact this
   split at h
   ·simp only [Option.map_eq_some_iff,Prod.mk.injEq] at h
    obtain ⟨e,he,rfl,rfl⟩:=h
    show (do eqGuard .eql t a b (.agg (cellsOf ρ ι l).toArray) (.agg (cellsOf ρ ι r').toArray);binOp .eql t (.agg (cellsOf ρ ι l).toArray) (.agg (cellsOf ρ ι r').toArray):Sem Value).run P w=_
    rw [Sem.run_bind,run_eqGuard_agg w _ _ _ _ _ _ hc.1,Result.andThen_ok,run_eql_struct,hq e he];rfl
   ·simp only [Option.map_eq_some_iff,Prod.mk.injEq] at h
    obtain ⟨e,he,rfl,rfl⟩:=h
    show (do eqGuard .neq t a b (.agg (cellsOf ρ ι l).toArray) (.agg (cellsOf ρ ι r').toArray);binOp .neq t (.agg (cellsOf ρ ι l).toArray) (.agg (cellsOf ρ ι r').toArray):Sem Value).run P w=_
    rw [Sem.run_bind,run_eqGuard_agg w _ _ _ _ _ _ hc.1,Result.andThen_ok,run_neq_struct,hq e he]
    simp [SV.aB,S.aB,bO]
   ·cases h
 ·exact bJo hH h hn a b
theorem eQ (k:IntKind) (i:Int) (y:Nat) (code:BoundsCode) (K:0≤i) (F:i≤y):(Instr.sliceBound (.int k i) y code).run P w=.ok i.toNat w:=by
 simp [Instr.sliceBound,asIntOf,K,F]
theorem aER {t e:TypeId} {n:Nat} (ht:P.underlying t=some (.array n e)) {sz:Nat} (hs:cL P e=some sz) (A:Addr) (lo hi:Option Value) (l h:Int) (hlo:(lo=none∧l=0)∨∃ k,lo=some (.int k l)) (hhi:(hi=none∧h=n)∨∃ k,hi=some (.int k h)) (K:0≤l) (F:l≤h) (J:h≤n) (M:l<n) (w:World) :
 (Instr.sliceAt t (.pointer (some A)) lo hi none).run P w=.ok (.slice (some (A.add (l.toNat*sz))) (h.toNat-l.toNat) (n-l.toNat)) w:=by
 have hz:=bD (w:=w) hs
 have eh:(h.toNat:Int)=h:=Int.toNat_of_nonneg (by omega)
 have en:¬ n=l.toNat:=by omega
 rcases hlo with ⟨rfl,rfl⟩ | ⟨k,rfl⟩ <;> rcases hhi with ⟨rfl,rfl⟩ | ⟨k',rfl⟩
 ·have a3:¬ n=0:=by omega
  simp [Instr.sliceAt,run_underlying ht,Instr.sureAddr,Instr.sliceBounds,hz,a3]
 ·have a3:¬ n=0:=by omega
  simp [Instr.sliceAt,run_underlying ht,Instr.sureAddr,Instr.sliceBounds,eQ,hz,J,(by omega:0≤h),a3]
 ·simp [Instr.sliceAt,run_underlying ht,Instr.sureAddr,Instr.sliceBounds,eQ,hz,K,F,en]
 ·simp [Instr.sliceAt,run_underlying ht,Instr.sureAddr,Instr.sliceBounds,eQ,hz,K,F,J,eh,(by omega:0≤h),en]
theorem aES {t:TypeId} (ht:P.underlying t=some .string) (s:List UInt8) (lo hi:Option Value) (l h:Int) (hlo:(lo=none∧l=0)∨∃ k,lo=some (.int k l)) (hhi:(hi=none∧h=s.length)∨∃ k,hi=some (.int k h)) (K:0≤l) (F:l≤h) (J:h≤s.length) (w:World) :
 (Instr.sliceAt t (.string ⟨s.toArray⟩) lo hi none).run P w=.ok (.string ⟨((s.drop l.toNat).take (h.toNat-l.toNat)).toArray⟩) w:=by
 have eh:(h.toNat:Int)=h:=Int.toNat_of_nonneg (by omega)
 have es:(⟨s.toArray⟩:ByteArray).size=s.length:=by simp [ByteArray.size]
 have ex:∀ p q:Nat,(⟨s.toArray⟩:ByteArray).extract p q=⟨((s.drop p).take (q-p)).toArray⟩:=fun p q=>by
  apply ByteArray.ext
  rw [ByteArray.data_extract]
  simp
 rcases hlo with ⟨rfl,rfl⟩ | ⟨k,rfl⟩ <;> rcases hhi with ⟨rfl,rfl⟩ | ⟨k',rfl⟩
 ·simp [Instr.sliceAt,run_underlying ht,Instr.slice,Instr.sliceBounds,es,ex]
 ·simp [Instr.sliceAt,run_underlying ht,Instr.slice,Instr.sliceBounds,eQ,es,ex,J,(by omega:0≤h)]
 ·simp [Instr.sliceAt,run_underlying ht,Instr.slice,Instr.sliceBounds,eQ,es,ex,K,F]
 ·simp [Instr.sliceAt,run_underlying ht,Instr.slice,Instr.sliceBounds,eQ,es,ex,K,F,J,eh,(by omega:0≤h)]
theorem nR {d e:E} {x:Option SV} (h:aJh d x=some e):(x.map (SV.aB ρ ι)=none∧e.i ρ=d.i ρ)∨∃ k,x.map (SV.aB ρ ι)=some (.int k (e.i ρ)):=by
 unfold aJh at h
 split at h
 ·simp only [Option.some.injEq] at h;subst h;exact .inl ⟨rfl,rfl⟩
 ·simp only [Option.some.injEq] at h;subst h;exact .inr ⟨_,rfl⟩
 ·cases h
theorem aHa (hf:aP ρ ι n fr a) (hG:eA ρ G) {x:Option Operand} {v:Option SV} (h:aDL G fr x=some v):x.map a.eval=v.map (SV.aB ρ ι):=by
 cases x with
 | none=>simp only [aDL,Option.some.injEq] at h;subst h;rfl
 | some x =>
   simp only [aDL,Option.map_eq_some_iff] at h
   obtain ⟨u,hu,rfl⟩:=h
   simp only [Option.map_some,aO hf hG hu]
theorem sR {t e:TypeId} (ht:P.underlying t=some (.slice e)) {sz:Nat} (hs:cL P e=some sz) (base:Option Addr) (len cap:Nat) (lo hi:Option Value) (l h:Int) (hlo:(lo=none∧l=0)∨∃ k,lo=some (.int k l)) (hhi:(hi=none∧h=len)∨∃ k,hi=some (.int k h)) (K:0≤l) (F:l≤h) (J:h≤cap) (w:World) :
 (Instr.sliceAt t (.slice base len cap) lo hi none).run P w=.ok (.slice (if cap=l.toNat then base else base.map (·.add (l.toNat*sz))) (h.toNat-l.toNat) (cap-l.toNat)) w:=by
 have hz:=bD (w:=w) hs
 have eh:(h.toNat:Int)=h:=Int.toNat_of_nonneg (by omega)
 rcases hlo with ⟨rfl,rfl⟩ | ⟨k,rfl⟩ <;> rcases hhi with ⟨rfl,rfl⟩ | ⟨k',rfl⟩
 ·simp [Instr.sliceAt,run_underlying ht,Instr.slice,Instr.sliceBounds,hz]
 ·simp [Instr.sliceAt,run_underlying ht,Instr.slice,Instr.sliceBounds,eQ,hz,J,(by omega:0≤h)]
 ·simp [Instr.sliceAt,run_underlying ht,Instr.slice,Instr.sliceBounds,eQ,hz,K,F]
 ·simp [Instr.sliceAt,run_underlying ht,Instr.slice,Instr.sliceBounds,eQ,hz,K,F,J,eh,(by omega:0≤h)]
theorem bBQ (hH:H.ok ρ) (hm:aG ρ β ι m w) {t:TypeId} {x:SV} {lo hi:Option SV} {nd:List E} {r:SV} (h:aVG P H t x lo hi=some (nd,r)) (hn:bC ρ nd) :
 (Instr.sliceAt t (x.aB ρ ι) (lo.map (SV.aB ρ ι)) (hi.map (SV.aB ρ ι)) none).run P w=.ok (r.aB ρ ι) w:=by
 unfold aVG at h
 split at h
 ·rename_i b off
  split at h
  ·rename_i k e ht
   split at h
   ·rename_i s l hh hs hl hhi
    split at h
    ·rename_i hc
     simp only [Option.some.injEq,Prod.mk.injEq] at h;obtain ⟨rfl,rfl⟩:=h
     have K:=hn _ (.head _);have F:=hn _ (.tail _ (.head _));have J:=hn _ (.tail _ (.tail _ (.head _)));have M:=hn _ (.tail _ (.tail _ (.tail _ (.head _))))
     rw [bJ hH,aC,decide_eq_true_eq] at K
     rw [bJ hH,decide_eq_true_eq] at F
     rw [bJ hH,aC,decide_eq_true_eq] at J
     rw [dL hH,aC,decide_eq_true_eq] at M
     have T:=aF hH hc
     have hadd:((mkAdd off (mkMul l (.lit s))).i ρ).toNat=(off.i ρ).toNat+(l.i ρ).toNat*s:=by
      rw [aH,cO,aC,Int.toNat_add T (Int.mul_nonneg K (by omega)),Int.toNat_mul K (by omega)];rfl
     have hr:=aER (tD ht) hs (addr ρ ι b off) _ _ (l.i ρ) (hh.i ρ) (nR (ρ:=ρ) (ι:=ι) hl) (nR (ρ:=ρ) (ι:=ι) hhi) K F J M w
     show (Instr.sliceAt t (.pointer (some (addr ρ ι b off))) _ _ none).run P w=_
     rw [hr]
     simp only [SV.aB,S.aB,addr,aBE,hadd,eO,aC]
     congr 2
     ·omega
     ·omega
    ·cases h
   ·cases h
  ·cases h
 ·rename_i s
  split at h
  ·rename_i ht
   split at h
   ·rename_i p q hl hhi
    split at h
    ·rename_i hc
     simp only [Option.some.injEq,Prod.mk.injEq] at h;obtain ⟨rfl,rfl⟩:=h
     exact aES (by unfold aIs at ht;split at ht;assumption;cases ht) s _ _ p q (nR (ρ:=ρ) (ι:=ι) hl) (nR (ρ:=ρ) (ι:=ι) hhi) hc.1 hc.2.1 hc.2.2 w
    ·cases h
   ·cases h
  ·cases h
 ·rename_i i off len
  split at h
  ·rename_i e xi ht hx
   split at h
   ·rename_i l hh hl hhi
    split at h
    ·rename_i hc
     have T:=aF hH hc.2.1
     have Z:=aF hH hc.2.2
     have hX:XI.ok ρ i xi:=hH.x _ (gX hx)
     obtain ⟨b,c,e1,e2,e3,e4⟩:=(hm.xt i 0).ok
     have hxn:=hX.n
     have hsub:SV.aB ρ ι (.s (.xslc i (.lit 0) off len))=.slice (b.map fun q=>q.add ((off.i ρ).toNat*(ρ.I.xs i 0).sz)) (len.i ρ).toNat (c-(off.i ρ).toNat):=by
      simp only [SV.aB,S.aB,aC,Ext.sub];rw [show (0:Int).toNat=0 from rfl,e1]
     split at h
     ·rename_i hend
      simp only [Option.some.injEq,Prod.mk.injEq] at h;obtain ⟨rfl,rfl⟩:=h
      have K:=hn _ (.head _);have F:=hn _ (.tail _ (.head _));have J:=hn _ (.tail _ (.tail _ (.head _)));have M:=hn _ (.tail _ (.tail _ (.tail _ (.head _))))
      rw [bJ hH,aC,decide_eq_true_eq] at K
      rw [bJ hH,decide_eq_true_eq] at F M
      rw [bJ hH,aH,decide_eq_true_eq] at J
      have hr:=sR (aS ht) hc.1 (b.map fun q=>q.add ((off.i ρ).toNat*(ρ.I.xs i 0).sz)) (len.i ρ).toNat (c-(off.i ρ).toNat) (lo.map (SV.aB ρ ι)) (hi.map (SV.aB ρ ι)) (l.i ρ) (hh.i ρ) (nR (ρ:=ρ) (ι:=ι) hl) (by
       rcases nR (ρ:=ρ) (ι:=ι) hhi with ⟨g1,g2⟩ | g
       ·exact .inl ⟨g1,by omega⟩
       ·exact .inr g) K F (by omega) w
      rw [hsub,hr]
      simp only [SV.aB,S.aB,aC,Ext.tl]
      rw [show (0:Int).toNat=0 from rfl,e1]
      simp only [aH]
      have hto:(off.i ρ+l.i ρ).toNat=(off.i ρ).toNat+(l.i ρ).toNat:=Int.toNat_add T K
      have hsz:=hX.sz
      congr 1
      rw [Value.slice.injEq]
      refine ⟨?_,by omega,by omega⟩
      split
      ·rename_i hcl
       rw [if_pos (by omega)]
      ·rename_i hcl
       cases b with
       | none=>rfl
       | some q =>
         rw [Option.map_some,Option.map_some,Option.map_some,if_neg (by omega)]
         simp only [add_add,hto,hsz,Nat.add_mul]
     simp only [Option.some.injEq,Prod.mk.injEq] at h;obtain ⟨rfl,rfl⟩:=h
     have K:=hn _ (.head _);have F:=hn _ (.tail _ (.head _));have J:=hn _ (.tail _ (.tail _ (.head _)));have M:=hn _ (.tail _ (.tail _ (.tail _ (.head _))))
     rw [bJ hH,aC,decide_eq_true_eq] at K
     rw [bJ hH,decide_eq_true_eq] at F
     rw [bJ hH,aH,decide_eq_true_eq] at J
     rw [jS,jS,bJ hH,dL hH,dL hH,aH,aC,Bool.or_eq_true,Bool.or_eq_true,decide_eq_true_eq,decide_eq_true_eq,decide_eq_true_eq] at M
     have hr:=sR (aS ht) hc.1 (b.map fun q=>q.add ((off.i ρ).toNat*(ρ.I.xs i 0).sz)) (len.i ρ).toNat (c-(off.i ρ).toNat) (lo.map (SV.aB ρ ι)) (hi.map (SV.aB ρ ι)) (l.i ρ) (hh.i ρ) (nR (ρ:=ρ) (ι:=ι) hl) (by
      rcases nR (ρ:=ρ) (ι:=ι) hhi with ⟨g1,g2⟩ | g
      ·exact .inl ⟨g1,by omega⟩
      ·exact .inr g) K F (by omega) w
     rw [hsub,hr]
     simp only [SV.aB,S.aB,aC,Ext.sub]
     rw [show (0:Int).toNat=0 from rfl,e1]
     simp only [aH,eO]
     have hto:(off.i ρ+l.i ρ).toNat=(off.i ρ).toNat+(l.i ρ).toNat:=Int.toNat_add T K
     have hsz:=hX.sz
     congr 1
     rw [Value.slice.injEq]
     refine ⟨?_,?_,?_⟩
     ·split
      ·have U:(l.i ρ).toNat=0:=by omega
       rw [hto,U,Nat.add_zero]
      ·cases b with
       | none=>rfl
       | some q=>simp only [Option.map_some,add_add,hto,hsz,Nat.add_mul]
     ·omega
     ·omega
    ·cases h
   ·cases h
  ·cases h
 ·cases h
theorem aZA {t:TypeId} (h:aDk P t=some false):∃ d,P.underlying t=some d∧∀ ms,d ≠ .interface ms:=by
 unfold aDk at h
 split at h
 ·cases h
 ·rename_i d hn hu;exact ⟨d,hu,fun ms he=>hn ms he⟩
 ·cases h
theorem bIS {t:TypeId} (h:aDk P t=some true):∃ ms,P.underlying t=some (.interface ms):=by
 unfold aDk at h
 split at h
 ·rename_i ms hu;exact ⟨ms,hu⟩
 ·cases h
 ·cases h
theorem bBt {y:Operand} (h:aDl y=true):y=.const .nilIface:=by
 unfold aDl at h;split at h
 ·rfl
 ·cases h
theorem aTH {op:BinOp} {t:TypeId} {b:Bool} {nd:List E} {r:SV} (h:bAm P op t b=some (nd,r)) {u:Value} (hu:(b=true∧u=.nilIface)∨(b=false∧∃ t v,u=.iface t v)) (x:Operand) :
 (do eqGuard op t x (.const .nilIface) u .nilIface;binOp op t u .nilIface:Sem Value).run P w=.ok (r.aB ρ ι) w:=by
 unfold bAm at h
 split at h
 ·rename_i hif
  obtain ⟨ms,hms⟩:=bIS hif
  have hg:∀ op,(eqGuard op t x (.const .nilIface) u .nilIface).run P w=.ok () w:=by
   intro op
   unfold eqGuard
   rcases hu with ⟨_,rfl⟩ | ⟨_,_,_,rfl⟩
   ·cases op <;> simp
   ·cases op <;> rfl
  rw [Sem.run_bind,hg,Result.andThen_ok]
  have he:(Op.equal t u .nilIface).run P w=.ok b w:=by
   unfold Op.equal Op.maxDepth Op.equalIn
   rw [Sem.run_bind,run_underlying hms,Result.andThen_ok]
   rcases hu with ⟨rfl,rfl⟩ | ⟨rfl,_,_,rfl⟩ <;> rfl
  split at h
  ·simp only [Option.some.injEq,Prod.mk.injEq] at h;obtain ⟨_,rfl⟩:=h
   have:binOp .eql t u .nilIface=(do pure (.bool (← Op.equal t u .nilIface)):Sem Value):=by
    rcases hu with ⟨_,rfl⟩ | ⟨_,_,_,rfl⟩ <;> rfl
   rw [this,Sem.run_bind,he];rfl
  ·simp only [Option.some.injEq,Prod.mk.injEq] at h;obtain ⟨_,rfl⟩:=h
   have:binOp .neq t u .nilIface=(do pure (.bool (!(← Op.equal t u .nilIface))):Sem Value):=by
    rcases hu with ⟨_,rfl⟩ | ⟨_,_,_,rfl⟩ <;> rfl
   rw [this,Sem.run_bind,he];rfl
  ·cases h
 ·cases h
theorem aIT {t:TypeId} (ht:rZ P t=true) {op:BinOp} {r:SV} {nd:List E} (h:(match op with
 | .eql=>some (([]:List E),SV.s (.bool (.blit false)))
 | .neq=>some ([],.s (.bool (.blit true)))
 | _=>none)=some (nd,r)) (g:Addr) (n c:Nat) (x y:Operand) :
 (do eqGuard op t x y (.slice (some g) n c) (.slice none 0 0);binOp op t (.slice (some g) n c) (.slice none 0 0):Sem Value).run P w=.ok (r.aB ρ ι) w:=by
 have hg:(eqGuard op t x y (.slice (some g) n c) (.slice none 0 0)).run P w=.ok () w:=aDc rfl
 rw [Sem.run_bind,hg,Result.andThen_ok]
 obtain ⟨e,hu⟩:∃ e,P.underlying t=some (.slice e):=by
  unfold rZ at ht;split at ht
  ·rename_i e hu;exact ⟨e,hu⟩
  ·cases ht
 have he:(Op.equal t (.slice (some g) n c) (.slice none 0 0)).run P w=.ok false w:=by
  unfold Op.equal Op.maxDepth Op.equalIn
  rw [Sem.run_bind,run_underlying hu,Result.andThen_ok];rfl
 split at h
 ·simp only [Option.some.injEq,Prod.mk.injEq] at h;obtain ⟨_,rfl⟩:=h
  simp only [binOp,Sem.run_bind,he,Result.andThen_ok];rfl
 ·simp only [Option.some.injEq,Prod.mk.injEq] at h;obtain ⟨_,rfl⟩:=h
  simp only [binOp,Sem.run_bind,he,Result.andThen_ok];rfl
 ·cases h
theorem aGY (hH:H.ok ρ) (hm:aG ρ β ι m w) {p:Nat} {C:Blk} (hC:m[p]? = some C) (hd:C.dead=false) (h:aIC H C=true):ι.nil p=false:=by
 cases hn:ι.nil p with
 | false=>rfl
 | true =>
   obtain ⟨M,T⟩:=hm.nils p C hC hd hn
   simp only [aIC,Bool.or_eq_true] at h
   rcases h with h | h
   ·rw [Option.isNone_iff_eq_none] at h;rw [h] at M;cases M
   ·split at h
    ·rename_i x l hs
     rw [hs,aD] at T
     simp [Seg.cells] at T
    ·rename_i kd z A o l hs
     have Z:=congrArg List.length T
     have h6:=aF hH h
     rw [hs,aD,List.length_append,Seg.cells,List.length_map,List.length_range,List.length_nil] at Z
     omega
    ·cases h
theorem aTA (hH:H.ok ρ) (hm:aG ρ β ι m w) {p:Nat} (h:aDG H m p=true):ι.nil p=false:=by
 unfold aDG at h
 split at h
 ·rename_i C hC
  simp only [Bool.and_eq_true,Bool.not_eq_true'] at h
  exact aGY hH hm hC h.1 h.2
 ·cases h
theorem bFX (hH:H.ok ρ) (hm:aG ρ β ι m w) {op:BinOp} {t:TypeId} {u v:SV} {nd:List E} {r:SV} (h:bFW P H m op t u v=some (nd,r)) (hn:bC ρ nd) (x y:Operand) :
 (do eqGuard op t x y (u.aB ρ ι) (v.aB ρ ι);binOp op t (u.aB ρ ι) (v.aB ρ ι):Sem Value).run P w=.ok (r.aB ρ ι) w:=by
 unfold bFW at h
 split at h
 ·rename_i b off len k
  split at h
  ·rename_i hc
   simp only [Bool.and_eq_true] at hc
   have e1:SV.aB ρ ι (.s (.slc b off len (.op k)))=.slice (some (addr ρ ι b off)) (len.i ρ).toNat (ι.cap b-(k.i ρ).toNat):=by
    simp only [SV.aB,S.aB]
    have a0:=hc.1
    rw [Bool.or_eq_true] at a0
    rcases a0 with hl | hn
    ·have hl:=aF hH hl
     rw [if_neg (fun h=>by omega)]
    ·have hn:=aTA hH hm hn
     rw [if_neg (fun h=>by rw [hn] at h;cases h.1)]
   rw [e1]
   exact aIT hc.2 h _ _ _ x y
  ·cases h
 ·split at h
  ·rename_i hc
   simp only [SV.aB,S.aB]
   exact aIT hc h _ _ _ x y
  ·cases h
 ·rename_i i off len
  split at h
  ·rename_i xi hx
   split at h
   ·rename_i hc
    simp only [Bool.and_eq_true,decide_eq_true_eq] at hc
    have hl:=aF hH hc.1.1
    have hX:=hH.x _ (gX hx)
    obtain ⟨b,c,hv,hnc,hb0,_⟩:=(hm.xt i 0).ok
    have hn':(ρ.I.xs i 0).n=(xi.n.i ρ).toNat:=hX.n
    have hlx:=hc.2
    cases b with
    | none=>have:=(hb0 rfl).1;rw [hlx] at hl;omega
    | some ad =>
      have e1:SV.aB ρ ι (.s (.xslc i (.lit 0) off len))=.slice (some (ad.add ((off.i ρ).toNat*(ρ.I.xs i 0).sz))) (len.i ρ).toNat (c-(off.i ρ).toNat):=by
       simp only [SV.aB,S.aB,Ext.sub,aC,Int.toNat_zero,hv,Option.map_some]
      rw [e1]
      exact aIT hc.1.2 h _ _ _ x y
   ·cases h
  ·cases h
 ·exact aVB (ι:=ι) (P:=P) (w:=w) hH h hn x y
theorem bFV (hH:H.ok ρ) {op:BinOp} {t:TypeId} {u v:SV} {nd:List E} {r:SV} {x y:Operand} (h:bFU P H m op t (aDl y) u v=some (nd,r)) (hn:bC ρ nd) (hm:aG ρ β ι m w) (hv:a.eval y=v.aB ρ ι) :
 (do eqGuard op t x y (u.aB ρ ι) (v.aB ρ ι);binOp op t (u.aB ρ ι) (v.aB ρ ι):Sem Value).run P w=.ok (r.aB ρ ι) w:=by
 unfold bFU at h
 cases hc:aDl y with
 | false=>rw [hc] at h;exact bFX (ι:=ι) (P:=P) (w:=w) hH hm h hn x y
 | true =>
   rw [hc] at h
   obtain rfl:=bBt hc
   rw [← hv]
   simp only [cond_true] at h
   show (do eqGuard op t x (.const .nilIface) (u.aB ρ ι) .nilIface;binOp op t (u.aB ρ ι) .nilIface:Sem Value).run P w=.ok (r.aB ρ ι) w
   split at h
   ·exact aTH h (.inl ⟨rfl,rfl⟩) x
   ·exact aTH h (.inr ⟨rfl,_,_,rfl⟩) x
   ·cases h
theorem bJq {t:TypeId} {x:SV} {nd:List E} {r:SV} (h:bQo P t x=some (nd,r)):(Instr.makeInterface t (x.aB ρ ι)).run P w=.ok (r.aB ρ ι) w:=by
 unfold bQo at h
 split at h
 ·split at h
  ·rename_i hif
   obtain ⟨d,hd,hne⟩:=aZA hif
   simp only [Option.some.injEq,Prod.mk.injEq] at h;obtain ⟨_,rfl⟩:=h
   unfold Instr.makeInterface
   rw [Sem.run_bind,run_underlying hd,Result.andThen_ok]
   split
   ·rename_i ms;exact absurd rfl (hne ms)
   ·simp [SV.aB,S.aB,cellsOf,Seg.cells]
  ·cases h
 ·cases h
theorem aVA {t s:TypeId} {x:SV} {nd:List E} {r:SV} (h:aIG P t x=some (nd,r)):(Instr.typeAssert (x.aB ρ ι) s t true).run P w=.ok (r.aB ρ ι) w:=by
 unfold aIG at h
 split at h
 ·split at h
  ·rename_i hc
   obtain ⟨hif,rfl⟩:=hc
   obtain ⟨d,hd,hne⟩:=aZA hif
   simp only [Option.some.injEq,Prod.mk.injEq] at h;obtain ⟨_,rfl⟩:=h
   unfold Instr.typeAssert
   rw [Sem.run_bind,run_underlying hd,Result.andThen_ok]
   simp only [SV.aB,S.aB]
   cases d <;> first | exact absurd rfl (hne _) | simp [cellsOf,Seg.cells,S.aB,aN]
  ·cases h
 ·cases h
theorem aIJ (hH:H.ok ρ) (hm:aG ρ β ι m w) (hf:aP ρ ι n fr a) (hG:eA ρ G) {o:Oper} {nd:List E} {r:SV} (h:qop P H G fr m o.op=some (nd,r)) (hn:bC ρ nd) :
 (execOp a.eval o).run P w=.ok (.value (r.aB ρ ι)) w:=by
 unfold qop at h
 split at h
 ·rename_i x ho
  simp only [Option.map_eq_some_iff,Prod.mk.injEq] at h
  obtain ⟨v,hv,_,rfl⟩:=h
  simp [execOp,ho,aO hf hG hv]
 ·rename_i x ho
  simp only [Option.map_eq_some_iff,Prod.mk.injEq] at h
  obtain ⟨v,hv,_,rfl⟩:=h
  simp [execOp,ho,aO hf hG hv]
 ·rename_i c x y ho
  obtain ⟨b,hb,hv⟩:=bGc hH hf hG h
  simp [execOp,ho,hb,asBool,hv]
 ·rename_i x ho
  split at h
  ·rename_i v hv
   exact bJr h o x ho _ (aO hf hG hv)
  ·cases h
 ·rename_i op t x y t' ho
  split at h
  ·rename_i u v hu hv
   have:=bFV (ι:=ι) (P:=P) (w:=w) (x:=x) hH h hn hm (aO hf hG hv)
   simp only [execOp,ho,aO hf hG hu,aO hf hG hv]
   rw [Sem.run_bind,this];rfl
  ·cases h
 ·rename_i t x ho
  split at h
  ·rename_i v hv
   simp [execOp,ho,aO hf hG hv,bJq (ι:=ι) (w:=w) h]
  ·cases h
 ·rename_i x s t ho
  split at h
  ·rename_i v hv
   simp [execOp,ho,aO hf hG hv,aVA (ι:=ι) (w:=w) (s:=s) h]
  ·cases h
 ·rename_i op t x ho
  split at h
  ·rename_i v hv
   simp [execOp,ho,aO hf hG hv,bQq (ι:=ι) hH h]
  ·cases h
 ·rename_i s d x ho
  split at h
  ·rename_i v hv
   simp [execOp,ho,aO hf hG hv,bFZ (ι:=ι) hH h]
  ·cases h
 ·rename_i t x ho
  split at h
  ·rename_i v hv
   simp [execOp,ho,aO hf hG hv,aTG hH hm h hn]
  ·cases h
 ·rename_i t x f ho
  split at h
  ·rename_i v hv
   simp [execOp,ho,aO hf hG hv,aEP (ι:=ι) hH hm h hn]
  ·cases h
 ·rename_i t x f ho
  split at h
  ·rename_i v hv
   simp [execOp,ho,aO hf hG hv,bBN (ρ:=ρ) (ι:=ι) h]
  ·cases h
 ·rename_i t x y ho
  split at h
  ·rename_i u v hu hv
   simp [execOp,ho,aO hf hG hu,aO hf hG hv,aEQ (ι:=ι) hH hm h hn]
  ·cases h
 ·rename_i t x y ho
  split at h
  ·rename_i u v hu hv
   simp [execOp,ho,aO hf hG hu,aO hf hG hv,bBO (ι:=ι) hH h hn]
  ·cases h
 ·rename_i x i ho
  split at h
  ·rename_i v hv
   simp [execOp,ho,aO hf hG hv,aTF (ρ:=ρ) (ι:=ι) h]
  ·cases h
 ·rename_i t x lo hi ho
  split at h
  ·rename_i u v1 v2 hu F J
   have hr:=bBQ (ι:=ι) (w:=w) hH hm h hn
   simp only [execOp,ho,aO hf hG hu,aHa hf hG F,aHa hf hG J,Option.map_none,Sem.run_bind,hr,Result.andThen_ok,Sem.run_pure]
  ·cases h
 ·rename_i f first iC ho
  split at h
  ·rename_i K
   split at h
   ·rename_i l hl
    simp only [Option.map_eq_some_iff,Prod.mk.injEq] at h
    obtain ⟨c,hc,_,rfl⟩:=h
    have e1:=(kG hf hG hl).trans (bAi hc)
    have e2:iC.map a.eval=(c.map fun p=>Value.pointer (some (addr ρ ι p.1 p.2))).toArray:=by
     rw [← e1,← Array.toList_map]
    have e3:first=#[]:=by simpa using K
    simp [execOp,ho,Instr.makeFunc,e2,e3,SV.aB,S.aB]
   ·cases h
  ·cases h
 ·rename_i t parts ho
  split at h
  ·rename_i l hl
   have key:=bBM (ρ:=ρ) (ι:=ι) (w:=w) h
   have e1:(parts.map fun (p:Nat × Operand)=>(p.1,a.eval p.2))=(((parts.toList.map (·.1)).zip l).map fun p=>(p.1,p.2.aB ρ ι)).toArray:=by
    apply Array.ext'
    have:=kG hf hG hl
    rw [List.map_map] at this
    simp only [Array.toList_map]
    have J:((parts.toList.map (·.1)).zip l).map (fun p=>(p.1,p.2.aB ρ ι))=(parts.toList.map (·.1)).zip (l.map (SV.aB ρ ι)):=by rw [List.zip_map_right];rfl
    rw [J,← this,List.zip_map']
    rfl
   simp only [execOp,ho]
   rw [Sem.run_bind]
   have e2:(parts.map fun (x:Nat × Operand)=>match x with | (i,x)=>(i,a.eval x))=(parts.map fun (p:Nat × Operand)=>(p.1,a.eval p.2)):=rfl
   rw [e2,e1,key];rfl
  ·cases h
 ·rename_i b args ts ho
  have ea:∀ {l:List SV},rB G fr args.toList=some l→args.map a.eval=(l.map (SV.aB ρ ι)).toArray:=fun hl=>by
   rw [← kG hf hG hl,← Array.toList_map]
  split at h
  ·rename_i x t r' hl ht
   have K:ts[0]? = some t:=by rw [← Array.getElem?_toList,ht];rfl
   have:=bJp (ι:=ι) (w:=w) (ty:=o.type) hH hm h ts K
   simp [execOp,ho,resolve,invoke,builtin,ea hl,this]
  ·rename_i x y hl
   have:=bGa (ι:=ι) (P:=P) (w:=w) hH h ts o.type
   simp only [if_true] at this
   simp [execOp,ho,resolve,invoke,builtin,ea hl,this]
  ·rename_i x y hl
   have:=bGa (ι:=ι) (P:=P) (w:=w) hH h ts o.type
   simp only [Bool.false_eq_true,if_false] at this
   simp [execOp,ho,resolve,invoke,builtin,ea hl,this]
  ·cases h
 ·cases h
end
def S.sc (n:Nat):S→Bool
 | .ptr b _=>b<n
 | .slc b _ _ _=>b<n
 | .fn _ iC=>iC.all fun p=>p.1<n
 | _=>true
def Seg.sc (n:Nat):Seg→Bool
 | .one x=>x.sc n
 | _=>true
def SV.sc (n:Nat):SV→Bool
 | .s x=>x.sc n
 | .agg l=>l.all (Seg.sc n)
 | .tup l=>l.all fun p=>p.2.all (Seg.sc n)
 | .junk=>true
def jJ (n:Nat) (fr:Fr) (m:Mem):Bool:=fr.all (fun f=>f.x.sc n)&&m.all (fun B=>B.aE.all (Seg.sc n))
section
variable {ρ:Env} {ι ι':Loc} {n:Nat}
theorem S.jL (h:Loc.bR n ι ι') {x:S} (hx:x.sc n=true):x.aB ρ ι=x.aB ρ ι':=by
 cases x <;> simp only [S.sc,decide_eq_true_eq,List.all_eq_true] at hx
 case ptr b off=>simp only [S.aB,addr];rw [(h _ hx).1]
 case slc b off len cap =>
  obtain ⟨F,J,M⟩:=h _ hx
  cases cap <;> simp only [S.aB,addr]
  ·rw [F]
  ·rw [F,J,M]
  ·rw [F,J]
 case fn f iC =>
  simp only [S.aB,addr]
  congr 2
  exact List.map_congr_left fun p hp=>by rw [(h _ (by simpa using hx p hp)).1]
 all_goals rfl
theorem Seg.aJn (h:Loc.bR n ι ι') {x:Seg} (hx:x.sc n=true):x.cells ρ ι=x.cells ρ ι':=by
 cases x with
 | one x=>simp only [Seg.cells,S.jL h hx]
 | run=>rfl
 | rows=>rfl
theorem bF (h:Loc.bR n ι ι'):∀ {l:List Seg},l.all (Seg.sc n)=true→cellsOf ρ ι l=cellsOf ρ ι' l
 | [],_=>rfl
 | x::l,hl=>by
   simp only [List.all_cons,Bool.and_eq_true] at hl
   rw [aD,aD,Seg.aJn h hl.1,bF h hl.2]
theorem SV.jL (h:Loc.bR n ι ι') {x:SV} (hx:x.sc n=true):x.aB ρ ι=x.aB ρ ι':=by
 cases x with
 | s x=>exact S.jL h hx
 | agg l=>simp only [SV.aB,bF h hx]
 | junk=>rfl
 | tup l =>
   simp only [SV.sc,List.all_eq_true] at hx
   simp only [SV.aB]
   congr 2
   exact List.map_congr_left fun p hp=>by
    have:=bF (ρ:=ρ) h (l:=p.2) (List.all_eq_true.2 (hx p hp))
    rw [this]
theorem aTm {fr:Fr} {t:Nat} {g:List E} {x:SV} (h:look fr t=some (g,x)):∃ f ∈ fr,f.x=x:=by
 induction fr with
 | nil=>simp [fX] at h
 | cons f fr ih =>
   simp only [fX,dN] at h
   split at h
   ·split at h
    ·cases h
    ·simp only [Option.some.injEq,Prod.mk.injEq] at h;exact ⟨f,.head _,h.2⟩
   ·obtain ⟨f',hf,hx⟩:=ih h;exact ⟨f',.tail _ hf,hx⟩
theorem aP.congr {k:Nat} {fr:Fr} {a:Act} (hf:aP ρ ι k fr a) (h:Loc.bR n ι ι') (hs:fr.all (fun f=>f.x.sc n)=true):aP ρ ι' k fr a:=by
 refine ⟨hf.size,hf.defers,fun t g x hl hg=>?_,hf.no⟩
 obtain ⟨f,hf',rfl⟩:=aTm hl
 rw [hf.yes _ _ _ hl hg,SV.jL h (List.all_eq_true.1 hs f hf')]
end
def cI (ι:Loc) (k r c:Nat) (nl:Bool):Loc:=⟨fun i=>if i=k then r else ι.pos i,fun i=>if i=k then c else ι.cap i,fun i=>if i=k then nl else ι.nil i⟩
theorem cG (ι:Loc) (k r c:Nat) (nl:Bool):Loc.bR k ι (cI ι k r c nl):=fun i h=>by
 have:i ≠ k:=by omega
 simp [cI,this]
theorem Loc.bR.refl (n:Nat) (ι:Loc):Loc.bR n ι ι:=fun _ _=>⟨rfl,rfl,rfl⟩
theorem Loc.bR.trans {n:Nat} {a b c:Loc} (h:Loc.bR n a b) (h':Loc.bR n b c):Loc.bR n a c:=fun i hi =>
 ⟨(h i hi).1.trans (h' i hi).1,(h i hi).2.1.trans (h' i hi).2.1,(h i hi).2.2.trans (h' i hi).2.2⟩
theorem Loc.bR.symm {n:Nat} {a b:Loc} (h:Loc.bR n a b):Loc.bR n b a:=fun i hi=>⟨(h i hi).1.symm,(h i hi).2.1.symm,(h i hi).2.2.symm⟩
theorem Loc.bR.mono {n k:Nat} {a b:Loc} (h:Loc.bR n a b) (hk:k≤n):Loc.bR k a b:=fun i hi=>h i (by omega)
section
variable {ρ:Env} {ι:Loc} {w:World} {β:dH} {m:Mem}
theorem qD {b:Nat} {o:Obj} (h:w.heap[b]? = some o):b<w.heap.size:=by
 rw [Array.getElem?_eq_some_iff] at h;exact h.1
theorem aG.aBk (hm:aG ρ β ι m w) {i:Nat} {B:Blk} (hB:m[i]? = some B) (hd:B.dead=false) (hn:ι.nil i=false):ι i<w.heap.size:=by
 obtain ⟨fz,rest,F,_⟩:=hm.blk i B hB hd hn
 exact qD F
theorem aG.push (hm:aG ρ β ι m w) {w':World} (B:Blk) (r c:Nat) (nl:Bool) (hs:m.all (fun B=>B.aE.all (Seg.sc m.length))=true) (hs':B.aE.all (Seg.sc m.length)=true)
 (hw:∀ b,b<w.heap.size→w'.heap[b]? = w.heap[b]?) (hsz:w.heap.size≤w'.heap.size) (hos:w'.os=w.os) (htape:w'.tape=w.tape) (hout:w'.output=w.output) (hr:w.heap.size≤r)
 (hblk:B.dead=false→nl=false→∃ fz rest,w'.heap[r]? = some (.cells (cellsOf ρ ι B.aE++rest).toArray B.ty fz)∧(B.wr=true→fz.2≤fz.1) ∧
   (∀ sz,B.grow=some sz→(cellsOf ρ ι B.aE++rest).length=c*sz∧c≤maxLen)∧(B.grow=none→rest=[]))
 (hnil:B.dead=false→nl=true→B.grow.isSome=true∧cellsOf ρ ι B.aE=[]):aG ρ β (cI ι m.length r c nl) (m++[B]) w':=by
 have hag:=cG ι m.length r c nl
 have heq:(cI ι m.length r c nl).pos m.length=r∧(cI ι m.length r c nl).cap m.length=c∧(cI ι m.length r c nl).nil m.length=nl:=by simp [cI]
 have at_:∀ {i:Nat} {C:Blk},(m++[B])[i]? = some C→(i<m.length∧m[i]? = some C)∨(i=m.length∧C=B):=by
  intro i C h
  by_cases hi:i<m.length
  ·rw [List.getElem?_append_left hi] at h;exact .inl ⟨hi,h⟩
  ·rw [List.getElem?_append_right (by omega)] at h
   have K:=(List.getElem?_eq_some_iff.1 h).1
   simp at K
   have:i=m.length:=by omega
   subst this
   simp at h
   exact .inr ⟨rfl,h.symm⟩
 have scB:∀ {i:Nat} {C:Blk},m[i]? = some C→cellsOf ρ (cI ι m.length r c nl) C.aE=cellsOf ρ ι C.aE:=fun hC =>
  (bF hag (List.all_eq_true.1 hs _ (List.mem_of_getElem? hC))).symm
 have scB':cellsOf ρ (cI ι m.length r c nl) B.aE=cellsOf ρ ι B.aE:=(bF hag hs').symm
 refine ⟨fun i j C D hC hD hCd hDd hCn hDn he=>?_,fun i C hC hCd hCn=>?_,fun i C hC hCd hCn=>?_,(hag.mono hm.len).symm.trans hm.agr,by have:=hm.len;simp;omega,fun i hi hi'=>?_,Nat.le_trans hm.size hsz,fun b hb hi=>?_,hos.trans hm.os,htape.trans hm.tape,hout.trans hm.output,hm.xt,fun i j a n' c' hv K k hk=>?_⟩
 ·rcases at_ hC with ⟨hi,O⟩ | ⟨hi,O⟩ <;> rcases at_ hD with ⟨hj,V⟩ | ⟨hj,V⟩
  ·rw [← (hag i hi).1,← (hag j hj).1] at he
   rw [← (hag i hi).2.2] at hCn
   rw [← (hag j hj).2.2] at hDn
   exact hm.inj i j C D O V hCd hDd hCn hDn he
  ·rw [← (hag i hi).2.2] at hCn
   have:=hm.aBk O hCd hCn
   rw [← (hag i hi).1,hj,heq.1] at he;omega
  ·rw [← (hag j hj).2.2] at hDn
   have:=hm.aBk V hDd hDn
   rw [← (hag j hj).1,hi,heq.1] at he;omega
  ·rw [hi,hj]
 ·rcases at_ hC with ⟨hi,hC⟩ | ⟨rfl,rfl⟩
  ·rw [← (hag i hi).2.2] at hCn
   obtain ⟨fz,rest,F,J⟩:=hm.blk i C hC hCd hCn
   rw [← (hag i hi).1,← (hag i hi).2.1,scB hC]
   exact ⟨fz,rest,by rw [hw _ (qD F)];exact F,J⟩
  ·rw [heq.2.2] at hCn
   rw [heq.1,heq.2.1,scB']
   exact hblk hCd hCn
 ·rcases at_ hC with ⟨hi,hC⟩ | ⟨rfl,rfl⟩
  ·rw [← (hag i hi).2.2] at hCn
   rw [scB hC];exact hm.nils i C hC hCd hCn
  ·rw [heq.2.2] at hCn
   rw [scB'];exact hnil hCd hCn
 ·by_cases hc:i<m.length
  ·rw [← (hag i hc).1]
   rcases hm.new i hi hc with hn | ⟨j,hj,hn⟩
   ·exact .inl hn
   ·exact .inr ⟨j,hj,by rw [hn];exact (hag j (Nat.lt_of_lt_of_le hj hm.len)).1⟩
  ·have:i=m.length:=by simp at hi';omega
   subst this
   rw [heq.1];exact .inl (Nat.le_trans hm.size hr)
 ·have:=hm.size
  rw [hw b (by omega)]
  refine hm.old b hb fun i hi'=>?_
  have:=hi i (by simp;omega)
  rwa [← (hag i hi').1] at this
 ·by_cases hc:k<m.length
  ·rw [← (hag k hc).1];exact hm.xd i j a n' c' hv K k hc
  ·have:k=m.length:=by simp at hk;omega
   subst this
   rw [heq.1]
   obtain ⟨b,c2,e1,e2,e3,e4⟩:=(hm.xt i j).ok
   rw [hv] at e1;injection e1 with e1 _ _
   have:=(e4 a e1.symm 0 K).1
   have:=hm.size
   omega
theorem aG.alloc (hm:aG ρ β ι m w) (ty:TypeId) (aE:List Seg) (hs:m.all (fun B=>B.aE.all (Seg.sc m.length))=true) (hs':aE.all (Seg.sc m.length)=true) :
 aG ρ β (cI ι m.length w.heap.size 0 false) (m++[⟨ty,aE,true,none,false⟩]) { w with heap:=w.heap.push (.cells (cellsOf ρ ι aE).toArray ty) }:=by
 refine hm.push _ _ _ _ hs hs' (fun b hb=>?_) (by simp) rfl rfl rfl (Nat.le_refl _) (fun _ _=>⟨(0,0),[],?_,fun _=>Nat.le_refl _,fun sz h=>by simp at h,fun _=>rfl⟩) (fun _ h=>by simp at h)
 ·show (w.heap.push _)[b]? = _
  rw [Array.getElem?_push,if_neg (by omega)]
 ·show (w.heap.push _)[_]? = _
  rw [Array.getElem?_push,if_pos rfl];simp
theorem aG.yH (hm:aG ρ β ι m w) (i j:Nat):(ρ.I.xs i j).ok w:=by
 obtain ⟨b,c,F,J,M,T⟩:=(hm.xt i j).ok
 refine ⟨b,c,F,J,M,fun a ha k hk=>⟨Nat.lt_of_lt_of_le (T a ha k hk).1 hm.size,?_⟩⟩
 subst ha
 exact hm.bHF F hk
theorem aG.now (hm:aG ρ β ι m w):aG ρ ⟨w,m.length,ι⟩ ι m w :=
 ⟨hm.inj,hm.blk,hm.nils,Loc.bR.refl _ _,Nat.le_refl _,fun i F J=>absurd J (Nat.not_lt.2 F),Nat.le_refl _,fun _ _ _=>rfl,rfl,rfl,rfl,hm.yH,hm.xd⟩
theorem aG.since (hm:aG ρ β ι m w) {ι':Loc} {m':Mem} {w':World} (h':aG ρ ⟨w,m.length,ι⟩ ι' m' w'):aG ρ β ι' m' w':=by
 have hag:Loc.bR m.length ι' ι:=h'.agr
 have hlen:m.length≤m'.length:=h'.len
 refine ⟨h'.inj,h'.blk,h'.nils,(hag.mono hm.len).trans hm.agr,Nat.le_trans hm.len hlen,fun i F J=>?_,Nat.le_trans hm.size h'.size,fun b hb hi=>?_,h'.os.trans hm.os,h'.tape.trans hm.tape,h'.output.trans hm.output,hm.xt,fun i j a n c hv K k hk=>?_⟩
 ·by_cases hc:i<m.length
  ·rw [(hag i hc).1]
   rcases hm.new i F hc with hn | ⟨j,hj,hn⟩
   ·exact .inl hn
   ·exact .inr ⟨j,hj,by rw [hn,(hag j (Nat.lt_of_lt_of_le hj hm.len)).1]⟩
  ·rcases h'.new i (Nat.not_lt.1 hc) J with hn | ⟨j,hj,hn⟩
   ·exact .inl (Nat.le_trans hm.size hn)
   ·have hj:j<m.length:=hj
    by_cases hj2:j<β.k
    ·exact .inr ⟨j,hj2,hn⟩
    ·rcases hm.new j (Nat.not_lt.1 hj2) hj with M | ⟨q,hq,M⟩
     ·exact .inl (by rw [hn,(hag j hj).1];exact M)
     ·exact .inr ⟨q,hq,by rw [hn,(hag j hj).1,M,(hag q (Nat.lt_of_lt_of_le hq hm.len)).1]⟩
 ·have hb':b<w.heap.size:=Nat.lt_of_lt_of_le hb hm.size
  rw [h'.old b hb' hi]
  exact hm.old b hb fun i hi'=>by rw [← (hag i hi').1];exact hi i (Nat.lt_of_lt_of_le hi' hlen)
 ·exact h'.xd i j a n c hv K k hk
def cB (w:World) (b:Nat) (cs:List Value) (ty:TypeId) (fz:Nat × Nat):World:={ w with heap:=w.heap.setIfInBounds b (.cells cs.toArray ty fz) }
theorem aG.cB (hm:aG ρ β ι m w) {b:Nat} {B:Blk} (hB:m[b]? = some B) (hd:B.dead=false) (hn:ι.nil b=false) (aE:List Seg) (rest:List Value) {fz:Nat × Nat} (hfz:fz.2≤fz.1)
 (hg:∀ sz,B.grow=some sz→(cellsOf ρ ι aE++rest).length=ι.cap b*sz∧ι.cap b≤maxLen) (hr:B.grow=none→rest=[]) :
 aG ρ β ι (m.set b { B with aE:=aE }) (Sx.cB w (ι b) (cellsOf ρ ι aE++rest) B.ty fz):=by
 have hb:b<m.length:=(List.getElem?_eq_some_iff.1 hB).1
 have hlt:=hm.aBk hB hd hn
 have at_:∀ {i:Nat} {C:Blk},(m.set b { B with aE:=aE })[i]? = some C→(i=b∧C={ B with aE:=aE })∨(i ≠ b∧m[i]? = some C):=by
  intro i C h
  rw [List.getElem?_set] at h
  split at h
  ·rename_i hbi;subst hbi;simp only [Option.some.injEq] at h;exact .inl ⟨rfl,by simpa [hb] using h.symm⟩
  ·rename_i hbi;exact .inr ⟨fun e=>hbi e.symm,h⟩
 have old:∀ {i:Nat} {C:Blk},(m.set b { B with aE:=aE })[i]? = some C→∃ C',m[i]? = some C'∧C'.dead=C.dead:=by
  intro i C h
  rcases at_ h with ⟨rfl,rfl⟩ | ⟨_,h⟩
  ·exact ⟨B,hB,rfl⟩
  ·exact ⟨C,h,rfl⟩
 refine ⟨fun i j C D hC hD hCd hDd hCn hDn he=>?_,fun i C hC hCd hCn=>?_,fun i C hC hCd hCn=>?_,hm.agr,by simpa using hm.len,fun i F J=>hm.new i F (by simpa using J),?_,fun k hk hi=>?_,hm.os,hm.tape,hm.output,hm.xt,fun i j a n' c' hv K k hk=>hm.xd i j a n' c' hv K k (by simpa using hk)⟩
 ·obtain ⟨C',hC',e1⟩:=old hC
  obtain ⟨D',hD',e2⟩:=old hD
  exact hm.inj i j C' D' hC' hD' (e1.trans hCd) (e2.trans hDd) hCn hDn he
 ·rcases at_ hC with ⟨rfl,rfl⟩ | ⟨hbi,hC⟩
  ·refine ⟨fz,rest,?_,fun _=>hfz,hg,hr⟩
   simp [Sx.cB,Array.getElem?_setIfInBounds_self,hlt]
  ·obtain ⟨fz',rest',M,T⟩:=hm.blk i C hC hCd hCn
   refine ⟨fz',rest',?_,T⟩
   simp only [Sx.cB]
   rw [Array.getElem?_setIfInBounds_ne (fun he=>hbi (hm.inj b i B C hB hC hd hCd hn hCn he).symm)]
   exact M
 ·rcases at_ hC with ⟨rfl,rfl⟩ | ⟨hbi,hC⟩
  ·rw [hn] at hCn;cases hCn
  ·exact hm.nils i C hC hCd hCn
 ·simp only [Sx.cB,Array.size_setIfInBounds];exact hm.size
 ·simp only [Sx.cB]
  have:=hi b (by simpa using hb)
  rw [Array.getElem?_setIfInBounds_ne this]
  exact hm.old k hk fun i hi'=>hi i (by simpa using hi')
end
theorem aVR (w:World) (b o:Nat) (cs:List Value) (ty:TypeId) (fz:Nat × Nat) (v:Value) (h:w.heap[b]? = some (.cells cs.toArray ty fz)) :
 w.setCell ⟨b,o,none⟩ v=cB w b (cs.set o v) ty fz:=by
 unfold World.setCell cB
 congr 1
 apply Array.ext_getElem?
 intro i
 rw [Array.getElem?_modify]
 split
 ·rename_i hi;subst hi
  have hlt:=qD h
  rw [Array.getElem?_setIfInBounds_self_of_lt hlt,h]
  simp
 ·rename_i hi
  rw [Array.getElem?_setIfInBounds_ne hi]
theorem aIQ (w:World) (b:Nat) (c d:List Value) (ty:TypeId) (fz:Nat × Nat):cB (cB w b c ty fz) b d ty fz=cB w b d ty fz:=by
 unfold cB;simp
theorem kI {w:World} {b:Nat} {c:List Value} {ty:TypeId} {fz:Nat × Nat} (h:w.heap[b]? = some (.cells c.toArray ty fz)):cB w b c ty fz=w:=by
 unfold cB
 have:w.heap.setIfInBounds b (.cells c.toArray ty fz)=w.heap:=by
  apply Array.ext_getElem?
  intro i
  by_cases hi:b=i
  ·subst hi;rw [Array.getElem?_setIfInBounds_self_of_lt (qD h),h]
  ·rw [Array.getElem?_setIfInBounds_ne hi]
 rw [this]
theorem fU (P:Program) (b off:Nat) (ty:TypeId) (fz:Nat × Nat) (hfz:fz.2≤fz.1):∀ (vs:List Value) (i:Nat) (cs:List Value) (w:World),
 w.heap[b]? = some (.cells cs.toArray ty fz)→(∀ v ∈ vs,v.oneCell'=true)→off+i+vs.length≤cs.length →
 (storeCells ⟨b,off,none⟩ vs i).run P w=.ok () (cB w b (cs.take (off+i)++vs++cs.drop (off+i+vs.length)) ty fz)
 | [],i,cs,w,h,_,_=>by
   unfold storeCells
   simp [kI h]
 | v::vs,i,cs,w,h,hv,hl=>by
   simp only [List.length_cons] at hl
   unfold storeCells
   have hlt:off+i<cs.length:=by omega
   have hc:w.cell? ⟨b,off+i,none⟩=some cs[off+i]:=by
    simp [World.cell?,h,hlt]
   have hfr:w.frozen? ⟨b,off+i,none⟩=false:=by
    simp [World.frozen?,h];omega
   have hst:(store (Addr.add ⟨b,off,none⟩ i) v).run P w=.ok () (cB w b (cs.set (off+i) v) ty fz):=by
    rw [run_store P w _ v _ (hv v (.head _))]
    have:(Addr.add ⟨b,off,none⟩ i)=⟨b,off+i,none⟩:=aBE b off i
    rw [this,hc]
    simp only [hfr]
    rw [aVR w b (off+i) cs ty fz v h];rfl
   rw [Sem.run_bind,hst,Result.andThen_ok]
   have hh:(cB w b (cs.set (off+i) v) ty fz).heap[b]? = some (.cells (cs.set (off+i) v).toArray ty fz):=by
    unfold cB;simp only;rw [Array.getElem?_setIfInBounds_self_of_lt (qD h)]
   rw [fU P b off ty fz hfz vs (i+1) _ _ hh (fun u hu=>hv u (.tail _ hu)) (by simp;omega),aIQ]
   congr 2
   apply List.ext_getElem?
   intro j
   simp only [List.getElem?_append,List.length_append,List.length_take,List.length_set,List.getElem?_take,List.getElem?_set,List.getElem?_drop,List.length_cons]
   by_cases F:j<off+i
   ·rw [if_pos (by omega),if_pos (by omega),if_pos (by omega),if_neg (by omega),if_pos (by omega),if_pos (by omega),if_pos F]
   ·by_cases J:j=off+i
    ·subst J
     rw [if_pos (by omega),if_pos (by omega),if_pos (by omega),if_pos rfl,if_pos hlt,if_pos (by omega),if_neg (by omega),show off+i-min (off+i) cs.length=0 by omega];rfl
    ·by_cases M:j<off+i+1+vs.length
     ·rw [if_pos (by omega),if_neg (by omega),if_pos (by omega),if_neg (by omega),show j-min (off+i) cs.length=(j-min (off+(i+1)) cs.length)+1 by omega,List.getElem?_cons_succ]
     ·rw [if_neg (by omega),if_neg (by omega),if_neg (by omega)]
      congr 1;omega
def S.plain:S→Bool
 | .val _=>false
 | .undef=>false
 | _=>true
def Seg.plain:Seg→Bool
 | .one x=>x.plain
 | _=>true
def aAa:SV→Option (List Seg)
 | .s x=>if x.plain then some [.one x] else none
 | .agg l=>if l.all Seg.plain then some l else none
 | _=>none
abbrev WR:=Option (List E × SV × Mem)
def oF (fr:Fr) (m:Mem) (ty:TypeId) (aE:List Seg):WR :=
 if jJ m.length fr m&&aE.all (Seg.sc m.length) then some ([],.s (.ptr m.length (.lit 0)),m++[⟨ty,aE,true,none,false⟩]) else none
def sY (q:E):List XF→List S→Option (List XF)
 | [],[]=>some []
 | f::fs,x::xs=>match bHE f q x,sY q fs xs with
   | some g,some gs=>some (g::gs)
   | _,_=>none
 | _,_=>none
def vO:List Seg→Option (List S)
 | []=>some []
 | .one x::l=>(vO l).map (x::·)
 | _=>none
def kK (H:Hyp) (off:E) (xs:List S):Nat→List Seg→Option (List E × List Seg)
 | _,[]=>none
 | st,.one y::r=>if aL H (st+1) off then (kK H off xs (st+1) r).map fun p=>(p.1,.one y::p.2) else none
 | st,.run k (.lit n) A o::r=>if 0≤n∧aL H (st+n) off=true then (kK H off xs (st+n.toNat) r).map fun p=>(p.1,.run k (.lit n) A o::p.2) else none
 | _,.run ..::_=>none
 | st,.rows n fs o::r =>
   let wr:=match gS fs.length off with
    | some (j,c)=>if st≤c∧(c-st)%fs.length=0∧0<fs.length then
       match sY (mkAdd j (.lit ((c-st) / fs.length+o:Nat))) fs xs with
       | some gs=>some ([mkLt H (mkAdd j (.lit ((c-st) / fs.length:Nat))) n],.rows n gs o::r)
       | none=>none
      else none
    | none=>none
   match n with
   | .lit z=>if 0≤z∧aL H (st+z*fs.length) off=true then (kK H off xs (st+z.toNat*fs.length) r).map fun p=>(p.1,.rows n fs o::p.2) else wr
   | _=>wr
def aWk (P:Program) (H:Hyp) (m:Mem) (t:TypeId) (p x:SV):WR :=
 match p with
 | .s (.ptr b off) =>
   match m[b]?,aAa x with
   | some B,some l =>
     if B.wr=true∧B.dead=false then
      match cL P t,x,bBw off with
      | some n,.agg _,some o=>if dU l=some n∧0<n then
         match bQ o B.aE,bG (o+n) B.aE with
         | some Y,some l2=>some ([],.undef,m.set b { B with aE:=Y++l++l2 })
         | _,_=>none
        else none
      | some n,.agg _,none=>match vO l with
        | some xs=>if xs.length=n then (kK H off xs 0 B.aE).map fun r=>(mkLe H (.lit 0) off::r.1,.undef,m.set b { B with aE:=r.2 }) else none
        | none=>none
      | some 1,.s y,_=>(yE H off y 0 B.aE).map fun r=>(mkLe H (.lit 0) off::r.1,.undef,m.set b { B with aE:=r.2 })
      | _,_,_=>none
     else none
   | _,_=>none
 | _=>none
def fV:List Seg→Option (List S)
 | []=>some []
 | .one x::r=>(fV r).map (x::·)
 | .run k (.lit n) A o::r=>if 0≤n∧n≤4096 then (fV r).map (((List.range n.toNat).map fun j=>S.int k (dQ H0 A (.lit (o+j:Nat))))++·) else none
 | _=>none
def qN (l:List S):List Seg:=l.map .one
def rowOf (m:Mem) (sz:Nat):SV→Option (List S)
 | .s .nilSlc=>some []
 | .s (.slc b (.lit o) (.lit n) _)=>match m[b]? with
   | some B=>match fV B.aE with
     | some l=>if B.dead=false∧0≤o∧0≤n∧o.toNat+n.toNat*sz≤l.length then some ((l.drop o.toNat).take (n.toNat*sz)) else none
     | none=>none
   | none=>none
 | _=>none
def sZ (P:Program) (e:TypeId):Option (Nat × Nat):=match P.info? e with
 | some i=>match i.zero with
   | some z=>if z.cells.size=i.size∧0<i.size then some (i.size,i.bytes) else none
   | none=>none
 | none=>none
def roomFor (B:Blk) (l:List S) (sz N n:Nat):Cap→Bool
 | .kn (.lit c)=>decide ((N+n:Nat)≤c)
 | .op (.lit k)=>decide (0≤k∧B.grow=some sz∧(k.toNat+N+n)*sz≤l.length)
 | _=>false
def aHC (P:Program) (fr:Fr) (m:Mem) (t:TypeId) (s x:SV):WR :=
 match jC P t with
 | none=>none
 | some e=>match sZ P e with
   | none=>none
   | some (sz,by_)=>match rowOf m sz x with
     | none=>none
     | some xs =>
       if xs.all S.plain&&xs.all (S.sc m.length)&&jJ m.length fr m&&decide (xs.length≤65536∧by_≤65536) then
        match s with
        | .s .nilSlc=>if xs=[] then some ([],.s .nilSlc,m) else some ([],.s (.slc m.length (.lit 0) (.lit (xs.length / sz:Nat)) (.op (.lit 0))),m++[⟨e,qN xs,true,some sz,false⟩])
        | .s (.slc b (.lit o) (.lit N) cap)=>match m[b]? with
          | some B=>match fV B.aE with
            | some l =>
              if B.dead=false∧B.wr=true∧B.ty=e∧0≤o∧0≤N∧0<l.length∧N≤65536∧l.all (S.sc m.length)=true then
               if roomFor B l sz N.toNat (xs.length / sz) cap then
                if xs=[] then some ([],s,m) else
                if o.toNat+N.toNat*sz+xs.length≤l.length then some ([],.s (.slc b (.lit o) (.lit (N+(xs.length / sz:Nat))) cap),m.set b { B with aE:=qN (l.take (o.toNat+N.toNat*sz)++xs++l.drop (o.toNat+N.toNat*sz+xs.length)) }) else none
               else if o=0∧cap=.op (.lit 0)∧B.grow=some sz∧l.length=N.toNat*sz∧xs ≠ [] then
                some ([],.s (.slc m.length (.lit 0) (.lit (N+(xs.length / sz:Nat))) (.op (.lit 0))),(m.set b { B with dead:=true })++[⟨e,qN (l++xs),true,some sz,false⟩])
               else none
              else none
            | none=>none
          | none=>none
        | _=>none
       else none
def pO (fr:Fr):Op→Option (TypeId × SV × SV)
 | .call c=>match c.callee,c.args.toList,c.argTypes.toList with
   | .builtin .append,[s,x],[t,t']=>if t=t' then match cM [] fr s,cM [] fr x with
     | some u,some v=>some (t,u,v)
     | _,_=>none
     else none
   | _,_,_=>none
 | _=>none
def bKf (P:Program) (e:TypeId) (n sz:Nat):Option (List Seg):=match yI P e with
 | some (.s (.int k (.lit 0)))=>if sz=1 then some [.run k (.lit n) (.tab []) 0] else bBP P e n sz [] []
 | _=>bBP P e n sz [] []
def aAK:SV→Option Int
 | .s (.int _ (.lit z))=>some z
 | _=>none
def bFu (P:Program) (fr:Fr) (m:Mem) (t:TypeId) (l c:SV):WR :=
 match jC P t,aAK l,aAK c with
 | some e,some zl,some zc=>match sZ P e with
   | some (sz,by_)=>if zl=zc∧0<zc∧zc≤1048576∧by_≤65536 then match bKf P e zc.toNat sz with
      | some aE=>if aE.all Seg.plain then (oF fr m e aE).map fun r=>(r.1,.s (.slc m.length (.lit 0) (.lit zc) (.kn (.lit zc))),r.2.2) else none
      | none=>none
     else none
   | none=>none
 | _,_,_=>none
def bFs (P:Program) (H:Hyp) (fr:Fr) (m:Mem) (t:TypeId) (l c:SV):WR :=
 match jC P t,l,c with
 | some e,.s (.int _ n),.s (.int _ n')=>match sZ P e,yI P e with
   | some (1,by_),some (.s (.int k (.lit 0)))=>if n=n'∧by_≤65536∧aL H 0 n=true∧dC H 67108864 n=true then
      (oF fr m e [.run k n (.tab []) 0]).map fun r=>(r.1,.s (.slc m.length (.lit 0) n (.kn n)),r.2.2)
     else none
   | _,_=>none
 | _,_,_=>none
def aVZ (m:Mem) (sz:Nat):SV→Option (List Seg × Nat)
 | .s (.slc b (.lit 0) (.lit n) _)=>match m[b]? with
   | some B=>if B.dead=false∧0<n∧0<sz∧dU B.aE=some (n.toNat*sz) then some (B.aE,n.toNat) else none
   | none=>none
 | _=>none
def bare:SV→Bool
 | .s .nilSlc=>true
 | .s (.slc _ _ (.lit 0) (.kn (.lit 0)))=>true
 | .s (.slc _ _ (.lit 0) (.tl _ _ true))=>true
 | _=>false
def aUF (P:Program) (fr:Fr) (m:Mem) (t:TypeId) (s x:SV):WR :=
 match jC P t with
 | none=>none
 | some e=>match sZ P e with
   | none=>none
   | some (sz,by_)=>if bare s then match aVZ m sz x with
     | some (aE,k)=>if k≤65536∧by_≤65536∧jJ m.length fr m=true then
        some ([],.s (.slc m.length (.lit 0) (.lit k) (.op (.lit 0))),m++[⟨e,aE,true,some sz,false⟩]) else none
     | none=>if rowOf m sz x=some [] then some ([],s,m) else none
     else none
def uX (d:Int):Option SV→Option Int
 | none=>some d
 | some v=>aAK v
def aVX (P:Program) (m:Mem) (t:TypeId) (x:SV) (lo hi mx:Option SV):WR :=
 match jC P t with
 | none=>none
 | some e=>match cL P e with
   | none=>none
   | some sz=>match x with
     | .s .nilSlc=>if uX 0 lo=some 0∧uX 0 hi=some 0∧mx=none then some ([],.s .nilSlc,m) else none
     | .s (.slc b (.lit o) (.lit n) cap)=>match uX 0 lo,uX n hi,m[b]? with
       | some l,some h,some B=>match fV B.aE with
         | some L=>if B.dead=false∧0<L.length∧0≤o∧0≤l∧l≤h∧h≤n∧(l=0∨l<n)∧0<sz∧mx=none∧roomFor B L sz n.toNat 0 cap=true then
            match cap with
            | .kn (.lit c)=>some ([],.s (.slc b (.lit (o+l*sz)) (.lit (h-l)) (.kn (.lit (c-l)))),m)
            | .op (.lit k)=>some ([],.s (.slc b (.lit (o+l*sz)) (.lit (h-l)) (.op (.lit (k+l)))),m)
            | _=>none
           else none
         | none=>none
       | _,_,_=>none
     | _=>none
def xM (fr:Fr):Option Operand→Option (Option SV)
 | none=>some none
 | some x=>(cM [] fr x).map some
def bBu (P:Program) (e:TypeId):Bool:=match P.underlying e with
 | some (.int .u8)=>true
 | _=>false
def aUC (P:Program) (fr:Fr) (m:Mem) (src dst:TypeId) (x:SV):WR :=
 match P.underlying src,jC P dst,x with
 | some .string,some e,.s (.str l)=>if bBu P e&&decide (0<l.length∧l.length≤4096)&&jJ m.length fr m then
    some ([],.s (.slc m.length (.lit 0) (.lit l.length) (.op (.lit 0))),m++[⟨e,[.run .u8 (.lit l.length) (.tab (l.map fun c=>(c.toNat:Int))) 0],false,some 1,false⟩]) else none
 | _,_,_=>none
def bFw (P:Program) (m:Mem) (src dst:TypeId) (x:SV):WR :=
 match jC P dst,x with
 | some e,.s (.slc b off n cap)=>match m[b]? with
   | some B=>if bBu P e&&decide (src=dst)&&!B.dead&&decide (dU B.aE ≠ some 0∧(dU B.aE).isSome=true) then some ([],.s (.slc b off n cap),m.set b { B with wr:=false }) else none
   | none=>none
 | _,_=>none
def bNg (P:Program) (m:Mem) (t:TypeId) (x:SV):WR :=
 match jC P t,x with
 | some _,.s .nilSlc=>some ([],.s (.int .i64 (.lit 0)),m)
 | some _,.s (.slc _ _ _ (.kn (.lit c)))=>if 0≤c then some ([],.s (.int .i64 (.lit c)),m) else none
 | _,_=>none
def aWC (fr:Fr):Op→Option (TypeId × SV)
 | .call c=>match c.callee,c.args.toList,c.argTypes.toList with
   | .builtin .cap,[x],[t]=>(cM [] fr x).map fun v=>(t,v)
   | _,_,_=>none
 | _=>none
def nP (fr:Fr):Op→Option (TypeId × TypeId × SV × SV)
 | .call c=>match c.callee,c.args.toList,c.argTypes.toList with
   | .builtin .append,[s,x],[t,t']=>match cM [] fr s,cM [] fr x with
     | some u,some v=>some (t,t',u,v)
     | _,_=>none
   | _,_,_=>none
 | _=>none
def aHE (P:Program) (fr:Fr) (m:Mem) (t t':TypeId) (s x:SV):WR :=
 match jC P t,P.underlying t',s,aAK x with
 | some e,some (.int _),.s .nilSlc,some zn=>match sZ P e with
   | some (sz,by_)=>if 0<zn∧zn≤65536∧by_≤65536∧jJ m.length fr m=true then match bKf P e zn.toNat sz with
      | some aE=>if aE.all (Seg.sc m.length) then some ([],.s (.slc m.length (.lit 0) (.lit zn) (.op (.lit 0))),m++[⟨e,aE,true,some sz,false⟩]) else none
      | none=>none
     else none
   | none=>none
 | _,_,_,_=>none
def xI (P:Program) (e:TypeId):List Seg:=match yI P e with
 | some (.s (.int k (.lit 0)))=>[.run k (.lit 0) (.tab []) 0]
 | _=>[]
def bFq (P:Program) (fr:Fr) (m:Mem) (t:TypeId) (l c:SV):WR :=
 match jC P t,aAK l,aAK c with
 | some e,some 0,some q=>match sZ P e with
   | some (sz,by_)=>if 0<q∧q≤67108864∧by_≤65536∧jJ m.length fr m=true then some ([],.s (.slc m.length (.lit 0) (.lit 0) (.op (.lit 0))),m++[⟨e,xI P e,true,some sz,false⟩]) else none
   | none=>none
 | _,_,_=>none
def aVd (P:Program) (fr:Fr) (m:Mem) (t:TypeId) (l c:SV):WR:=match bFu P fr m t l c with
 | some r=>some r
 | none=>bFq P fr m t l c
def bSB (P:Program) (fr:Fr) (m:Mem) (o:Op):WR :=
 match pO fr o with
 | some (t,u,v)=>match aHC P fr m t u v with
   | some r=>some r
   | none=>aUF P fr m t u v
 | none=>match aWC fr o with
   | some (t,v)=>bNg P m t v
   | none=>match nP fr o with
   | some (t,t',u,v)=>aHE P fr m t t' u v
   | none=>match o with
     | .makeSlice t l c=>match cM [] fr l,cM [] fr c with
       | some u,some v=>aVd P fr m t u v
       | _,_=>none
     | .slice t x lo hi mx=>match cM [] fr x,xM fr lo,xM fr hi,xM fr mx with
       | some u,some a,some b,some c=>aVX P m t u a b c
       | _,_,_,_=>none
     | .convert src dst x=>match cM [] fr x with
       | some u=>match aUC P fr m src dst u with
         | some r=>some r
         | none=>bFw P m src dst u
       | none=>none
     | _=>none
def bSA (P:Program) (H:Hyp) (fr:Fr) (m:Mem) (o:Op):WR :=
 match o with
 | .box ty x=>match cM [] fr x with
   | some v=>match aAa v with
     | some l=>oF fr m ty l
     | none=>none
   | none=>none
 | .alloc ty=>match yI P ty with
   | some v=>match aAa v with
     | some l=>oF fr m ty l
     | none=>none
   | none=>none
 | .store t a x=>match cM [] fr a,cM [] fr x with
   | some p,some v=>aWk P H m t p v
   | _,_=>none
 | .makeSlice t l c=>match cM [] fr l,cM [] fr c with
   | some u,some v=>bFs P H fr m t u v
   | _,_=>none
 | .buildSlice t len parts=>if len=0 then match jC P t,parts.toList with
    | some e,[]=>match cL P e with
      | some _=>(oF fr m e []).map fun r=>(r.1,.s (.slc m.length (.lit 0) (.lit 0) (.kn (.lit 0))),r.2.2)
      | none=>none
    | _,_=>none
   else match jC P t,rB [] fr (parts.toList.map (·.2)) with
   | some e,some l=>match cL P e with
     | some n=>if len*n≤2 ^ 24 then match bBP P e len n (parts.toList.map (·.1)) l with
        | some aE=>if aE.all Seg.plain then (oF fr m e aE).map fun r=>(r.1,.s (.slc m.length (.lit 0) (.lit len) (.kn (.lit len))),r.2.2) else none
        | none=>none
       else none
     | none=>none
   | _,_=>none
 | _=>none
def wop (P:Program) (H:Hyp) (fr:Fr) (m:Mem) (o:Op):WR:=match bSA P H fr m o with
 | some r=>some r
 | none=>bSB P fr m o
section
variable {ρ:Env} {ι:Loc} {H:Hyp} {P:Program} {w:World} {β:dH} {m:Mem} {fr:Fr} {n:Nat} {a:Act}
theorem aHe {x:S} (h:x.plain=true):(x.aB ρ ι).oneCell'=true:=by
 cases x with
 | val n=>simp [S.plain] at h
 | undef=>simp [S.plain] at h
 | slc b off len c=>cases c <;> simp only [S.aB] <;> (try split) <;> rfl
 | xslc i j off len=>simp only [S.aB,Ext.sub];split <;> rfl
 | xtl i j o off=>simp only [S.aB,Ext.tl];split <;> rfl
 | xptr i j k f=>simp only [S.aB,Ext.ptr];split <;> rfl
 | _=>rfl
theorem iR:∀ {l:List Seg},l.all Seg.plain=true→∀ v ∈ cellsOf ρ ι l,v.oneCell'=true
 | [],_,v,hv=>by simp [cellsOf] at hv
 | x::l,h,v,hv=>by
   simp only [List.all_cons,Bool.and_eq_true] at h
   rw [aD,List.mem_append] at hv
   rcases hv with hv | hv
   ·cases x with
    | one x=>simp only [aT,List.mem_singleton] at hv;subst hv;exact aHe h.1
    | run k n A o=>simp only [Seg.cells,List.mem_map] at hv;obtain ⟨j,_,rfl⟩:=hv;rfl
    | rows n fs o =>
      simp only [Seg.cells,List.mem_flatMap,List.mem_map] at hv
      obtain ⟨j,_,f,_,rfl⟩:=hv
      unfold XF.aB;split <;> rfl
   ·exact iR h.2 v hv
theorem aAb {v:SV} {l:List Seg} (h:aAa v=some l):(v.aB ρ ι).cells=(cellsOf ρ ι l).toArray∧(∀ u ∈ cellsOf ρ ι l,u.oneCell'=true):=by
 unfold aAa at h
 split at h
 ·rename_i x
  split at h
  ·rename_i hp
   simp only [Option.some.injEq] at h;subst h
   refine ⟨?_,iR (by simpa [Seg.plain] using hp)⟩
   show (S.aB ρ ι x).cells=_
   rw [aBR (fun n hn=>by subst hn;simp [S.plain] at hp)];simp [cellsOf,Seg.cells]
  ·cases h
 ·split at h
  ·rename_i hp
   simp only [Option.some.injEq] at h;subst h
   exact ⟨rfl,iR hp⟩
  ·cases h
 ·cases h
def dP (ρ:Env) (β:dH) (ι:Loc) (n:Nat) (fr:Fr) (m m':Mem) (a:Act) (v:SV) (r:Value) (w':World):Prop :=
 ∃ ι',r=v.aB ρ ι'∧aP ρ ι' n fr a∧aG ρ β ι' m' w'
theorem xH {ty:TypeId} {aE:List Seg} {nd:List E} {v:SV} {m':Mem} (h:oF fr m ty aE=some (nd,v,m')):v=.s (.ptr m.length (.lit 0)):=by
 unfold oF at h
 split at h
 ·simp only [Option.some.injEq,Prod.mk.injEq] at h;exact h.2.1.symm
 ·cases h
theorem mI (hm:aG ρ β ι m w) (hf:aP ρ ι n fr a) {ty:TypeId} {aE:List Seg} {nd:List E} {v:SV} {m':Mem} (h:oF fr m ty aE=some (nd,v,m')) :
 dP ρ β ι n fr m m' a v (.pointer (some ⟨w.heap.size,0,none⟩)) { w with heap:=w.heap.push (.cells (cellsOf ρ ι aE).toArray ty) }:=by
 unfold oF at h
 split at h
 ·rename_i hc
  simp only [jJ,Bool.and_eq_true] at hc
  simp only [Option.some.injEq,Prod.mk.injEq] at h
  obtain ⟨rfl,rfl,rfl⟩:=h
  refine ⟨cI ι m.length w.heap.size 0 false,?_,hf.congr (cG _ _ _ _ _) hc.1.1,hm.alloc ty aE hc.1.2 hc.2⟩
  simp [SV.aB,S.aB,addr,aC,cI]
 ·cases h
theorem qU {t:TypeId} {k:Nat} {v:Value} {vs:List Value} {p:Addr} (hs:cL P t=some k) (hc:v.cells=vs.toArray) (hn:vs.length=k) :
 (storeVar t p v).run P w=(storeCells p vs).run P w:=by
 have F:v.cells.size=k:=by rw [hc];simpa using hn
 have J:v.cells.toList=vs:=by rw [hc]
 simp [storeVar,bD hs,F,J]
theorem aUr {q:E}:∀ {fs:List XF} {xs:List S} {gs:List XF},sY q fs xs=some gs→gs.length=fs.length∧xs.length=fs.length ∧
 ∀ (f:Nat) (g:XF),gs[f]? = some g→∃ d x,fs[f]? = some d∧xs[f]? = some x∧∀ k,XF.aB ρ g k=if k=(q.i ρ).toNat then x.aB ρ ι else XF.aB ρ d k
 | [],[],gs,h=>by simp only [sY,Option.some.injEq] at h;subst h;simp
 | [],x::xs,gs,h=>by simp [sY] at h
 | f::fs,[],gs,h=>by simp [sY] at h
 | f::fs,x::xs,gs,h=>by
   simp only [sY] at h
   split at h
   ·rename_i g gs' F J
    simp only [Option.some.injEq] at h;subst h
    obtain ⟨e1,e2,e3⟩:=aUr J
    refine ⟨by simp [e1],by simp [e2],fun k g' hk=>?_⟩
    cases k with
    | zero=>simp only [List.getElem?_cons_zero,Option.some.injEq] at hk;subst hk;exact ⟨f,x,rfl,rfl,fun k=>bAU F k⟩
    | succ k=>simpa using e3 k g' (by simpa using hk)
   ·cases h
theorem aGZ:∀ {l:List Seg} {xs:List S},vO l=some xs→cellsOf ρ ι l=gK ρ ι xs
 | [],xs,h=>by simp only [vO,Option.some.injEq] at h;subst h;rfl
 | .one x::l,xs,h=>by
   simp only [vO,Option.map_eq_some_iff] at h
   obtain ⟨ys,hy,rfl⟩:=h
   rw [aD,aT,aGZ hy];rfl
 | .run ..::l,xs,h=>by simp [vO] at h
 | .rows ..::l,xs,h=>by simp [vO] at h
theorem bCP {q:E} {fs:List XF} (h:0<fs.length):sY q fs []=none:=by cases fs <;> simp_all [sY]
theorem uG {off:E}:∀ {l:List Seg} {st:Nat} {r:List E × List Seg},¬ kK H off [] st l=some r
 | [],st,r,h=>by simp [kK] at h
 | .one y::l,st,r,h=>by
   simp only [kK] at h
   split at h
   ·simp only [Option.map_eq_some_iff] at h;obtain ⟨p,hp,_⟩:=h;exact uG hp
   ·cases h
 | .run k n A o::l,st,r,h=>by
   cases n with
   | lit z =>
     simp only [kK] at h
     split at h
     ·simp only [Option.map_eq_some_iff] at h;obtain ⟨p,hp,_⟩:=h;exact uG hp
     ·cases h
   | _=>simp [kK] at h
 | .rows n fs o::l,st,r,h=>by
   have wr:¬ (match gS fs.length off with
    | some (j,c)=>if st≤c∧(c-st)%fs.length=0∧0<fs.length then
       match sY (mkAdd j (.lit ((c-st) / fs.length+o:Nat))) fs [] with
       | some gs=>some ([mkLt H (mkAdd j (.lit ((c-st) / fs.length:Nat))) n],Seg.rows n gs o::l)
       | none=>none
      else none
    | none=>none)=some r:=by
    intro h
    split at h
    ·split at h
     ·rename_i hc;rw [bCP hc.2.2] at h;cases h
     ·cases h
    ·cases h
   cases n with
   | lit z =>
     simp only [kK] at h
     split at h
     ·simp only [Option.map_eq_some_iff] at h;obtain ⟨p,hp,_⟩:=h;exact uG hp
     ·exact wr h
   | _=>exact wr h
theorem bHC (hH:H.ok ρ) (off:E) (xs:List S) (hxs:0<xs.length):∀ (l:List Seg) (st:Nat) (nd:List E) (l':List Seg),kK H off xs st l=some (nd,l')→(st:Int)≤off.i ρ→bC ρ nd →
 (off.i ρ-st).toNat+xs.length≤(cellsOf ρ ι l).length∧cellsOf ρ ι l'=(cellsOf ρ ι l).take (off.i ρ-st).toNat++gK ρ ι xs++(cellsOf ρ ι l).drop ((off.i ρ-st).toNat+xs.length):=by
 intro l
 induction l with
 | nil=>intro st nd x h;simp [kK] at h
 | cons s l ih =>
   intro st nd l' h K hn
   have skip:∀ (len st':Nat) (p:List E × List Seg),(s.cells ρ ι).length=len→st'=st+len→(st':Int)≤off.i ρ→kK H off xs st' l=some p→nd=p.1→l'=s::p.2 →
    (off.i ρ-st).toNat+xs.length≤(cellsOf ρ ι (s::l)).length∧cellsOf ρ ι l'=(cellsOf ρ ι (s::l)).take (off.i ρ-st).toNat++gK ρ ι xs++(cellsOf ρ ι (s::l)).drop ((off.i ρ-st).toNat+xs.length):=by
    intro len st' p hlen hst hle hp e1 e2
    subst e1;subst e2
    obtain ⟨F,J⟩:=ih st' _ _ hp hle hn
    have e:(off.i ρ-st).toNat=len+(off.i ρ-st').toNat:=by omega
    subst hlen
    rw [aD,aD,J,e,List.length_append,List.take_length_add_append,Nat.add_assoc,List.drop_length_add_append]
    refine ⟨by omega,by simp⟩
   cases s with
   | one y =>
     simp only [kK] at h
     split at h
     ·rename_i hl
      have:=aF hH hl
      simp only [Option.map_eq_some_iff,Prod.mk.injEq] at h
      obtain ⟨p,hp,e1,e2⟩:=h
      exact skip 1 (st+1) p rfl rfl (by push_cast;omega) hp e1.symm e2.symm
     ·cases h
   | run k n A o =>
     cases n with
     | lit z =>
       simp only [kK] at h
       split at h
       ·rename_i hc
        have:=aF hH hc.2
        simp only [Option.map_eq_some_iff,Prod.mk.injEq] at h
        obtain ⟨p,hp,e1,e2⟩:=h
        exact skip z.toNat (st+z.toNat) p (by rw [aZ,aC]) rfl (by push_cast;omega) hp e1.symm e2.symm
       ·cases h
     | _=>simp [kK] at h
   | rows n fs o =>
     have wr:(match gS fs.length off with
      | some (j,c)=>if st≤c∧(c-st)%fs.length=0∧0<fs.length then
         match sY (mkAdd j (.lit ((c-st) / fs.length+o:Nat))) fs xs with
         | some gs=>some ([mkLt H (mkAdd j (.lit ((c-st) / fs.length:Nat))) n],Seg.rows n gs o::l)
         | none=>none
        else none
      | none=>none)=some (nd,l')→(off.i ρ-st).toNat+xs.length≤(cellsOf ρ ι (Seg.rows n fs o::l)).length∧cellsOf ρ ι l'=(cellsOf ρ ι (Seg.rows n fs o::l)).take (off.i ρ-st).toNat++gK ρ ι xs++(cellsOf ρ ι (Seg.rows n fs o::l)).drop ((off.i ρ-st).toNat+xs.length):=by
      intro h
      split at h
      ·rename_i j c hsp
       split at h
       ·rename_i hc
        obtain ⟨hc,hm0,hpos⟩:=hc
        split at h
        ·rename_i gs hw
         simp only [Option.some.injEq,Prod.mk.injEq] at h
         obtain ⟨rfl,rfl⟩:=h
         have F:=hn _ (.head _)
         rw [dL hH,aH,aC,decide_eq_true_eq] at F
         have ho:=oB (ρ:=ρ) hpos hsp
         have hj:0≤j.i ρ+((c-st) / fs.length:Nat):=(nY hpos hc K ho).1
         have he:(off.i ρ-st).toNat=(j.i ρ+((c-st) / fs.length:Nat)).toNat*fs.length+(c-st)%fs.length:=(nY hpos hc K ho).2
         rw [hm0,Nat.add_zero] at he
         have hlt:(j.i ρ+((c-st) / fs.length:Nat)).toNat<(n.i ρ).toNat:=by omega
         obtain ⟨w1,w2,w3⟩:=aUr (ρ:=ρ) (ι:=ι) hw
         have hidx:((mkAdd j (.lit ((c-st) / fs.length+o:Nat))).i ρ).toNat=o+(j.i ρ+((c-st) / fs.length:Nat)).toNat:=by rw [aH,aC];omega
         obtain ⟨q,a2⟩:∃ q,(j.i ρ+((c-st) / fs.length:Nat)).toNat=q:=⟨_,rfl⟩
         rw [a2] at he hlt hidx
         clear a2 ho F hj
         have hfit:q*fs.length+fs.length≤((Seg.rows n fs o).cells ρ ι).length:=by
          rw [eF]
          have:(q+1)*fs.length≤(n.i ρ).toNat*fs.length:=Nat.mul_le_mul_right _ (by omega)
          rw [Nat.add_mul] at this;omega
         rw [he,w2]
         refine ⟨by rw [aD,List.length_append];omega,?_⟩
         rw [aD,aD,List.take_append_of_le_length (by omega),List.drop_append_of_le_length (by omega),← List.append_assoc]
         congr 1
         apply List.ext_getElem?
         intro a
         have hgl:0<gs.length:=by omega
         rw [iJ _ _ _ _ hgl,w1,List.append_assoc,List.getElem?_append,List.length_take,List.getElem?_take,List.getElem?_append,List.getElem?_drop,iJ _ _ _ _ hpos,iJ _ _ _ _ hpos]
         have hcl:(gK ρ ι xs).length=fs.length:=by simp [gK,w2]
         rw [hcl,Nat.min_eq_left (by omega)]
         have ham:=Nat.mod_lt a hpos
         have hae:=Nat.div_add_mod' a fs.length
         by_cases hin:q*fs.length≤a∧a<q*fs.length+fs.length
         ·have hq:a / fs.length=q:=by
           have:a=fs.length*q+(a-q*fs.length):=by rw [Nat.mul_comm];omega
           rw [this,Nat.mul_add_div hpos,Nat.div_eq_of_lt (by omega)];rfl
          have hr:a%fs.length=a-q*fs.length:=by rw [hq] at hae;omega
          rw [hq,hr,if_pos hlt,if_neg (by omega),if_pos (by omega)]
          have hgx:a-q*fs.length<gs.length:=by omega
          obtain ⟨d,x,e1,e2,e3⟩:=w3 _ _ (List.getElem?_eq_getElem hgx)
          rw [List.getElem?_eq_getElem hgx,Option.map_some,e3,hidx,if_pos rfl,gK,List.getElem?_map,e2];rfl
         ·have hq:a / fs.length ≠ q:=by
           intro hh
           rw [hh] at hae;omega
          have same:(if a / fs.length<(n.i ρ).toNat then Option.map (fun f=>XF.aB ρ f (o+a / fs.length)) gs[a%fs.length]? else none)=(if a / fs.length<(n.i ρ).toNat then Option.map (fun f=>XF.aB ρ f (o+a / fs.length)) fs[a%fs.length]? else none):=by
           congr 1
           have hgx:a%fs.length<gs.length:=by omega
           obtain ⟨d,x,e1,e2,e3⟩:=w3 _ _ (List.getElem?_eq_getElem hgx)
           rw [List.getElem?_eq_getElem hgx,e1,Option.map_some,Option.map_some,e3,hidx,if_neg (fun hh=>hq (Nat.add_left_cancel hh))]
          rw [same]
          by_cases hlo:a<q*fs.length
          ·rw [if_pos hlo,if_pos hlo]
          ·rw [if_neg hlo,if_neg (show ¬ a-q*fs.length<fs.length by omega),show q*fs.length+fs.length+(a-q*fs.length-fs.length)=a by omega]
        ·cases h
       ·cases h
      ·cases h
     cases n with
     | lit z =>
       simp only [kK] at h
       split at h
       ·rename_i hc
        have hl:=aF hH hc.2
        have hz:(z.toNat*fs.length:Int)=z*fs.length:=by rw [Int.toNat_of_nonneg hc.1]
        simp only [Option.map_eq_some_iff,Prod.mk.injEq] at h
        obtain ⟨p,hp,e1,e2⟩:=h
        exact skip (z.toNat*fs.length) (st+z.toNat*fs.length) p (by rw [eF,aC]) rfl (by push_cast;omega) hp e1.symm e2.symm
       ·exact wr h
     | _=>exact wr h
theorem aG.write (hm:aG ρ β ι m w) {b:Nat} {B:Blk} (hB:m[b]? = some B) (hd:B.dead=false) (hwr:B.wr=true) (o:Nat) (vs:List Value) (aE:List Seg) (hvs:∀ u ∈ vs,u.oneCell'=true)
 (hpos:0<vs.length) (hle:o+vs.length≤(cellsOf ρ ι B.aE).length) (hcs:cellsOf ρ ι aE=(cellsOf ρ ι B.aE).take o++vs++(cellsOf ρ ι B.aE).drop (o+vs.length)) :
 ∃ w',(storeCells ⟨ι b,o,none⟩ vs).run P w=.ok () w'∧aG ρ β ι (m.set b { B with aE:=aE }) w':=by
 have hn:ι.nil b=false:=by
  cases h:ι.nil b with
  | false=>rfl
  | true=>rw [(hm.nils b B hB hd h).2] at hle;simp only [List.length_nil] at hle;omega
 obtain ⟨fz,rest,F,J,M,T⟩:=hm.blk b B hB hd hn
 have hfz:=J hwr
 have hst:=fU P (ι b) o B.ty fz hfz vs 0 _ _ F hvs (by rw [List.length_append];omega)
 have hnew:(cellsOf ρ ι B.aE++rest).take (o+0)++vs++(cellsOf ρ ι B.aE++rest).drop (o+0+vs.length)=cellsOf ρ ι aE++rest:=by
  rw [Nat.add_zero,List.take_append_of_le_length (by omega),List.drop_append_of_le_length (by omega),hcs];simp
 rw [hnew] at hst
 refine ⟨_,hst,hm.cB hB hd hn aE rest hfz (fun sz hs=>?_) T⟩
 have hlen:(cellsOf ρ ι aE).length=(cellsOf ρ ι B.aE).length:=by
  rw [hcs];simp;omega
 have:=M sz hs
 simp only [List.length_append] at this ⊢
 rw [hlen];exact this
theorem dZ:∀ {l:List Seg} {xs:List S},fV l=some xs→cellsOf ρ ι l=xs.map (S.aB ρ ι)
 | [],xs,h=>by simp only [fV,Option.some.injEq] at h;subst h;rfl
 | .one x::r,xs,h=>by
   simp only [fV,Option.map_eq_some_iff] at h
   obtain ⟨l,F,rfl⟩:=h
   rw [aD,aT,dZ F];rfl
 | .run k n A o::r,xs,h=>by
   cases n with
   | lit z =>
     simp only [fV] at h
     split at h
     ·simp only [Option.map_eq_some_iff] at h
      obtain ⟨l,F,rfl⟩:=h
      rw [aD,dZ F,List.map_append,List.map_map]
      congr 1
      simp only [Seg.cells,aC]
      refine List.map_congr_left fun j _=>?_
      simp only [Function.comp_def,S.aB,fS aJa,aC,Int.toNat_natCast]
     ·cases h
   | _=>simp [fV] at h
 | .rows n fs o::r,xs,h=>by simp [fV] at h
theorem fO:∀ l:List S,cellsOf ρ ι (qN l)=l.map (S.aB ρ ι)
 | []=>rfl
 | x::l=>by
   have:=fO l
   unfold qN at this ⊢
   rw [List.map_cons,aD,aT,this];rfl
theorem aID {k:Nat} {l:List S} (h:l.all (S.sc k)=true):(qN l).all (Seg.sc k)=true:=by
 simp only [qN,List.all_map];exact h
theorem aHd {l:List S} (h:l.all S.plain=true):∀ u ∈ l.map (S.aB ρ ι),u.oneCell'=true:=fun u hu=>by
 obtain ⟨x,hx,rfl⟩:=List.mem_map.1 hu
 exact aHe (List.all_eq_true.1 h x hx)
theorem aG.aWD (hm:aG ρ β ι m w) {b:Nat} {B:Blk} (hB:m[b]? = some B) (hd:B.dead=false) (hn:ι.nil b=false) {l:List S} (hl:fV B.aE=some l) (o j:Nat) (v:Value) (h:((l.map (S.aB ρ ι)).drop o)[j]? = some v) :
 w.cell? ((⟨ι b,o,none⟩:Addr).add j)=some v:=by
 obtain ⟨fz,rest,F,_⟩:=hm.blk b B hB hd hn
 rw [dZ hl] at F
 rw [List.getElem?_drop] at h
 have hlt:=(List.getElem?_eq_some_iff.1 h).1
 have e:w.cell? ((⟨ι b,o,none⟩:Addr).add j)=((l.map (S.aB ρ ι))++rest)[o+j]? := by rw [Addr.add_lit];simp [World.cell?,F]
 rw [e,List.getElem?_append_left hlt,h]
theorem aTS (hm:aG ρ β ι m w) {sz:Nat} (hsz:0<sz) {x:SV} {xs:List S} (h:rowOf m sz x=some xs) :
 (xs=[]∧∃ base c,x.aB ρ ι=.slice base 0 c)∨(xs ≠ []∧∃ a n c,x.aB ρ ι=.slice (some a) n c∧0<n∧xs.length=n*sz∧∀ j v,(xs.map (S.aB ρ ι))[j]? = some v→w.cell? (a.add j)=some v):=by
 unfold rowOf at h
 split at h
 ·simp only [Option.some.injEq] at h;subst h
  exact .inl ⟨rfl,_,_,rfl⟩
 ·rename_i b o n c
  split at h
  ·rename_i B hB
   split at h
   ·rename_i l hl
    split at h
    ·rename_i hc
     obtain ⟨hd,ho,hn0,hle⟩:=hc
     simp only [Option.some.injEq] at h;subst h
     by_cases hz:n.toNat=0
     ·left
      refine ⟨by rw [hz];simp,?_⟩
      cases c with
      | kn e=>exact ⟨some (addr ρ ι b (.lit o)),(e.i ρ).toNat,by simp only [SV.aB,S.aB,aC,hz]⟩
      | op e =>
        simp only [SV.aB,S.aB,aC,hz]
        split
        ·exact ⟨_,_,rfl⟩
        ·exact ⟨_,_,rfl⟩
      | tl o' k z=>exact ⟨some (if ι.cap b=(k.i ρ).toNat∧True then addr ρ ι b o' else addr ρ ι b (.lit o)),if z=true then 0 else ι.cap b-(k.i ρ).toNat,by simp only [SV.aB,S.aB,aC,hz]⟩
     ·right
      have hpos:0<n.toNat*sz:=Nat.mul_pos (by omega) hsz
      have hnil:ι.nil b=false:=by
       cases hh:ι.nil b with
       | false=>rfl
       | true =>
         have:=(hm.nils b B hB hd hh).2
         rw [dZ hl] at this
         have:=congrArg List.length this
         simp at this
         subst this;simp at hle;omega
      have hlen:((l.drop o.toNat).take (n.toNat*sz)).length=n.toNat*sz:=by simp;omega
      refine ⟨fun hx=>by rw [hx] at hlen;simp at hlen;omega,addr ρ ι b (.lit o),n.toNat,?_⟩
      have hcell:∀ j v,(((l.drop o.toNat).take (n.toNat*sz)).map (S.aB ρ ι))[j]? = some v→w.cell? ((addr ρ ι b (.lit o)).add j)=some v:=by
       intro j v hj
       refine hm.aWD hB hd hnil hl o.toNat j v ?_
       rw [List.map_take,List.getElem?_take] at hj
       split at hj
       ·rw [← List.map_drop];exact hj
       ·cases hj
      cases c with
      | kn e=>exact ⟨(e.i ρ).toNat,by simp only [SV.aB,S.aB,aC],by omega,hlen,hcell⟩
      | op e=>exact ⟨ι.cap b-(e.i ρ).toNat,by simp only [SV.aB,S.aB,aC,hnil,Bool.false_eq_true,false_and,if_false],by omega,hlen,hcell⟩
      | tl o k z=>exact ⟨if z then 0 else ι.cap b-(k.i ρ).toNat,by simp only [SV.aB,S.aB,aC,hz,and_false,if_false],by omega,hlen,hcell⟩
    ·cases h
   ·cases h
  ·cases h
 ·cases h
theorem aG.alias (hm:aG ρ β ι m w) {b:Nat} {B:Blk} (hB:m[b]? = some B) (hd:B.dead=false) (hs:m.all (fun B=>B.aE.all (Seg.sc m.length))=true) :
 aG ρ β (cI ι m.length (ι b) (ι.cap b) (ι.nil b)) ((m.set b { B with dead:=true })++[B]) w:=by
 have hb:b<m.length:=(List.getElem?_eq_some_iff.1 hB).1
 have hag:=cG ι m.length (ι b) (ι.cap b) (ι.nil b)
 have heq:(cI ι m.length (ι b) (ι.cap b) (ι.nil b)).pos m.length=ι b∧(cI ι m.length (ι b) (ι.cap b) (ι.nil b)).cap m.length=ι.cap b∧(cI ι m.length (ι b) (ι.cap b) (ι.nil b)).nil m.length=ι.nil b:=by simp [cI]
 have at_:∀ {i:Nat} {C:Blk},((m.set b { B with dead:=true })++[B])[i]? = some C→C.dead=false→(i<m.length∧i ≠ b∧m[i]? = some C)∨(i=m.length∧C=B):=by
  intro i C h hCd
  by_cases hi:i<m.length
  ·rw [List.getElem?_append_left (by simpa using hi),List.getElem?_set] at h
   split at h
   ·rename_i hbi;subst hbi
    simp only [hb,if_true,Option.some.injEq] at h
    subst h;cases hCd
   ·rename_i hbi;exact .inl ⟨hi,fun e=>hbi e.symm,h⟩
  ·rw [List.getElem?_append_right (by simp;omega)] at h
   have K:=(List.getElem?_eq_some_iff.1 h).1
   simp at K
   have:i=m.length:=by omega
   subst this
   simp at h
   exact .inr ⟨rfl,h.symm⟩
 have scB:∀ {i:Nat} {C:Blk},m[i]? = some C→cellsOf ρ (cI ι m.length (ι b) (ι.cap b) (ι.nil b)) C.aE=cellsOf ρ ι C.aE:=fun hC =>
  (bF hag (List.all_eq_true.1 hs _ (List.mem_of_getElem? hC))).symm
 refine ⟨fun i j C D hC hD hCd hDd hCn hDn he=>?_,fun i C hC hCd hCn=>?_,fun i C hC hCd hCn=>?_,(hag.mono hm.len).symm.trans hm.agr,by have:=hm.len;simp;omega,fun i hi hi'=>?_,hm.size,fun x hx hi=>?_,hm.os,hm.tape,hm.output,hm.xt,fun i j a n' c' hv K k hk=>?_⟩
 ·rcases at_ hC hCd with ⟨hi,hib,O⟩ | ⟨rfl,rfl⟩ <;> rcases at_ hD hDd with ⟨hj,hjb,V⟩ | ⟨rfl,rfl⟩
  ·rw [← (hag i hi).1,← (hag j hj).1] at he
   rw [← (hag i hi).2.2] at hCn
   rw [← (hag j hj).2.2] at hDn
   exact hm.inj i j C D O V hCd hDd hCn hDn he
  ·rw [← (hag i hi).2.2] at hCn
   rw [heq.2.2] at hDn
   rw [← (hag i hi).1,heq.1] at he
   exact absurd (hm.inj i b C _ O hB hCd hd hCn hDn he) hib
  ·rw [← (hag j hj).2.2] at hDn
   rw [heq.2.2] at hCn
   rw [← (hag j hj).1,heq.1] at he
   exact absurd (hm.inj b j _ D hB V hd hDd hCn hDn he).symm hjb
  ·rfl
 ·rcases at_ hC hCd with ⟨hi,hib,O⟩ | ⟨rfl,rfl⟩
  ·rw [← (hag i hi).2.2] at hCn
   obtain ⟨fz,rest,F,J⟩:=hm.blk i C O hCd hCn
   rw [← (hag i hi).1,← (hag i hi).2.1,scB O]
   exact ⟨fz,rest,F,J⟩
  ·rw [heq.2.2] at hCn
   obtain ⟨fz,rest,F,J⟩:=hm.blk b _ hB hd hCn
   rw [heq.1,heq.2.1,scB hB]
   exact ⟨fz,rest,F,J⟩
 ·rcases at_ hC hCd with ⟨hi,hib,O⟩ | ⟨rfl,rfl⟩
  ·rw [← (hag i hi).2.2] at hCn
   rw [scB O];exact hm.nils i C O hCd hCn
  ·rw [heq.2.2] at hCn
   rw [scB hB];exact hm.nils b _ hB hd hCn
 ·by_cases hc:i<m.length
  ·rw [← (hag i hc).1]
   rcases hm.new i hi hc with hn | ⟨j,hj,hn⟩
   ·exact .inl hn
   ·exact .inr ⟨j,hj,by rw [hn];exact (hag j (Nat.lt_of_lt_of_le hj hm.len)).1⟩
  ·have:i=m.length:=by simp at hi';omega
   subst this
   rw [heq.1]
   by_cases hbk:b<β.k
   ·exact .inr ⟨b,hbk,(hag b hb).1⟩
   ·rcases hm.new b (Nat.not_lt.1 hbk) hb with hn | ⟨j,hj,hn⟩
    ·exact .inl hn
    ·exact .inr ⟨j,hj,hn.trans (hag j (Nat.lt_of_lt_of_le hj hm.len)).1⟩
 ·refine hm.old x hx fun i hi'=>?_
  have:=hi i (by simp;omega)
  rwa [← (hag i hi').1] at this
 ·by_cases hc:k<m.length
  ·rw [← (hag k hc).1];exact hm.xd i j a n' c' hv K k hc
  ·have:k=m.length:=by simp at hk;omega
   subst this
   rw [heq.1];exact hm.xd i j a n' c' hv K b hb
theorem aG.bMX (hm:aG ρ β ι m w) {b:Nat} {B:Blk} (hB:m[b]? = some B) (hd:B.dead=false) (hnil:ι.nil b=false) (hgn:B.grow=none) (sz c:Nat) (hlen:(cellsOf ρ ι B.aE).length=c*sz∧c≤maxLen) (hs:m.all (fun B=>B.aE.all (Seg.sc m.length))=true) :
 aG ρ β (cI ι m.length (ι b) c false) ((m.set b { B with dead:=true })++[{ B with grow:=some sz }]) w:=by
 have hb:b<m.length:=(List.getElem?_eq_some_iff.1 hB).1
 have hag:=cG ι m.length (ι b) c false
 have heq:(cI ι m.length (ι b) c false).pos m.length=ι b∧(cI ι m.length (ι b) c false).cap m.length=c∧(cI ι m.length (ι b) c false).nil m.length=false:=by simp [cI]
 have at_:∀ {i:Nat} {C:Blk},((m.set b { B with dead:=true })++[{ B with grow:=some sz }])[i]? = some C→C.dead=false→(i<m.length∧i ≠ b∧m[i]? = some C)∨(i=m.length∧C={ B with grow:=some sz }):=by
  intro i C h hCd
  by_cases hi:i<m.length
  ·rw [List.getElem?_append_left (by simpa using hi),List.getElem?_set] at h
   split at h
   ·rename_i hbi;subst hbi
    simp only [hb,if_true,Option.some.injEq] at h
    subst h;cases hCd
   ·rename_i hbi;exact .inl ⟨hi,fun e=>hbi e.symm,h⟩
  ·rw [List.getElem?_append_right (by simp;omega)] at h
   have K:=(List.getElem?_eq_some_iff.1 h).1
   simp at K
   have:i=m.length:=by omega
   subst this
   simp at h
   exact .inr ⟨rfl,h.symm⟩
 have scB:∀ {i:Nat} {C:Blk},m[i]? = some C→cellsOf ρ (cI ι m.length (ι b) c false) C.aE=cellsOf ρ ι C.aE:=fun hC =>
  (bF hag (List.all_eq_true.1 hs _ (List.mem_of_getElem? hC))).symm
 refine ⟨fun i j C D hC hD hCd hDd hCn hDn he=>?_,fun i C hC hCd hCn=>?_,fun i C hC hCd hCn=>?_,(hag.mono hm.len).symm.trans hm.agr,by have:=hm.len;simp;omega,fun i hi hi'=>?_,hm.size,fun x hx hi=>?_,hm.os,hm.tape,hm.output,hm.xt,fun i j a n' c' hv K k hk=>?_⟩
 ·rcases at_ hC hCd with ⟨hi,hib,O⟩ | ⟨rfl,rfl⟩ <;> rcases at_ hD hDd with ⟨hj,hjb,V⟩ | ⟨rfl,rfl⟩
  ·rw [← (hag i hi).1,← (hag j hj).1] at he
   rw [← (hag i hi).2.2] at hCn
   rw [← (hag j hj).2.2] at hDn
   exact hm.inj i j C D O V hCd hDd hCn hDn he
  ·rw [← (hag i hi).2.2] at hCn
   rw [← (hag i hi).1,heq.1] at he
   exact absurd (hm.inj i b C _ O hB hCd hd hCn hnil he) hib
  ·rw [← (hag j hj).2.2] at hDn
   rw [← (hag j hj).1,heq.1] at he
   exact absurd (hm.inj b j _ D hB V hd hDd hnil hDn he).symm hjb
  ·rfl
 ·rcases at_ hC hCd with ⟨hi,hib,O⟩ | ⟨rfl,rfl⟩
  ·rw [← (hag i hi).2.2] at hCn
   obtain ⟨fz,rest,F,J⟩:=hm.blk i C O hCd hCn
   rw [← (hag i hi).1,← (hag i hi).2.1,scB O]
   exact ⟨fz,rest,F,J⟩
  ·obtain ⟨fz,rest,F,J,M,T⟩:=hm.blk b _ hB hd hnil
   have hr:=T hgn
   subst hr
   rw [heq.1,heq.2.1]
   simp only
   rw [scB hB]
   exact ⟨fz,[],F,J,fun sz' hs'=>by
    simp only [Option.some.injEq] at hs';subst hs'
    rw [List.append_nil];exact hlen,fun h=>by cases h⟩
 ·rcases at_ hC hCd with ⟨hi,hib,O⟩ | ⟨rfl,rfl⟩
  ·rw [← (hag i hi).2.2] at hCn
   rw [scB O];exact hm.nils i C O hCd hCn
  ·rw [heq.2.2] at hCn;cases hCn
 ·by_cases hc:i<m.length
  ·rw [← (hag i hc).1]
   rcases hm.new i hi hc with hn | ⟨j,hj,hn⟩
   ·exact .inl hn
   ·exact .inr ⟨j,hj,by rw [hn];exact (hag j (Nat.lt_of_lt_of_le hj hm.len)).1⟩
  ·have:i=m.length:=by simp at hi';omega
   subst this
   rw [heq.1]
   by_cases hbk:b<β.k
   ·exact .inr ⟨b,hbk,(hag b hb).1⟩
   ·rcases hm.new b (Nat.not_lt.1 hbk) hb with hn | ⟨j,hj,hn⟩
    ·exact .inl hn
    ·exact .inr ⟨j,hj,hn.trans (hag j (Nat.lt_of_lt_of_le hj hm.len)).1⟩
 ·refine hm.old x hx fun i hi'=>?_
  have:=hi i (by simp;omega)
  rwa [← (hag i hi').1] at this
 ·by_cases hc:k<m.length
  ·rw [← (hag k hc).1];exact hm.xd i j a n' c' hv K k hc
  ·have:k=m.length:=by simp at hk;omega
   subst this
   rw [heq.1];exact hm.xd i j a n' c' hv K b hb
theorem aG.forget (hm:aG ρ β ι m w) {b:Nat} {D:Blk} (hD:D.dead=true):aG ρ β ι (m.set b D) w:=by
 have at_:∀ {i:Nat} {C:Blk},(m.set b D)[i]? = some C→C.dead=false→m[i]? = some C:=by
  intro i C h hCd
  rw [List.getElem?_set] at h
  split at h
  ·split at h
   ·simp only [Option.some.injEq] at h;subst h;rw [hD] at hCd;cases hCd
   ·cases h
  ·exact h
 exact ⟨fun i j C D hC hD hCd hDd=>hm.inj i j C D (at_ hC hCd) (at_ hD hDd) hCd hDd,fun i C hC hCd=>hm.blk i C (at_ hC hCd) hCd,fun i C hC hCd=>hm.nils i C (at_ hC hCd) hCd,hm.agr,by simpa using hm.len,fun i F J=>hm.new i F (by simpa using J),hm.size,
  fun x hx hi=>hm.old x hx fun i hi'=>hi i (by simpa using hi'),hm.os,hm.tape,hm.output,hm.xt,fun i j a n' c' hv K k hk=>hm.xd i j a n' c' hv K k (by simpa using hk)⟩
theorem bCN (hH:H.ok ρ) (hm:aG ρ β ι m w) {t:TypeId} {p x:SV} {nd:List E} {v:SV} {m':Mem} (h:aWk P H m t p x=some (nd,v,m')) (hn:bC ρ nd) :
 ∃ w',(Instr.storeAt t (p.aB ρ ι) (x.aB ρ ι)).run P w=.ok () w'∧aG ρ β ι m' w'∧v=.undef:=by
 unfold aWk at h
 split at h
 ·rename_i b off
  split at h
  ·rename_i B l hB hl
   have hx:=aAb (ρ:=ρ) (ι:=ι) hl
   split at h
   ·rename_i hwr
    obtain ⟨hwr,hd⟩:=hwr
    split at h
    ·rename_i n l0 o hs ho
     split at h
     ·rename_i hlen
      split at h
      ·rename_i Y l2 ht hdr
       simp only [Option.some.injEq,Prod.mk.injEq] at h
       obtain ⟨rfl,rfl,rfl⟩:=h
       have e1:=dX (ρ:=ρ) (ι:=ι) _ _ _ ht
       have e2:=dI (ρ:=ρ) (ι:=ι) _ _ _ hdr
       have e3:=eG (ρ:=ρ) (ι:=ι) hlen.1
       have hcs:cellsOf ρ ι (Y++l++l2)=(cellsOf ρ ι B.aE).take o++cellsOf ρ ι l++(cellsOf ρ ι B.aE).drop (o+(cellsOf ρ ι l).length):=by
        rw [cA,cA,e1.1,e2.1,e3]
       obtain ⟨w',hst,hm'⟩:=hm.write (P:=P) hB hd hwr o (cellsOf ρ ι l) (Y++l++l2) hx.2 (by omega) (by omega) hcs
       refine ⟨w',?_,hm',rfl⟩
       rw [zG ho]
       have hsv:=qU (w:=w) (p:=addr ρ ι b (.lit o)) hs hx.1 e3
       show (Instr.storeAt t (.pointer (some (addr ρ ι b (.lit o)))) (SV.aB ρ ι (.agg l0))).run P w=_
       rw [show (Instr.storeAt t (.pointer (some (addr ρ ι b (.lit o)))) (SV.aB ρ ι (.agg l0)))=storeVar t (addr ρ ι b (.lit o)) (SV.aB ρ ι (.agg l0)) from rfl,hsv]
       exact hst
      ·cases h
     ·cases h
    ·rename_i n l0 hs ho
     split at h
     ·rename_i xs hxs
      split at h
      ·rename_i hxn
       simp only [Option.map_eq_some_iff,Prod.mk.injEq] at h
       obtain ⟨r,hr,rfl,rfl,rfl⟩:=h
       have K:=hn _ (.head _)
       rw [bJ hH,aC,decide_eq_true_eq] at K
       have U:=aGZ (ρ:=ρ) (ι:=ι) hxs
       have hlen:(cellsOf ρ ι l).length=n:=by rw [U];simp [gK,hxn]
       by_cases hpos:0<xs.length
       ·have M:=bHC (ι:=ι) hH off xs hpos B.aE 0 r.1 r.2 hr (by omega) (fun e he=>hn e (.tail _ he))
        have hoo:(off.i ρ-((0:Nat):Int)).toNat=(off.i ρ).toNat:=by congr 1;omega
        rw [hoo,← U,show xs.length=(cellsOf ρ ι l).length by rw [U];simp [gK]] at M
        obtain ⟨w',hst,hm'⟩:=hm.write (P:=P) hB hd hwr (off.i ρ).toNat (cellsOf ρ ι l) r.2 hx.2 (by omega) M.1 M.2
        refine ⟨w',?_,hm',rfl⟩
        have hsv:=qU (w:=w) (p:=addr ρ ι b off) hs hx.1 hlen
        show (Instr.storeAt t (.pointer (some (addr ρ ι b off))) (SV.aB ρ ι (.agg l0))).run P w=_
        rw [show (Instr.storeAt t (.pointer (some (addr ρ ι b off))) (SV.aB ρ ι (.agg l0)))=storeVar t (addr ρ ι b off) (SV.aB ρ ι (.agg l0)) from rfl,hsv]
        exact hst
       ·exfalso
        have hxe:xs=[]:=List.length_eq_zero_iff.1 (by omega)
        subst hxe
        exact uG hr
      ·cases h
     ·cases h
    ·rename_i y hs
     simp only [Option.map_eq_some_iff,Prod.mk.injEq] at h
     obtain ⟨r,hr,rfl,rfl,rfl⟩:=h
     have K:=hn _ (.head _)
     rw [bJ hH,aC,decide_eq_true_eq] at K
     have M:=bHD (ι:=ι) hH off y B.aE 0 r.1 r.2 hr (by omega) (fun e he=>hn e (.tail _ he))
     have ho:(off.i ρ-((0:Nat):Int)).toNat=(off.i ρ).toNat:=by congr 1;omega
     rw [ho] at M
     have W:cellsOf ρ ι l=[y.aB ρ ι]:=by
      unfold aAa at hl
      simp only at hl
      split at hl
      ·simp only [Option.some.injEq] at hl;subst hl;simp [cellsOf,Seg.cells]
      ·cases hl
     have hcs:cellsOf ρ ι r.2=(cellsOf ρ ι B.aE).take (off.i ρ).toNat++[y.aB ρ ι]++(cellsOf ρ ι B.aE).drop ((off.i ρ).toNat+[y.aB ρ ι].length):=by
      rw [M.2]
      apply List.ext_getElem?
      intro j
      simp only [List.getElem?_append,List.length_append,List.length_take,List.getElem?_take,List.getElem?_set,List.getElem?_drop,List.length_singleton]
      by_cases c1:j<(off.i ρ).toNat
      ·rw [if_neg (by omega),if_pos (by omega),if_pos (by omega),if_pos c1]
      ·by_cases c2:j=(off.i ρ).toNat
       ·subst c2;rw [if_pos rfl,if_pos M.1,if_pos (by omega),if_neg (by omega),show (off.i ρ).toNat-min (off.i ρ).toNat (cellsOf ρ ι B.aE).length=0 by omega];rfl
       ·rw [if_neg (by omega),if_neg (by omega)];congr 1;omega
     obtain ⟨w',hst,hm'⟩:=hm.write (P:=P) hB hd hwr (off.i ρ).toNat [y.aB ρ ι] r.2 (by rw [← W];exact hx.2) (by simp) (by simp;omega) hcs
     refine ⟨w',?_,hm',rfl⟩
     have hsv:=qU (w:=w) (p:=addr ρ ι b off) (vs:=[y.aB ρ ι]) hs (by rw [← W];exact hx.1) rfl
     show (Instr.storeAt t (.pointer (some (addr ρ ι b off))) (SV.aB ρ ι (.s y))).run P w=_
     rw [show (Instr.storeAt t (.pointer (some (addr ρ ι b off))) (SV.aB ρ ι (.s y)))=storeVar t (addr ρ ι b off) (SV.aB ρ ι (.s y)) from rfl,hsv]
     exact hst
    ·cases h
   ·cases h
  ·cases h
 ·cases h
theorem jF {e:TypeId} {sz by_:Nat} (h:sZ P e=some (sz,by_)):∃ i z,P.info? e=some i∧i.zero=some z∧i.size=sz∧i.bytes=by_∧z.cells.size=sz∧0<sz:=by
 unfold sZ at h
 split at h
 ·rename_i i hi
  split at h
  ·rename_i z hz
   split at h
   ·rename_i hc
    simp only [Option.some.injEq,Prod.mk.injEq] at h
    obtain ⟨rfl,rfl⟩:=h
    exact ⟨i,z,hi,hz,rfl,rfl,hc.1,hc.2⟩
   ·cases h
  ·cases h
 ·cases h
theorem cK {t ty e:TypeId} {i:TypeInfo} (ht:P.underlying t=some (.slice e)) (hi:P.info? e=some i) (base:Option Addr) (n c:Nat) (hnc:n≤c) (b':Option Addr) (c':Nat) (w:World) :
 (Builtin.append_ #[t,t] ty #[.slice base n c,.slice b' 0 c']).run P w=.ok (.slice base n c) w:=by
 have hf:(Builtin.firstCells i.size 0 (.slice b' 0 c')).run P w=.ok #[] w:=by
  cases b' with
  | none=>exact run_firstCells_none ..
  | some a=>exact run_firstCells_some w i.size 0 a 0 c' [] (by simp) (fun j v h=>by simp at h)
 cases base <;> simp [Builtin.append_,run_underlying ht,sizeOf,typeInfo,hi,Builtin.lenOf,hnc,hf,storeCells]
theorem oH {t ty e:TypeId} {i:TypeInfo} (ht:P.underlying t=some (.slice e)) (hi:P.info? e=some i) (g:Addr) (sLen sCap:Nat) (a:Addr) (k c:Nat) (news:List Value) (hl:news.length=k*i.size) (hnews:∀ j u,news[j]? = some u→w.cell? (a.add j)=some u)
 (hroom:sLen+k≤sCap) {w':World} (hst:(storeCells (g.add (sLen*i.size)) news).run P w=.ok () w') :
 (Builtin.append_ #[t,t] ty #[.slice (some g) sLen sCap,.slice (some a) k c]).run P w=.ok (.slice (some g) (sLen+k) sCap) w':=by
 have hf:=run_firstCells_some (P:=P) w i.size k a k c news hl hnews
 simp [Builtin.append_,run_underlying ht,sizeOf,typeInfo,hi,Builtin.lenOf,hroom,hf,hst]
theorem aDZ (hm:aG ρ β ι m w) {b:Nat} {B:Blk} (hB:m[b]? = some B) (hd:B.dead=false) (hn:ι.nil b=false) {l:List S} (hl:fV B.aE=some l) {sz:Nat} (hsz:0<sz) (o N:Int) (K:0≤N) (cap:Cap) :
 ∃ C,∀ q,roomFor B l sz N.toNat q cap=true→(∀ n1,(S.slc b (.lit o) (.lit n1) cap).aB ρ ι=.slice (some ⟨ι b,o.toNat,none⟩) n1.toNat C)∧N.toNat+q≤C:=by
 cases cap with
 | tl o k z=>exact ⟨0,fun q h=>by simp [roomFor] at h⟩
 | kn e =>
   refine ⟨(e.i ρ).toNat,fun q h=>⟨fun n1=>by simp only [S.aB,addr,aC],?_⟩⟩
   cases e with
   | lit c=>simp only [roomFor,decide_eq_true_eq] at h;rw [aC];omega
   | _=>simp [roomFor] at h
 | op e =>
   refine ⟨ι.cap b-(e.i ρ).toNat,fun q h=>⟨fun n1=>by simp only [S.aB,addr,aC,hn,Bool.false_eq_true,false_and,if_false],?_⟩⟩
   cases e with
   | lit k =>
     simp only [roomFor,decide_eq_true_eq] at h
     obtain ⟨hk,hg,hle⟩:=h
     obtain ⟨fz,rest,F,J,M,T⟩:=hm.blk b B hB hd hn
     have Z:=(M sz hg).1
     rw [dZ hl,List.length_append,List.length_map] at Z
     have h6:(k.toNat+N.toNat+q)*sz≤ι.cap b*sz:=by omega
     have h7:=Nat.le_of_mul_le_mul_right h6 hsz
     rw [aC];omega
   | _=>simp [roomFor] at h
theorem aUw (hm:aG ρ β ι m w) (hf:aP ρ ι n fr a) {t ty:TypeId} {s x:SV} {nd:List E} {v:SV} {m':Mem} (h:aHC P fr m t s x=some (nd,v,m')) :
 ∃ r w',(Builtin.append_ #[t,t] ty #[s.aB ρ ι,x.aB ρ ι]).run P w=.ok r w'∧dP ρ β ι n fr m m' a v r w':=by
 unfold aHC at h
 split at h
 ·cases h
 ·rename_i e ht
  have ht:=aS ht
  split at h
  ·cases h
  ·rename_i sz by_ hzi
   obtain ⟨i,z,hi,hz,rfl,rfl,hzs,hsz⟩:=jF hzi
   split at h
   ·cases h
   ·rename_i xs hx
    split at h
    ·rename_i hc
     simp only [Bool.and_eq_true,decide_eq_true_eq] at hc
     obtain ⟨⟨⟨hpl,hsc⟩,hfm⟩,hbd,hby⟩:=hc
     simp only [jJ,Bool.and_eq_true] at hfm
     have hrow:=aTS hm hsz hx
     split at h
     ·-- nothing so far
      split at h
      ·rename_i hxs
       simp only [Option.some.injEq,Prod.mk.injEq] at h
       obtain ⟨rfl,rfl,rfl⟩:=h
       rcases hrow with ⟨_,base,c,hxc⟩ | ⟨hne,_⟩
       ·refine ⟨_,w,by rw [hxc];exact cK ht hi none 0 0 (Nat.le_refl _) base c w,ι,rfl,hf,hm⟩
       ·exact absurd hxs hne
      ·rename_i hxs
       simp only [Option.some.injEq,Prod.mk.injEq] at h
       obtain ⟨rfl,rfl,rfl⟩:=h
       rcases hrow with ⟨hxs',_⟩ | ⟨_,ad,k,c,hxc,hk,hlen,hcell⟩
       ·exact absurd hxs' hxs
       ·have hq:xs.length / i.size=k:=by rw [hlen];exact Nat.mul_div_cancel _ hsz
        have hkb:k≤65536:=Nat.le_trans (Nat.le_mul_of_pos_right k hsz) (by omega)
        have hr:=run_append_nil (P:=P) w t ty e i z ht hi hz ad k c (xs.map (S.aB ρ ι)) (by rw [List.length_map];exact hlen) hcell hk (by omega) (Nat.le_trans (Nat.mul_le_mul hkb hby) (by decide))
        rw [hxc]
        refine ⟨_,_,hr,cI ι m.length w.heap.size (grownCap w k 0 e) false,?_,hf.congr (cG _ _ _ _ _) hfm.1,?_⟩
        ·simp only [SV.aB,S.aB,addr,aC,cI,if_true,Bool.false_eq_true,false_and,if_false,hq,Int.toNat_natCast]
         simp
        ·refine hm.push ⟨e,qN xs,true,some i.size,false⟩ w.heap.size (grownCap w k 0 e) false hfm.2 (aID hsc) (fun b hb=>?_) (by simp [World.alloc]) rfl rfl rfl (Nat.le_refl _) (fun _ _=>⟨(0,0),(Builtin.zeroCells z.cells (grownCap w k 0 e-k)).toList,?_,fun _=>Nat.le_refl _,fun q hq'=>?_,fun h=>by cases h⟩) (fun _ h=>by cases h)
         ·exact heap_alloc_old w.drew _ b hb
         ·rw [fO]
          have:=heap_alloc_new w.drew (.cells ((xs.map (S.aB ρ ι)).toArray++Builtin.zeroCells z.cells (grownCap w k 0 e-k)) e)
          rw [show w.drew.heap.size=w.heap.size from rfl] at this
          rw [this]
          congr 2
          apply Array.ext';simp
         ·simp only [Option.some.injEq] at hq';subst hq'
          have hge:=grownCap_ge w k 0 e
          refine ⟨?_,grownCap_le_maxLen w k 0 e (by simp only [maxLen];omega)⟩
          have hzl:(Builtin.zeroCells z.cells (grownCap w k 0 e-k)).toList.length=(grownCap w k 0 e-k)*i.size:=by rw [Array.length_toList,size_zeroCells,hzs]
          rw [fO,List.length_append,List.length_map,hzl,hlen,← Nat.add_mul]
          congr 1;omega
     ·-- a row
      rename_i b o N cap
      split at h
      ·rename_i B hB
       split at h
       ·rename_i l hl
        split at h
        ·rename_i hcc
         obtain ⟨hd,hwr,hty,ho,hn0,hlp,hnb,hlsc⟩:=hcc
         have hnil:ι.nil b=false:=by
          cases hh:ι.nil b with
          | false=>rfl
          | true =>
            have:=(hm.nils b B hB hd hh).2
            rw [dZ hl] at this
            have:=congrArg List.length this
            simp at this;subst this;simp at hlp
         obtain ⟨C,hroom⟩:=aDZ hm hB hd hnil hl hsz o N hn0 cap
         split at h
         ·rename_i hrf
          obtain ⟨hconc,hroom⟩:=hroom _ hrf
          split at h
          ·rename_i hxs
           simp only [Option.some.injEq,Prod.mk.injEq] at h
           obtain ⟨rfl,rfl,rfl⟩:=h
           rcases hrow with ⟨_,base,c,hxc⟩ | ⟨hne,_⟩
           ·refine ⟨_,w,?_,ι,rfl,hf,hm⟩
            rw [hxc,show SV.aB ρ ι (.s (.slc b (.lit o) (.lit N) cap))=_ from hconc N]
            exact cK ht hi _ _ _ (Nat.le_trans (Nat.le_add_right _ _) hroom) base c w
           ·exact absurd hxs hne
          ·rename_i hxs
           split at h
           ·rename_i hle
            simp only [Option.some.injEq,Prod.mk.injEq] at h
            obtain ⟨rfl,rfl,rfl⟩:=h
            rcases hrow with ⟨hxs',_⟩ | ⟨_,ad,k,c,hxc,hk,hlen,hcell⟩
            ·exact absurd hxs' hxs
            ·have hq:xs.length / i.size=k:=by rw [hlen];exact Nat.mul_div_cancel _ hsz
             rw [hq] at hroom
             have hcs:cellsOf ρ ι B.aE=l.map (S.aB ρ ι):=dZ hl
             obtain ⟨w',hst,hm'⟩:=hm.write (P:=P) hB hd hwr (o.toNat+N.toNat*i.size) (xs.map (S.aB ρ ι)) (qN (l.take (o.toNat+N.toNat*i.size)++xs++l.drop (o.toNat+N.toNat*i.size+xs.length))) (aHd hpl) (by
              rw [List.length_map]
              exact List.length_pos_iff.2 hxs) (by rw [hcs,List.length_map,List.length_map];exact hle) (by
              rw [fO,hcs,List.map_append,List.map_append,List.map_take,List.map_drop,List.length_map])
             refine ⟨.slice (some ⟨ι b,o.toNat,none⟩) (N.toNat+k) C,w',?_,ι,?_,hf,hm'⟩
             ·rw [hxc,show SV.aB ρ ι (.s (.slc b (.lit o) (.lit N) cap))=_ from hconc N]
              refine oH ht hi _ _ _ ad k c (xs.map (S.aB ρ ι)) (by rw [List.length_map];exact hlen) hcell hroom ?_
              rw [Addr.add_lit];exact hst
             ·rw [show SV.aB ρ ι (.s (.slc b (.lit o) (.lit (N+(xs.length / i.size:Nat))) cap))=_ from hconc _,hq]
              congr 1;omega
           ·cases h
         ·split at h
          ·rename_i hcc2
           obtain ⟨rfl,rfl,hg,hll,hxs⟩:=hcc2
           simp only [Option.some.injEq,Prod.mk.injEq] at h
           obtain ⟨rfl,rfl,rfl⟩:=h
           rcases hrow with ⟨hxs',_⟩ | ⟨_,ad,k,c,hxc,hk,hlen,hcell⟩
           ·exact absurd hxs' hxs
           ·have hq:xs.length / i.size=k:=by rw [hlen];exact Nat.mul_div_cancel _ hsz
            have hkb:k≤65536:=Nat.le_trans (Nat.le_mul_of_pos_right k hsz) (by omega)
            have hcs:cellsOf ρ ι B.aE=l.map (S.aB ρ ι):=dZ hl
            have hs0:SV.aB ρ ι (.s (.slc b (.lit 0) (.lit N) (.op (.lit 0))))=.slice (some ⟨ι b,0,none⟩) N.toNat (ι.cap b):=by
             simp only [SV.aB,S.aB,addr,aC,hnil,Bool.false_eq_true,false_and,if_false];rfl
            obtain ⟨fz,rest,F,J,M,T⟩:=hm.blk b B hB hd hnil
            have hfz:=J hwr
            have Z:=(M i.size hg).1
            have h6:=(M i.size hg).2
            rw [hcs] at F Z
            rw [List.length_append,List.length_map,hll] at Z
            by_cases hr:N.toNat+k≤ι.cap b
            ·-- it stays where it is
             have hrl:rest.length=(ι.cap b-N.toNat)*i.size:=by rw [Nat.sub_mul];omega
             have hkr:k*i.size≤rest.length:=by rw [hrl];exact Nat.mul_le_mul_right _ (by omega)
             have hst:=fU P (ι b) (N.toNat*i.size) B.ty fz hfz (xs.map (S.aB ρ ι)) 0 _ _ F (aHd hpl) (by rw [List.length_append,List.length_map,List.length_map,hll,hlen];omega)
             have hnew:(l.map (S.aB ρ ι)++rest).take (N.toNat*i.size+0)++xs.map (S.aB ρ ι)++(l.map (S.aB ρ ι)++rest).drop (N.toNat*i.size+0+(xs.map (S.aB ρ ι)).length)=cellsOf ρ ι (qN (l++xs))++rest.drop (k*i.size):=by
              rw [fO,Nat.add_zero,List.map_append,List.length_map,hlen]
              rw [List.take_append_of_le_length (by rw [List.length_map,hll];exact Nat.le_refl _),List.take_of_length_le (by rw [List.length_map,hll];exact Nat.le_refl _)]
              rw [List.drop_append,List.length_map,hll,List.drop_of_length_le (by rw [List.length_map,hll];omega),List.nil_append]
              congr 2;omega
             rw [hnew] at hst
             have hm1:=hm.cB hB hd hnil (qN (l++xs)) (rest.drop (k*i.size)) hfz (fun sz' hs'=>by
              rw [hg,Option.some.injEq] at hs';subst hs'
              refine ⟨?_,h6⟩
              rw [fO,List.length_append,List.length_map,List.length_append,List.length_drop,hll,hlen]
              omega) (fun hgn=>by rw [hg] at hgn;cases hgn)
             have hB1:(m.set b { B with aE:=qN (l++xs) })[b]? = some { B with aE:=qN (l++xs) }:=by
              rw [List.getElem?_set];simp [(List.getElem?_eq_some_iff.1 hB).1]
             have hal:=hm1.alias hB1 hd (by
              rw [List.all_eq_true]
              intro C hC
              rw [List.length_set]
              rcases List.mem_or_eq_of_mem_set hC with hC | rfl
              ·exact List.all_eq_true.1 hfm.2 C hC
              ·exact aID (by rw [List.all_append,hlsc,hsc];rfl))
             rw [List.length_set,List.set_set,hnil] at hal
             refine ⟨.slice (some ⟨ι b,0,none⟩) (N.toNat+k) (ι.cap b),cB w (ι b) (cellsOf ρ ι (qN (l++xs))++rest.drop (k*i.size)) B.ty fz,?_,cI ι m.length (ι b) (ι.cap b) false,?_,hf.congr (cG ι m.length (ι b) (ι.cap b) false) hfm.1,?_⟩
             ·rw [hxc,hs0]
              refine oH ht hi _ _ _ ad k c (xs.map (S.aB ρ ι)) (by rw [List.length_map];exact hlen) hcell hr ?_
              rw [Addr.add_lit,Nat.zero_add];exact hst
             ·simp only [SV.aB,S.aB,addr,aC,cI,if_true,Bool.false_eq_true,false_and,if_false,hq]
              simp;omega
             ·have eB:({ B with aE:=qN (l++xs) }:Blk)=⟨e,qN (l++xs),true,some i.size,false⟩:=by
               cases B;simp_all
              have h8:=hal.forget (b:=b) (D:={ B with dead:=true }) rfl
              rw [List.set_append_left _ _ (by rw [List.length_set];exact (List.getElem?_eq_some_iff.1 hB).1),List.set_set,eB] at h8
              exact h8
            ·-- it moves
             have holds:∀ j v,(l.map (S.aB ρ ι))[j]? = some v→w.cell? ((⟨ι b,0,none⟩:Addr).add j)=some v:=fun j v h=>hm.aWD hB hd hnil hl 0 j v (by rw [List.drop_zero];exact h)
             have hn0b:N.toNat≤65536:=by omega
             have hr2:=run_append_grow (P:=P) w t ty e i z ht hi hz ⟨ι b,0,none⟩ N.toNat (ι.cap b) (l.map (S.aB ρ ι)) (by rw [List.length_map];exact hll) holds ad k c (xs.map (S.aB ρ ι)) (by rw [List.length_map];exact hlen) hcell (by omega) (by omega)
              (growslice_fits (by omega) (Nat.le_trans (Nat.mul_le_mul (show N.toNat+k≤131072 by omega) hby) (by decide)))
             have hfg:=hm.forget (b:=b) (D:={ B with dead:=true }) rfl
             have hsc2:(m.set b { B with dead:=true }).all (fun B=>B.aE.all (Seg.sc m.length))=true:=by
              rw [List.all_eq_true]
              intro C hC
              rcases List.mem_or_eq_of_mem_set hC with hC | rfl
              ·exact List.all_eq_true.1 hfm.2 C hC
              ·exact List.all_eq_true.1 hfm.2 B (List.mem_of_getElem? hB)
             refine ⟨_,_,by rw [hxc,hs0];exact hr2,cI ι m.length w.heap.size (grownCap w (N.toNat+k) (ι.cap b) e) false,?_,hf.congr (cG _ _ _ _ _) hfm.1,?_⟩
             ·simp only [SV.aB,S.aB,addr,aC,cI,if_true,Bool.false_eq_true,false_and,if_false,hq]
              simp;omega
             ·have hpush:=hfg.push ⟨e,qN (l++xs),true,some i.size,false⟩ w.heap.size (grownCap w (N.toNat+k) (ι.cap b) e) false (w':=w.drew.alloc (.cells ((l.map (S.aB ρ ι)).toArray++(xs.map (S.aB ρ ι)).toArray++Builtin.zeroCells z.cells (grownCap w (N.toNat+k) (ι.cap b) e-(N.toNat+k))) e))
               (by rw [List.length_set];exact hsc2) (by rw [List.length_set];exact aID (by rw [List.all_append,hlsc,hsc];rfl)) (fun q hq=>heap_alloc_old w.drew _ q hq) (by simp [World.alloc]) rfl rfl rfl (Nat.le_refl _)
               (fun _ _=>⟨(0,0),(Builtin.zeroCells z.cells (grownCap w (N.toNat+k) (ι.cap b) e-(N.toNat+k))).toList,by
                 rw [fO]
                 have:=heap_alloc_new w.drew (.cells ((l.map (S.aB ρ ι)).toArray++(xs.map (S.aB ρ ι)).toArray++Builtin.zeroCells z.cells (grownCap w (N.toNat+k) (ι.cap b) e-(N.toNat+k))) e)
                 rw [show w.drew.heap.size=w.heap.size from rfl] at this
                 rw [this]
                 congr 2
                 apply Array.ext';simp,fun _=>Nat.le_refl _,fun q hq'=>by
                 simp only [Option.some.injEq] at hq';subst hq'
                 have hge:=grownCap_ge w (N.toNat+k) (ι.cap b) e
                 refine ⟨?_,grownCap_le_maxLen w _ _ e (by simp only [maxLen];omega)⟩
                 have hzl:(Builtin.zeroCells z.cells (grownCap w (N.toNat+k) (ι.cap b) e-(N.toNat+k))).toList.length=(grownCap w (N.toNat+k) (ι.cap b) e-(N.toNat+k))*i.size:=by rw [Array.length_toList,size_zeroCells,hzs]
                 rw [fO,List.length_append,List.length_map,hzl,List.length_append,hll,hlen,← Nat.add_mul,← Nat.add_mul]
                 congr 1;omega,fun h=>by cases h⟩) (fun _ h=>by cases h)
              rw [List.length_set] at hpush
              exact hpush
          ·cases h
        ·cases h
       ·cases h
      ·cases h
     ·cases h
    ·cases h
theorem wJ (k:IntKind) (n:E):cellsOf ρ ι [.run k n (.tab []) 0]=List.replicate (n.i ρ).toNat (.int k 0):=by
 simp only [cellsOf,List.flatMap_cons,List.flatMap_nil,List.append_nil,Seg.cells,cC]
 apply List.ext_getElem?
 intro j
 simp only [List.getElem?_map,List.getElem?_replicate]
 by_cases hj:j<(n.i ρ).toNat
 ·rw [List.getElem?_range hj,if_pos hj];simp
 ·rw [List.getElem?_eq_none (by simpa using hj),if_neg hj];rfl
theorem bFt (hH:H.ok ρ) (hm:aG ρ β ι m w) (hf:aP ρ ι n fr a) {t:TypeId} {l c:SV} {nd:List E} {v:SV} {m':Mem} (h:bFs P H fr m t l c=some (nd,v,m')) :
 ∃ r w',(Instr.makeSlice t (l.aB ρ ι) (c.aB ρ ι)).run P w=.ok r w'∧dP ρ β ι n fr m m' a v r w':=by
 unfold bFs at h
 split at h
 ·rename_i e k1 q k2 q' ht
  split at h
  ·rename_i by_ k hzi a5
   obtain ⟨i,z,hi,hz,hs1,rfl,hzs,_⟩:=jF hzi
   split at h
   ·rename_i hc
    obtain ⟨rfl,hby,ha,hb⟩:=hc
    have ha:=aF hH ha
    have hb:=bE hH hb
    simp only [Option.map_eq_some_iff,Prod.mk.injEq] at h
    obtain ⟨⟨nd',v',m2⟩,hnb,rfl,rfl,rfl⟩:=h
    obtain ⟨ι',F,J,M⟩:=mI (ty:=e) hm hf hnb
    have Q:=pM (ρ:=ρ) (ι:=ι) (w:=w) a5
    have hz3:(zeroValue e).run P w=.ok z w:=by simp [zeroValue,hi,hz,typeInfo]
    rw [hz3] at Q
    injection Q with Q _
    subst Q
    have hrun:=run_make (P:=P) w t e i _ (aS ht) hi hz k1 k2 (q.i ρ) (q.i ρ) ha (Int.le_refl _) (by
     have h9:(i.bytes:Int)*q.i ρ≤65536*67108864:=Int.mul_le_mul (by omega) hb (by omega) (by omega)
     omega) (by omega)
    have hcells:madeCells (SV.aB ρ ι (.s (.int k (.lit 0)))).cells ((q.i ρ).toNat*i.size)=(cellsOf ρ ι [.run k q (.tab []) 0]).toArray:=by
     rw [wJ,hs1,Nat.mul_one]
     apply Array.ext'
     apply List.ext_getElem?
     intro j
     simp only [madeCells,SV.aB,S.aB,aC,Value.cells,Array.toList_map,Array.toList_range,List.getElem?_map,List.getElem?_replicate]
     by_cases hj:j<(q.i ρ).toNat
     ·rw [List.getElem?_range hj,if_pos hj];simp [Nat.mod_one]
     ·rw [List.getElem?_eq_none (by simpa using hj),if_neg hj];rfl
    rw [hcells] at hrun
    refine ⟨_,_,by simpa only [SV.aB,S.aB,World.alloc] using hrun,ι',?_,J,M⟩
    have hv:=xH hnb
    subst hv
    simp only [SV.aB,S.aB,addr,aC,Value.pointer.injEq,Option.some.injEq,Addr.mk.injEq] at F ⊢
    simp [F.1]
   ·cases h
  ·cases h
 ·cases h
theorem bCk (hm:aG ρ β ι m w) {sz:Nat} {x:SV} {aE:List Seg} {k:Nat} (h:aVZ m sz x=some (aE,k)) :
 0<k∧(cellsOf ρ ι aE).length=k*sz∧(∃ B ∈ m,aE=B.aE)∧∃ ad c,x.aB ρ ι=.slice (some ad) k c∧∀ j v,(cellsOf ρ ι aE)[j]? = some v→w.cell? (ad.add j)=some v:=by
 unfold aVZ at h
 split at h
 ·rename_i b q cap
  split at h
  ·rename_i B hB
   split at h
   ·rename_i hc
    obtain ⟨hd,K,hsz,hl⟩:=hc
    simp only [Option.some.injEq,Prod.mk.injEq] at h
    obtain ⟨rfl,rfl⟩:=h
    have hlen:=eG (ρ:=ρ) (ι:=ι) hl
    have hpos:0<q.toNat*sz:=Nat.mul_pos (by omega) hsz
    have hnil:ι.nil b=false:=by
     cases hh:ι.nil b with
     | false=>rfl
     | true=>rw [(hm.nils b B hB hd hh).2] at hlen;simp at hlen;omega
    obtain ⟨fz,rest,F,_⟩:=hm.blk b B hB hd hnil
    refine ⟨by omega,hlen,⟨B,List.mem_of_getElem? hB,rfl⟩,addr ρ ι b (.lit 0),?_⟩
    have hcell:∀ j v,(cellsOf ρ ι B.aE)[j]? = some v→w.cell? ((addr ρ ι b (.lit 0)).add j)=some v:=by
     intro j v hj
     have hlt:=(List.getElem?_eq_some_iff.1 hj).1
     have e:w.cell? ((addr ρ ι b (.lit 0)).add j)=(cellsOf ρ ι B.aE++rest)[j]? := by
      have e0:addr ρ ι b (.lit 0)=⟨ι b,0,none⟩:=by simp [addr,aC]
      rw [e0,Addr.add_lit,Nat.zero_add];simp [World.cell?,F]
     rw [e,List.getElem?_append_left hlt,hj]
    cases cap with
    | kn e=>exact ⟨(e.i ρ).toNat,by simp only [SV.aB,S.aB,aC],hcell⟩
    | op e=>exact ⟨ι.cap b-(e.i ρ).toNat,by simp only [SV.aB,S.aB,aC,hnil,Bool.false_eq_true,false_and,if_false],hcell⟩
    | tl o k z =>
      have a2:¬ q.toNat=0:=by omega
      exact ⟨if z then 0 else ι.cap b-(k.i ρ).toNat,by simp only [SV.aB,S.aB,aC,a2,and_false,if_false],hcell⟩
   ·cases h
  ·cases h
 ·cases h
theorem aWA {s:SV} (h:bare s=true):s.aB ρ ι=.slice none 0 0∨∃ g,s.aB ρ ι=.slice (some g) 0 0:=by
 unfold bare at h
 split at h
 ·exact .inl rfl
 ·rename_i b o;exact .inr ⟨addr ρ ι b o,by simp only [SV.aB,S.aB,aC];rfl⟩
 ·exact .inr ⟨_,by simp only [SV.aB,S.aB,aC];rfl⟩
 ·cases h
theorem bBg (hm:aG ρ β ι m w) (hf:aP ρ ι n fr a) {t ty:TypeId} {s x:SV} {nd:List E} {v:SV} {m':Mem} (h:aUF P fr m t s x=some (nd,v,m')) :
 ∃ r w',(Builtin.append_ #[t,t] ty #[s.aB ρ ι,x.aB ρ ι]).run P w=.ok r w'∧dP ρ β ι n fr m m' a v r w':=by
 unfold aUF at h
 split at h
 ·cases h
 ·rename_i e ht
  have ht:=aS ht
  split at h
  ·cases h
  ·rename_i sz by_ hzi
   obtain ⟨i,z,hi,hz,rfl,rfl,hzs,hsz⟩:=jF hzi
   split at h
   ·rename_i hbare
    split at h
    ·rename_i aE k hx
     split at h
     ·rename_i hc
      obtain ⟨hkb,hby,hfm⟩:=hc
      simp only [jJ,Bool.and_eq_true] at hfm
      obtain ⟨hk,hlen,⟨B,hB,rfl⟩,ad,c,hxc,hcell⟩:=bCk hm hx
      simp only [Option.some.injEq,Prod.mk.injEq] at h
      obtain ⟨rfl,rfl,rfl⟩:=h
      have hr:(Builtin.append_ #[t,t] ty #[s.aB ρ ι,x.aB ρ ι]).run P w=.ok (.slice (some ⟨w.heap.size,0,none⟩) k (grownCap w k 0 e)) (w.drew.alloc (.cells ((cellsOf ρ ι B.aE).toArray++Builtin.zeroCells z.cells (grownCap w k 0 e-k)) e)):=by
       rw [hxc]
       rcases aWA (ρ:=ρ) (ι:=ι) hbare with F | ⟨g,F⟩
       ·rw [F]
        exact run_append_nil (P:=P) w t ty e i z ht hi hz ad k c _ hlen hcell hk (by omega) (Nat.le_trans (Nat.mul_le_mul hkb hby) (by decide))
       ·rw [F]
        have:=run_append_grow (P:=P) w t ty e i z ht hi hz g 0 0 [] (by simp) (fun j v h=>by simp at h) ad k c _ hlen hcell (by omega) (by omega)
         (growslice_fits (by omega) (Nat.le_trans (Nat.mul_le_mul (show 0+k≤131072 by omega) hby) (by decide)))
        rw [Nat.zero_add] at this
        rw [this]
        congr 3
        simp
      refine ⟨_,_,hr,cI ι m.length w.heap.size (grownCap w k 0 e) false,?_,hf.congr (cG _ _ _ _ _) hfm.1,?_⟩
      ·simp only [SV.aB,S.aB,addr,aC,cI,if_true,Bool.false_eq_true,false_and,if_false,Int.toNat_natCast]
       simp
      ·refine hm.push ⟨e,B.aE,true,some i.size,false⟩ w.heap.size (grownCap w k 0 e) false hfm.2 (List.all_eq_true.1 hfm.2 B hB) (fun b hb=>?_) (by simp [World.alloc]) rfl rfl rfl (Nat.le_refl _) (fun _ _=>⟨(0,0),(Builtin.zeroCells z.cells (grownCap w k 0 e-k)).toList,?_,fun _=>Nat.le_refl _,fun q hq'=>?_,fun h=>by cases h⟩) (fun _ h=>by cases h)
       ·exact heap_alloc_old w.drew _ b hb
       ·have:=heap_alloc_new w.drew (.cells ((cellsOf ρ ι B.aE).toArray++Builtin.zeroCells z.cells (grownCap w k 0 e-k)) e)
        rw [show w.drew.heap.size=w.heap.size from rfl] at this
        rw [this]
        congr 2
        apply Array.ext';simp
       ·simp only [Option.some.injEq] at hq';subst hq'
        have hge:=grownCap_ge w k 0 e
        refine ⟨?_,grownCap_le_maxLen w k 0 e (by simp only [maxLen];omega)⟩
        have hzl:(Builtin.zeroCells z.cells (grownCap w k 0 e-k)).toList.length=(grownCap w k 0 e-k)*i.size:=by rw [Array.length_toList,size_zeroCells,hzs]
        rw [List.length_append,hzl,hlen,← Nat.add_mul]
        congr 1;omega
     ·cases h
    ·split at h
     ·rename_i hx
      simp only [Option.some.injEq,Prod.mk.injEq] at h
      obtain ⟨rfl,rfl,rfl⟩:=h
      rcases aTS hm hsz hx with ⟨_,base,c,hxc⟩ | ⟨hne,_⟩
      ·rcases aWA (ρ:=ρ) (ι:=ι) hbare with F | ⟨g,F⟩
       ·exact ⟨_,w,by rw [hxc,F];exact cK ht hi none 0 0 (Nat.le_refl _) base c w,ι,by rw [F],hf,hm⟩
       ·exact ⟨_,w,by rw [hxc,F];exact cK ht hi (some g) 0 0 (Nat.le_refl _) base c w,ι,by rw [F],hf,hm⟩
      ·exact absurd rfl hne
     ·cases h
   ·cases h
theorem bJZ (hH:H.ok ρ) (hm:aG ρ β ι m w) (hf:aP ρ ι n fr a) {o:Oper} {nd:List E} {v:SV} {m':Mem} (h:bSA P H fr m o.op=some (nd,v,m')) (hn:bC ρ nd) :
 ∃ x w',((execOp a.eval o).run P w=.ok (.value x) w'∨(execOp a.eval o).run P w=.ok .skip w'∧x=Go.undef)∧dP ρ β ι n fr m m' a v x w':=by
 have hG:eA ρ []:=fun e he=>by cases he
 unfold bSA at h
 split at h
 ·rename_i ty x ho
  split at h
  ·rename_i u hu
   split at h
   ·rename_i l hl
    refine ⟨_,_,.inl ?_,mI hm hf h⟩
    simp [execOp,ho,aO hf hG hu,Instr.box,newVar,newRow,(aAb (ρ:=ρ) (ι:=ι) hl).1]
   ·cases h
  ·cases h
 ·rename_i ty ho
  split at h
  ·rename_i u hu
   split at h
   ·rename_i l hl
    refine ⟨_,_,.inl ?_,mI hm hf h⟩
    simp [execOp,ho,Instr.alloc,pM (ρ:=ρ) (ι:=ι) hu,newVar,newRow,(aAb (ρ:=ρ) (ι:=ι) hl).1]
   ·cases h
  ·cases h
 ·rename_i t p x ho
  split at h
  ·rename_i u v' hu hv
   obtain ⟨w',F,J,rfl⟩:=bCN (P:=P) hH hm h hn
   refine ⟨_,w',.inr ⟨?_,rfl⟩,ι,rfl,hf,J⟩
   simp [execOp,ho,aO hf hG hu,aO hf hG hv,F]
  ·cases h
 ·rename_i t l c ho
  split at h
  ·rename_i u v' hu hv
   obtain ⟨r,w',hr,haf⟩:=bFt hH hm hf h
   refine ⟨r,w',.inl ?_,haf⟩
   simp only [execOp,ho,aO hf hG hu,aO hf hG hv,Sem.run_bind,hr,Result.andThen_ok,Sem.run_pure]
  ·cases h
 ·rename_i t len parts ho
  split at h
  ·rename_i U
   split at h
   ·rename_i e he hpt
    split at h
    ·rename_i k hk
     simp only [Option.map_eq_some_iff,Prod.mk.injEq] at h
     obtain ⟨⟨nd',v',m2⟩,hb,rfl,rfl,rfl⟩:=h
     obtain ⟨ι',F,J,M⟩:=mI (ty:=e) hm hf hb
     refine ⟨.slice (some ⟨w.heap.size,0,none⟩) 0 0,_,.inl ?_,ι',?_,J,M⟩
     ·subst U
      obtain rfl:parts=#[]:=Array.ext' hpt
      have hbs:(Instr.buildSlice t 0 #[]).run P w=.ok (.slice (some ⟨w.heap.size,0,none⟩) 0 0) { w with heap:=w.heap.push (.cells #[] e) }:=by
       unfold Instr.buildSlice
       simp [run_underlying (aS he),bD hk,Instr.fill,newRow]
       rw [show Array.map (fun _=>(default:Value)) (Array.range 0)=#[] by simp]
      simp only [execOp,ho]
      rw [Sem.run_bind]
      have e1:((#[]:Array (Nat × Operand)).map fun (x:Nat × Operand)=>match x with | (i,x)=>(i,a.eval x))=#[]:=by simp
      rw [e1,hbs];rfl
     ·have hv:=xH hb
      subst hv
      simp only [SV.aB,S.aB,addr,aC,Value.pointer.injEq,Option.some.injEq,Addr.mk.injEq] at F ⊢
      simp [F.1]
    ·cases h
   ·cases h
  split at h
  ·rename_i e l he hl
   split at h
   ·rename_i k hk
    split at h
    ·rename_i hsz
     split at h
     ·rename_i aE hr
      split at h
      ·rename_i hp
       simp only [Option.map_eq_some_iff,Prod.mk.injEq] at h
       obtain ⟨⟨nd',v',m2⟩,hb,rfl,rfl,rfl⟩:=h
       obtain ⟨ι',F,J,M⟩:=mI (ty:=e) hm hf hb
       have hrow:=bAo (ρ:=ρ) (ι:=ι) (w:=w) hr
       have hparts:(parts.map fun (p:Nat × Operand)=>(p.1,a.eval p.2)).toList=(parts.toList.map (·.1)).zip (l.map (SV.aB ρ ι)):=by
        rw [← kG hf hG hl,Array.toList_map,List.map_map,List.zip_map',Function.comp_def]
       refine ⟨.slice (some ⟨w.heap.size,0,none⟩) len len,_,.inl ?_,ι',?_,J,M⟩
       ·obtain ⟨hne,z,hz,hfill⟩:=hrow
        have hbs:(Instr.buildSlice t len (parts.map fun (p:Nat × Operand)=>(p.1,a.eval p.2))).run P w=.ok (.slice (some ⟨w.heap.size,0,none⟩) len len) { w with heap:=w.heap.push (.cells (cellsOf ρ ι aE).toArray e) }:=by
         unfold Instr.buildSlice
         have hns:¬ len*k > 2 ^ 24:=by omega
         simp only [Sem.run_bind,run_underlying (aS he),Result.andThen_ok,bD hk]
         rw [if_neg hns,if_neg hne]
         simp only [Sem.run_bind,Sem.run_pure,hz,Result.andThen_ok]
         rw [hparts,hfill]
         simp [newRow]
        simp only [execOp,ho]
        rw [Sem.run_bind]
        have e1:(parts.map fun (x:Nat × Operand)=>match x with | (i,x)=>(i,a.eval x))=(parts.map fun (p:Nat × Operand)=>(p.1,a.eval p.2)):=rfl
        rw [e1,hbs];rfl
       ·have hv:=xH hb
        subst hv
        simp only [SV.aB,S.aB,addr,aC,Value.pointer.injEq,Option.some.injEq,Addr.mk.injEq] at F ⊢
        simp [F.1]
      ·cases h
     ·cases h
    ·cases h
   ·cases h
  ·cases h
 ·cases h
theorem bAX {e:TypeId} {c sz:Nat} {aE:List Seg} {z:Value} (h:bKf P e c sz=some aE) (hz:(zeroValue e).run P w=.ok z w) (hs:z.cells.size=sz):(Array.range (c*sz)).map (z.cells[·%z.cells.size]!)=(cellsOf ρ ι aE).toArray:=by
 have gen:bBP P e c sz [] []=some aE→(Array.range (c*sz)).map (z.cells[·%z.cells.size]!)=(cellsOf ρ ι aE).toArray:=by
  intro hr
  obtain ⟨hne,z2,Q,hfill⟩:=bAo (ρ:=ρ) (ι:=ι) (w:=w) hr
  rw [hz] at Q
  injection Q with Q _
  subst Q
  simpa [Instr.fill] using hfill
 unfold bKf at h
 split at h
 ·rename_i k a5
  split at h
  ·rename_i F
   simp only [Option.some.injEq] at h;subst h
   have Q:=pM (ρ:=ρ) (ι:=ι) (w:=w) a5
   rw [hz] at Q
   injection Q with Q _
   subst Q
   apply Array.ext'
   simp only [F,Nat.mul_one,SV.aB,S.aB,aC,Value.cells,Array.toList_map,Array.toList_range,cellsOf,List.flatMap_cons,List.flatMap_nil,List.append_nil,Seg.cells,cC,Int.toNat_natCast]
   refine List.map_congr_left fun j _=>?_
   simp [Nat.mod_one]
  ·exact gen h
 ·exact gen h
theorem iX {v:SV} {z:Int} (h:aAK v=some z):∃ k,v.aB ρ ι=.int k z:=by
 unfold aAK at h
 split at h
 ·simp only [Option.some.injEq] at h;subst h;exact ⟨_,rfl⟩
 ·cases h
theorem bHQ (hm:aG ρ β ι m w) (hf:aP ρ ι n fr a) {t ty:TypeId} {x:SV} {nd:List E} {v:SV} {m':Mem} (h:bNg P m t x=some (nd,v,m')) :
 ∃ r w',(Builtin.cap_ #[t] ty #[x.aB ρ ι]).run P w=.ok r w'∧dP ρ β ι n fr m m' a v r w':=by
 unfold bNg at h
 split at h
 ·rename_i e ht
  simp only [Option.some.injEq,Prod.mk.injEq] at h
  obtain ⟨rfl,rfl,rfl⟩:=h
  refine ⟨goInt 0,w,by simp [Builtin.cap_,run_underlying (aS ht),SV.aB,S.aB],ι,?_,hf,hm⟩
  simp [SV.aB,S.aB,aC,goInt]
 ·rename_i e _ _ _ c ht
  split at h
  ·rename_i hc
   simp only [Option.some.injEq,Prod.mk.injEq] at h
   obtain ⟨rfl,rfl,rfl⟩:=h
   refine ⟨goInt (c.toNat:Nat),w,by simp [Builtin.cap_,run_underlying (aS ht),SV.aB,S.aB,aC],ι,?_,hf,hm⟩
   simp [SV.aB,S.aB,aC,goInt,Int.max_eq_left hc]
  ·cases h
 ·cases h
theorem bFv (hm:aG ρ β ι m w) (hf:aP ρ ι n fr a) {t:TypeId} {l c:SV} {nd:List E} {v:SV} {m':Mem} (h:bFu P fr m t l c=some (nd,v,m')) :
 ∃ r w',(Instr.makeSlice t (l.aB ρ ι) (c.aB ρ ι)).run P w=.ok r w'∧dP ρ β ι n fr m m' a v r w':=by
 unfold bFu at h
 split at h
 ·rename_i e zl zc ht hl hc
  obtain ⟨kl,hl⟩:=iX (ρ:=ρ) (ι:=ι) hl
  obtain ⟨kc,hc⟩:=iX (ρ:=ρ) (ι:=ι) hc
  split at h
  ·rename_i sz by_ hzi
   obtain ⟨i,z,hi,hz,rfl,rfl,hzs,hsz⟩:=jF hzi
   split at h
   ·rename_i hcc
    obtain ⟨rfl,hpos,hle,hby⟩:=hcc
    split at h
    ·rename_i aE hr
     split at h
     ·simp only [Option.map_eq_some_iff,Prod.mk.injEq] at h
      obtain ⟨⟨nd',v',m2⟩,hb,rfl,rfl,rfl⟩:=h
      obtain ⟨ι',F,J,M⟩:=mI (ty:=e) hm hf hb
      have hfl:=bAX (P:=P) (ρ:=ρ) (ι:=ι) (w:=w) hr (show (zeroValue e).run P w=.ok z w by simp [zeroValue,hi,hz,typeInfo]) hzs
      have hrun:=run_make (P:=P) w t e i z (aS ht) hi hz kl kc zl zl (by omega) (Int.le_refl _) (by
       have h9:(i.bytes:Int)*zl≤65536*1048576:=Int.mul_le_mul (by omega) hle (by omega) (by omega)
       omega) (by omega)
      rw [show madeCells z.cells (zl.toNat*i.size)=(cellsOf ρ ι aE).toArray from hfl] at hrun
      refine ⟨_,_,by rw [hl,hc];exact hrun,ι',?_,J,M⟩
      have hv:=xH hb
      subst hv
      simp only [SV.aB,S.aB,addr,aC,Value.pointer.injEq,Option.some.injEq,Addr.mk.injEq] at F ⊢
      simp [F.1]
     ·cases h
    ·cases h
   ·cases h
  ·cases h
 ·cases h
theorem vN (e:TypeId) (ρ:Env) (ι:Loc) (k:Nat):cellsOf ρ ι (xI P e)=[]∧(xI P e).all (Seg.sc k)=true:=by
 unfold xI
 split
 ·exact ⟨by simp [cellsOf,Seg.cells,aC],rfl⟩
 ·exact ⟨rfl,rfl⟩
theorem bFr (hm:aG ρ β ι m w) (hf:aP ρ ι n fr a) {t:TypeId} {l c:SV} {nd:List E} {v:SV} {m':Mem} (h:bFq P fr m t l c=some (nd,v,m')) :
 ∃ r w',(Instr.makeSlice t (l.aB ρ ι) (c.aB ρ ι)).run P w=.ok r w'∧dP ρ β ι n fr m m' a v r w':=by
 unfold bFq at h
 split at h
 ·rename_i e q ht hl hc
  obtain ⟨kl,hl⟩:=iX (ρ:=ρ) (ι:=ι) hl
  obtain ⟨kc,hc⟩:=iX (ρ:=ρ) (ι:=ι) hc
  split at h
  ·rename_i sz by_ hzi
   obtain ⟨i,z,hi,hz,rfl,rfl,hzs,hsz⟩:=jF hzi
   split at h
   ·rename_i hcc
    obtain ⟨hpos,hle,hby,hfm⟩:=hcc
    simp only [jJ,Bool.and_eq_true] at hfm
    simp only [Option.some.injEq,Prod.mk.injEq] at h
    obtain ⟨rfl,rfl,rfl⟩:=h
    have hrun:=run_make (P:=P) w t e i z (aS ht) hi hz kl kc 0 q (Int.le_refl _) (by omega) (by
     have h9:(i.bytes:Int)*q≤65536*67108864:=Int.mul_le_mul (by omega) hle (by omega) (by omega)
     omega) (by omega)
    refine ⟨_,_,by rw [hl,hc];exact hrun,cI ι m.length w.heap.size q.toNat false,?_,hf.congr (cG _ _ _ _ _) hfm.1,?_⟩
    ·simp [SV.aB,S.aB,addr,aC,cI]
    ·refine hm.push ⟨e,xI P e,true,some i.size,false⟩ w.heap.size q.toNat false hfm.2 (vN e ρ ι _).2 (fun b hb=>heap_alloc_old w _ b hb) (by show w.heap.size≤(w.heap.push _).size;rw [Array.size_push];omega) rfl rfl rfl (Nat.le_refl _)
      (fun _ _=>⟨(0,0),(madeCells z.cells (q.toNat*i.size)).toList,?_,⟨fun _=>Nat.le_refl _,fun p hp=>?_,fun h=>by cases h⟩⟩) (fun _ h=>by cases h)
     ·have:=heap_alloc_new w (.cells (madeCells z.cells (q.toNat*i.size)) e)
      rw [this,(vN e ρ ι 0).1]
      congr 2
     ·simp only [Option.some.injEq] at hp;subst hp
      refine ⟨?_,by simp only [maxLen];omega⟩
      rw [(vN e ρ ι 0).1]
      simp [madeCells]
   ·cases h
  ·cases h
 ·cases h
theorem bBz (hm:aG ρ β ι m w) (hf:aP ρ ι n fr a) {t:TypeId} {l c:SV} {nd:List E} {v:SV} {m':Mem} (h:aVd P fr m t l c=some (nd,v,m')) :
 ∃ r w',(Instr.makeSlice t (l.aB ρ ι) (c.aB ρ ι)).run P w=.ok r w'∧dP ρ β ι n fr m m' a v r w':=by
 unfold aVd at h
 split at h
 ·rename_i r hr
  simp only [Option.some.injEq] at h;subst h
  exact bFv hm hf hr
 ·exact bFr hm hf h
theorem pH {t t' ty e:TypeId} {i:TypeInfo} {z:Value} {q:IntKind} (ht:P.underlying t=some (.slice e)) (ht':P.underlying t'=some (.int q)) (hi:P.info? e=some i) (hz:i.zero=some z) (hsz:0<i.size) (k:IntKind) (c:Int) (K:0<c) (F:c≤67108864) (hb:i.bytes≤65536) (w:World) :
 (Builtin.append_ #[t,t'] ty #[.slice none 0 0,.int k c]).run P w=.ok (.slice (some ⟨w.heap.size,0,none⟩) c.toNat (grownCap w c.toNat 0 e)) (w.drew.alloc (.cells (Builtin.zeroCells z.cells c.toNat++Builtin.zeroCells z.cells (grownCap w c.toNat 0 e-c.toNat)) e)):=by
 obtain ⟨n,rfl⟩:=Int.eq_ofNat_of_zero_le (Int.le_of_lt K)
 have hw:IntKind.i64.wrap (n:Int)=n:=by rw [IntKind.wrap_i64];omega
 have hn:n ≠ 0:=by omega
 have hprod:n*i.bytes≤4398046511104:=Nat.le_trans (Nat.mul_le_mul (show n≤67108864 by omega) hb) (by decide)
 have J:¬ ((n:Int)<0):=by omega
 have M:¬ (281474976710656<(n:Int)*(i.bytes:Int)):=by
  have:((n*i.bytes:Nat):Int)≤4398046511104:=by omega
  rw [Int.natCast_mul] at this;omega
 have h48':¬ (281474976710656<Builtin.nextslicecap n 0*i.bytes):=by rw [nextslicecap_zero (by omega)];omega
 have h63':¬ (9223372036854775807<(n:Int)):=by omega
 have hns:n*i.size ≠ 0:=Nat.mul_ne_zero hn (by omega)
 have hns2:¬ (n=0∨i.size=0):=by omega
 simp [Builtin.append_,run_underlying ht,run_underlying ht',sizeOf,typeInfo,zeroValue,hi,hz,asInt,asIntOf,hw,hn,J,M,h48',h63',hns,hns2,Question.forced,run_firstCells_none,newRow,grownCap]
theorem aUy (hm:aG ρ β ι m w) (hf:aP ρ ι n fr a) {t t' ty:TypeId} {s x:SV} {nd:List E} {v:SV} {m':Mem} (h:aHE P fr m t t' s x=some (nd,v,m')) :
 ∃ r w',(Builtin.append_ #[t,t'] ty #[s.aB ρ ι,x.aB ρ ι]).run P w=.ok r w'∧dP ρ β ι n fr m m' a v r w':=by
 unfold aHE at h
 split at h
 ·rename_i e q zn ht ht' hx
  obtain ⟨kx,hx⟩:=iX (ρ:=ρ) (ι:=ι) hx
  split at h
  ·rename_i sz by_ hzi
   obtain ⟨i,z,hi,hz,rfl,rfl,hzs,hsz⟩:=jF hzi
   split at h
   ·rename_i hcc
    obtain ⟨hpos,hle,hby,hfm⟩:=hcc
    simp only [jJ,Bool.and_eq_true] at hfm
    split at h
    ·rename_i aE hr
     split at h
     ·rename_i hsc
      simp only [Option.some.injEq,Prod.mk.injEq] at h
      obtain ⟨rfl,rfl,rfl⟩:=h
      have hfl:Builtin.zeroCells z.cells zn.toNat=(cellsOf ρ ι aE).toArray:=by
       have:=bAX (P:=P) (ρ:=ρ) (ι:=ι) (w:=w) hr (show (zeroValue e).run P w=.ok z w by simp [zeroValue,hi,hz,typeInfo]) hzs
       unfold Builtin.zeroCells
       rw [hzs] at this ⊢
       exact this
      have hrun:=pH (P:=P) (ty:=ty) (aS ht) ht' hi hz hsz kx zn hpos (by omega) hby w
      rw [hfl] at hrun
      refine ⟨_,_,by rw [hx];exact hrun,cI ι m.length w.heap.size (grownCap w zn.toNat 0 e) false,?_,hf.congr (cG _ _ _ _ _) hfm.1,?_⟩
      ·simp [SV.aB,S.aB,addr,aC,cI]
      ·refine hm.push ⟨e,aE,true,some i.size,false⟩ w.heap.size (grownCap w zn.toNat 0 e) false hfm.2 hsc (fun b hb=>heap_alloc_old w.drew _ b hb) (by simp [World.alloc]) rfl rfl rfl (Nat.le_refl _)
        (fun _ _=>⟨(0,0),(Builtin.zeroCells z.cells (grownCap w zn.toNat 0 e-zn.toNat)).toList,?_,⟨fun _=>Nat.le_refl _,fun q hq=>?_,fun h=>by cases h⟩⟩) (fun _ h=>by cases h)
       ·have:=heap_alloc_new w.drew (.cells ((cellsOf ρ ι aE).toArray++Builtin.zeroCells z.cells (grownCap w zn.toNat 0 e-zn.toNat)) e)
        rw [show w.drew.heap.size=w.heap.size from rfl] at this
        rw [this]
        congr 2
        apply Array.ext';simp
       ·simp only [Option.some.injEq] at hq;subst hq
        have hge:=grownCap_ge w zn.toNat 0 e
        refine ⟨?_,grownCap_le_maxLen w _ _ e (by simp only [maxLen];omega)⟩
        have W:(cellsOf ρ ι aE).length=zn.toNat*i.size:=by
         have:=congrArg Array.size hfl
         rw [size_zeroCells,hzs] at this
         simpa using this.symm
        have hzl:(Builtin.zeroCells z.cells (grownCap w zn.toNat 0 e-zn.toNat)).toList.length=(grownCap w zn.toNat 0 e-zn.toNat)*i.size:=by rw [Array.length_toList,size_zeroCells,hzs]
        rw [List.length_append,W,hzl,← Nat.add_mul]
        congr 1;omega
     ·cases h
    ·cases h
   ·cases h
  ·cases h
 ·cases h
theorem aZB {e:TypeId} (h:bBu P e=true):P.underlying e=some (.int .u8):=by
 unfold bBu at h
 split at h
 ·assumption
 ·cases h
theorem bBe (hm:aG ρ β ι m w) (hf:aP ρ ι n fr a) {src dst:TypeId} {x:SV} {nd:List E} {v:SV} {m':Mem} (h:aUC P fr m src dst x=some (nd,v,m')) :
 ∃ r w',(convert src dst (x.aB ρ ι)).run P w=.ok r w'∧dP ρ β ι n fr m m' a v r w':=by
 unfold aUC at h
 split at h
 ·rename_i e l hs hd
  split at h
  ·rename_i hc
   simp only [Bool.and_eq_true,decide_eq_true_eq] at hc
   obtain ⟨⟨he,hl⟩,hfm⟩:=hc
   simp only [jJ,Bool.and_eq_true] at hfm
   have he:=aZB he
   simp only [Option.some.injEq,Prod.mk.injEq] at h
   obtain ⟨rfl,rfl,rfl⟩:=h
   have hr:=run_bytes_of_string (P:=P) w src dst e ⟨l.toArray⟩ hs (aS hd) he
   have hsz:(⟨l.toArray⟩:ByteArray).size=l.length:=rfl
   rw [hsz] at hr
   refine ⟨_,_,hr,cI ι m.length w.heap.size (grownCap w l.length 0 e) false,?_,hf.congr (cG _ _ _ _ _) hfm.1,?_⟩
   ·simp [SV.aB,S.aB,addr,aC,cI]
   ·refine hm.push ⟨e,[.run .u8 (.lit l.length) (.tab (l.map fun c=>(c.toNat:Int))) 0],false,some 1,false⟩ w.heap.size (grownCap w l.length 0 e) false hfm.2 rfl (fun b hb=>heap_alloc_old w.drew _ b hb) (by simp [World.alloc]) rfl rfl rfl (Nat.le_refl _)
     (fun _ _=>⟨((bytesRow ⟨l.toArray⟩ (grownCap w l.length 0 e)).size,(bytesRow ⟨l.toArray⟩ (grownCap w l.length 0 e)).size+1),List.replicate (grownCap w l.length 0 e-l.length) (.int .u8 0),?_,⟨fun h=>absurd h (by simp),fun q hq=>?_,fun h=>absurd h (by simp)⟩⟩) (fun _ h=>by cases h)
    ·have:=heap_alloc_new w.drew (.cells (bytesRow ⟨l.toArray⟩ (grownCap w l.length 0 e)) e ((bytesRow ⟨l.toArray⟩ (grownCap w l.length 0 e)).size,(bytesRow ⟨l.toArray⟩ (grownCap w l.length 0 e)).size+1))
     rw [show w.drew.heap.size=w.heap.size from rfl] at this
     rw [this]
     congr 2
     apply Array.ext'
     simp only [bytesRow,Array.toList_append,Array.toList_map,Array.toList_replicate,hsz,cellsOf,List.flatMap_cons,List.flatMap_nil,List.append_nil,Seg.cells,aC,cC,Int.toNat_natCast,Nat.zero_add]
     congr 1
     apply List.ext_getElem?
     intro j
     simp only [List.getElem?_map]
     by_cases hj:j<l.length
     ·rw [List.getElem?_range hj,List.getElem?_eq_getElem hj]
      simp [List.getD_eq_getElem?_getD,hj]
     ·rw [List.getElem?_eq_none (Nat.not_lt.1 hj),List.getElem?_eq_none (by rw [List.length_range];exact Nat.not_lt.1 hj)];rfl
    ·simp only [Option.some.injEq] at hq;subst hq
     have hge:=grownCap_ge w l.length 0 e
     refine ⟨?_,grownCap_le_maxLen w _ _ e (by simp only [maxLen];omega)⟩
     simp [cellsOf,Seg.cells,aC];omega
  ·cases h
 ·cases h
theorem aG.bJI (hm:aG ρ β ι m w) {b:Nat} {B:Blk} (hB:m[b]? = some B) (hd:B.dead=false) (hn:ι.nil b=false) (rest:List Value) {fz fz':Nat × Nat} (F:w.heap[ι b]? = some (.cells (cellsOf ρ ι B.aE++rest).toArray B.ty fz))
 (hg:∀ sz,B.grow=some sz→(cellsOf ρ ι B.aE++rest).length=ι.cap b*sz∧ι.cap b≤maxLen) (hr:B.grow=none→rest=[]) :
 aG ρ β ι (m.set b { B with wr:=false }) (Sx.cB w (ι b) (cellsOf ρ ι B.aE++rest) B.ty fz'):=by
 have hb:b<m.length:=(List.getElem?_eq_some_iff.1 hB).1
 have hlt:=hm.aBk hB hd hn
 have at_:∀ {i:Nat} {C:Blk},(m.set b { B with wr:=false })[i]? = some C→(i=b∧C={ B with wr:=false })∨(i ≠ b∧m[i]? = some C):=by
  intro i C h
  rw [List.getElem?_set] at h
  split at h
  ·rename_i hbi;subst hbi;simp only [hb,if_true,Option.some.injEq] at h;exact .inl ⟨rfl,h.symm⟩
  ·rename_i hbi;exact .inr ⟨fun e=>hbi e.symm,h⟩
 have old:∀ {i:Nat} {C:Blk},(m.set b { B with wr:=false })[i]? = some C→∃ C',m[i]? = some C'∧C'.dead=C.dead:=by
  intro i C h
  rcases at_ h with ⟨rfl,rfl⟩ | ⟨_,h⟩
  ·exact ⟨B,hB,rfl⟩
  ·exact ⟨C,h,rfl⟩
 refine ⟨fun i j C D hC hD hCd hDd hCn hDn he=>?_,fun i C hC hCd hCn=>?_,fun i C hC hCd hCn=>?_,hm.agr,by simpa using hm.len,fun i F J=>hm.new i F (by simpa using J),?_,fun k hk hi=>?_,hm.os,hm.tape,hm.output,hm.xt,fun i j a n' c' hv K k hk=>hm.xd i j a n' c' hv K k (by simpa using hk)⟩
 ·obtain ⟨C',hC',e1⟩:=old hC
  obtain ⟨D',hD',e2⟩:=old hD
  exact hm.inj i j C' D' hC' hD' (e1.trans hCd) (e2.trans hDd) hCn hDn he
 ·rcases at_ hC with ⟨rfl,rfl⟩ | ⟨hbi,hC⟩
  ·refine ⟨fz',rest,?_,⟨fun h=>absurd h (by simp),hg,hr⟩⟩
   simp [Sx.cB,Array.getElem?_setIfInBounds_self,hlt]
  ·obtain ⟨fz',rest',M,T⟩:=hm.blk i C hC hCd hCn
   refine ⟨fz',rest',?_,T⟩
   simp only [Sx.cB]
   rw [Array.getElem?_setIfInBounds_ne (fun he=>hbi (hm.inj b i B C hB hC hd hCd hn hCn he).symm)]
   exact M
 ·rcases at_ hC with ⟨rfl,rfl⟩ | ⟨hbi,hC⟩
  ·rw [hn] at hCn;cases hCn
  ·exact hm.nils i C hC hCd hCn
 ·simp only [Sx.cB,Array.size_setIfInBounds];exact hm.size
 ·simp only [Sx.cB]
  have:=hi b (by simpa using hb)
  rw [Array.getElem?_setIfInBounds_ne this]
  exact hm.old k hk fun i hi'=>hi i (by simpa using hi')
theorem bFx (hm:aG ρ β ι m w) (hf:aP ρ ι n fr a) {src dst:TypeId} {x:SV} {nd:List E} {v:SV} {m':Mem} (h:bFw P m src dst x=some (nd,v,m')) :
 ∃ r w',(convert src dst (x.aB ρ ι)).run P w=.ok r w'∧dP ρ β ι n fr m m' a v r w':=by
 unfold bFw at h
 split at h
 ·rename_i e b off len cap he
  split at h
  ·rename_i B hB
   split at h
   ·rename_i hc
    simp only [Bool.and_eq_true,decide_eq_true_eq,Bool.not_eq_true'] at hc
    obtain ⟨⟨⟨hu,hsd⟩,hd⟩,U,hls⟩:=hc
    subst hsd
    have hu:=aZB hu
    simp only [Option.some.injEq,Prod.mk.injEq] at h
    obtain ⟨rfl,rfl,rfl⟩:=h
    have hnil:ι.nil b=false:=by
     cases hh:ι.nil b with
     | false=>rfl
     | true =>
       have K:=(hm.nils b B hB hd hh).2
       obtain ⟨q,hq⟩:=Option.isSome_iff_exists.1 hls
       have F:=eG (ρ:=ρ) (ι:=ι) hq
       rw [K] at F
       simp at F
       subst F
       exact absurd hq U
    obtain ⟨fz,rest,F,J,M,T⟩:=hm.blk b B hB hd hnil
    obtain ⟨A,c,hA,hAb⟩:∃ A c,SV.aB ρ ι (.s (.slc b off len cap))=.slice (some A) (len.i ρ).toNat c∧A.block=ι b:=by
     cases cap with
     | kn q=>exact ⟨addr ρ ι b off,(q.i ρ).toNat,by simp only [SV.aB,S.aB],rfl⟩
     | op q=>exact ⟨addr ρ ι b off,ι.cap b-(q.i ρ).toNat,by simp only [SV.aB,S.aB,hnil,Bool.false_eq_true,false_and,if_false],rfl⟩
     | tl o k z=>exact ⟨if ι.cap b=(k.i ρ).toNat∧(len.i ρ).toNat=0 then addr ρ ι b o else addr ρ ι b off,if z=true then 0 else ι.cap b-(k.i ρ).toNat,by simp only [SV.aB,S.aB],by split <;> rfl⟩
    have hshape:w.shape? (ι b)=some (B.ty,(cellsOf ρ ι B.aE++rest).toArray.size):=by
     unfold World.shape?;rw [F]
    refine ⟨SV.aB ρ ι (.s (.slc b off len cap)),w.freeze ⟨ι b,(cellsOf ρ ι B.aE++rest).toArray.size,none⟩ 1,?_,ι,rfl,hf,?_⟩
    ·rw [hA]
     simp [convert,run_underlying (aS he),run_underlying hu,markStringish,hAb,hshape]
    ·have:=hm.bJI hB hd hnil rest (fz':=if fz.1 == fz.2 then ((cellsOf ρ ι B.aE++rest).toArray.size,(cellsOf ρ ι B.aE++rest).toArray.size+1) else (min fz.1 (cellsOf ρ ι B.aE++rest).toArray.size,max fz.2 ((cellsOf ρ ι B.aE++rest).toArray.size+1))) F M T
     have hfr:w.freeze ⟨ι b,(cellsOf ρ ι B.aE++rest).toArray.size,none⟩ 1=Sx.cB w (ι b) (cellsOf ρ ι B.aE++rest) B.ty (if fz.1 == fz.2 then ((cellsOf ρ ι B.aE++rest).toArray.size,(cellsOf ρ ι B.aE++rest).toArray.size+1) else (min fz.1 (cellsOf ρ ι B.aE++rest).toArray.size,max fz.2 ((cellsOf ρ ι B.aE++rest).toArray.size+1))):=by
      unfold World.freeze Sx.cB
      rw [if_neg (by decide)]
      congr 1
      apply Array.ext_getElem?
      intro j
      rw [Array.getElem?_modify]
      split
      ·rename_i hj
       subst hj
       rw [Array.getElem?_setIfInBounds_self_of_lt (qD F),F]
       rfl
      ·rename_i hj
       rw [Array.getElem?_setIfInBounds_ne hj]
     rw [hfr];exact this
   ·cases h
  ·cases h
 ·cases h
theorem iK (k:IntKind) (i:Int) (y:Nat) (code:BoundsCode) (K:0≤i) (F:i≤y):(Instr.sliceBound (.int k i) y code).run P w=.ok i.toNat w:=by
 simp [Instr.sliceBound,asIntOf,K,F]
theorem dG {t e:TypeId} (ht:P.underlying t=some (.slice e)) {sz:Nat} (hs:cL P e=some sz) (base:Option Addr) (len cap:Nat) (lo hi:Option Value) (l h:Int) (hlo:(lo=none∧l=0)∨∃ k,lo=some (.int k l)) (hhi:(hi=none∧h=len)∨∃ k,hi=some (.int k h)) (K:0≤l) (F:l≤h) (J:h≤cap) (w:World) :
 (Instr.sliceAt t (.slice base len cap) lo hi none).run P w=.ok (.slice (if cap=l.toNat then base else base.map (·.add (l.toNat*sz))) (h.toNat-l.toNat) (cap-l.toNat)) w:=by
 have hz:=bD (w:=w) hs
 have eh:(h.toNat:Int)=h:=Int.toNat_of_nonneg (by omega)
 rcases hlo with ⟨rfl,rfl⟩ | ⟨k,rfl⟩ <;> rcases hhi with ⟨rfl,rfl⟩ | ⟨k',rfl⟩
 ·simp [Instr.sliceAt,run_underlying ht,Instr.slice,Instr.sliceBounds,hz]
 ·simp [Instr.sliceAt,run_underlying ht,Instr.slice,Instr.sliceBounds,iK,hz,J,(by omega:0≤h)]
 ·simp [Instr.sliceAt,run_underlying ht,Instr.slice,Instr.sliceBounds,iK,hz,K,F]
 ·simp [Instr.sliceAt,run_underlying ht,Instr.slice,Instr.sliceBounds,iK,hz,K,F,J,eh,(by omega:0≤h)]
theorem gE {d:Int} {x:Option SV} {z:Int} (h:uX d x=some z):(x.map (SV.aB ρ ι)=none∧z=d)∨∃ k,x.map (SV.aB ρ ι)=some (.int k z):=by
 cases x with
 | none=>simp only [uX,Option.some.injEq] at h;exact .inl ⟨rfl,h.symm⟩
 | some v=>obtain ⟨k,hk⟩:=iX (ρ:=ρ) (ι:=ι) h;exact .inr ⟨k,by rw [Option.map_some,hk]⟩
theorem bCh (hm:aG ρ β ι m w) (hf:aP ρ ι n fr a) {t:TypeId} {x:SV} {lo hi mx:Option SV} {nd:List E} {v:SV} {m':Mem} (h:aVX P m t x lo hi mx=some (nd,v,m')) :
 ∃ r w',(Instr.sliceAt t (x.aB ρ ι) (lo.map (SV.aB ρ ι)) (hi.map (SV.aB ρ ι)) (mx.map (SV.aB ρ ι))).run P w=.ok r w'∧dP ρ β ι n fr m m' a v r w':=by
 unfold aVX at h
 split at h
 ·cases h
 ·rename_i e ht
  split at h
  ·cases h
  ·rename_i sz hsz
   split at h
   ·split at h
    ·rename_i hc
     obtain ⟨F,J,rfl⟩:=hc
     simp only [Option.some.injEq,Prod.mk.injEq] at h
     obtain ⟨rfl,rfl,rfl⟩:=h
     have hr:=dG (aS ht) hsz none 0 0 _ _ 0 0 (gE (ρ:=ρ) (ι:=ι) F) (gE (ρ:=ρ) (ι:=ι) J) (Int.le_refl _) (Int.le_refl _) (Int.le_refl _) w
     exact ⟨_,w,hr,ι,by simp [SV.aB,S.aB],hf,hm⟩
    ·cases h
   ·rename_i b o ln cap
    split at h
    ·rename_i l hh B hl hhi hB
     split at h
     ·rename_i L hL
      split at h
      ·rename_i hc
       obtain ⟨hd,hLp,ho,U,hlh,hhn,hln,hszp,rfl,hrf⟩:=hc
       have hnil:ι.nil b=false:=by
        cases hq:ι.nil b with
        | false=>rfl
        | true =>
          have:=(hm.nils b B hB hd hq).2
          rw [dZ hL] at this
          have:=congrArg List.length this
          simp at this;subst this;simp at hLp
       obtain ⟨C,hroom⟩:=aDZ hm hB hd hnil hL hszp o ln (by omega) cap
       obtain ⟨hconc,hC⟩:=hroom 0 hrf
       have hr:=dG (aS ht) hsz (some ⟨ι b,o.toNat,none⟩) ln.toNat C _ _ l hh (gE (ρ:=ρ) (ι:=ι) hl) (by
        rcases gE (ρ:=ρ) (ι:=ι) hhi with ⟨F,J⟩ | F
        ·exact .inl ⟨F,by omega⟩
        ·exact .inr F) U hlh (by omega) w
       rw [show SV.aB ρ ι (.s (.slc b (.lit o) (.lit ln) cap))=_ from hconc ln]
       have haddr:(if C=l.toNat then some (⟨ι b,o.toNat,none⟩:Addr) else (some (⟨ι b,o.toNat,none⟩:Addr)).map (·.add (l.toNat*sz)))=some ⟨ι b,(o+l*sz).toNat,none⟩:=by
        have e1:(o+l*sz).toNat=o.toNat+l.toNat*sz:=by
         obtain ⟨p,rfl⟩:=Int.eq_ofNat_of_zero_le ho
         obtain ⟨q,rfl⟩:=Int.eq_ofNat_of_zero_le U
         simp only [Int.toNat_natCast]
         exact_mod_cast Int.toNat_natCast (p+q*sz)
        by_cases hcl:C=l.toNat
        ·rcases hln with h9 | h9
         ·rw [if_pos hcl,e1,h9];simp
         ·omega
        ·rw [if_neg hcl,Option.map_some,Addr.add_lit,e1]
       rw [haddr] at hr
       split at h
       ·rename_i c
        simp only [Option.some.injEq,Prod.mk.injEq] at h
        obtain ⟨rfl,rfl,rfl⟩:=h
        have hCc:C=c.toNat:=by
         have:=hconc ln
         simp only [S.aB,aC,Value.slice.injEq] at this
         exact this.2.2.symm
        refine ⟨_,w,hr,ι,?_,hf,hm⟩
        simp only [SV.aB,S.aB,addr,aC,Value.slice.injEq,true_and]
        omega
       ·rename_i k
        simp only [Option.some.injEq,Prod.mk.injEq] at h
        obtain ⟨rfl,rfl,rfl⟩:=h
        have hCc:C=ι.cap b-k.toNat:=by
         have:=hconc ln
         simp only [S.aB,hnil,Bool.false_eq_true,false_and,if_false,aC,Value.slice.injEq] at this
         exact this.2.2.symm
        have hk:0≤k:=by
         simp only [roomFor,decide_eq_true_eq] at hrf;exact hrf.1
        refine ⟨_,w,hr,ι,?_,hf,hm⟩
        simp only [SV.aB,S.aB,addr,hnil,Bool.false_eq_true,false_and,if_false,aC,Value.slice.injEq,true_and]
        omega
       ·cases h
      ·cases h
     ·cases h
    ·cases h
   ·cases h
theorem pC (hf:aP ρ ι n fr a) {x:Option Operand} {v:Option SV} (h:xM fr x=some v):x.map a.eval=v.map (SV.aB ρ ι):=by
 cases x with
 | none=>simp only [xM,Option.some.injEq] at h;subst h;rfl
 | some x =>
   simp only [xM,Option.map_eq_some_iff] at h
   obtain ⟨u,hu,rfl⟩:=h
   simp only [Option.map_some,aO hf (fun e he=>by cases he) hu]
theorem bKa (hm:aG ρ β ι m w) (hf:aP ρ ι n fr a) {o:Oper} {nd:List E} {v:SV} {m':Mem} (h:bSB P fr m o.op=some (nd,v,m')) :
 ∃ x w',(execOp a.eval o).run P w=.ok (.value x) w'∧dP ρ β ι n fr m m' a v x w':=by
 have hG:eA ρ []:=fun e he=>by cases he
 unfold bSB at h
 split at h
 ·rename_i t u x ha
  unfold pO at ha
  split at ha
  ·rename_i c ho
   obtain ⟨callee,args,argTypes⟩:=c
   split at ha
   ·rename_i s x' t1 t2 hcal har hat
    simp only at hcal har hat
    obtain rfl:args=#[s,x']:=Array.ext' har
    obtain rfl:argTypes=#[t1,t2]:=Array.ext' hat
    subst hcal
    split at ha
    ·rename_i htt;subst htt
     split at ha
     ·rename_i u' v' hu hv
      simp only [Option.some.injEq,Prod.mk.injEq] at ha
      obtain ⟨rfl,rfl,rfl⟩:=ha
      obtain ⟨r,w',hr,haf⟩:∃ r w',(Builtin.append_ #[t1,t1] o.type #[u'.aB ρ ι,v'.aB ρ ι]).run P w=.ok r w'∧dP ρ β ι n fr m m' a v r w':=by
       split at h
       ·rename_i q hq
        simp only [Option.some.injEq] at h;subst h
        exact aUw (ty:=o.type) hm hf hq
       ·exact bBg (ty:=o.type) hm hf h
      refine ⟨r,w',?_,haf⟩
      unfold execOp
      simp only [ho,resolve,invoke,builtin,Sem.run_bind,Sem.run_pure,Result.andThen_ok,List.map_toArray,List.map_cons,List.map_nil,aO hf hG hu,aO hf hG hv,hr]
     ·cases ha
    ·cases ha
   ·cases ha
  ·cases ha
 ·split at h
  ·rename_i t x ha
   unfold aWC at ha
   split at ha
   ·rename_i c ho
    obtain ⟨callee,args,argTypes⟩:=c
    split at ha
    ·rename_i x' t1 hcal har hat
     simp only at hcal har hat
     obtain rfl:args=#[x']:=Array.ext' har
     obtain rfl:argTypes=#[t1]:=Array.ext' hat
     subst hcal
     simp only [Option.map_eq_some_iff,Prod.mk.injEq] at ha
     obtain ⟨u,hu,rfl,rfl⟩:=ha
     obtain ⟨r,w',hr,haf⟩:=bHQ (ty:=o.type) hm hf h
     refine ⟨r,w',?_,haf⟩
     unfold execOp
     simp only [ho,resolve,invoke,builtin,Sem.run_bind,Sem.run_pure,Result.andThen_ok,List.map_toArray,List.map_cons,List.map_nil,aO hf hG hu,hr]
    ·cases ha
   ·cases ha
  ·split at h
   ·rename_i t t' u x ha
    unfold nP at ha
    split at ha
    ·rename_i c ho
     obtain ⟨callee,args,argTypes⟩:=c
     split at ha
     ·rename_i s x' t1 t2 hcal har hat
      simp only at hcal har hat
      obtain rfl:args=#[s,x']:=Array.ext' har
      obtain rfl:argTypes=#[t1,t2]:=Array.ext' hat
      subst hcal
      split at ha
      ·rename_i u' v' hu hv
       simp only [Option.some.injEq,Prod.mk.injEq] at ha
       obtain ⟨rfl,rfl,rfl,rfl⟩:=ha
       obtain ⟨r,w',hr,haf⟩:=aUy (ty:=o.type) hm hf h
       refine ⟨r,w',?_,haf⟩
       unfold execOp
       simp only [ho,resolve,invoke,builtin,Sem.run_bind,Sem.run_pure,Result.andThen_ok,List.map_toArray,List.map_cons,List.map_nil,aO hf hG hu,aO hf hG hv,hr]
      ·cases ha
     ·cases ha
    ·cases ha
   ·split at h
    ·rename_i t l c ho
     split at h
     ·rename_i u v' hu hv
      obtain ⟨r,w',hr,haf⟩:=bBz hm hf h
      refine ⟨r,w',?_,haf⟩
      simp only [execOp,ho,aO hf hG hu,aO hf hG hv,Sem.run_bind,hr,Result.andThen_ok,Sem.run_pure]
     ·cases h
    ·rename_i t x lo hi mx ho
     split at h
     ·rename_i u v1 v2 v3 hu F J M
      obtain ⟨r,w',hr,haf⟩:=bCh hm hf h
      refine ⟨r,w',?_,haf⟩
      simp only [execOp,ho,aO hf hG hu,pC hf F,pC hf J,pC hf M,Sem.run_bind,hr,Result.andThen_ok,Sem.run_pure]
     ·cases h
    ·rename_i src dst x ho
     split at h
     ·rename_i u hu
      split at h
      ·rename_i r hb
       simp only [Option.some.injEq] at h;subst h
       obtain ⟨r,w',hr,haf⟩:=bBe hm hf hb
       refine ⟨r,w',?_,haf⟩
       simp only [execOp,ho,aO hf hG hu,Sem.run_bind,hr,Result.andThen_ok,Sem.run_pure]
      ·obtain ⟨r,w',hr,haf⟩:=bFx hm hf h
       refine ⟨r,w',?_,haf⟩
       simp only [execOp,ho,aO hf hG hu,Sem.run_bind,hr,Result.andThen_ok,Sem.run_pure]
     ·cases h
    ·cases h
theorem bSE (hH:H.ok ρ) (hm:aG ρ β ι m w) (hf:aP ρ ι n fr a) {o:Oper} {nd:List E} {v:SV} {m':Mem} (h:wop P H fr m o.op=some (nd,v,m')) (hn:bC ρ nd) :
 ∃ x w',((execOp a.eval o).run P w=.ok (.value x) w'∨(execOp a.eval o).run P w=.ok .skip w'∧x=Go.undef)∧dP ρ β ι n fr m m' a v x w':=by
 unfold wop at h
 split at h
 ·rename_i r hr
  simp only [Option.some.injEq] at h;subst h
  exact bJZ hH hm hf hr hn
 ·obtain ⟨x,w',F,J⟩:=bKa hm hf h
  exact ⟨x,w',.inl F,J⟩
end
end Go.Sx
