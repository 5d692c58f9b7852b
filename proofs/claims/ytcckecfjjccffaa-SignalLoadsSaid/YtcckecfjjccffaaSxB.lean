/- A run of a program by symbols, proved sound, second part: operations that write, calls, regions, the code, ways that meet again. It imports no program. -/
import Derived.Test.YtcckecfjjccffaaSxA
set_option linter.unusedVariables false
set_option linter.unusedSimpArgs false
namespace Go.Sx
def eE:List Seg→Option Nat
 | []=>some 0
 | .one _::l=>(eE l).map (·+1)
 | .run _ (.lit z) _ _::l=>if 0≤z then (eE l).map (·+z.toNat) else none
 | .rows (.lit z) fs _::l=>if 0≤z then (eE l).map (·+z.toNat*fs.length) else none
 | _=>none
def pack:List Seg→List Seg
 | []=>[]
 | .one (.int k (.lit 0))::l =>
   match pack l with
   | .run k' (.lit n) (.tab []) o::r=>if k=k'∧0≤n then .run k (.lit (n+1)) (.tab []) o::r else .run k (.lit 1) (.tab []) 0::.run k' (.lit n) (.tab []) o::r
   | r=>.run k (.lit 1) (.tab []) 0::r
 | x::l=>x::pack l
def aCt:List Seg→Option (List XF)
 | []=>some []
 | .one (.int k (.lit _))::l=>(aCt l).map ((some k,.tab [])::·)
 | .one (.bool (.blit _))::l=>(aCt l).map ((none,.tab [])::·)
 | _=>none
def bEY (sh:TypeId→Option (List Seg)):List Field→Option (List Seg)
 | []=>some []
 | f::l=>match sh f.type,bEY sh l with
   | some a,some b=>some (a++b)
   | _,_=>none
def aUR (P:Program):Nat→TypeId→Option (List Seg)
 | 0,_=>none
 | d+1,t=>match P.underlying t with
   | some (.int k)=>some [.one (.int k (.lit 0))]
   | some .bool=>some [.one (.bool (.blit false))]
   | some (.pointer _)=>some [.one .nil]
   | some (.slice _)=>some [.one .nilSlc]
   | some (.func ..)=>some [.one .nilFn]
   | some .string=>some [.one (.str [])]
   | some (.interface _)=>some [.one .nilIface]
   | some (.struct fs)=>bEY (aUR P d) fs.toList
   | some (.array n e)=>match aUR P d e with
     | some [.one (.int k _)]=>some [.run k (.lit n) (.tab []) 0]
     | some l=>match aCt l with
       | some fs=>if 2≤fs.length∧2≤n then some [.rows (.lit n) fs 0] else some (List.replicate n l).flatten
       | none=>if n≤64 then some (List.replicate n l).flatten else none
     | none=>none
   | _=>none
def uS:List Seg→Option (List (Nat × List S))
 | []=>some []
 | .one x::l=>(uS l).map ((1,[x])::·)
 | .run k (.lit n) (.tab []) _::l=>if 0≤n then (uS l).map ((n.toNat,[.int k (.lit 0)])::·) else none
 | .rows (.lit n) fs _::l=>if 0≤n∧fs.all (fun f=>decide (f.2=.tab []))=true then (uS l).map ((n.toNat,fs.map fun f=>match f.1 with | some k=>.int k (.lit 0) | none=>.bool (.blit false))::·) else none
 | _=>none
def isS:S→Value→Bool
 | .int k (.lit 0),.int k' z=>decide (k=k')&&decide (z=0)
 | .bool (.blit false),.bool b=>!b
 | x,v=>decide (rJ v=some x)
def aVr:List Value→List S→List S→Nat→List (Nat × List S)→Bool
 | [],cur,_,n,rest=>cur.isEmpty&&(n == 0&&rest.isEmpty)
 | v::l,cur,full,n,rest=>match cur with
   | x::cur'=>if isS x v then aVr l cur' full n rest else false
   | []=>match n with
     | n+1=>match full with
       | x::f=>if isS x v then aVr l f (x::f) n rest else false
       | []=>false
     | 0=>match rest with
       | (n+1,x::f)::rest'=>if isS x v then aVr l f (x::f) n rest' else false
       | _=>false
def xE (P:Program) (t:TypeId):Option SV :=
 match (P.info? t).bind (·.zero) with
 | some z=>match z with
   | .agg cs=>match aUR P 12 t with
     | some sh=>match uS sh with
       | some pl=>if aVr cs.toList [] [] 0 pl=true then some (.agg sh) else none
       | none=>none
     | none=>none
   | z=>ofValue z
 | none=>none
section
variable {ρ:Env} {ι:Loc} {P:Program} {w:World}
theorem eQ:∀ {l:List Seg} {n:Nat},eE l=some n→(cellsOf ρ ι l).length=n
 | [],n,h=>by simp only [eE,Option.some.injEq] at h;subst h;rfl
 | .one x::l,n,h=>by
   simp only [eE,Option.map_eq_some_iff] at h
   obtain ⟨k,hk,rfl⟩:=h
   rw [aG,aY,List.length_append,eQ hk];simp;omega
 | .run kd e A o::l,n,h=>by
   cases e with
   | lit z =>
     simp only [eE] at h
     split at h
     ·simp only [Option.map_eq_some_iff] at h
      obtain ⟨k,hk,rfl⟩:=h
      rw [aG,List.length_append,bH,aF,eQ hk];omega
     ·cases h
   | _=>simp [eE] at h
 | .rows e fs o::l,n,h=>by
   cases e with
   | lit z =>
     simp only [eE] at h
     split at h
     ·simp only [Option.map_eq_some_iff] at h
      obtain ⟨k,hk,rfl⟩:=h
      rw [aG,List.length_append,eP,aF,eQ hk];omega
     ·cases h
   | _=>simp [eE] at h
theorem aBe {x:S} (hx:∀ n,x ≠ .val n):(x.aC ρ ι).cells=#[x.aC ρ ι]:=by
 cases x with
 | val n=>exact absurd rfl (hx n)
 | slc b off len c=>cases c <;> simp only [S.aC] <;> (try split) <;> rfl
 | xslc i j off len=>simp only [S.aC,Ext.sub];split <;> rfl
 | xtl i j o off=>simp only [S.aC,Ext.tl];split <;> rfl
 | xptr i j k f=>simp only [S.aC,Ext.ptr];split <;> rfl
 | _=>rfl
theorem bER (k:IntKind) (n:Nat) (o:Nat):(Seg.run k (.lit n) (.tab []) o).cells ρ ι=List.replicate n (.int k 0):=by
 simp only [Seg.cells,aF,Int.toNat_natCast,cB,List.getD_nil]
 rw [List.map_const'];simp
def gR (ρ:Env) (ι:Loc) (l:List S):List Value:=l.map fun x=>x.aC ρ ι
def aGt (ρ:Env) (ι:Loc) (l:List (Nat × List S)):List Value:=l.flatMap fun p=>(List.replicate p.1 (gR ρ ι p.2)).flatten
theorem aTY {x:S} {v:Value} (h:isS x v=true):v=x.aC ρ ι:=by
 unfold isS at h
 split at h
 ·simp only [Bool.and_eq_true,decide_eq_true_eq] at h;obtain ⟨rfl,rfl⟩:=h;rfl
 ·rename_i b;cases b <;> simp at h;rfl
 ·exact rK (of_decide_eq_true h)
theorem bJe:∀ {l:List Value} {cur full:List S} {n:Nat} {rest:List (Nat × List S)},aVr l cur full n rest=true →
 l=gR ρ ι cur++((List.replicate n (gR ρ ι full)).flatten++aGt ρ ι rest):=by
 intro l
 induction l with
 | nil =>
   intro cur full n rest h
   simp only [aVr,Bool.and_eq_true,List.isEmpty_iff,beq_iff_eq] at h
   obtain ⟨rfl,rfl,rfl⟩:=h;rfl
 | cons v l ih =>
   intro cur full n rest h
   unfold aVr at h
   cases cur with
   | cons x cur' =>
     simp only at h
     split at h
     ·rename_i hx;rw [ih h,aTY (ρ:=ρ) (ι:=ι) hx];simp [gR]
     ·cases h
   | nil =>
     cases n with
     | succ n =>
       cases full with
       | nil=>cases h
       | cons x f =>
         simp only at h
         split at h
         ·rename_i hx
          rw [ih h,aTY (ρ:=ρ) (ι:=ι) hx];simp [gR,List.replicate_succ]
         ·cases h
     | zero =>
       simp only at h
       split at h
       ·split at h
        ·rename_i hx
         rw [ih h,aTY (ρ:=ρ) (ι:=ι) hx];simp [gR,aGt,List.replicate_succ]
        ·cases h
       ·cases h
theorem bAz:∀ {l:List Seg} {p:List (Nat × List S)},uS l=some p→aGt ρ ι p=cellsOf ρ ι l:=by
 intro l
 induction l with
 | nil=>intro p h;simp only [uS,Option.some.injEq] at h;subst h;rfl
 | cons s l ih =>
   intro p h
   unfold uS at h
   split at h
   ·contradiction
   ·rename_i M;cases M
    simp only [Option.map_eq_some_iff] at h
    obtain ⟨q,hq,rfl⟩:=h
    rw [aG,aY,← ih hq];simp [aGt,gR]
   ·rename_i M;cases M
    split at h
    ·rename_i k n o hn
     simp only [Option.map_eq_some_iff] at h
     obtain ⟨q,hq,rfl⟩:=h
     obtain ⟨n,rfl⟩:=Int.eq_ofNat_of_zero_le hn
     rw [aG,← ih hq,bER]
     simp [aGt,gR,S.aC,aF]
    ·cases h
   ·rename_i M;cases M
    split at h
    ·rename_i n fs o hn
     simp only [Option.map_eq_some_iff] at h
     obtain ⟨q,hq,rfl⟩:=h
     rw [aG,← ih hq]
     have hc:∀ j,(fs.map fun f=>XF.aC ρ f j)=gR ρ ι (fs.map fun f=>match f.1 with | some k=>S.int k (.lit 0) | none=>.bool (.blit false)):=by
      intro j
      rw [gR,List.map_map]
      refine List.map_congr_left fun f hf=>?_
      have F:=List.all_eq_true.1 hn.2 f hf
      simp only [decide_eq_true_eq] at F
      simp only [XF.aC,F,cB,List.getD_nil,Function.comp]
      split <;> rename_i he <;> simp [he,S.aC,aF,aP]
     have hr:(Seg.rows (.lit n) fs o).cells ρ ι=(List.replicate n.toNat (gR ρ ι (fs.map fun f=>match f.1 with | some k=>S.int k (.lit 0) | none=>.bool (.blit false)))).flatten:=by
      simp only [Seg.cells,aF]
      rw [show (fun j=>fs.map fun f=>XF.aC ρ f (o+j))=fun _=>gR ρ ι (fs.map fun f=>match f.1 with | some k=>S.int k (.lit 0) | none=>.bool (.blit false)) from funext fun j=>hc _]
      generalize gR ρ ι _=L
      rw [List.flatMap_def,List.map_const'];simp
     rw [hr];simp [aGt]
    ·cases h
   ·cases h
theorem oU {t:TypeId} {v:SV} (h:xE P t=some v):(zeroValue t).run P w=.ok (v.aC ρ ι) w:=by
 unfold xE at h
 split at h
 ·rename_i z hz
  rw [Option.bind_eq_some_iff] at hz
  obtain ⟨i,hi,hz⟩:=hz
  have:(zeroValue t).run P w=.ok z w:=by simp [zeroValue,typeInfo,hi,hz]
  rw [this]
  split at h
  ·rename_i cs
   split at h
   ·split at h
    ·rename_i pl hpl
     split at h
     ·rename_i hc
      simp only [Option.some.injEq] at h;subst h
      have:=bJe (ρ:=ρ) (ι:=ι) hc
      simp only [gR,List.map_nil,List.replicate_zero,List.flatten_nil,List.nil_append,bAz hpl] at this
      simp only [SV.aC,← this]
     ·cases h
    ·cases h
   ·cases h
  ·rw [aCV (ρ:=ρ) (ι:=ι) h]
 ·cases h
end
def bFb (aH:List Seg) (off n:Nat) (new:List Seg):Option (List Seg) :=
 if eE new=some n then
  match bT off aH,bL (off+n) aH with
  | some a,some b=>some (a++new++b)
  | _,_=>none
 else none
def aGZ:SV→Option (List Seg)
 | .s (.val _)=>none
 | .s x=>some [.one x]
 | .agg l=>some l
 | _=>none
def aDi (place:Nat→Option (Nat × Nat)):List Seg→List (Nat × SV)→Option (List Seg)
 | aH,[]=>some aH
 | aH,(i,v)::r=>match place i,aGZ v with
   | some (off,n),some l=>match bFb aH off n l with
     | some s=>aDi place s r
     | none=>none
   | _,_=>none
def aSZ (P:Program):List Field→Option (List (Nat × Nat))
 | []=>some []
 | f::l=>match dA P f.type,aSZ P l with
   | some n,some r=>some ((f.offset,n)::r)
   | _,_=>none
def aUB (P:Program) (t:TypeId) (parts:List (Nat × SV)):Option (List E × SV) :=
 match xE P t with
 | some (.agg z)=>match P.underlying t with
   | some (.struct fs)=>match aSZ P fs.toList with
     | some ps=>(aDi (ps[·]?) z parts).map fun l=>([],.agg l)
     | none=>none
   | some (.array _ e)=>match dA P e with
     | some n=>(aDi (fun i=>some (i*n,n)) z parts).map fun l=>([],.agg l)
     | none=>none
   | _=>none
 | _=>none
section
variable {ρ:Env} {ι:Loc} {P:Program} {w:World}
theorem aEu {v:SV} {l:List Seg} (h:aGZ v=some l):(v.aC ρ ι).cells=(cellsOf ρ ι l).toArray:=by
 unfold aGZ at h
 split at h
 ·cases h
 ·rename_i x hx
  simp only [Option.some.injEq] at h;subst h
  show (S.aC ρ ι x).cells=_
  rw [aBe (fun n hn=>hx n hn)];simp [cellsOf,Seg.cells]
 ·simp only [Option.some.injEq] at h;subst h;rfl
 ·cases h
theorem zI (off:Nat):∀ (l:List Value) (k:Nat) (cs:Array Value),off+k+l.length≤cs.size →
 ((l.zipIdx k).foldl (fun cs (p:Value × Nat)=>cs.setIfInBounds (off+p.2) p.1) cs).toList=cs.toList.take (off+k)++l++cs.toList.drop (off+k+l.length)
 | [],k,cs,h=>by simp
 | v::l,k,cs,h=>by
   simp only [List.length_cons] at h
   simp only [List.zipIdx_cons,List.foldl_cons]
   rw [zI off l (k+1) _ (by simp;omega)]
   apply List.ext_getElem?
   intro j
   simp only [Array.toList_setIfInBounds,List.getElem?_append,List.length_append,List.length_take,List.length_set,List.getElem?_take,List.getElem?_set,List.getElem?_drop,List.length_cons,Array.length_toList]
   by_cases F:j<off+k
   ·rw [if_pos (by omega),if_pos (by omega),if_pos (by omega),if_neg (by omega),if_pos (by omega),if_pos (by omega),if_pos F]
   ·by_cases J:j=off+k
    ·subst J
     rw [if_pos (by omega),if_pos (by omega),if_pos (by omega),if_pos rfl,if_pos (by omega),if_pos (by omega),if_neg (by omega),show off+k-min (off+k) cs.size=0 by omega];rfl
    ·by_cases N:j<off+k+1+l.length
     ·rw [if_pos (by omega),if_neg (by omega),if_pos (by omega),if_neg (by omega),show j-min (off+k) cs.size=(j-min (off+(k+1)) cs.size)+1 by omega,List.getElem?_cons_succ]
     ·rw [if_neg (by omega),if_neg (by omega),if_neg (by omega)]
      congr 1;omega
theorem wN {place:Nat→Option (Nat × Nat)}:∀ {parts:List (Nat × SV)} {aH l:List Seg},aDi place aH parts=some l →
 Instr.fill place (cellsOf ρ ι aH).toArray (parts.map fun p=>(p.1,p.2.aC ρ ι))=some (cellsOf ρ ι l).toArray
 | [],aH,l,h=>by simp only [aDi,Option.some.injEq] at h;subst h;rfl
 | (i,v)::r,aH,l,h=>by
   simp only [aDi] at h
   split at h
   ·rename_i off n l' hp hv
    split at h
    ·rename_i s hs
     unfold bFb at hs
     split at hs
     ·rename_i hlen
      split at hs
      ·rename_i a b ha hb
       simp only [Option.some.injEq] at hs;subst hs
       have M:=eJ (ρ:=ρ) (ι:=ι) _ _ _ ha
       have T:=dP (ρ:=ρ) (ι:=ι) _ _ _ hb
       have Z:=eQ (ρ:=ρ) (ι:=ι) hlen
       have e4:=aEu (ρ:=ρ) (ι:=ι) hv
       have hf:((v.aC ρ ι).cells.zipIdx.foldl (fun cs (p:Value × Nat)=>cs.setIfInBounds (off+p.2) p.1) (cellsOf ρ ι aH).toArray)=(cellsOf ρ ι (a++l'++b)).toArray:=by
        rw [e4,cH,cH,M.1,T.1]
        have:=zI off (cellsOf ρ ι l') 0 (cellsOf ρ ι aH).toArray (by simp;omega)
        simp only [Nat.add_zero] at this
        rw [Z] at this
        rw [← this]
        simp
       simp only [List.map_cons,Instr.fill,hp]
       have hsz:(v.aC ρ ι).cells.size=n:=by rw [e4];simpa using Z
       have hle:off+(v.aC ρ ι).cells.size≤(cellsOf ρ ι aH).toArray.size:=by rw [hsz];simpa using T.2
       rw [if_neg (by simp [hsz];rw [hsz] at hle;simpa using hle)]
       rw [show ((v.aC ρ ι).cells.zipIdx.foldl (fun cs x=>match x with | (c,j)=>cs.setIfInBounds (off+j) c) (cellsOf ρ ι aH).toArray)=_ from hf]
       exact wN h
      ·cases hs
     ·cases hs
    ·cases h
   ·cases h
theorem aTa (w:World):∀ {l:List Field} {r:List (Nat × Nat)},aSZ P l=some r→(l.mapM fun f=>do pure (f.offset,← sizeOf f.type):Sem (List (Nat × Nat))).run P w=.ok r w
 | [],r,h=>by simp only [aSZ,Option.some.injEq] at h;subst h;simp
 | f::l,r,h=>by
   simp only [aSZ] at h
   split at h
   ·rename_i n r' hn hr
    simp only [Option.some.injEq] at h;subst h
    have:=aTa w hr
    rw [List.mapM_cons]
    simp only [Sem.run_bind,bG hn,Result.andThen_ok,Sem.run_pure,this]
   ·cases h
theorem bAG {t:TypeId} {parts:List (Nat × SV)} {nd:List E} {r:SV} (h:aUB P t parts=some (nd,r)) :
 (Instr.build t (parts.map fun p=>(p.1,p.2.aC ρ ι)).toArray).run P w=.ok (r.aC ρ ι) w:=by
 unfold aUB at h
 split at h
 ·rename_i z hz
  have hzero:=oU (ρ:=ρ) (ι:=ι) (w:=w) hz
  unfold Instr.build
  rw [Sem.run_bind,hzero,Result.andThen_ok]
  rw [show (SV.aC ρ ι (.agg z)).cells=(cellsOf ρ ι z).toArray from rfl]
  split at h
  ·rename_i fs hu
   split at h
   ·rename_i ps hps
    simp only [Option.map_eq_some_iff,Prod.mk.injEq] at h
    obtain ⟨l,hl,rfl,rfl⟩:=h
    rw [Sem.run_bind,run_underlying hu,Result.andThen_ok]
    have hm:(fs.mapM fun f=>do pure (f.offset,← sizeOf f.type):Sem (Array (Nat × Nat))).run P w=.ok ps.toArray w:=by
     have:=aTa w hps
     rw [Array.mapM_eq_mapM_toList,Sem.run_map,this]
     rfl
    have key:=wN (ρ:=ρ) (ι:=ι) hl
    generalize (parts.map fun p=>(p.1,p.2.aC ρ ι))=pp at key ⊢
    simp only [Sem.run_bind,hm,Result.andThen_ok]
    simp [key,SV.aC]
   ·cases h
  ·rename_i n e hu
   split at h
   ·rename_i k hk
    simp only [Option.map_eq_some_iff,Prod.mk.injEq] at h
    obtain ⟨l,hl,rfl,rfl⟩:=h
    rw [Sem.run_bind,run_underlying hu,Result.andThen_ok]
    have key:=wN (ρ:=ρ) (ι:=ι) hl
    generalize (parts.map fun p=>(p.1,p.2.aC ρ ι))=pp at key ⊢
    simp [bG hk,key,SV.aC]
   ·cases h
  ·cases h
 ·cases h
theorem bAL {z:List Value} {k:Nat} (hz:z.length=k):∀ n,(List.range (n*k)).map (fun i=>z[i%k]!)=(List.replicate n z).flatten:=by
 intro n
 induction n with
 | zero=>simp
 | succ n ih =>
   rw [Nat.succ_mul,List.range_add,List.map_append,ih,List.replicate_succ',List.flatten_append]
   congr 1
   simp only [List.map_map,List.flatten_cons,List.flatten_nil,List.append_nil]
   apply List.ext_getElem?
   intro j
   simp only [List.getElem?_map,Function.comp_def]
   by_cases hj:j<k
   ·rw [List.getElem?_range hj]
    simp only [Option.map_some,Nat.mul_add_mod_self_right,Nat.mod_eq_of_lt hj]
    rw [List.getElem?_eq_getElem (by omega),getElem!_pos z j (by omega)]
   ·rw [List.getElem?_eq_none (by simp;omega),List.getElem?_eq_none (by omega)];rfl
theorem aDF (l:List (List Seg)):cellsOf ρ ι l.flatten=(l.map (cellsOf ρ ι)).flatten:=by
 induction l with
 | nil=>rfl
 | cons a l ih=>rw [List.flatten_cons,cH,ih];rfl
end
def aCD (k:IntKind):List Seg→Option (List Int)
 | []=>some []
 | .one (.int k' (.lit z))::l=>if k'=k then (aCD k l).map (z::·) else none
 | _=>none
def aVg (l:List Seg):List Seg :=
 match l with
 | .one (.int k _)::_=>match aCD k l with
   | some zs=>[.run k (.lit zs.length) (.tab zs) 0]
   | none=>l
 | _=>l
def bAJ (P:Program) (e:TypeId) (len n:Nat) (idx:List Nat) (vals:List SV):Option (List Seg) :=
 match xE P e with
 | some z0=>match aGZ z0 with
   | some zs=>if n ≠ 0∧eE zs=some n∧len ≠ 0 then (aDi (fun i=>some (i*n,n)) (List.replicate len zs).flatten (idx.zip vals)).map aVg else none
   | none=>none
 | none=>none
section
variable {ρ:Env} {ι:Loc} {P:Program} {w:World}
theorem aGf {k:IntKind}:∀ {l:List Seg} {zs:List Int},aCD k l=some zs→cellsOf ρ ι l=zs.map fun z=>.int k z
 | [],zs,h=>by simp only [aCD,Option.some.injEq] at h;subst h;rfl
 | x::l,zs,h=>by
   unfold aCD at h
   split at h
   ·contradiction
   ·rename_i heq
    cases heq
    split at h
    ·rename_i hk;subst hk
     simp only [Option.map_eq_some_iff] at h
     obtain ⟨r,hr,rfl⟩:=h
     rw [aG,aGf hr];rfl
    ·cases h
   ·cases h
theorem bBC (l:List Seg):cellsOf ρ ι (aVg l)=cellsOf ρ ι l:=by
 unfold aVg
 split
 ·split
  ·rename_i zs hz
   rw [aGf (ρ:=ρ) (ι:=ι) hz]
   simp only [cellsOf,List.flatMap_cons,List.flatMap_nil,List.append_nil,Seg.cells,aF,cB,Int.toNat_natCast,Nat.zero_add]
   apply List.ext_getElem?
   intro j
   simp only [List.getElem?_map]
   by_cases hj:j<zs.length
   ·rw [List.getElem?_range hj,List.getElem?_eq_getElem hj]
    simp [List.getD_eq_getElem?_getD,List.getElem?_eq_getElem hj]
   ·rw [List.getElem?_eq_none (by simpa using hj),List.getElem?_eq_none (by omega)];rfl
  ·rfl
 ·rfl
theorem aZl {e:TypeId} {len n:Nat} {idx:List Nat} {vals:List SV} {l:List Seg} (h:bAJ P e len n idx vals=some l) :
 len*n ≠ 0∧∃ z,(zeroValue e).run P w=.ok z w∧Instr.fill (fun i=>some (i*n,n)) ((Array.range (len*n)).map (z.cells[·%z.cells.size]!)) (idx.zip (vals.map (SV.aC ρ ι)))=some (cellsOf ρ ι l).toArray:=by
 unfold bAJ at h
 split at h
 ·rename_i z0 hz
  split at h
  ·rename_i zs hzs
   split at h
   ·rename_i hc
    simp only [Option.map_eq_some_iff] at h
    obtain ⟨l',hl',rfl⟩:=h
    refine ⟨Nat.mul_ne_zero hc.2.2 hc.1,z0.aC ρ ι,oU hz,?_⟩
    have M:=aEu (ρ:=ρ) (ι:=ι) hzs
    have T:=eQ (ρ:=ρ) (ι:=ι) hc.2.1
    have Z:((Array.range (len*n)).map ((z0.aC ρ ι).cells[·%(z0.aC ρ ι).cells.size]!))=(cellsOf ρ ι (List.replicate len zs).flatten).toArray:=by
     rw [M,aDF,List.map_replicate,← bAL T]
     apply Array.ext'
     simp [T]
    rw [Z,bBC]
    have:=wN (ρ:=ρ) (ι:=ι) hl'
    rw [← this]
    congr 1
    rw [List.zip_map_right]
    rfl
   ·cases h
  ·cases h
 ·cases h
end
def aSu (bit:Bool) (n A B:E) (o q:Nat):E:=if A=B∧o=q then .blit true else .aeq bit n A B o q
def aCq (n:E) (o q:Nat):List XF→List XF→Option E
 | [],[]=>some (.blit true)
 | f::l,g::r=>if f.1=g.1 then (aCq n o q l r).map fun e=>mkAnd (aSu f.1.isNone n f.2 g.2 o q) e else none
 | _,_=>none
def vY (eq:List Seg→List Seg→Option E) (sz:Nat):Nat→List Seg→List Seg→Option E
 | 0,_,_=>some (.blit true)
 | k+1,l,r=>match bT sz l,bT sz r,bL sz l,bL sz r with
   | some a,some b,some l',some r'=>match eq a b,vY eq sz k l' r' with
     | some e,some e'=>some (mkAnd e e')
     | _,_=>none
   | _,_,_,_=>none
def bGT (eq:TypeId→List Seg→List Seg→Option E) (P:Program) (l r:List Seg):List Field→Option E
 | []=>some (.blit true)
 | f::fs=>if f.name = "_" then none else match dA P f.type,bL f.offset l,bL f.offset r with
   | some n,some l1,some r1=>match bT n l1,bT n r1 with
     | some a,some b=>match eq f.type a b,bGT eq P l r fs with
       | some e,some e'=>some (mkAnd e e')
       | _,_=>none
     | _,_=>none
   | _,_,_=>none
def aFX (P:Program):List Field→Nat→List XF→Bool
 | [],_,[]=>true
 | g::gs,i,f::fs=>decide (g.name ≠ "_")&&decide (g.offset=i)&&decide (kF P g.type=some false)&&(match P.underlying g.type,f.1 with | some (.int _),some _=>true | some .bool,none=>true | _,_=>false)&&aFX P gs (i+1) fs
 | _,_,_=>false
def eqT (P:Program) (H:Hyp):Nat→TypeId→List Seg→List Seg→Option E
 | 0,_,_,_=>none
 | d+1,t,l,r=>match P.underlying t with
   | some (.int _)=>match l,r with
     | [.one (.int k a)],[.one (.int k' b)]=>if k=k' then some (mkEq H a b) else none
     | _,_=>none
   | some .bool=>match l,r with
     | [.one (.bool a)],[.one (.bool b)]=>some (mkIff a b)
     | _,_=>none
   | some (.struct fs)=>if P.stoodInHeld t then none else bGT (eqT P H d) P l r fs.toList
   | some (.array n e)=>match P.underlying e,l,r with
     | some (.int _),[.run k (.lit z) A o],[.run k' (.lit z') B q]=>if k=k'∧z=n∧z'=n∧dA P e=some 1∧d ≠ 0 then some (aSu false (.lit n) A B o q) else none
     | some (.struct gs),[.rows (.lit z) fs o],[.rows (.lit z') fs' q] =>
       if z=n∧z'=n∧dA P e=some fs.length∧0<fs.length∧P.stoodInHeld e=false∧aFX P gs.toList 0 fs=true∧2≤d then aCq (.lit n) o q fs fs' else none
     | _,_,_=>match dA P e with
       | some sz=>if n≤64∧kF P e=some true then vY (eqT P H d e) sz n l r else none
       | none=>none
   | _=>none
def nB (d:Nat) (e:TypeId) (sz:Nat) (xs ys:Array Value):List Nat→Sem Bool
 | []=>pure true
 | i::l=>do
   let a ← part e xs (i*sz)
   let b ← part e ys (i*sz)
   let r ← Op.equalIn d e a b
   if (!r)=true then pure false else nB d e sz xs ys l
section
variable {P:Program} {w:World}
theorem run_equalIn_array (d:Nat) (t:TypeId) (xs ys:Array Value) {n sz:Nat} {e:TypeId} (ht:P.underlying t=some (.array n e)) (hs:dA P e=some sz) :
 (Op.equalIn (d+1) t (.agg xs) (.agg ys)).run P w=(nB d e sz xs ys (List.range n)).run P w:=by
 simp only [Op.equalIn,Sem.run_bind,run_underlying ht,Result.andThen_ok,bG hs]
 rw [Std.Legacy.Range.forIn_eq_forIn_range']
 have hr:List.range' [:n].start [:n].size [:n].step=List.range n:=by simp [Std.Legacy.Range.size,List.range_eq_range']
 rw [hr]
 generalize List.range n=is
 induction is generalizing w with
 | nil=>simp [nB]
 | cons i is ih =>
   simp only [List.forIn_cons,nB,Sem.run_bind,Sem.run_ite]
   generalize (part e xs (i*sz)).run P w=r1
   cases r1 with
   | ok a w1 =>
     simp only [Result.andThen_ok]
     generalize (part e ys (i*sz)).run P w1=r2
     cases r2 with
     | ok b w2 =>
       simp only [Result.andThen_ok]
       generalize (Op.equalIn d e a b).run P w2=r3
       cases r3 with
       | ok r w3 =>
         cases r
         ·simp only [Result.andThen_ok,Bool.not_false,if_true,Sem.run_pure]
         ·simp only [Result.andThen_ok,Bool.not_true,Bool.false_eq_true,if_false,Sem.run_pure]
          exact ih
       | halt x w3=>simp [Result.andThen]
     | halt x w2=>simp [Result.andThen]
   | halt x w1=>simp [Result.andThen]
variable {ρ:Env} {ι:Loc} {H:Hyp}
def kZ (P:Program) (ρ:Env) (ι:Loc) (t:TypeId) (l:List Seg):Value:=if kF P t=some true then .agg (cellsOf ρ ι l).toArray else ((cellsOf ρ ι l)[0]?).getD Go.undef
theorem aSD {t:TypeId} {l l1 a:List Seg} {off n:Nat} {g:Bool} (hg:kF P t=some g) (hs:dA P t=some n) (hd:bL off l=some l1) (ht:bT n l1=some a) (F:g=false→(cellsOf ρ ι a) ≠ []) :
 (part t (cellsOf ρ ι l).toArray off).run P w=.ok (kZ P ρ ι t a) w:=by
 have M:=dP (ρ:=ρ) (ι:=ι) _ _ _ hd
 have T:=eJ (ρ:=ρ) (ι:=ι) _ _ _ ht
 unfold part kZ
 cases g with
 | true =>
   rw [Sem.run_bind,jM hg,Result.andThen_ok,if_pos hg]
   simp only [if_true,Sem.run_bind,bG hs,Result.andThen_ok,Sem.run_pure]
   congr 2
   rw [T.1,M.1]
   apply Array.ext'
   simp [List.take_drop,Nat.add_comm]
 | false =>
   rw [Sem.run_bind,fW hg,Result.andThen_ok]
   have hno:¬ kF P t=some true:=by rw [hg];simp
   rw [if_neg hno]
   simp only [Bool.false_eq_true,if_false]
   have hne:=F rfl
   rw [T.1,M.1] at hne ⊢
   have hlen:0<((cellsOf ρ ι l).drop off).length∧0<n:=by
    constructor
    ·rcases hc:(cellsOf ρ ι l).drop off with _ | ⟨v,r⟩
     ·rw [hc] at hne;simp at hne
     ·simp
    ·rcases n with _ | n
     ·simp at hne
     ·omega
   have hoff:off<(cellsOf ρ ι l).length:=by simp only [List.length_drop] at hlen;omega
   rw [List.getElem?_take,if_pos hlen.2,List.getElem?_drop,Nat.add_zero]
   simp [hoff]
theorem bGV {d:Nat} {t:TypeId} {l r:List Seg} {e:E} (h:eqT P H d t l r=some e) (hg:kF P t=some false):cellsOf ρ ι l ≠ []∧cellsOf ρ ι r ≠ []:=by
 cases d with
 | zero=>simp [eqT] at h
 | succ d =>
   unfold eqT at h
   unfold kF at hg
   split at h
   ·split at h
    ·simp [aG,aY]
    ·cases h
   ·split at h
    ·simp [aG,aY]
    ·cases h
   ·rename_i hu;rw [hu] at hg;cases hg
   ·rename_i hu;rw [hu] at hg;cases hg
   ·cases h
theorem aZW {t:TypeId} {n:Nat} (h:dA P t=some n) {d:Nat} {l r:List Seg} {e:E} (he:eqT P H d t l r=some e):∃ g,kF P t=some g:=by
 cases d with
 | zero=>simp [eqT] at he
 | succ d =>
   unfold eqT at he
   unfold kF
   split at he
   ·rename_i hu;exact ⟨false,by rw [hu]⟩
   ·rename_i hu;exact ⟨false,by rw [hu]⟩
   ·rename_i hu;exact ⟨true,by rw [hu]⟩
   ·rename_i hu;exact ⟨true,by rw [hu]⟩
   ·cases he
theorem aYn {n:E} {o q:Nat}:∀ {fs gs:List XF} {e:E},aCq n o q fs gs=some e→fs.length=gs.length∧(e.b ρ=true↔∀ j,j<(n.i ρ).toNat→(fs.map fun f=>XF.aC ρ f (o+j))=gs.map fun g=>XF.aC ρ g (q+j))
 | [],[],e,h=>by simp only [aCq,Option.some.injEq] at h;subst h;simp [aP]
 | [],_::_,e,h=>by simp [aCq] at h
 | _::_,[],e,h=>by simp [aCq] at h
 | f::fs,g::gs,e,h=>by
   simp only [aCq] at h
   split at h
   ·rename_i hk
    simp only [Option.map_eq_some_iff] at h
    obtain ⟨e',he',rfl⟩:=h
    obtain ⟨F,J⟩:=aYn he'
    refine ⟨by simp [F],?_⟩
    have N:(aSu f.1.isNone n f.2 g.2 o q).b ρ=true↔∀ j,j<(n.i ρ).toNat→XF.aC ρ f (o+j)=XF.aC ρ g (q+j):=by
     unfold aSu
     split
     ·rename_i hc
      rw [aP]
      simp only [true_iff]
      intro j _
      simp only [XF.aC,hk,hc.1,hc.2]
     ·rw [aIu,List.all_eq_true]
      simp only [List.mem_range]
      refine forall_congr' fun j=>forall_congr' fun hj=>?_
      simp only [XF.aC,← hk]
      cases hf:f.1 with
      | some k=>simp
      | none =>
        simp only [Option.isNone_none,if_true,Value.bool.injEq]
        by_cases F:f.2.a ρ (o+j)=0 <;> by_cases J:g.2.a ρ (q+j)=0 <;> simp [F,J,bne,BEq.beq]
    rw [eA,Bool.and_eq_true,J,N]
    constructor
    ·rintro ⟨a,b⟩ j hj;rw [List.map_cons,List.map_cons,a j hj,b j hj]
    ·intro a
     refine ⟨fun j hj=>?_,fun j hj=>?_⟩
     ·have:=a j hj;rw [List.map_cons,List.map_cons] at this;exact (List.cons.inj this).1
     ·have:=a j hj;rw [List.map_cons,List.map_cons] at this;exact (List.cons.inj this).2
   ·cases h
theorem xX {d sz:Nat} {e:TypeId} {xs ys:Array Value} {f:Nat→Bool}:∀ (l:List Nat),(∀ i ∈ l,∃ a b,(part e xs (i*sz)).run P w=.ok a w∧(part e ys (i*sz)).run P w=.ok b w∧(Op.equalIn d e a b).run P w=.ok (f i) w) →
 (nB d e sz xs ys l).run P w=.ok (l.all f) w
 | [],_=>rfl
 | i::l,h=>by
   obtain ⟨a,b,F,J,N⟩:=h i (.head _)
   simp only [nB,Sem.run_bind,F,J,N,Result.andThen_ok,List.all_cons]
   cases f i
   ·simp
   ·simp only [Bool.not_true,Bool.false_eq_true,if_false,Bool.true_and]
    exact xX l fun i hi=>h i (.tail _ hi)
theorem aYq {D:Nat} {xs ys:List Value}:∀ {gs:List Field} {i:Nat} {fs fs':List XF} {a b:Nat},aFX P gs i fs=true→fs.map (·.1)=fs'.map (·.1)→xs.drop i=(fs.map fun f=>XF.aC ρ f a)→ys.drop i=(fs'.map fun f=>XF.aC ρ f b) →
 ∃ t:Bool,(Op.eqFields (D+1) xs.toArray ys.toArray gs).run P w=.ok t w∧(t=true↔xs.drop i=ys.drop i)
 | [],i,[],[],a,b,_,_,hx,hy=>⟨true,rfl,by rw [hx,hy];simp⟩
 | [],i,[],_::_,a,b,_,h,_,_=>by simp at h
 | [],i,_::_,fs',a,b,h,_,_,_=>by simp [aFX] at h
 | g::gs,i,[],fs',a,b,h,_,_,_=>by simp [aFX] at h
 | g::gs,i,f::fs,[],a,b,_,h,_,_=>by simp at h
 | g::gs,i,f::fs,f'::fs',a,b,h,hk,hx,hy=>by
   simp only [aFX,Bool.and_eq_true,decide_eq_true_eq] at h
   obtain ⟨⟨⟨⟨F,J⟩,N⟩,W⟩,h5⟩:=h
   simp only [List.map_cons,List.cons.injEq] at hk
   have hx1:xs[i]? = some (XF.aC ρ f a):=by have:=congrArg (fun l=>l[0]?) hx;simpa using this
   have hy1:ys[i]? = some (XF.aC ρ f' b):=by have:=congrArg (fun l=>l[0]?) hy;simpa using this
   have hx2:xs.drop (i+1)=fs.map fun f=>XF.aC ρ f a:=by have:=congrArg List.tail hx;simpa [List.tail_drop] using this
   have hy2:ys.drop (i+1)=fs'.map fun f=>XF.aC ρ f b:=by have:=congrArg List.tail hy;simpa [List.tail_drop] using this
   obtain ⟨t,ht,htt⟩:=aYq h5 hk.2 hx2 hy2
   have px:(part g.type xs.toArray g.offset).run P w=.ok (XF.aC ρ f a) w:=by
    unfold part;rw [Sem.run_bind,fW N,Result.andThen_ok];simp [J,hx1]
   have py:(part g.type ys.toArray g.offset).run P w=.ok (XF.aC ρ f' b) w:=by
    unfold part;rw [Sem.run_bind,fW N,Result.andThen_ok];simp [J,hy1]
   have hc:∃ c:Bool,(Op.equalIn (D+1) g.type (XF.aC ρ f a) (XF.aC ρ f' b)).run P w=.ok c w∧(c=true↔XF.aC ρ f a=XF.aC ρ f' b):=by
    split at W
    ·rename_i kk k hu hf
     have hf':f'.1=some k:=by rw [← hk.1,hf]
     simp only [XF.aC,hf,hf']
     exact ⟨_,run_equalIn_int w D g.type _ _ _ _ hu,by simp⟩
    ·rename_i hu hf
     have hf':f'.1=none:=by rw [← hk.1,hf]
     simp only [XF.aC,hf,hf']
     exact ⟨_,run_equalIn_bool' w D g.type _ _ hu,by simp⟩
    ·cases W
   obtain ⟨c,a5,hc2⟩:=hc
   refine ⟨c&&t,?_,?_⟩
   ·simp only [Op.eqFields,Sem.run_ite,Sem.run_bind]
    rw [if_pos F,px,Result.andThen_ok,py,Result.andThen_ok,a5,Result.andThen_ok]
    cases c
    ·simp
    ·simp only [Bool.not_true,Bool.false_eq_true,if_false,Bool.true_and];exact ht
   ·rw [Bool.and_eq_true,hc2,htt,hx2,hy2,hx,hy,List.map_cons,List.map_cons,List.cons.injEq]
theorem aCr {n:E} {o q:Nat}:∀ {fs gs:List XF} {e:E},aCq n o q fs gs=some e→fs.map (·.1)=gs.map (·.1)
 | [],[],e,h=>rfl
 | [],_::_,e,h=>by simp [aCq] at h
 | _::_,[],e,h=>by simp [aCq] at h
 | f::fs,g::gs,e,h=>by
   simp only [aCq] at h
   split at h
   ·rename_i hk
    simp only [Option.map_eq_some_iff] at h
    obtain ⟨e',he',rfl⟩:=h
    rw [List.map_cons,List.map_cons,hk,aCr he']
   ·cases h
theorem bNc (hH:H.ok ρ):∀ (d:Nat) (t:TypeId) (l r:List Seg) (e:E),eqT P H d t l r=some e→∀ D,d≤D→(Op.equalIn D t (kZ P ρ ι t l) (kZ P ρ ι t r)).run P w=.ok (e.b ρ) w:=by
 intro d
 induction d with
 | zero=>intro t l r e h;simp [eqT] at h
 | succ d ih =>
   intro t l r e h D hD
   obtain ⟨D,rfl⟩:∃ k,D=k+1:=⟨D-1,by omega⟩
   have hD':d≤D:=by omega
   unfold eqT at h
   split at h
   ·rename_i k hu
    have hv:∀ l,kZ P ρ ι t l=((cellsOf ρ ι l)[0]?).getD Go.undef:=fun l=>by unfold kZ;rw [if_neg (by unfold kF;rw [hu];simp)]
    split at h
    ·split at h
     ·rename_i ka a kb b hk
      subst hk
      simp only [Option.some.injEq] at h;subst h
      rw [hv,hv]
      simp only [aG,aY,List.singleton_append,List.getElem?_cons_zero,Option.getD_some,S.aC]
      rw [run_equalIn_int w D t _ _ _ _ hu,gK hH];rfl
     ·cases h
    ·cases h
   ·rename_i hu
    have hv:∀ l,kZ P ρ ι t l=((cellsOf ρ ι l)[0]?).getD Go.undef:=fun l=>by unfold kZ;rw [if_neg (by unfold kF;rw [hu];simp)]
    split at h
    ·simp only [Option.some.injEq] at h;subst h
     rw [hv,hv]
     simp only [aG,aY,List.singleton_append,List.getElem?_cons_zero,Option.getD_some,S.aC]
     rw [run_equalIn_bool' w D t _ _ hu,aAB]
    ·cases h
   ·rename_i fs hu
    have hv:∀ l,kZ P ρ ι t l=.agg (cellsOf ρ ι l).toArray:=fun l=>by unfold kZ;rw [if_pos (by unfold kF;rw [hu])]
    split at h
    ·cases h
    ·rename_i hst
     have hfo:P.fieldsOf t=fs:=by unfold Program.fieldsOf;rw [hu]
     rw [hv,hv,run_equalIn_struct w D t _ _ (by rw [hfo];exact hu) (by simpa using hst),hfo]
     generalize fs.toList=L at h
     clear hu hfo hv
     induction L generalizing e with
     | nil=>simp only [bGT,Option.some.injEq] at h;subst h;rfl
     | cons f L ihL =>
       simp only [bGT] at h
       split at h
       ·cases h
       ·rename_i hname
        split at h
        ·rename_i n l1 r1 hs a0 hr1
         split at h
         ·rename_i a b ha hb
          split at h
          ·rename_i M T a2 a8
           simp only [Option.some.injEq] at h;subst h
           obtain ⟨g,hg⟩:=aZW hs a2
           have ha0:g=false→cellsOf ρ ι a ≠ []∧cellsOf ρ ι b ≠ []:=fun hh=>bGV a2 (by rw [hg,hh])
           simp only [Op.eqFields,Sem.run_ite,Sem.run_bind]
           rw [if_pos hname,aSD hg hs a0 ha (fun hh=>(ha0 hh).1),Result.andThen_ok,aSD hg hs hr1 hb (fun hh=>(ha0 hh).2),Result.andThen_ok,ih _ _ _ _ a2 D hD',Result.andThen_ok,eA]
           cases M.b ρ
           ·simp
           ·simp only [Bool.not_true,Bool.false_eq_true,if_false,Bool.true_and]
            exact ihL _ a8
          ·cases h
         ·cases h
        ·cases h
   ·rename_i n V hu
    have hv:∀ l,kZ P ρ ι t l=.agg (cellsOf ρ ι l).toArray:=fun l=>by unfold kZ;rw [if_pos (by unfold kF;rw [hu])]
    rw [hv,hv]
    split at h
    ·rename_i k0 k z A o k' z' B q hue
     split at h
     ·rename_i hc
      obtain ⟨rfl,rfl,rfl,hs,hd0⟩:=hc
      simp only [Option.some.injEq] at h;subst h
      rw [run_equalIn_array D t _ _ hu hs]
      have hg:kF P V=some false:=by unfold kF;rw [hue]
      obtain ⟨D',rfl⟩:∃ k,D=k+1:=⟨D-1,by omega⟩
      have key:∀ (A:E) (o i:Nat),i<n→(part V (cellsOf ρ ι [Seg.run k (.lit n) A o]).toArray (i*1)).run P w=.ok (.int k (A.a ρ (o+i))) w:=by
       intro A o i hi
       unfold part
       rw [Sem.run_bind,fW hg,Result.andThen_ok]
       have:(cellsOf ρ ι [Seg.run k (.lit n) A o])[i]? = some (.int k (A.a ρ (o+i))):=by
        rw [aG,List.getElem?_append_left (by rw [bH,aF];simpa using hi),kA _ _ _ _ _ (by rw [aF];simpa using hi)]
       simp only [Bool.false_eq_true,if_false,Nat.mul_one,List.getElem?_toArray,this,Sem.run_pure]
      rw [xX (f:=fun i=>A.a ρ (o+i) == B.a ρ (q+i)) _ (fun i hi=>⟨_,_,key A o i (by simpa using hi),key B q i (by simpa using hi),run_equalIn_int w D' V _ _ _ _ hue⟩)]
      congr 1
      unfold aSu
      split
      ·rename_i hAB
       obtain ⟨rfl,rfl⟩:=hAB
       rw [aP,List.all_eq_true];simp
      ·rw [aIu,aF];simp
     ·cases h
    ·rename_i gs z fs o z' fs' q hue
     split at h
     ·rename_i hc
      obtain ⟨rfl,rfl,hs,hpos,hst,hfl,hd2⟩:=hc
      have hg:kF P V=some true:=by unfold kF;rw [hue]
      rw [run_equalIn_array D t _ _ hu hs]
      obtain ⟨D',rfl⟩:∃ k,D=k+1+1:=⟨D-2,by omega⟩
      have hkk:=aCr h
      obtain ⟨hll,hiff⟩:=aYn (ρ:=ρ) h
      have key:∀ (fs:List XF) (o i:Nat) (hl:0<fs.length) (hs:dA P V=some fs.length),i<n→(part V (cellsOf ρ ι [Seg.rows (.lit n) fs o]).toArray (i*fs.length)).run P w=.ok (.agg (fs.map fun f=>XF.aC ρ f (o+i)).toArray) w:=by
       intro fs o i hl hs hi
       unfold part
       rw [Sem.run_bind,jM hg,Result.andThen_ok]
       simp only [if_true,Sem.run_bind,bG hs,Result.andThen_ok,Sem.run_pure]
       congr 2
       rw [aG,show cellsOf ρ ι []=[] from rfl,List.append_nil]
       apply Array.ext'
       simp only [List.extract_toArray,List.extract_eq_take_drop]
       rw [show i*fs.length+fs.length-i*fs.length=fs.length by omega,tF (n:Int) fs o i hl (by omega),tE _ _ _ hl (by omega),List.take_append_of_le_length (by simp),List.take_of_length_le (by simp)]
      have cmp:∀ i,i<n→∃ c:Bool,(Op.equalIn (D'+1+1) V (.agg (fs.map fun f=>XF.aC ρ f (o+i)).toArray) (.agg (fs'.map fun f=>XF.aC ρ f (q+i)).toArray)).run P w=.ok c w∧(c=true↔(fs.map fun f=>XF.aC ρ f (o+i))=(fs'.map fun f=>XF.aC ρ f (q+i))):=by
       intro i hi
       have hfo:P.fieldsOf V=gs:=by unfold Program.fieldsOf;rw [hue]
       rw [run_equalIn_struct w (D'+1) V _ _ (by rw [hfo];exact hue) hst,hfo]
       obtain ⟨c,c1,c2⟩:=aYq (w:=w) (D:=D') (xs:=fs.map fun f=>XF.aC ρ f (o+i)) (ys:=fs'.map fun f=>XF.aC ρ f (q+i)) hfl hkk rfl rfl
       exact ⟨c,c1,by simpa using c2⟩
      have cmp':∃ f:Nat→Bool,∀ i,i<n→(Op.equalIn (D'+1+1) V (.agg (fs.map fun f=>XF.aC ρ f (o+i)).toArray) (.agg (fs'.map fun f=>XF.aC ρ f (q+i)).toArray)).run P w=.ok (f i) w∧(f i=true↔(fs.map fun f=>XF.aC ρ f (o+i))=(fs'.map fun f=>XF.aC ρ f (q+i))):=by
       classical
       exact ⟨fun i=>if hi:i<n then Classical.choose (cmp i hi) else true,fun i hi=>by simp only [dif_pos hi];exact Classical.choose_spec (cmp i hi)⟩
      obtain ⟨f,hf⟩:=cmp'
      rw [xX (f:=f) _ (fun i hi=>⟨_,_,key fs o i hpos hs (by simpa using hi),by rw [hll];exact key fs' q i (by omega) (by rw [← hll];exact hs) (by simpa using hi),(hf i (by simpa using hi)).1⟩)]
      congr 1
      rw [Bool.eq_iff_iff,hiff,List.all_eq_true,aF]
      constructor
      ·intro a j hj;exact (hf j (by simpa using hj)).2.1 (a j (by simpa using hj))
      ·intro a j hj;exact (hf j (by simpa using hj)).2.2 (a j (by simpa using hj))
     ·cases h
    ·split at h
     ·rename_i sz hs
      split at h
      ·rename_i hc
       obtain ⟨_,hg⟩:=hc
       rw [run_equalIn_array D t _ _ hu hs]
       have key:∀ (k:Nat) (l r L R:List Seg) (i:Nat) (e:E),vY (eqT P H d V) sz k l r=some e→cellsOf ρ ι l=(cellsOf ρ ι L).drop (i*sz)→cellsOf ρ ι r=(cellsOf ρ ι R).drop (i*sz) →
        (nB D V sz (cellsOf ρ ι L).toArray (cellsOf ρ ι R).toArray (List.range' i k)).run P w=.ok (e.b ρ) w:=by
        intro k
        induction k with
        | zero=>intro l r L R i e he _ _;simp only [vY,Option.some.injEq] at he;subst he;rfl
        | succ k ihk =>
          intro l r L R i e he hl hr
          simp only [vY] at he
          split at he
          ·rename_i a b l' r' ha hb hl' hr'
           split at he
           ·rename_i M T a2 a8
            simp only [Option.some.injEq] at he;subst he
            have a1:=eJ (ρ:=ρ) (ι:=ι) _ _ _ ha
            have b1:=eJ (ρ:=ρ) (ι:=ι) _ _ _ hb
            have l2:=dP (ρ:=ρ) (ι:=ι) _ _ _ hl'
            have r2:=dP (ρ:=ρ) (ι:=ι) _ _ _ hr'
            have pv:∀ (L l a:List Seg),cellsOf ρ ι l=(cellsOf ρ ι L).drop (i*sz)→cellsOf ρ ι a=(cellsOf ρ ι l).take sz→(part V (cellsOf ρ ι L).toArray (i*sz)).run P w=.ok (kZ P ρ ι V a) w:=by
             intro L l a F J
             unfold part kZ
             rw [Sem.run_bind,jM hg,Result.andThen_ok,if_pos hg]
             simp only [if_true,Sem.run_bind,bG hs,Result.andThen_ok,Sem.run_pure]
             congr 2
             rw [J,F]
             apply Array.ext'
             simp [List.take_drop,Nat.add_comm]
            rw [List.range'_succ]
            simp only [nB,Sem.run_bind]
            rw [pv L l a hl a1.1,Result.andThen_ok,pv R r b hr b1.1,Result.andThen_ok,ih _ _ _ _ a2 D hD',Result.andThen_ok,eA]
            cases M.b ρ
            ·simp
            ·simp only [Bool.not_true,Bool.false_eq_true,if_false,Bool.true_and]
             refine ihk l' r' L R (i+1) T a8 ?_ ?_
             ·rw [l2.1,hl,List.drop_drop,Nat.add_mul,Nat.one_mul]
             ·rw [r2.1,hr,List.drop_drop,Nat.add_mul,Nat.one_mul]
           ·cases he
          ·cases he
       rw [List.range_eq_range']
       exact key n _ _ _ _ 0 e h (by simp) (by simp)
      ·cases h
     ·cases h
   ·cases h
end
def bEE (H:Hyp) (G:List E) (fr:Fr) (c a b:Operand):Option (List E × SV) :=
 match dB G fr c with
 | some (.s (.bool V)) =>
   match fQ H V with
   | .blit true=>(dB G fr a).map fun x=>([],x)
   | .blit false=>(dB G fr b).map fun x=>([],x)
   | e=>match dB (V::e::G) fr a,dB (mkNot V::mkNot e::G) fr b with
     | some (.s (.bool x)),some (.s (.bool y))=>some ([],.s (.bool (aHN e x y)))
     | some (.s (.int k x)),some (.s (.int k' y))=>if k=k' then some ([],.s (.int k (pR e x y))) else none
     | some x,some y=>if x=y then some ([],x) else none
     | _,_=>none
 | _=>none
def bOs (P:Program) (H:Hyp) (t:TypeId) (x:SV):Option (List E × SV) :=
 match P.underlying t,x with
 | some .string,.s (.str l)=>some ([],.s (.int .i64 (.lit l.length)))
 | some (.slice _),.s (.slc _ _ len _)=>if aO H 0 len then some ([],.s (.int .i64 len)) else none
 | some (.slice _),.s (.xslc _ _ _ len)=>if aO H 0 len then some ([],.s (.int .i64 len)) else none
 | some (.slice _),.s (.xtl _ _ _ _)=>some ([],.s (.int .i64 (.lit 0)))
 | some (.slice _),.s .nilSlc=>some ([],.s (.int .i64 (.lit 0)))
 | some (.array n _),_=>some ([],.s (.int .i64 (.lit n)))
 | some (.pointer r),_=>match P.underlying r with
   | some (.array n _)=>some ([],.s (.int .i64 (.lit n)))
   | _=>none
 | _,_=>none
def qMM (H:Hyp) (mx:Bool) (x y:SV):Option (List E × SV) :=
 match x,y with
 | .s (.int k a),.s (.int _ b)=>some ([],.s (.int k (if mx then mkIte (mkLt H a b) b a else mkIte (mkLt H b a) b a)))
 | _,_=>none
def qE (G:List E) (fr:Fr):List Operand→Option (List SV)
 | []=>some []
 | o::l=>match dB G fr o,qE G fr l with
   | some x,some r=>some (x::r)
   | _,_=>none
def bEu:List SV→Option (List (Nat × E))
 | []=>some []
 | .s (.ptr b off)::l=>(bEu l).map ((b,off)::·)
 | _=>none
def aHT (P:Program) (H:Hyp) (op:BinOp) (t:TypeId) (x y:SV):Option (List E × SV) :=
 match x,y with
 | .agg l,.agg r=>if P.eqGuardType P.depth t=true∨kF P t ≠ some true then none else match op with
   | .eql=>(eqT P H 12 t l r).map fun e=>([],.s (.bool e))
   | .neq=>(eqT P H 12 t l r).map fun e=>([],.s (.bool (mkNot e)))
   | _=>none
 | x,y=>bOp P H op t x y
def aIv (d:E):Option SV→Option E
 | none=>some d
 | some (.s (.int _ e))=>some e
 | _=>none
def aCY (G:List E) (fr:Fr):Option Operand→Option (Option SV)
 | none=>some none
 | some x=>(dB G fr x).map some
def aUF (P:Program) (H:Hyp) (t:TypeId) (x:SV) (lo hi:Option SV):Option (List E × SV) :=
 match x with
 | .s (.ptr b off)=>match bCh P t with
   | some (n,e)=>match dA P e,aIv (.lit 0) lo,aIv (.lit n) hi with
     | some s,some l,some h=>if aO H 0 off then some ([mkLe H (.lit 0) l,mkLe H l h,mkLe H h (.lit n),mkLt H l (.lit n)],.s (.slc b (mkAdd off (mkMul l (.lit s))) (mkSub h l) (.kn (mkSub (.lit n) l)))) else none
     | _,_,_=>none
   | none=>none
 | .s (.str l)=>if aHF P t then match aIv (.lit 0) lo,aIv (.lit l.length) hi with
    | some (.lit p),some (.lit q)=>if 0≤p∧p≤q∧q≤l.length then some ([],.s (.str ((l.drop p.toNat).take (q.toNat-p.toNat)))) else none
    | _,_=>none
   else none
 | .s (.xslc i (.lit 0) off len)=>match jG P t,oH H.x i with
   | some e,some xi=>match aIv (.lit 0) lo,aIv len hi with
     | some l,some h=>if dA P e=some xi.w∧aO H 0 off=true∧aO H 0 len=true then
        (if fQ H (mkEq H (mkAdd off l) xi.n)=.blit true then some ([mkLe H (.lit 0) l,mkLe H l h,mkLe H (mkAdd off h) xi.n,mkLe H h l],.s (.xtl i (.lit 0) off (mkAdd off l))) else
        some ([mkLe H (.lit 0) l,mkLe H l h,mkLe H (mkAdd off h) xi.n,mkOr (mkOr (mkLe H l (.lit 0)) (mkLt H l h)) (mkLt H (mkAdd off l) xi.n)],.s (.xslc i (.lit 0) (mkAdd off l) (mkSub h l)))) else none
     | _,_=>none
   | _,_=>none
 | _=>none
def aCw (P:Program) (t:TypeId):Option Bool:=match P.underlying t with | some (.interface _)=>some true | some _=>some false | none=>none
def aCx:Operand→Bool
 | .const .nilIface=>true
 | _=>false
def aZj (P:Program) (op:BinOp) (t:TypeId) (b:Bool):Option (List E × SV):=if aCw P t=some true then match op with
 | .eql=>some ([],.s (.bool (.blit b)))
 | .neq=>some ([],.s (.bool (.blit !b)))
 | _=>none
 else none
def aHO (H:Hyp) (C:Blk):Bool:=C.grow.isNone||match C.aH with
 | .one _::_=>true
 | .run _ n _ _::_=>aO H 1 n
 | _=>false
def aCT (H:Hyp) (m:Mem) (b:Nat):Bool:=match m[b]? with
 | some C=>!C.dead&&aHO H C
 | none=>false
def bEz (P:Program) (H:Hyp) (m:Mem) (op:BinOp) (t:TypeId) (u v:SV):Option (List E × SV):=match u,v with
 | .s (.slc b off len (.op k)),.s .nilSlc=>if (aO H 1 len||aCT H m b)&&qY P t then (match op with
    | .eql=>some ([],.s (.bool (.blit false)))
    | .neq=>some ([],.s (.bool (.blit true)))
    | _=>none) else none
 | .s (.slc _ _ _ (.tl _ _ _)),.s .nilSlc=>if qY P t then (match op with
    | .eql=>some ([],.s (.bool (.blit false)))
    | .neq=>some ([],.s (.bool (.blit true)))
    | _=>none) else none
 | .s (.xslc i (.lit 0) off len),.s .nilSlc=>(match oH H.x i with
   | some x=>if aO H 1 len&&qY P t&&decide (len=x.n) then (match op with
     | .eql=>some ([],.s (.bool (.blit false)))
     | .neq=>some ([],.s (.bool (.blit true)))
     | _=>none) else none
   | none=>none)
 | u,v=>aHT P H op t u v
def bEx (P:Program) (H:Hyp) (m:Mem) (op:BinOp) (t:TypeId) (nc:Bool) (u v:SV):Option (List E × SV):=cond nc (match u with
 | .s .nilIface=>aZj P op t true
 | .s (.ifc _ _ _)=>aZj P op t false
 | _=>none) (bEz P H m op t u v)
def bOt (P:Program) (t:TypeId):SV→Option (List E × SV)
 | .agg [.one (.int k e)]=>if aCw P t=some false then some ([],.s (.ifc t k e)) else none
 | _=>none
def aHS (P:Program) (t:TypeId):SV→Option (List E × SV)
 | .s (.ifc t' k e)=>if aCw P t=some false∧t'=t then some ([],.tup [(true,[.one (.int k e)]),(false,[.one (.bool (.blit true))])]) else none
 | _=>none
def qop (P:Program) (H:Hyp) (G:List E) (fr:Fr) (m:Mem) (o:Op):Option (List E × SV) :=
 match o with
 | .move x | .assign x=>(dB G fr x).map fun v=>([],v)
 | .pick c a b=>bEE H G fr c a b
 | .nilCheck x=>match dB G fr x with | some v=>bOu v | none=>none
 | .binOp op t x y _=>match dB G fr x,dB G fr y with
   | some u,some v=>bEx P H m op t (aCx y) u v
   | _,_=>none
 | .makeInterface t x=>match dB G fr x with | some v=>bOt P t v | none=>none
 | .typeAssert x s t true=>match dB G fr x with | some v=>aHS P t v | none=>none
 | .unOp op _ x=>match dB G fr x with | some v=>qUn H op v | none=>none
 | .convert s d x=>match dB G fr x with | some v=>bEB P H s d v | none=>none
 | .load t x=>match dB G fr x with | some v=>aZi P H m t v | none=>none
 | .fieldAddr t x f=>match dB G fr x with | some v=>uU P H t v f | none=>none
 | .field t x f=>match dB G fr x with | some v=>aUC P t v f | none=>none
 | .indexAddr t x y=>match dB G fr x,dB G fr y with
   | some u,some v=>uV P H t u v
   | _,_=>none
 | .index t x y=>match dB G fr x,dB G fr y with
   | some u,some v=>aUD P H t u v
   | _,_=>none
 | .extract x i=>match dB G fr x with | some v=>aDh v i | none=>none
 | .slice t x lo hi none=>match dB G fr x,aCY G fr lo,aCY G fr hi with
   | some u,some a,some b=>aUF P H t u a b
   | _,_,_=>none
 | .makeFunc (.func f) first iH=>if first.size=0 then match qE G fr iH.toList with
    | some l=>(bEu l).map fun c=>([],.s (.fn f c))
    | none=>none
   else none
 | .build t parts=>match qE G fr (parts.toList.map (·.2)) with
   | some l=>aUB P t ((parts.toList.map (·.1)).zip l)
   | none=>none
 | .call ⟨.builtin b,args,ts⟩ =>
   match b,qE G fr args.toList,ts.toList with
   | .len,some [x],t::_=>bOs P H t x
   | .max,some [x,y],_=>qMM H true x y
   | .min,some [x,y],_=>qMM H false x y
   | _,_,_=>none
 | _=>none
section
variable {ρ:Env} {ι:Loc} {H:Hyp} {P:Program} {w:World} {β:dN} {m:Mem} {fr:Fr} {n:Nat} {a:Act} {G:List E}
theorem bEF (hH:H.ok ρ) (hf:aR ρ ι n fr a) (hG:eM ρ G) {c x y:Operand} {nd:List E} {r:SV} (h:bEE H G fr c x y=some (nd,r)) :
 ∃ b,a.eval c=.bool b∧(if b then a.eval x else a.eval y)=r.aC ρ ι:=by
 unfold bEE at h
 split at h
 ·rename_i V hc
  have ec:=aQ hf hG hc
  have hd:=jP hH V
  rw [show SV.aC ρ ι (.s (.bool V))=.bool (V.b ρ) from rfl,← hd] at ec
  generalize fQ H V=e at h ec hd
  refine ⟨e.b ρ,ec,?_⟩
  split at h
  ·simp only [Option.map_eq_some_iff,Prod.mk.injEq] at h
   obtain ⟨v,hv,_,rfl⟩:=h
   rw [aP,if_pos rfl];exact aQ hf hG hv
  ·simp only [Option.map_eq_some_iff,Prod.mk.injEq] at h
   obtain ⟨v,hv,_,rfl⟩:=h
   rw [aP,if_neg (by simp)];exact aQ hf hG hv
  ·have F:∀ {v},dB (V::e::G) fr x=some v→e.b ρ=true→a.eval x=v.aC ρ ι:=fun hv he =>
    aQ hf (fun g hg=>by cases hg with | head=>rw [← hd];exact he | tail _ hg=>cases hg with | head=>exact he | tail _ hg=>exact hG g hg) hv
   have J:∀ {v},dB (mkNot V::mkNot e::G) fr y=some v→¬ e.b ρ=true→a.eval y=v.aC ρ ι:=fun hv he =>
    aQ hf (fun g hg=>by cases hg with | head=>rw [bR,← hd];simp [he] | tail _ hg=>cases hg with | head=>rw [bR];simp [he] | tail _ hg=>exact hG g hg) hv
   split at h
   ·rename_i u v hx hy
    simp only [Option.some.injEq,Prod.mk.injEq] at h;obtain ⟨rfl,rfl⟩:=h
    simp only [SV.aC,S.aC,aSw]
    split
    ·rename_i he;rw [F hx he];rfl
    ·rename_i he;rw [J hy he];rfl
   ·rename_i k u k' v hx hy
    split at h
    ·rename_i hk;subst hk
     simp only [Option.some.injEq,Prod.mk.injEq] at h;obtain ⟨rfl,rfl⟩:=h
     simp only [SV.aC,S.aC,lY]
     split
     ·rename_i he;rw [F hx he];rfl
     ·rename_i he;rw [J hy he];rfl
    ·cases h
   ·rename_i u v _ _ hx hy
    split at h
    ·rename_i hk;subst hk
     simp only [Option.some.injEq,Prod.mk.injEq] at h;obtain ⟨rfl,rfl⟩:=h
     split
     ·rename_i he;exact F hx he
     ·rename_i he;exact J hy he
    ·cases h
   ·cases h
 ·cases h
theorem kK (hf:aR ρ ι n fr a) (hG:eM ρ G):∀ {l:List Operand} {r:List SV},qE G fr l=some r→l.map a.eval=r.map (SV.aC ρ ι)
 | [],r,h=>by simp only [qE,Option.some.injEq] at h;subst h;rfl
 | o::l,r,h=>by
   simp only [qE] at h
   split at h
   ·rename_i x r' hx hr
    simp only [Option.some.injEq] at h;subst h
    rw [List.map_cons,List.map_cons,aQ hf hG hx,kK hf hG hr]
   ·cases h
theorem aZf:∀ {l:List SV} {r:List (Nat × E)},bEu l=some r→l.map (SV.aC ρ ι)=r.map fun p=>.pointer (some (addr ρ ι p.1 p.2))
 | [],r,h=>by simp only [bEu,Option.some.injEq] at h;subst h;rfl
 | x::l,r,h=>by
   unfold bEu at h
   split at h
   ·contradiction
   ·rename_i heq;cases heq
    simp only [Option.map_eq_some_iff] at h
    obtain ⟨r',hr,rfl⟩:=h
    rw [List.map_cons,List.map_cons,aZf hr];rfl
   ·cases h
theorem bHI (hH:H.ok ρ) (hm:aK ρ β ι m w) {t:TypeId} {ty:TypeId} {x:SV} {nd:List E} {r:SV} (h:bOs P H t x=some (nd,r)) (ts:Array TypeId) (ht:ts[0]? = some t) :
 (Builtin.len_ ts ty #[x.aC ρ ι]).run P w=.ok (r.aC ρ ι) w:=by
 unfold bOs at h
 unfold Builtin.len_
 split at h
 ·rename_i l hu
  simp only [Option.some.injEq,Prod.mk.injEq] at h;obtain ⟨rfl,rfl⟩:=h
  simp [ht,run_underlying hu,SV.aC,S.aC,goInt,aF]
  show (l.toArray.size:Int)=l.length
  simp
 ·rename_i b off len cap hu
  split at h
  ·rename_i hc
   simp only [Option.some.injEq,Prod.mk.injEq] at h;obtain ⟨rfl,rfl⟩:=h
   have:=aJ hH hc
   have hv:∃ q c',(S.slc b off len cap).aC ρ ι=.slice q (len.i ρ).toNat c':=by
    cases cap with
    | kn c=>exact ⟨_,_,rfl⟩
    | op k =>
      simp only [S.aC]
      split
      ·rename_i hc;rw [hc.2];exact ⟨_,_,rfl⟩
      ·exact ⟨_,_,rfl⟩
    | tl o k z=>exact ⟨_,_,rfl⟩
   obtain ⟨q,c',hv⟩:=hv
   rw [show SV.aC ρ ι (.s (.slc b off len cap))=S.aC ρ ι (.slc b off len cap) from rfl,hv]
   simp [ht,run_underlying hu,SV.aC,S.aC,goInt]
   omega
  ·cases h
 ·rename_i i j off len hu
  split at h
  ·rename_i hc
   simp only [Option.some.injEq,Prod.mk.injEq] at h;obtain ⟨rfl,rfl⟩:=h
   have:=aJ hH hc
   obtain ⟨b,c,M,_⟩:=(hm.xt i (j.i ρ).toNat).ok
   rw [show SV.aC ρ ι (.s (.xslc i j off len))=(ρ.I.xs i (j.i ρ).toNat).sub (off.i ρ).toNat (len.i ρ).toNat from rfl,Ext.sub,M]
   simp [ht,run_underlying hu,SV.aC,S.aC,goInt]
   omega
  ·cases h
 ·rename_i i j o off hu
  simp only [Option.some.injEq,Prod.mk.injEq] at h;obtain ⟨rfl,rfl⟩:=h
  obtain ⟨b,c,M,_⟩:=(hm.xt i (j.i ρ).toNat).ok
  rw [show SV.aC ρ ι (.s (.xtl i j o off))=(ρ.I.xs i (j.i ρ).toNat).tl (o.i ρ).toNat (off.i ρ).toNat from rfl,Ext.tl,M]
  simp [ht,run_underlying hu,SV.aC,S.aC,goInt,aF]
 ·rename_i hu
  simp only [Option.some.injEq,Prod.mk.injEq] at h;obtain ⟨rfl,rfl⟩:=h
  simp [ht,run_underlying hu,SV.aC,S.aC,goInt,aF]
 ·rename_i hu
  simp only [Option.some.injEq,Prod.mk.injEq] at h;obtain ⟨rfl,rfl⟩:=h
  simp [ht,run_underlying hu,SV.aC,S.aC,goInt,aF]
 ·rename_i hu
  split at h
  ·rename_i hu'
   simp only [Option.some.injEq,Prod.mk.injEq] at h;obtain ⟨rfl,rfl⟩:=h
   simp [ht,run_underlying hu,run_underlying hu',SV.aC,S.aC,goInt,aF]
  ·cases h
 ·cases h
theorem bED (hH:H.ok ρ) {mx:Bool} {x y:SV} {nd:List E} {r:SV} (h:qMM H mx x y=some (nd,r)) (ts:Array TypeId) (ty:TypeId) :
 (if mx then (Builtin.max_ ts ty #[x.aC ρ ι,y.aC ρ ι]).run P w else (Builtin.min_ ts ty #[x.aC ρ ι,y.aC ρ ι]).run P w)=.ok (r.aC ρ ι) w:=by
 unfold qMM at h
 split at h
 ·simp only [Option.some.injEq,Prod.mk.injEq] at h;obtain ⟨rfl,rfl⟩:=h
  cases mx
  ·simp [Builtin.min_,Builtin.min2,SV.aC,S.aC,gA,dR hH]
  ·simp [Builtin.max_,Builtin.max2,SV.aC,S.aC,gA,dR hH]
 ·cases h
theorem aUA (hH:H.ok ρ) {op:BinOp} {t:TypeId} {x y:SV} {nd:List E} {r:SV} (h:aHT P H op t x y=some (nd,r)) (hn:bD ρ nd) (a b:Operand) :
 (do eqGuard op t a b (x.aC ρ ι) (y.aC ρ ι);binOp op t (x.aC ρ ι) (y.aC ρ ι):Sem Value).run P w=.ok (r.aC ρ ι) w:=by
 unfold aHT at h
 split at h
 ·rename_i l r'
  split at h
  ·cases h
  ·rename_i hc
   simp only [not_or,Bool.not_eq_true,Decidable.not_not] at hc
   have hv:∀ l,SV.aC ρ ι (.agg l)=kZ P ρ ι t l:=fun l=>by unfold kZ;rw [if_pos hc.2];rfl
   have hq:∀ e,eqT P H 12 t l r'=some e→(Op.equalIn 10000 t (.agg (cellsOf ρ ι l).toArray) (.agg (cellsOf ρ ι r').toArray)).run P w=.ok (e.b ρ) w:=fun e he=>by
    have:=bNc (ρ:=ρ) (ι:=ι) (w:=w) hH 12 t l r' e he 10000 (by omega)
    rw [← hv,← hv] at this;exact this
   split at h
   ·simp only [Option.map_eq_some_iff,Prod.mk.injEq] at h
    obtain ⟨e,he,rfl,rfl⟩:=h
    show (do eqGuard .eql t a b (.agg (cellsOf ρ ι l).toArray) (.agg (cellsOf ρ ι r').toArray);binOp .eql t (.agg (cellsOf ρ ι l).toArray) (.agg (cellsOf ρ ι r').toArray):Sem Value).run P w=_
    rw [Sem.run_bind,run_eqGuard_agg w _ _ _ _ _ _ hc.1,Result.andThen_ok,run_eql_struct,hq e he];rfl
   ·simp only [Option.map_eq_some_iff,Prod.mk.injEq] at h
    obtain ⟨e,he,rfl,rfl⟩:=h
    show (do eqGuard .neq t a b (.agg (cellsOf ρ ι l).toArray) (.agg (cellsOf ρ ι r').toArray);binOp .neq t (.agg (cellsOf ρ ι l).toArray) (.agg (cellsOf ρ ι r').toArray):Sem Value).run P w=_
    rw [Sem.run_bind,run_eqGuard_agg w _ _ _ _ _ _ hc.1,Result.andThen_ok,run_neq_struct,hq e he]
    simp [SV.aC,S.aC,bR]
   ·cases h
 ·exact bHH hH h hn a b
theorem fF (k:IntKind) (i:Int) (y:Nat) (code:BoundsCode) (K:0≤i) (F:i≤y):(Instr.sliceBound (.int k i) y code).run P w=.ok i.toNat w:=by
 simp [Instr.sliceBound,asIntOf,K,F]
theorem aEf {t e:TypeId} {n:Nat} (ht:P.underlying t=some (.array n e)) {sz:Nat} (hs:dA P e=some sz) (A:Addr) (lo hi:Option Value) (l h:Int) (hlo:(lo=none∧l=0)∨∃ k,lo=some (.int k l)) (hhi:(hi=none∧h=n)∨∃ k,hi=some (.int k h)) (K:0≤l) (F:l≤h) (J:h≤n) (N:l<n) (w:World) :
 (Instr.sliceAt t (.pointer (some A)) lo hi none).run P w=.ok (.slice (some (A.add (l.toNat*sz))) (h.toNat-l.toNat) (n-l.toNat)) w:=by
 have hz:=bG (w:=w) hs
 have eh:(h.toNat:Int)=h:=Int.toNat_of_nonneg (by omega)
 have en:¬ n=l.toNat:=by omega
 rcases hlo with ⟨rfl,rfl⟩ | ⟨k,rfl⟩ <;> rcases hhi with ⟨rfl,rfl⟩ | ⟨k',rfl⟩
 ·have a7:¬ n=0:=by omega
  simp [Instr.sliceAt,run_underlying ht,Instr.sureAddr,Instr.sliceBounds,hz,a7]
 ·have a7:¬ n=0:=by omega
  simp [Instr.sliceAt,run_underlying ht,Instr.sureAddr,Instr.sliceBounds,fF,hz,J,(by omega:0≤h),a7]
 ·simp [Instr.sliceAt,run_underlying ht,Instr.sureAddr,Instr.sliceBounds,fF,hz,K,F,en]
 ·simp [Instr.sliceAt,run_underlying ht,Instr.sureAddr,Instr.sliceBounds,fF,hz,K,F,J,eh,(by omega:0≤h),en]
theorem aEg {t:TypeId} (ht:P.underlying t=some .string) (s:List UInt8) (lo hi:Option Value) (l h:Int) (hlo:(lo=none∧l=0)∨∃ k,lo=some (.int k l)) (hhi:(hi=none∧h=s.length)∨∃ k,hi=some (.int k h)) (K:0≤l) (F:l≤h) (J:h≤s.length) (w:World) :
 (Instr.sliceAt t (.string ⟨s.toArray⟩) lo hi none).run P w=.ok (.string ⟨((s.drop l.toNat).take (h.toNat-l.toNat)).toArray⟩) w:=by
 have eh:(h.toNat:Int)=h:=Int.toNat_of_nonneg (by omega)
 have es:(⟨s.toArray⟩:ByteArray).size=s.length:=by simp [ByteArray.size]
 have ex:∀ p q:Nat,(⟨s.toArray⟩:ByteArray).extract p q=⟨((s.drop p).take (q-p)).toArray⟩:=fun p q=>by
  apply ByteArray.ext
  rw [ByteArray.data_extract]
  simp
 rcases hlo with ⟨rfl,rfl⟩ | ⟨k,rfl⟩ <;> rcases hhi with ⟨rfl,rfl⟩ | ⟨k',rfl⟩
 ·simp [Instr.sliceAt,run_underlying ht,Instr.slice,Instr.sliceBounds,es,ex]
 ·simp [Instr.sliceAt,run_underlying ht,Instr.slice,Instr.sliceBounds,fF,es,ex,J,(by omega:0≤h)]
 ·simp [Instr.sliceAt,run_underlying ht,Instr.slice,Instr.sliceBounds,fF,es,ex,K,F]
 ·simp [Instr.sliceAt,run_underlying ht,Instr.slice,Instr.sliceBounds,fF,es,ex,K,F,J,eh,(by omega:0≤h)]
theorem mY {d e:E} {x:Option SV} (h:aIv d x=some e):(x.map (SV.aC ρ ι)=none∧e.i ρ=d.i ρ)∨∃ k,x.map (SV.aC ρ ι)=some (.int k (e.i ρ)):=by
 unfold aIv at h
 split at h
 ·simp only [Option.some.injEq] at h;subst h;exact .inl ⟨rfl,rfl⟩
 ·simp only [Option.some.injEq] at h;subst h;exact .inr ⟨_,rfl⟩
 ·cases h
theorem aGo (hf:aR ρ ι n fr a) (hG:eM ρ G) {x:Option Operand} {v:Option SV} (h:aCY G fr x=some v):x.map a.eval=v.map (SV.aC ρ ι):=by
 cases x with
 | none=>simp only [aCY,Option.some.injEq] at h;subst h;rfl
 | some x =>
   simp only [aCY,Option.map_eq_some_iff] at h
   obtain ⟨u,hu,rfl⟩:=h
   simp only [Option.map_some,aQ hf hG hu]
theorem rU {t e:TypeId} (ht:P.underlying t=some (.slice e)) {sz:Nat} (hs:dA P e=some sz) (base:Option Addr) (len cap:Nat) (lo hi:Option Value) (l h:Int) (hlo:(lo=none∧l=0)∨∃ k,lo=some (.int k l)) (hhi:(hi=none∧h=len)∨∃ k,hi=some (.int k h)) (K:0≤l) (F:l≤h) (J:h≤cap) (w:World) :
 (Instr.sliceAt t (.slice base len cap) lo hi none).run P w=.ok (.slice (if cap=l.toNat then base else base.map (·.add (l.toNat*sz))) (h.toNat-l.toNat) (cap-l.toNat)) w:=by
 have hz:=bG (w:=w) hs
 have eh:(h.toNat:Int)=h:=Int.toNat_of_nonneg (by omega)
 rcases hlo with ⟨rfl,rfl⟩ | ⟨k,rfl⟩ <;> rcases hhi with ⟨rfl,rfl⟩ | ⟨k',rfl⟩
 ·simp [Instr.sliceAt,run_underlying ht,Instr.slice,Instr.sliceBounds,hz]
 ·simp [Instr.sliceAt,run_underlying ht,Instr.slice,Instr.sliceBounds,fF,hz,J,(by omega:0≤h)]
 ·simp [Instr.sliceAt,run_underlying ht,Instr.slice,Instr.sliceBounds,fF,hz,K,F]
 ·simp [Instr.sliceAt,run_underlying ht,Instr.slice,Instr.sliceBounds,fF,hz,K,F,J,eh,(by omega:0≤h)]
theorem bAK (hH:H.ok ρ) (hm:aK ρ β ι m w) {t:TypeId} {x:SV} {lo hi:Option SV} {nd:List E} {r:SV} (h:aUF P H t x lo hi=some (nd,r)) (hn:bD ρ nd) :
 (Instr.sliceAt t (x.aC ρ ι) (lo.map (SV.aC ρ ι)) (hi.map (SV.aC ρ ι)) none).run P w=.ok (r.aC ρ ι) w:=by
 unfold aUF at h
 split at h
 ·rename_i b off
  split at h
  ·rename_i k e ht
   split at h
   ·rename_i s l hh hs hl hhi
    split at h
    ·rename_i hc
     simp only [Option.some.injEq,Prod.mk.injEq] at h;obtain ⟨rfl,rfl⟩:=h
     have K:=hn _ (.head _);have F:=hn _ (.tail _ (.head _));have J:=hn _ (.tail _ (.tail _ (.head _)));have N:=hn _ (.tail _ (.tail _ (.tail _ (.head _))))
     rw [bM hH,aF,decide_eq_true_eq] at K
     rw [bM hH,decide_eq_true_eq] at F
     rw [bM hH,aF,decide_eq_true_eq] at J
     rw [dR hH,aF,decide_eq_true_eq] at N
     have W:=aJ hH hc
     have hadd:((mkAdd off (mkMul l (.lit s))).i ρ).toNat=(off.i ρ).toNat+(l.i ρ).toNat*s:=by
      rw [aM,dD,aF,Int.toNat_add W (Int.mul_nonneg K (by omega)),Int.toNat_mul K (by omega)];rfl
     have hr:=aEf (sF ht) hs (addr ρ ι b off) _ _ (l.i ρ) (hh.i ρ) (mY (ρ:=ρ) (ι:=ι) hl) (mY (ρ:=ρ) (ι:=ι) hhi) K F J N w
     show (Instr.sliceAt t (.pointer (some (addr ρ ι b off))) _ _ none).run P w=_
     rw [hr]
     simp only [SV.aC,S.aC,addr,aAS,hadd,fD,aF]
     congr 2
     ·omega
     ·omega
    ·cases h
   ·cases h
  ·cases h
 ·rename_i s
  split at h
  ·rename_i ht
   split at h
   ·rename_i p q hl hhi
    split at h
    ·rename_i hc
     simp only [Option.some.injEq,Prod.mk.injEq] at h;obtain ⟨rfl,rfl⟩:=h
     exact aEg (by unfold aHF at ht;split at ht;assumption;cases ht) s _ _ p q (mY (ρ:=ρ) (ι:=ι) hl) (mY (ρ:=ρ) (ι:=ι) hhi) hc.1 hc.2.1 hc.2.2 w
    ·cases h
   ·cases h
  ·cases h
 ·rename_i i off len
  split at h
  ·rename_i e xi ht hx
   split at h
   ·rename_i l hh hl hhi
    split at h
    ·rename_i hc
     have W:=aJ hH hc.2.1
     have h5:=aJ hH hc.2.2
     have hX:XI.ok ρ i xi:=hH.x _ (hZ hx)
     obtain ⟨b,c,M,T,Z,e4⟩:=(hm.xt i 0).ok
     have hxn:=hX.n
     have hsub:SV.aC ρ ι (.s (.xslc i (.lit 0) off len))=.slice (b.map fun q=>q.add ((off.i ρ).toNat*(ρ.I.xs i 0).sz)) (len.i ρ).toNat (c-(off.i ρ).toNat):=by
      simp only [SV.aC,S.aC,aF,Ext.sub];rw [show (0:Int).toNat=0 from rfl,M]
     split at h
     ·rename_i hend
      simp only [Option.some.injEq,Prod.mk.injEq] at h;obtain ⟨rfl,rfl⟩:=h
      have K:=hn _ (.head _);have F:=hn _ (.tail _ (.head _));have J:=hn _ (.tail _ (.tail _ (.head _)));have N:=hn _ (.tail _ (.tail _ (.tail _ (.head _))))
      rw [bM hH,aF,decide_eq_true_eq] at K
      rw [bM hH,decide_eq_true_eq] at F N
      rw [bM hH,aM,decide_eq_true_eq] at J
      have hr:=rU (aU ht) hc.1 (b.map fun q=>q.add ((off.i ρ).toNat*(ρ.I.xs i 0).sz)) (len.i ρ).toNat (c-(off.i ρ).toNat) (lo.map (SV.aC ρ ι)) (hi.map (SV.aC ρ ι)) (l.i ρ) (hh.i ρ) (mY (ρ:=ρ) (ι:=ι) hl) (by
       rcases mY (ρ:=ρ) (ι:=ι) hhi with ⟨g1,g2⟩ | g
       ·exact .inl ⟨g1,by omega⟩
       ·exact .inr g) K F (by omega) w
      rw [hsub,hr]
      simp only [SV.aC,S.aC,aF,Ext.tl]
      rw [show (0:Int).toNat=0 from rfl,M]
      simp only [aM]
      have hto:(off.i ρ+l.i ρ).toNat=(off.i ρ).toNat+(l.i ρ).toNat:=Int.toNat_add W K
      have hsz:=hX.sz
      congr 1
      rw [Value.slice.injEq]
      refine ⟨?_,by omega,by omega⟩
      split
      ·rename_i hcl
       rw [if_pos (by omega)]
      ·rename_i hcl
       cases b with
       | none=>rfl
       | some q =>
         rw [Option.map_some,Option.map_some,Option.map_some,if_neg (by omega)]
         simp only [add_add,hto,hsz,Nat.add_mul]
     simp only [Option.some.injEq,Prod.mk.injEq] at h;obtain ⟨rfl,rfl⟩:=h
     have K:=hn _ (.head _);have F:=hn _ (.tail _ (.head _));have J:=hn _ (.tail _ (.tail _ (.head _)));have N:=hn _ (.tail _ (.tail _ (.tail _ (.head _))))
     rw [bM hH,aF,decide_eq_true_eq] at K
     rw [bM hH,decide_eq_true_eq] at F
     rw [bM hH,aM,decide_eq_true_eq] at J
     rw [jW,jW,bM hH,dR hH,dR hH,aM,aF,Bool.or_eq_true,Bool.or_eq_true,decide_eq_true_eq,decide_eq_true_eq,decide_eq_true_eq] at N
     have hr:=rU (aU ht) hc.1 (b.map fun q=>q.add ((off.i ρ).toNat*(ρ.I.xs i 0).sz)) (len.i ρ).toNat (c-(off.i ρ).toNat) (lo.map (SV.aC ρ ι)) (hi.map (SV.aC ρ ι)) (l.i ρ) (hh.i ρ) (mY (ρ:=ρ) (ι:=ι) hl) (by
      rcases mY (ρ:=ρ) (ι:=ι) hhi with ⟨g1,g2⟩ | g
      ·exact .inl ⟨g1,by omega⟩
      ·exact .inr g) K F (by omega) w
     rw [hsub,hr]
     simp only [SV.aC,S.aC,aF,Ext.sub]
     rw [show (0:Int).toNat=0 from rfl,M]
     simp only [aM,fD]
     have hto:(off.i ρ+l.i ρ).toNat=(off.i ρ).toNat+(l.i ρ).toNat:=Int.toNat_add W K
     have hsz:=hX.sz
     congr 1
     rw [Value.slice.injEq]
     refine ⟨?_,?_,?_⟩
     ·split
      ·have X:(l.i ρ).toNat=0:=by omega
       rw [hto,X,Nat.add_zero]
      ·cases b with
       | none=>rfl
       | some q=>simp only [Option.map_some,add_add,hto,hsz,Nat.add_mul]
     ·omega
     ·omega
    ·cases h
   ·cases h
  ·cases h
 ·cases h
theorem aYw {t:TypeId} (h:aCw P t=some false):∃ d,P.underlying t=some d∧∀ ms,d ≠ .interface ms:=by
 unfold aCw at h
 split at h
 ·cases h
 ·rename_i d hn hu;exact ⟨d,hu,fun ms he=>hn ms he⟩
 ·cases h
theorem bHi {t:TypeId} (h:aCw P t=some true):∃ ms,P.underlying t=some (.interface ms):=by
 unfold aCw at h
 split at h
 ·rename_i ms hu;exact ⟨ms,hu⟩
 ·cases h
 ·cases h
theorem bAj {y:Operand} (h:aCx y=true):y=.const .nilIface:=by
 unfold aCx at h;split at h
 ·rfl
 ·cases h
theorem aSJ {op:BinOp} {t:TypeId} {b:Bool} {nd:List E} {r:SV} (h:aZj P op t b=some (nd,r)) {u:Value} (hu:(b=true∧u=.nilIface)∨(b=false∧∃ t v,u=.iface t v)) (x:Operand) :
 (do eqGuard op t x (.const .nilIface) u .nilIface;binOp op t u .nilIface:Sem Value).run P w=.ok (r.aC ρ ι) w:=by
 unfold aZj at h
 split at h
 ·rename_i hif
  obtain ⟨ms,hms⟩:=bHi hif
  have hg:∀ op,(eqGuard op t x (.const .nilIface) u .nilIface).run P w=.ok () w:=by
   intro op
   unfold eqGuard
   rcases hu with ⟨_,rfl⟩ | ⟨_,_,_,rfl⟩
   ·cases op <;> simp
   ·cases op <;> rfl
  rw [Sem.run_bind,hg,Result.andThen_ok]
  have he:(Op.equal t u .nilIface).run P w=.ok b w:=by
   unfold Op.equal Op.maxDepth Op.equalIn
   rw [Sem.run_bind,run_underlying hms,Result.andThen_ok]
   rcases hu with ⟨rfl,rfl⟩ | ⟨rfl,_,_,rfl⟩ <;> rfl
  split at h
  ·simp only [Option.some.injEq,Prod.mk.injEq] at h;obtain ⟨_,rfl⟩:=h
   have:binOp .eql t u .nilIface=(do pure (.bool (← Op.equal t u .nilIface)):Sem Value):=by
    rcases hu with ⟨_,rfl⟩ | ⟨_,_,_,rfl⟩ <;> rfl
   rw [this,Sem.run_bind,he];rfl
  ·simp only [Option.some.injEq,Prod.mk.injEq] at h;obtain ⟨_,rfl⟩:=h
   have:binOp .neq t u .nilIface=(do pure (.bool (!(← Op.equal t u .nilIface))):Sem Value):=by
    rcases hu with ⟨_,rfl⟩ | ⟨_,_,_,rfl⟩ <;> rfl
   rw [this,Sem.run_bind,he];rfl
  ·cases h
 ·cases h
theorem aIf {t:TypeId} (ht:qY P t=true) {op:BinOp} {r:SV} {nd:List E} (h:(match op with
 | .eql=>some (([]:List E),SV.s (.bool (.blit false)))
 | .neq=>some ([],.s (.bool (.blit true)))
 | _=>none)=some (nd,r)) (g:Addr) (n c:Nat) (x y:Operand) :
 (do eqGuard op t x y (.slice (some g) n c) (.slice none 0 0);binOp op t (.slice (some g) n c) (.slice none 0 0):Sem Value).run P w=.ok (r.aC ρ ι) w:=by
 have hg:(eqGuard op t x y (.slice (some g) n c) (.slice none 0 0)).run P w=.ok () w:=aCp rfl
 rw [Sem.run_bind,hg,Result.andThen_ok]
 obtain ⟨e,hu⟩:∃ e,P.underlying t=some (.slice e):=by
  unfold qY at ht;split at ht
  ·rename_i e hu;exact ⟨e,hu⟩
  ·cases ht
 have he:(Op.equal t (.slice (some g) n c) (.slice none 0 0)).run P w=.ok false w:=by
  unfold Op.equal Op.maxDepth Op.equalIn
  rw [Sem.run_bind,run_underlying hu,Result.andThen_ok];rfl
 split at h
 ·simp only [Option.some.injEq,Prod.mk.injEq] at h;obtain ⟨_,rfl⟩:=h
  simp only [binOp,Sem.run_bind,he,Result.andThen_ok];rfl
 ·simp only [Option.some.injEq,Prod.mk.injEq] at h;obtain ⟨_,rfl⟩:=h
  simp only [binOp,Sem.run_bind,he,Result.andThen_ok];rfl
 ·cases h
theorem aGm (hH:H.ok ρ) (hm:aK ρ β ι m w) {p:Nat} {C:Blk} (hC:m[p]? = some C) (hd:C.dead=false) (h:aHO H C=true):ι.nil p=false:=by
 cases hn:ι.nil p with
 | false=>rfl
 | true =>
   obtain ⟨N,W⟩:=hm.nils p C hC hd hn
   simp only [aHO,Bool.or_eq_true] at h
   rcases h with h | h
   ·rw [Option.isNone_iff_eq_none] at h;rw [h] at N;cases N
   ·split at h
    ·rename_i x l hs
     rw [hs,aG] at W
     simp [Seg.cells] at W
    ·rename_i kd z A o l hs
     have h5:=congrArg List.length W
     have h6:=aJ hH h
     rw [hs,aG,List.length_append,Seg.cells,List.length_map,List.length_range,List.length_nil] at h5
     omega
    ·cases h
theorem aSB (hH:H.ok ρ) (hm:aK ρ β ι m w) {p:Nat} (h:aCT H m p=true):ι.nil p=false:=by
 unfold aCT at h
 split at h
 ·rename_i C hC
  simp only [Bool.and_eq_true,Bool.not_eq_true'] at h
  exact aGm hH hm hC h.1 h.2
 ·cases h
theorem bEA (hH:H.ok ρ) (hm:aK ρ β ι m w) {op:BinOp} {t:TypeId} {u v:SV} {nd:List E} {r:SV} (h:bEz P H m op t u v=some (nd,r)) (hn:bD ρ nd) (x y:Operand) :
 (do eqGuard op t x y (u.aC ρ ι) (v.aC ρ ι);binOp op t (u.aC ρ ι) (v.aC ρ ι):Sem Value).run P w=.ok (r.aC ρ ι) w:=by
 unfold bEz at h
 split at h
 ·rename_i b off len k
  split at h
  ·rename_i hc
   simp only [Bool.and_eq_true] at hc
   have M:SV.aC ρ ι (.s (.slc b off len (.op k)))=.slice (some (addr ρ ι b off)) (len.i ρ).toNat (ι.cap b-(k.i ρ).toNat):=by
    simp only [SV.aC,S.aC]
    have a5:=hc.1
    rw [Bool.or_eq_true] at a5
    rcases a5 with hl | hn
    ·have hl:=aJ hH hl
     rw [if_neg (fun h=>by omega)]
    ·have hn:=aSB hH hm hn
     rw [if_neg (fun h=>by rw [hn] at h;cases h.1)]
   rw [M]
   exact aIf hc.2 h _ _ _ x y
  ·cases h
 ·split at h
  ·rename_i hc
   simp only [SV.aC,S.aC]
   exact aIf hc h _ _ _ x y
  ·cases h
 ·rename_i i off len
  split at h
  ·rename_i xi hx
   split at h
   ·rename_i hc
    simp only [Bool.and_eq_true,decide_eq_true_eq] at hc
    have hl:=aJ hH hc.1.1
    have hX:=hH.x _ (hZ hx)
    obtain ⟨b,c,hv,hnc,hb0,_⟩:=(hm.xt i 0).ok
    have hn':(ρ.I.xs i 0).n=(xi.n.i ρ).toNat:=hX.n
    have hlx:=hc.2
    cases b with
    | none=>have:=(hb0 rfl).1;rw [hlx] at hl;omega
    | some ad =>
      have M:SV.aC ρ ι (.s (.xslc i (.lit 0) off len))=.slice (some (ad.add ((off.i ρ).toNat*(ρ.I.xs i 0).sz))) (len.i ρ).toNat (c-(off.i ρ).toNat):=by
       simp only [SV.aC,S.aC,Ext.sub,aF,Int.toNat_zero,hv,Option.map_some]
      rw [M]
      exact aIf hc.1.2 h _ _ _ x y
   ·cases h
  ·cases h
 ·exact aUA (ι:=ι) (P:=P) (w:=w) hH h hn x y
theorem bEy (hH:H.ok ρ) {op:BinOp} {t:TypeId} {u v:SV} {nd:List E} {r:SV} {x y:Operand} (h:bEx P H m op t (aCx y) u v=some (nd,r)) (hn:bD ρ nd) (hm:aK ρ β ι m w) (hv:a.eval y=v.aC ρ ι) :
 (do eqGuard op t x y (u.aC ρ ι) (v.aC ρ ι);binOp op t (u.aC ρ ι) (v.aC ρ ι):Sem Value).run P w=.ok (r.aC ρ ι) w:=by
 unfold bEx at h
 cases hc:aCx y with
 | false=>rw [hc] at h;exact bEA (ι:=ι) (P:=P) (w:=w) hH hm h hn x y
 | true =>
   rw [hc] at h
   obtain rfl:=bAj hc
   rw [← hv]
   simp only [cond_true] at h
   show (do eqGuard op t x (.const .nilIface) (u.aC ρ ι) .nilIface;binOp op t (u.aC ρ ι) .nilIface:Sem Value).run P w=.ok (r.aC ρ ι) w
   split at h
   ·exact aSJ h (.inl ⟨rfl,rfl⟩) x
   ·exact aSJ h (.inr ⟨rfl,_,_,rfl⟩) x
   ·cases h
theorem bHJ {t:TypeId} {x:SV} {nd:List E} {r:SV} (h:bOt P t x=some (nd,r)):(Instr.makeInterface t (x.aC ρ ι)).run P w=.ok (r.aC ρ ι) w:=by
 unfold bOt at h
 split at h
 ·split at h
  ·rename_i hif
   obtain ⟨d,hd,hne⟩:=aYw hif
   simp only [Option.some.injEq,Prod.mk.injEq] at h;obtain ⟨_,rfl⟩:=h
   unfold Instr.makeInterface
   rw [Sem.run_bind,run_underlying hd,Result.andThen_ok]
   split
   ·rename_i ms;exact absurd rfl (hne ms)
   ·simp [SV.aC,S.aC,cellsOf,Seg.cells]
  ·cases h
 ·cases h
theorem aUz {t s:TypeId} {x:SV} {nd:List E} {r:SV} (h:aHS P t x=some (nd,r)):(Instr.typeAssert (x.aC ρ ι) s t true).run P w=.ok (r.aC ρ ι) w:=by
 unfold aHS at h
 split at h
 ·split at h
  ·rename_i hc
   obtain ⟨hif,rfl⟩:=hc
   obtain ⟨d,hd,hne⟩:=aYw hif
   simp only [Option.some.injEq,Prod.mk.injEq] at h;obtain ⟨_,rfl⟩:=h
   unfold Instr.typeAssert
   rw [Sem.run_bind,run_underlying hd,Result.andThen_ok]
   simp only [SV.aC,S.aC]
   cases d <;> first | exact absurd rfl (hne _) | simp [cellsOf,Seg.cells,S.aC,aP]
  ·cases h
 ·cases h
theorem aHV (hH:H.ok ρ) (hm:aK ρ β ι m w) (hf:aR ρ ι n fr a) (hG:eM ρ G) {o:Oper} {nd:List E} {r:SV} (h:qop P H G fr m o.op=some (nd,r)) (hn:bD ρ nd) :
 (execOp a.eval o).run P w=.ok (.value (r.aC ρ ι)) w:=by
 unfold qop at h
 split at h
 ·rename_i x ho
  simp only [Option.map_eq_some_iff,Prod.mk.injEq] at h
  obtain ⟨v,hv,_,rfl⟩:=h
  simp [execOp,ho,aQ hf hG hv]
 ·rename_i x ho
  simp only [Option.map_eq_some_iff,Prod.mk.injEq] at h
  obtain ⟨v,hv,_,rfl⟩:=h
  simp [execOp,ho,aQ hf hG hv]
 ·rename_i c x y ho
  obtain ⟨b,hb,hv⟩:=bEF hH hf hG h
  simp [execOp,ho,hb,asBool,hv]
 ·rename_i x ho
  split at h
  ·rename_i v hv
   exact bHK h o x ho _ (aQ hf hG hv)
  ·cases h
 ·rename_i op t x y t' ho
  split at h
  ·rename_i u v hu hv
   have:=bEy (ι:=ι) (P:=P) (w:=w) (x:=x) hH h hn hm (aQ hf hG hv)
   simp only [execOp,ho,aQ hf hG hu,aQ hf hG hv]
   rw [Sem.run_bind,this];rfl
  ·cases h
 ·rename_i t x ho
  split at h
  ·rename_i v hv
   simp [execOp,ho,aQ hf hG hv,bHJ (ι:=ι) (w:=w) h]
  ·cases h
 ·rename_i x s t ho
  split at h
  ·rename_i v hv
   simp [execOp,ho,aQ hf hG hv,aUz (ι:=ι) (w:=w) (s:=s) h]
  ·cases h
 ·rename_i op t x ho
  split at h
  ·rename_i v hv
   simp [execOp,ho,aQ hf hG hv,bOv (ι:=ι) hH h]
  ·cases h
 ·rename_i s d x ho
  split at h
  ·rename_i v hv
   simp [execOp,ho,aQ hf hG hv,bEC (ι:=ι) hH h]
  ·cases h
 ·rename_i t x ho
  split at h
  ·rename_i v hv
   simp [execOp,ho,aQ hf hG hv,aSI hH hm h hn]
  ·cases h
 ·rename_i t x f ho
  split at h
  ·rename_i v hv
   simp [execOp,ho,aQ hf hG hv,aEd (ι:=ι) hH hm h hn]
  ·cases h
 ·rename_i t x f ho
  split at h
  ·rename_i v hv
   simp [execOp,ho,aQ hf hG hv,bAH (ρ:=ρ) (ι:=ι) h]
  ·cases h
 ·rename_i t x y ho
  split at h
  ·rename_i u v hu hv
   simp [execOp,ho,aQ hf hG hu,aQ hf hG hv,aEe (ι:=ι) hH hm h hn]
  ·cases h
 ·rename_i t x y ho
  split at h
  ·rename_i u v hu hv
   simp [execOp,ho,aQ hf hG hu,aQ hf hG hv,bAI (ι:=ι) hH h hn]
  ·cases h
 ·rename_i x i ho
  split at h
  ·rename_i v hv
   simp [execOp,ho,aQ hf hG hv,aSH (ρ:=ρ) (ι:=ι) h]
  ·cases h
 ·rename_i t x lo hi ho
  split at h
  ·rename_i u v1 v2 hu F J
   have hr:=bAK (ι:=ι) (w:=w) hH hm h hn
   simp only [execOp,ho,aQ hf hG hu,aGo hf hG F,aGo hf hG J,Option.map_none,Sem.run_bind,hr,Result.andThen_ok,Sem.run_pure]
  ·cases h
 ·rename_i f first iH ho
  split at h
  ·rename_i K
   split at h
   ·rename_i l hl
    simp only [Option.map_eq_some_iff,Prod.mk.injEq] at h
    obtain ⟨c,hc,_,rfl⟩:=h
    have M:=(kK hf hG hl).trans (aZf hc)
    have T:iH.map a.eval=(c.map fun p=>Value.pointer (some (addr ρ ι p.1 p.2))).toArray:=by
     rw [← M,← Array.toList_map]
    have Z:first=#[]:=by simpa using K
    simp [execOp,ho,Instr.makeFunc,T,Z,SV.aC,S.aC]
   ·cases h
  ·cases h
 ·rename_i t parts ho
  split at h
  ·rename_i l hl
   have key:=bAG (ρ:=ρ) (ι:=ι) (w:=w) h
   have M:(parts.map fun (p:Nat × Operand)=>(p.1,a.eval p.2))=(((parts.toList.map (·.1)).zip l).map fun p=>(p.1,p.2.aC ρ ι)).toArray:=by
    apply Array.ext'
    have:=kK hf hG hl
    rw [List.map_map] at this
    simp only [Array.toList_map]
    have J:((parts.toList.map (·.1)).zip l).map (fun p=>(p.1,p.2.aC ρ ι))=(parts.toList.map (·.1)).zip (l.map (SV.aC ρ ι)):=by rw [List.zip_map_right];rfl
    rw [J,← this,List.zip_map']
    rfl
   simp only [execOp,ho]
   rw [Sem.run_bind]
   have T:(parts.map fun (x:Nat × Operand)=>match x with | (i,x)=>(i,a.eval x))=(parts.map fun (p:Nat × Operand)=>(p.1,a.eval p.2)):=rfl
   rw [T,M,key];rfl
  ·cases h
 ·rename_i b args ts ho
  have ea:∀ {l:List SV},qE G fr args.toList=some l→args.map a.eval=(l.map (SV.aC ρ ι)).toArray:=fun hl=>by
   rw [← kK hf hG hl,← Array.toList_map]
  split at h
  ·rename_i x t r' hl ht
   have K:ts[0]? = some t:=by rw [← Array.getElem?_toList,ht];rfl
   have:=bHI (ι:=ι) (w:=w) (ty:=o.type) hH hm h ts K
   simp [execOp,ho,resolve,invoke,builtin,ea hl,this]
  ·rename_i x y hl
   have:=bED (ι:=ι) (P:=P) (w:=w) hH h ts o.type
   simp only [if_true] at this
   simp [execOp,ho,resolve,invoke,builtin,ea hl,this]
  ·rename_i x y hl
   have:=bED (ι:=ι) (P:=P) (w:=w) hH h ts o.type
   simp only [Bool.false_eq_true,if_false] at this
   simp [execOp,ho,resolve,invoke,builtin,ea hl,this]
  ·cases h
 ·cases h
end
def S.sc (n:Nat):S→Bool
 | .ptr b _=>b<n
 | .slc b _ _ _=>b<n
 | .fn _ iH=>iH.all fun p=>p.1<n
 | _=>true
def Seg.sc (n:Nat):Seg→Bool
 | .one x=>x.sc n
 | _=>true
def SV.sc (n:Nat):SV→Bool
 | .s x=>x.sc n
 | .agg l=>l.all (Seg.sc n)
 | .tup l=>l.all fun p=>p.2.all (Seg.sc n)
 | .junk=>true
def jL (n:Nat) (fr:Fr) (m:Mem):Bool:=fr.all (fun f=>f.x.sc n)&&m.all (fun B=>B.aH.all (Seg.sc n))
section
variable {ρ:Env} {ι ι':Loc} {n:Nat}
theorem S.jN (h:Loc.bV n ι ι') {x:S} (hx:x.sc n=true):x.aC ρ ι=x.aC ρ ι':=by
 cases x <;> simp only [S.sc,decide_eq_true_eq,List.all_eq_true] at hx
 case ptr b off=>simp only [S.aC,addr];rw [(h _ hx).1]
 case slc b off len cap =>
  obtain ⟨F,J,N⟩:=h _ hx
  cases cap <;> simp only [S.aC,addr]
  ·rw [F]
  ·rw [F,J,N]
  ·rw [F,J]
 case fn f iH =>
  simp only [S.aC,addr]
  congr 2
  exact List.map_congr_left fun p hp=>by rw [(h _ (by simpa using hx p hp)).1]
 all_goals rfl
theorem Seg.aIB (h:Loc.bV n ι ι') {x:Seg} (hx:x.sc n=true):x.cells ρ ι=x.cells ρ ι':=by
 cases x with
 | one x=>simp only [Seg.cells,S.jN h hx]
 | run=>rfl
 | rows=>rfl
theorem bK (h:Loc.bV n ι ι'):∀ {l:List Seg},l.all (Seg.sc n)=true→cellsOf ρ ι l=cellsOf ρ ι' l
 | [],_=>rfl
 | x::l,hl=>by
   simp only [List.all_cons,Bool.and_eq_true] at hl
   rw [aG,aG,Seg.aIB h hl.1,bK h hl.2]
theorem SV.jN (h:Loc.bV n ι ι') {x:SV} (hx:x.sc n=true):x.aC ρ ι=x.aC ρ ι':=by
 cases x with
 | s x=>exact S.jN h hx
 | agg l=>simp only [SV.aC,bK h hx]
 | junk=>rfl
 | tup l =>
   simp only [SV.sc,List.all_eq_true] at hx
   simp only [SV.aC]
   congr 2
   exact List.map_congr_left fun p hp=>by
    have:=bK (ρ:=ρ) h (l:=p.2) (List.all_eq_true.2 (hx p hp))
    rw [this]
theorem aSn {fr:Fr} {t:Nat} {g:List E} {x:SV} (h:look fr t=some (g,x)):∃ f ∈ fr,f.x=x:=by
 induction fr with
 | nil=>simp [gF] at h
 | cons f fr ih =>
   simp only [gF,dU] at h
   split at h
   ·split at h
    ·cases h
    ·simp only [Option.some.injEq,Prod.mk.injEq] at h;exact ⟨f,.head _,h.2⟩
   ·obtain ⟨f',hf,hx⟩:=ih h;exact ⟨f',.tail _ hf,hx⟩
theorem aR.congr {k:Nat} {fr:Fr} {a:Act} (hf:aR ρ ι k fr a) (h:Loc.bV n ι ι') (hs:fr.all (fun f=>f.x.sc n)=true):aR ρ ι' k fr a:=by
 refine ⟨hf.size,hf.defers,fun t g x hl hg=>?_,hf.no⟩
 obtain ⟨f,hf',rfl⟩:=aSn hl
 rw [hf.yes _ _ _ hl hg,SV.jN h (List.all_eq_true.1 hs f hf')]
end
def cV (ι:Loc) (k r c:Nat) (nl:Bool):Loc:=⟨fun i=>if i=k then r else ι.pos i,fun i=>if i=k then c else ι.cap i,fun i=>if i=k then nl else ι.nil i⟩
theorem cS (ι:Loc) (k r c:Nat) (nl:Bool):Loc.bV k ι (cV ι k r c nl):=fun i h=>by
 have:i ≠ k:=by omega
 simp [cV,this]
theorem Loc.bV.refl (n:Nat) (ι:Loc):Loc.bV n ι ι:=fun _ _=>⟨rfl,rfl,rfl⟩
theorem Loc.bV.trans {n:Nat} {a b c:Loc} (h:Loc.bV n a b) (h':Loc.bV n b c):Loc.bV n a c:=fun i hi =>
 ⟨(h i hi).1.trans (h' i hi).1,(h i hi).2.1.trans (h' i hi).2.1,(h i hi).2.2.trans (h' i hi).2.2⟩
theorem Loc.bV.symm {n:Nat} {a b:Loc} (h:Loc.bV n a b):Loc.bV n b a:=fun i hi=>⟨(h i hi).1.symm,(h i hi).2.1.symm,(h i hi).2.2.symm⟩
theorem Loc.bV.mono {n k:Nat} {a b:Loc} (h:Loc.bV n a b) (hk:k≤n):Loc.bV k a b:=fun i hi=>h i (by omega)
section
variable {ρ:Env} {ι:Loc} {w:World} {β:dN} {m:Mem}
theorem pI {b:Nat} {o:Obj} (h:w.heap[b]? = some o):b<w.heap.size:=by
 rw [Array.getElem?_eq_some_iff] at h;exact h.1
theorem aK.aAy (hm:aK ρ β ι m w) {i:Nat} {B:Blk} (hB:m[i]? = some B) (hd:B.dead=false) (hn:ι.nil i=false):ι i<w.heap.size:=by
 obtain ⟨fz,rest,F,_⟩:=hm.blk i B hB hd hn
 exact pI F
theorem aK.push (hm:aK ρ β ι m w) {w':World} (B:Blk) (r c:Nat) (nl:Bool) (hs:m.all (fun B=>B.aH.all (Seg.sc m.length))=true) (hs':B.aH.all (Seg.sc m.length)=true)
 (hw:∀ b,b<w.heap.size→w'.heap[b]? = w.heap[b]?) (hsz:w.heap.size≤w'.heap.size) (hos:w'.os=w.os) (htape:w'.tape=w.tape) (hout:w'.output=w.output) (hr:w.heap.size≤r)
 (hblk:B.dead=false→nl=false→∃ fz rest,w'.heap[r]? = some (.cells (cellsOf ρ ι B.aH++rest).toArray B.ty fz)∧(B.wr=true→fz.2≤fz.1) ∧
   (∀ sz,B.grow=some sz→(cellsOf ρ ι B.aH++rest).length=c*sz∧c≤maxLen)∧(B.grow=none→rest=[]))
 (hnil:B.dead=false→nl=true→B.grow.isSome=true∧cellsOf ρ ι B.aH=[]):aK ρ β (cV ι m.length r c nl) (m++[B]) w':=by
 have hag:=cS ι m.length r c nl
 have heq:(cV ι m.length r c nl).pos m.length=r∧(cV ι m.length r c nl).cap m.length=c∧(cV ι m.length r c nl).nil m.length=nl:=by simp [cV]
 have at_:∀ {i:Nat} {C:Blk},(m++[B])[i]? = some C→(i<m.length∧m[i]? = some C)∨(i=m.length∧C=B):=by
  intro i C h
  by_cases hi:i<m.length
  ·rw [List.getElem?_append_left hi] at h;exact .inl ⟨hi,h⟩
  ·rw [List.getElem?_append_right (by omega)] at h
   have K:=(List.getElem?_eq_some_iff.1 h).1
   simp at K
   have:i=m.length:=by omega
   subst this
   simp at h
   exact .inr ⟨rfl,h.symm⟩
 have scB:∀ {i:Nat} {C:Blk},m[i]? = some C→cellsOf ρ (cV ι m.length r c nl) C.aH=cellsOf ρ ι C.aH:=fun hC =>
  (bK hag (List.all_eq_true.1 hs _ (List.mem_of_getElem? hC))).symm
 have scB':cellsOf ρ (cV ι m.length r c nl) B.aH=cellsOf ρ ι B.aH:=(bK hag hs').symm
 refine ⟨fun i j C D hC hD hCd hDd hCn hDn he=>?_,fun i C hC hCd hCn=>?_,fun i C hC hCd hCn=>?_,(hag.mono hm.len).symm.trans hm.agr,by have:=hm.len;simp;omega,fun i hi hi'=>?_,Nat.le_trans hm.size hsz,fun b hb hi=>?_,hos.trans hm.os,htape.trans hm.tape,hout.trans hm.output,hm.xt,fun i j a n' c' hv K k hk=>?_⟩
 ·rcases at_ hC with ⟨hi,Q⟩ | ⟨hi,Q⟩ <;> rcases at_ hD with ⟨hj,Y⟩ | ⟨hj,Y⟩
  ·rw [← (hag i hi).1,← (hag j hj).1] at he
   rw [← (hag i hi).2.2] at hCn
   rw [← (hag j hj).2.2] at hDn
   exact hm.inj i j C D Q Y hCd hDd hCn hDn he
  ·rw [← (hag i hi).2.2] at hCn
   have:=hm.aAy Q hCd hCn
   rw [← (hag i hi).1,hj,heq.1] at he;omega
  ·rw [← (hag j hj).2.2] at hDn
   have:=hm.aAy Y hDd hDn
   rw [← (hag j hj).1,hi,heq.1] at he;omega
  ·rw [hi,hj]
 ·rcases at_ hC with ⟨hi,hC⟩ | ⟨rfl,rfl⟩
  ·rw [← (hag i hi).2.2] at hCn
   obtain ⟨fz,rest,F,J⟩:=hm.blk i C hC hCd hCn
   rw [← (hag i hi).1,← (hag i hi).2.1,scB hC]
   exact ⟨fz,rest,by rw [hw _ (pI F)];exact F,J⟩
  ·rw [heq.2.2] at hCn
   rw [heq.1,heq.2.1,scB']
   exact hblk hCd hCn
 ·rcases at_ hC with ⟨hi,hC⟩ | ⟨rfl,rfl⟩
  ·rw [← (hag i hi).2.2] at hCn
   rw [scB hC];exact hm.nils i C hC hCd hCn
  ·rw [heq.2.2] at hCn
   rw [scB'];exact hnil hCd hCn
 ·by_cases hc:i<m.length
  ·rw [← (hag i hc).1]
   rcases hm.new i hi hc with hn | ⟨j,hj,hn⟩
   ·exact .inl hn
   ·exact .inr ⟨j,hj,by rw [hn];exact (hag j (Nat.lt_of_lt_of_le hj hm.len)).1⟩
  ·have:i=m.length:=by simp at hi';omega
   subst this
   rw [heq.1];exact .inl (Nat.le_trans hm.size hr)
 ·have:=hm.size
  rw [hw b (by omega)]
  refine hm.old b hb fun i hi'=>?_
  have:=hi i (by simp;omega)
  rwa [← (hag i hi').1] at this
 ·by_cases hc:k<m.length
  ·rw [← (hag k hc).1];exact hm.xd i j a n' c' hv K k hc
  ·have:k=m.length:=by simp at hk;omega
   subst this
   rw [heq.1]
   obtain ⟨b,c2,M,T,Z,e4⟩:=(hm.xt i j).ok
   rw [hv] at M;injection M with M _ _
   have:=(e4 a M.symm 0 K).1
   have:=hm.size
   omega
theorem aK.alloc (hm:aK ρ β ι m w) (ty:TypeId) (aH:List Seg) (hs:m.all (fun B=>B.aH.all (Seg.sc m.length))=true) (hs':aH.all (Seg.sc m.length)=true) :
 aK ρ β (cV ι m.length w.heap.size 0 false) (m++[⟨ty,aH,true,none,false⟩]) { w with heap:=w.heap.push (.cells (cellsOf ρ ι aH).toArray ty) }:=by
 refine hm.push _ _ _ _ hs hs' (fun b hb=>?_) (by simp) rfl rfl rfl (Nat.le_refl _) (fun _ _=>⟨(0,0),[],?_,fun _=>Nat.le_refl _,fun sz h=>by simp at h,fun _=>rfl⟩) (fun _ h=>by simp at h)
 ·show (w.heap.push _)[b]? = _
  rw [Array.getElem?_push,if_neg (by omega)]
 ·show (w.heap.push _)[_]? = _
  rw [Array.getElem?_push,if_pos rfl];simp
theorem aK.xD (hm:aK ρ β ι m w) (i j:Nat):(ρ.I.xs i j).ok w:=by
 obtain ⟨b,c,F,J,N,W⟩:=(hm.xt i j).ok
 refine ⟨b,c,F,J,N,fun a ha k hk=>⟨Nat.lt_of_lt_of_le (W a ha k hk).1 hm.size,?_⟩⟩
 subst ha
 exact hm.bGd F hk
theorem aK.now (hm:aK ρ β ι m w):aK ρ ⟨w,m.length,ι⟩ ι m w :=
 ⟨hm.inj,hm.blk,hm.nils,Loc.bV.refl _ _,Nat.le_refl _,fun i F J=>absurd J (Nat.not_lt.2 F),Nat.le_refl _,fun _ _ _=>rfl,rfl,rfl,rfl,hm.xD,hm.xd⟩
theorem aK.since (hm:aK ρ β ι m w) {ι':Loc} {m':Mem} {w':World} (h':aK ρ ⟨w,m.length,ι⟩ ι' m' w'):aK ρ β ι' m' w':=by
 have hag:Loc.bV m.length ι' ι:=h'.agr
 have hlen:m.length≤m'.length:=h'.len
 refine ⟨h'.inj,h'.blk,h'.nils,(hag.mono hm.len).trans hm.agr,Nat.le_trans hm.len hlen,fun i F J=>?_,Nat.le_trans hm.size h'.size,fun b hb hi=>?_,h'.os.trans hm.os,h'.tape.trans hm.tape,h'.output.trans hm.output,hm.xt,fun i j a n c hv K k hk=>?_⟩
 ·by_cases hc:i<m.length
  ·rw [(hag i hc).1]
   rcases hm.new i F hc with hn | ⟨j,hj,hn⟩
   ·exact .inl hn
   ·exact .inr ⟨j,hj,by rw [hn,(hag j (Nat.lt_of_lt_of_le hj hm.len)).1]⟩
  ·rcases h'.new i (Nat.not_lt.1 hc) J with hn | ⟨j,hj,hn⟩
   ·exact .inl (Nat.le_trans hm.size hn)
   ·have hj:j<m.length:=hj
    by_cases hj2:j<β.k
    ·exact .inr ⟨j,hj2,hn⟩
    ·rcases hm.new j (Nat.not_lt.1 hj2) hj with N | ⟨q,hq,N⟩
     ·exact .inl (by rw [hn,(hag j hj).1];exact N)
     ·exact .inr ⟨q,hq,by rw [hn,(hag j hj).1,N,(hag q (Nat.lt_of_lt_of_le hq hm.len)).1]⟩
 ·have hb':b<w.heap.size:=Nat.lt_of_lt_of_le hb hm.size
  rw [h'.old b hb' hi]
  exact hm.old b hb fun i hi'=>by rw [← (hag i hi').1];exact hi i (Nat.lt_of_lt_of_le hi' hlen)
 ·exact h'.xd i j a n c hv K k hk
def cN (w:World) (b:Nat) (cs:List Value) (ty:TypeId) (fz:Nat × Nat):World:={ w with heap:=w.heap.setIfInBounds b (.cells cs.toArray ty fz) }
theorem aK.cN (hm:aK ρ β ι m w) {b:Nat} {B:Blk} (hB:m[b]? = some B) (hd:B.dead=false) (hn:ι.nil b=false) (aH:List Seg) (rest:List Value) {fz:Nat × Nat} (hfz:fz.2≤fz.1)
 (hg:∀ sz,B.grow=some sz→(cellsOf ρ ι aH++rest).length=ι.cap b*sz∧ι.cap b≤maxLen) (hr:B.grow=none→rest=[]) :
 aK ρ β ι (m.set b { B with aH:=aH }) (Sx.cN w (ι b) (cellsOf ρ ι aH++rest) B.ty fz):=by
 have hb:b<m.length:=(List.getElem?_eq_some_iff.1 hB).1
 have hlt:=hm.aAy hB hd hn
 have at_:∀ {i:Nat} {C:Blk},(m.set b { B with aH:=aH })[i]? = some C→(i=b∧C={ B with aH:=aH })∨(i ≠ b∧m[i]? = some C):=by
  intro i C h
  rw [List.getElem?_set] at h
  split at h
  ·rename_i hbi;subst hbi;simp only [Option.some.injEq] at h;exact .inl ⟨rfl,by simpa [hb] using h.symm⟩
  ·rename_i hbi;exact .inr ⟨fun e=>hbi e.symm,h⟩
 have old:∀ {i:Nat} {C:Blk},(m.set b { B with aH:=aH })[i]? = some C→∃ C',m[i]? = some C'∧C'.dead=C.dead:=by
  intro i C h
  rcases at_ h with ⟨rfl,rfl⟩ | ⟨_,h⟩
  ·exact ⟨B,hB,rfl⟩
  ·exact ⟨C,h,rfl⟩
 refine ⟨fun i j C D hC hD hCd hDd hCn hDn he=>?_,fun i C hC hCd hCn=>?_,fun i C hC hCd hCn=>?_,hm.agr,by simpa using hm.len,fun i F J=>hm.new i F (by simpa using J),?_,fun k hk hi=>?_,hm.os,hm.tape,hm.output,hm.xt,fun i j a n' c' hv K k hk=>hm.xd i j a n' c' hv K k (by simpa using hk)⟩
 ·obtain ⟨C',hC',M⟩:=old hC
  obtain ⟨D',hD',T⟩:=old hD
  exact hm.inj i j C' D' hC' hD' (M.trans hCd) (T.trans hDd) hCn hDn he
 ·rcases at_ hC with ⟨rfl,rfl⟩ | ⟨hbi,hC⟩
  ·refine ⟨fz,rest,?_,fun _=>hfz,hg,hr⟩
   simp [Sx.cN,Array.getElem?_setIfInBounds_self,hlt]
  ·obtain ⟨fz',rest',N,W⟩:=hm.blk i C hC hCd hCn
   refine ⟨fz',rest',?_,W⟩
   simp only [Sx.cN]
   rw [Array.getElem?_setIfInBounds_ne (fun he=>hbi (hm.inj b i B C hB hC hd hCd hn hCn he).symm)]
   exact N
 ·rcases at_ hC with ⟨rfl,rfl⟩ | ⟨hbi,hC⟩
  ·rw [hn] at hCn;cases hCn
  ·exact hm.nils i C hC hCd hCn
 ·simp only [Sx.cN,Array.size_setIfInBounds];exact hm.size
 ·simp only [Sx.cN]
  have:=hi b (by simpa using hb)
  rw [Array.getElem?_setIfInBounds_ne this]
  exact hm.old k hk fun i hi'=>hi i (by simpa using hi')
end
theorem aUQ (w:World) (b o:Nat) (cs:List Value) (ty:TypeId) (fz:Nat × Nat) (v:Value) (h:w.heap[b]? = some (.cells cs.toArray ty fz)) :
 w.setCell ⟨b,o,none⟩ v=cN w b (cs.set o v) ty fz:=by
 unfold World.setCell cN
 congr 1
 apply Array.ext_getElem?
 intro i
 rw [Array.getElem?_modify]
 split
 ·rename_i hi;subst hi
  have hlt:=pI h
  rw [Array.getElem?_setIfInBounds_self_of_lt hlt,h]
  simp
 ·rename_i hi
  rw [Array.getElem?_setIfInBounds_ne hi]
theorem aIc (w:World) (b:Nat) (c d:List Value) (ty:TypeId) (fz:Nat × Nat):cN (cN w b c ty fz) b d ty fz=cN w b d ty fz:=by
 unfold cN;simp
theorem kM {w:World} {b:Nat} {c:List Value} {ty:TypeId} {fz:Nat × Nat} (h:w.heap[b]? = some (.cells c.toArray ty fz)):cN w b c ty fz=w:=by
 unfold cN
 have:w.heap.setIfInBounds b (.cells c.toArray ty fz)=w.heap:=by
  apply Array.ext_getElem?
  intro i
  by_cases hi:b=i
  ·subst hi;rw [Array.getElem?_setIfInBounds_self_of_lt (pI h),h]
  ·rw [Array.getElem?_setIfInBounds_ne hi]
 rw [this]
theorem gC (P:Program) (b off:Nat) (ty:TypeId) (fz:Nat × Nat) (hfz:fz.2≤fz.1):∀ (vs:List Value) (i:Nat) (cs:List Value) (w:World),
 w.heap[b]? = some (.cells cs.toArray ty fz)→(∀ v ∈ vs,v.oneCell'=true)→off+i+vs.length≤cs.length →
 (storeCells ⟨b,off,none⟩ vs i).run P w=.ok () (cN w b (cs.take (off+i)++vs++cs.drop (off+i+vs.length)) ty fz)
 | [],i,cs,w,h,_,_=>by
   unfold storeCells
   simp [kM h]
 | v::vs,i,cs,w,h,hv,hl=>by
   simp only [List.length_cons] at hl
   unfold storeCells
   have hlt:off+i<cs.length:=by omega
   have hc:w.cell? ⟨b,off+i,none⟩=some cs[off+i]:=by
    simp [World.cell?,h,hlt]
   have hfr:w.frozen? ⟨b,off+i,none⟩=false:=by
    simp [World.frozen?,h];omega
   have hst:(store (Addr.add ⟨b,off,none⟩ i) v).run P w=.ok () (cN w b (cs.set (off+i) v) ty fz):=by
    rw [run_store P w _ v _ (hv v (.head _))]
    have:(Addr.add ⟨b,off,none⟩ i)=⟨b,off+i,none⟩:=aAS b off i
    rw [this,hc]
    simp only [hfr]
    rw [aUQ w b (off+i) cs ty fz v h];rfl
   rw [Sem.run_bind,hst,Result.andThen_ok]
   have hh:(cN w b (cs.set (off+i) v) ty fz).heap[b]? = some (.cells (cs.set (off+i) v).toArray ty fz):=by
    unfold cN;simp only;rw [Array.getElem?_setIfInBounds_self_of_lt (pI h)]
   rw [gC P b off ty fz hfz vs (i+1) _ _ hh (fun u hu=>hv u (.tail _ hu)) (by simp;omega),aIc]
   congr 2
   apply List.ext_getElem?
   intro j
   simp only [List.getElem?_append,List.length_append,List.length_take,List.length_set,List.getElem?_take,List.getElem?_set,List.getElem?_drop,List.length_cons]
   by_cases F:j<off+i
   ·rw [if_pos (by omega),if_pos (by omega),if_pos (by omega),if_neg (by omega),if_pos (by omega),if_pos (by omega),if_pos F]
   ·by_cases J:j=off+i
    ·subst J
     rw [if_pos (by omega),if_pos (by omega),if_pos (by omega),if_pos rfl,if_pos hlt,if_pos (by omega),if_neg (by omega),show off+i-min (off+i) cs.length=0 by omega];rfl
    ·by_cases N:j<off+i+1+vs.length
     ·rw [if_pos (by omega),if_neg (by omega),if_pos (by omega),if_neg (by omega),show j-min (off+i) cs.length=(j-min (off+(i+1)) cs.length)+1 by omega,List.getElem?_cons_succ]
     ·rw [if_neg (by omega),if_neg (by omega),if_neg (by omega)]
      congr 1;omega
def S.plain:S→Bool
 | .val _=>false
 | .undef=>false
 | _=>true
def Seg.plain:Seg→Bool
 | .one x=>x.plain
 | _=>true
def yU:SV→Option (List Seg)
 | .s x=>if x.plain then some [.one x] else none
 | .agg l=>if l.all Seg.plain then some l else none
 | _=>none
abbrev WR:=Option (List E × SV × Mem)
def nM (fr:Fr) (m:Mem) (ty:TypeId) (aH:List Seg):WR :=
 if jL m.length fr m&&aH.all (Seg.sc m.length) then some ([],.s (.ptr m.length (.lit 0)),m++[⟨ty,aH,true,none,false⟩]) else none
def sA (q:E):List XF→List S→Option (List XF)
 | [],[]=>some []
 | f::fs,x::xs=>match bGc f q x,sA q fs xs with
   | some g,some gs=>some (g::gs)
   | _,_=>none
 | _,_=>none
def uQ:List Seg→Option (List S)
 | []=>some []
 | .one x::l=>(uQ l).map (x::·)
 | _=>none
def kO (H:Hyp) (off:E) (xs:List S):Nat→List Seg→Option (List E × List Seg)
 | _,[]=>none
 | st,.one y::r=>if aO H (st+1) off then (kO H off xs (st+1) r).map fun p=>(p.1,.one y::p.2) else none
 | st,.run k (.lit n) A o::r=>if 0≤n∧aO H (st+n) off=true then (kO H off xs (st+n.toNat) r).map fun p=>(p.1,.run k (.lit n) A o::p.2) else none
 | _,.run ..::_=>none
 | st,.rows n fs o::r =>
   let wr:=match gZ fs.length off with
    | some (j,c)=>if st≤c∧(c-st)%fs.length=0∧0<fs.length then
       match sA (mkAdd j (.lit ((c-st) / fs.length+o:Nat))) fs xs with
       | some gs=>some ([mkLt H (mkAdd j (.lit ((c-st) / fs.length:Nat))) n],.rows n gs o::r)
       | none=>none
      else none
    | none=>none
   match n with
   | .lit z=>if 0≤z∧aO H (st+z*fs.length) off=true then (kO H off xs (st+z.toNat*fs.length) r).map fun p=>(p.1,.rows n fs o::p.2) else wr
   | _=>wr
def aVj (P:Program) (H:Hyp) (m:Mem) (t:TypeId) (p x:SV):WR :=
 match p with
 | .s (.ptr b off) =>
   match m[b]?,yU x with
   | some B,some l =>
     if B.wr=true∧B.dead=false then
      match dA P t,x,bAl off with
      | some n,.agg _,some o=>if eE l=some n∧0<n then
         match bT o B.aH,bL (o+n) B.aH with
         | some l1,some l2=>some ([],.undef,m.set b { B with aH:=l1++l++l2 })
         | _,_=>none
        else none
      | some n,.agg _,none=>match uQ l with
        | some xs=>if xs.length=n then (kO H off xs 0 B.aH).map fun r=>(mkLe H (.lit 0) off::r.1,.undef,m.set b { B with aH:=r.2 }) else none
        | none=>none
      | some 1,.s y,_=>(xA H off y 0 B.aH).map fun r=>(mkLe H (.lit 0) off::r.1,.undef,m.set b { B with aH:=r.2 })
      | _,_,_=>none
     else none
   | _,_=>none
 | _=>none
def gE:List Seg→Option (List S)
 | []=>some []
 | .one x::r=>(gE r).map (x::·)
 | .run k (.lit n) A o::r=>if 0≤n∧n≤4096 then (gE r).map (((List.range n.toNat).map fun j=>S.int k (dY H0 A (.lit (o+j:Nat))))++·) else none
 | _=>none
def pS (l:List S):List Seg:=l.map .one
def rowOf (m:Mem) (sz:Nat):SV→Option (List S)
 | .s .nilSlc=>some []
 | .s (.slc b (.lit o) (.lit n) _)=>match m[b]? with
   | some B=>match gE B.aH with
     | some l=>if B.dead=false∧0≤o∧0≤n∧o.toNat+n.toNat*sz≤l.length then some ((l.drop o.toNat).take (n.toNat*sz)) else none
     | none=>none
   | none=>none
 | _=>none
def sB (P:Program) (e:TypeId):Option (Nat × Nat):=match P.info? e with
 | some i=>match i.zero with
   | some z=>if z.cells.size=i.size∧0<i.size then some (i.size,i.bytes) else none
   | none=>none
 | none=>none
def roomFor (B:Blk) (l:List S) (sz O n:Nat):Cap→Bool
 | .kn (.lit c)=>decide ((O+n:Nat)≤c)
 | .op (.lit k)=>decide (0≤k∧B.grow=some sz∧(k.toNat+O+n)*sz≤l.length)
 | _=>false
def aGP (P:Program) (fr:Fr) (m:Mem) (t:TypeId) (s x:SV):WR :=
 match jG P t with
 | none=>none
 | some e=>match sB P e with
   | none=>none
   | some (sz,by_)=>match rowOf m sz x with
     | none=>none
     | some xs =>
       if xs.all S.plain&&xs.all (S.sc m.length)&&jL m.length fr m&&decide (xs.length≤65536∧by_≤65536) then
        match s with
        | .s .nilSlc=>if xs=[] then some ([],.s .nilSlc,m) else some ([],.s (.slc m.length (.lit 0) (.lit (xs.length / sz:Nat)) (.op (.lit 0))),m++[⟨e,pS xs,true,some sz,false⟩])
        | .s (.slc b (.lit o) (.lit O) cap)=>match m[b]? with
          | some B=>match gE B.aH with
            | some l =>
              if B.dead=false∧B.wr=true∧B.ty=e∧0≤o∧0≤O∧0<l.length∧O≤65536∧l.all (S.sc m.length)=true then
               if roomFor B l sz O.toNat (xs.length / sz) cap then
                if xs=[] then some ([],s,m) else
                if o.toNat+O.toNat*sz+xs.length≤l.length then some ([],.s (.slc b (.lit o) (.lit (O+(xs.length / sz:Nat))) cap),m.set b { B with aH:=pS (l.take (o.toNat+O.toNat*sz)++xs++l.drop (o.toNat+O.toNat*sz+xs.length)) }) else none
               else if o=0∧cap=.op (.lit 0)∧B.grow=some sz∧l.length=O.toNat*sz∧xs ≠ [] then
                some ([],.s (.slc m.length (.lit 0) (.lit (O+(xs.length / sz:Nat))) (.op (.lit 0))),(m.set b { B with dead:=true })++[⟨e,pS (l++xs),true,some sz,false⟩])
               else none
              else none
            | none=>none
          | none=>none
        | _=>none
       else none
def oW (fr:Fr):Op→Option (TypeId × SV × SV)
 | .call c=>match c.callee,c.args.toList,c.argTypes.toList with
   | .builtin .append,[s,x],[t,t']=>if t=t' then match dB [] fr s,dB [] fr x with
     | some u,some v=>some (t,u,v)
     | _,_=>none
     else none
   | _,_,_=>none
 | _=>none
def bJd (P:Program) (e:TypeId) (n sz:Nat):Option (List Seg):=match xE P e with
 | some (.s (.int k (.lit 0)))=>if sz=1 then some [.run k (.lit n) (.tab []) 0] else bAJ P e n sz [] []
 | _=>bAJ P e n sz [] []
def zY:SV→Option Int
 | .s (.int _ (.lit z))=>some z
 | _=>none
def bDV (P:Program) (fr:Fr) (m:Mem) (t:TypeId) (l c:SV):WR :=
 match jG P t,zY l,zY c with
 | some e,some zl,some zc=>match sB P e with
   | some (sz,by_)=>if zl=zc∧0<zc∧zc≤1048576∧by_≤65536 then match bJd P e zc.toNat sz with
      | some aH=>if aH.all Seg.plain then (nM fr m e aH).map fun r=>(r.1,.s (.slc m.length (.lit 0) (.lit zc) (.kn (.lit zc))),r.2.2) else none
      | none=>none
     else none
   | none=>none
 | _,_,_=>none
def bDT (P:Program) (H:Hyp) (fr:Fr) (m:Mem) (t:TypeId) (l c:SV):WR :=
 match jG P t,l,c with
 | some e,.s (.int _ n),.s (.int _ n')=>match sB P e,xE P e with
   | some (1,by_),some (.s (.int k (.lit 0)))=>if n=n'∧by_≤65536∧aO H 0 n=true∧dK H 67108864 n=true then
      (nM fr m e [.run k n (.tab []) 0]).map fun r=>(r.1,.s (.slc m.length (.lit 0) n (.kn n)),r.2.2)
     else none
   | _,_=>none
 | _,_,_=>none
def aUY (m:Mem) (sz:Nat):SV→Option (List Seg × Nat)
 | .s (.slc b (.lit 0) (.lit n) _)=>match m[b]? with
   | some B=>if B.dead=false∧0<n∧0<sz∧eE B.aH=some (n.toNat*sz) then some (B.aH,n.toNat) else none
   | none=>none
 | _=>none
def bare:SV→Bool
 | .s .nilSlc=>true
 | .s (.slc _ _ (.lit 0) (.kn (.lit 0)))=>true
 | .s (.slc _ _ (.lit 0) (.tl _ _ true))=>true
 | _=>false
def aTI (P:Program) (fr:Fr) (m:Mem) (t:TypeId) (s x:SV):WR :=
 match jG P t with
 | none=>none
 | some e=>match sB P e with
   | none=>none
   | some (sz,by_)=>if bare s then match aUY m sz x with
     | some (aH,k)=>if k≤65536∧by_≤65536∧jL m.length fr m=true then
        some ([],.s (.slc m.length (.lit 0) (.lit k) (.op (.lit 0))),m++[⟨e,aH,true,some sz,false⟩]) else none
     | none=>if rowOf m sz x=some [] then some ([],s,m) else none
     else none
def tZ (d:Int):Option SV→Option Int
 | none=>some d
 | some v=>zY v
def aUW (P:Program) (m:Mem) (t:TypeId) (x:SV) (lo hi mx:Option SV):WR :=
 match jG P t with
 | none=>none
 | some e=>match dA P e with
   | none=>none
   | some sz=>match x with
     | .s .nilSlc=>if tZ 0 lo=some 0∧tZ 0 hi=some 0∧mx=none then some ([],.s .nilSlc,m) else none
     | .s (.slc b (.lit o) (.lit n) cap)=>match tZ 0 lo,tZ n hi,m[b]? with
       | some l,some h,some B=>match gE B.aH with
         | some L=>if B.dead=false∧0<L.length∧0≤o∧0≤l∧l≤h∧h≤n∧(l=0∨l<n)∧0<sz∧mx=none∧roomFor B L sz n.toNat 0 cap=true then
            match cap with
            | .kn (.lit c)=>some ([],.s (.slc b (.lit (o+l*sz)) (.lit (h-l)) (.kn (.lit (c-l)))),m)
            | .op (.lit k)=>some ([],.s (.slc b (.lit (o+l*sz)) (.lit (h-l)) (.op (.lit (k+l)))),m)
            | _=>none
           else none
         | none=>none
       | _,_,_=>none
     | _=>none
def wL (fr:Fr):Option Operand→Option (Option SV)
 | none=>some none
 | some x=>(dB [] fr x).map some
def bAk (P:Program) (e:TypeId):Bool:=match P.underlying e with
 | some (.int .u8)=>true
 | _=>false
def aTF (P:Program) (fr:Fr) (m:Mem) (src dst:TypeId) (x:SV):WR :=
 match P.underlying src,jG P dst,x with
 | some .string,some e,.s (.str l)=>if bAk P e&&decide (0<l.length∧l.length≤4096)&&jL m.length fr m then
    some ([],.s (.slc m.length (.lit 0) (.lit l.length) (.op (.lit 0))),m++[⟨e,[.run .u8 (.lit l.length) (.tab (l.map fun c=>(c.toNat:Int))) 0],false,some 1,false⟩]) else none
 | _,_,_=>none
def bDX (P:Program) (m:Mem) (src dst:TypeId) (x:SV):WR :=
 match jG P dst,x with
 | some e,.s (.slc b off n cap)=>match m[b]? with
   | some B=>if bAk P e&&decide (src=dst)&&!B.dead&&decide (eE B.aH ≠ some 0∧(eE B.aH).isSome=true) then some ([],.s (.slc b off n cap),m.set b { B with wr:=false }) else none
   | none=>none
 | _,_=>none
def bLQ (P:Program) (m:Mem) (t:TypeId) (x:SV):WR :=
 match jG P t,x with
 | some _,.s .nilSlc=>some ([],.s (.int .i64 (.lit 0)),m)
 | some _,.s (.slc _ _ _ (.kn (.lit c)))=>if 0≤c then some ([],.s (.int .i64 (.lit c)),m) else none
 | _,_=>none
def aVz (fr:Fr):Op→Option (TypeId × SV)
 | .call c=>match c.callee,c.args.toList,c.argTypes.toList with
   | .builtin .cap,[x],[t]=>(dB [] fr x).map fun v=>(t,v)
   | _,_,_=>none
 | _=>none
def mW (fr:Fr):Op→Option (TypeId × TypeId × SV × SV)
 | .call c=>match c.callee,c.args.toList,c.argTypes.toList with
   | .builtin .append,[s,x],[t,t']=>match dB [] fr s,dB [] fr x with
     | some u,some v=>some (t,t',u,v)
     | _,_=>none
   | _,_,_=>none
 | _=>none
def aGR (P:Program) (fr:Fr) (m:Mem) (t t':TypeId) (s x:SV):WR :=
 match jG P t,P.underlying t',s,zY x with
 | some e,some (.int _),.s .nilSlc,some zn=>match sB P e with
   | some (sz,by_)=>if 0<zn∧zn≤65536∧by_≤65536∧jL m.length fr m=true then match bJd P e zn.toNat sz with
      | some aH=>if aH.all (Seg.sc m.length) then some ([],.s (.slc m.length (.lit 0) (.lit zn) (.op (.lit 0))),m++[⟨e,aH,true,some sz,false⟩]) else none
      | none=>none
     else none
   | none=>none
 | _,_,_,_=>none
def wH (P:Program) (e:TypeId):List Seg:=match xE P e with
 | some (.s (.int k (.lit 0)))=>[.run k (.lit 0) (.tab []) 0]
 | _=>[]
def bDR (P:Program) (fr:Fr) (m:Mem) (t:TypeId) (l c:SV):WR :=
 match jG P t,zY l,zY c with
 | some e,some 0,some q=>match sB P e with
   | some (sz,by_)=>if 0<q∧q≤67108864∧by_≤65536∧jL m.length fr m=true then some ([],.s (.slc m.length (.lit 0) (.lit 0) (.op (.lit 0))),m++[⟨e,wH P e,true,some sz,false⟩]) else none
   | none=>none
 | _,_,_=>none
def aUc (P:Program) (fr:Fr) (m:Mem) (t:TypeId) (l c:SV):WR:=match bDV P fr m t l c with
 | some r=>some r
 | none=>bDR P fr m t l c
def bQF (P:Program) (fr:Fr) (m:Mem) (o:Op):WR :=
 match oW fr o with
 | some (t,u,v)=>match aGP P fr m t u v with
   | some r=>some r
   | none=>aTI P fr m t u v
 | none=>match aVz fr o with
   | some (t,v)=>bLQ P m t v
   | none=>match mW fr o with
   | some (t,t',u,v)=>aGR P fr m t t' u v
   | none=>match o with
     | .makeSlice t l c=>match dB [] fr l,dB [] fr c with
       | some u,some v=>aUc P fr m t u v
       | _,_=>none
     | .slice t x lo hi mx=>match dB [] fr x,wL fr lo,wL fr hi,wL fr mx with
       | some u,some a,some b,some c=>aUW P m t u a b c
       | _,_,_,_=>none
     | .convert src dst x=>match dB [] fr x with
       | some u=>match aTF P fr m src dst u with
         | some r=>some r
         | none=>bDX P m src dst u
       | none=>none
     | _=>none
def bQE (P:Program) (H:Hyp) (fr:Fr) (m:Mem) (o:Op):WR :=
 match o with
 | .box ty x=>match dB [] fr x with
   | some v=>match yU v with
     | some l=>nM fr m ty l
     | none=>none
   | none=>none
 | .alloc ty=>match xE P ty with
   | some v=>match yU v with
     | some l=>nM fr m ty l
     | none=>none
   | none=>none
 | .store t a x=>match dB [] fr a,dB [] fr x with
   | some p,some v=>aVj P H m t p v
   | _,_=>none
 | .makeSlice t l c=>match dB [] fr l,dB [] fr c with
   | some u,some v=>bDT P H fr m t u v
   | _,_=>none
 | .buildSlice t len parts=>if len=0 then match jG P t,parts.toList with
    | some e,[]=>match dA P e with
      | some _=>(nM fr m e []).map fun r=>(r.1,.s (.slc m.length (.lit 0) (.lit 0) (.kn (.lit 0))),r.2.2)
      | none=>none
    | _,_=>none
   else match jG P t,qE [] fr (parts.toList.map (·.2)) with
   | some e,some l=>match dA P e with
     | some n=>if len*n≤2 ^ 24 then match bAJ P e len n (parts.toList.map (·.1)) l with
        | some aH=>if aH.all Seg.plain then (nM fr m e aH).map fun r=>(r.1,.s (.slc m.length (.lit 0) (.lit len) (.kn (.lit len))),r.2.2) else none
        | none=>none
       else none
     | none=>none
   | _,_=>none
 | _=>none
def wop (P:Program) (H:Hyp) (fr:Fr) (m:Mem) (o:Op):WR:=match bQE P H fr m o with
 | some r=>some r
 | none=>bQF P fr m o
section
variable {ρ:Env} {ι:Loc} {H:Hyp} {P:Program} {w:World} {β:dN} {m:Mem} {fr:Fr} {n:Nat} {a:Act}
theorem aGs {x:S} (h:x.plain=true):(x.aC ρ ι).oneCell'=true:=by
 cases x with
 | val n=>simp [S.plain] at h
 | undef=>simp [S.plain] at h
 | slc b off len c=>cases c <;> simp only [S.aC] <;> (try split) <;> rfl
 | xslc i j off len=>simp only [S.aC,Ext.sub];split <;> rfl
 | xtl i j o off=>simp only [S.aC,Ext.tl];split <;> rfl
 | xptr i j k f=>simp only [S.aC,Ext.ptr];split <;> rfl
 | _=>rfl
theorem iS:∀ {l:List Seg},l.all Seg.plain=true→∀ v ∈ cellsOf ρ ι l,v.oneCell'=true
 | [],_,v,hv=>by simp [cellsOf] at hv
 | x::l,h,v,hv=>by
   simp only [List.all_cons,Bool.and_eq_true] at h
   rw [aG,List.mem_append] at hv
   rcases hv with hv | hv
   ·cases x with
    | one x=>simp only [aY,List.mem_singleton] at hv;subst hv;exact aGs h.1
    | run k n A o=>simp only [Seg.cells,List.mem_map] at hv;obtain ⟨j,_,rfl⟩:=hv;rfl
    | rows n fs o =>
      simp only [Seg.cells,List.mem_flatMap,List.mem_map] at hv
      obtain ⟨j,_,f,_,rfl⟩:=hv
      unfold XF.aC;split <;> rfl
   ·exact iS h.2 v hv
theorem yV {v:SV} {l:List Seg} (h:yU v=some l):(v.aC ρ ι).cells=(cellsOf ρ ι l).toArray∧(∀ u ∈ cellsOf ρ ι l,u.oneCell'=true):=by
 unfold yU at h
 split at h
 ·rename_i x
  split at h
  ·rename_i hp
   simp only [Option.some.injEq] at h;subst h
   refine ⟨?_,iS (by simpa [Seg.plain] using hp)⟩
   show (S.aC ρ ι x).cells=_
   rw [aBe (fun n hn=>by subst hn;simp [S.plain] at hp)];simp [cellsOf,Seg.cells]
  ·cases h
 ·split at h
  ·rename_i hp
   simp only [Option.some.injEq] at h;subst h
   exact ⟨rfl,iS hp⟩
  ·cases h
 ·cases h
def dW (ρ:Env) (β:dN) (ι:Loc) (n:Nat) (fr:Fr) (m m':Mem) (a:Act) (v:SV) (r:Value) (w':World):Prop :=
 ∃ ι',r=v.aC ρ ι'∧aR ρ ι' n fr a∧aK ρ β ι' m' w'
theorem wG {ty:TypeId} {aH:List Seg} {nd:List E} {v:SV} {m':Mem} (h:nM fr m ty aH=some (nd,v,m')):v=.s (.ptr m.length (.lit 0)):=by
 unfold nM at h
 split at h
 ·simp only [Option.some.injEq,Prod.mk.injEq] at h;exact h.2.1.symm
 ·cases h
theorem lP (hm:aK ρ β ι m w) (hf:aR ρ ι n fr a) {ty:TypeId} {aH:List Seg} {nd:List E} {v:SV} {m':Mem} (h:nM fr m ty aH=some (nd,v,m')) :
 dW ρ β ι n fr m m' a v (.pointer (some ⟨w.heap.size,0,none⟩)) { w with heap:=w.heap.push (.cells (cellsOf ρ ι aH).toArray ty) }:=by
 unfold nM at h
 split at h
 ·rename_i hc
  simp only [jL,Bool.and_eq_true] at hc
  simp only [Option.some.injEq,Prod.mk.injEq] at h
  obtain ⟨rfl,rfl,rfl⟩:=h
  refine ⟨cV ι m.length w.heap.size 0 false,?_,hf.congr (cS _ _ _ _ _) hc.1.1,hm.alloc ty aH hc.1.2 hc.2⟩
  simp [SV.aC,S.aC,addr,aF,cV]
 ·cases h
theorem qA {t:TypeId} {k:Nat} {v:Value} {vs:List Value} {p:Addr} (hs:dA P t=some k) (hc:v.cells=vs.toArray) (hn:vs.length=k) :
 (storeVar t p v).run P w=(storeCells p vs).run P w:=by
 have F:v.cells.size=k:=by rw [hc];simpa using hn
 have J:v.cells.toList=vs:=by rw [hc]
 simp [storeVar,bG hs,F,J]
theorem aTt {q:E}:∀ {fs:List XF} {xs:List S} {gs:List XF},sA q fs xs=some gs→gs.length=fs.length∧xs.length=fs.length ∧
 ∀ (f:Nat) (g:XF),gs[f]? = some g→∃ d x,fs[f]? = some d∧xs[f]? = some x∧∀ k,XF.aC ρ g k=if k=(q.i ρ).toNat then x.aC ρ ι else XF.aC ρ d k
 | [],[],gs,h=>by simp only [sA,Option.some.injEq] at h;subst h;simp
 | [],x::xs,gs,h=>by simp [sA] at h
 | f::fs,[],gs,h=>by simp [sA] at h
 | f::fs,x::xs,gs,h=>by
   simp only [sA] at h
   split at h
   ·rename_i g gs' F J
    simp only [Option.some.injEq] at h;subst h
    obtain ⟨M,T,Z⟩:=aTt J
    refine ⟨by simp [M],by simp [T],fun k g' hk=>?_⟩
    cases k with
    | zero=>simp only [List.getElem?_cons_zero,Option.some.injEq] at hk;subst hk;exact ⟨f,x,rfl,rfl,fun k=>aZP F k⟩
    | succ k=>simpa using Z k g' (by simpa using hk)
   ·cases h
theorem aGn:∀ {l:List Seg} {xs:List S},uQ l=some xs→cellsOf ρ ι l=gR ρ ι xs
 | [],xs,h=>by simp only [uQ,Option.some.injEq] at h;subst h;rfl
 | .one x::l,xs,h=>by
   simp only [uQ,Option.map_eq_some_iff] at h
   obtain ⟨ys,hy,rfl⟩:=h
   rw [aG,aY,aGn hy];rfl
 | .run ..::l,xs,h=>by simp [uQ] at h
 | .rows ..::l,xs,h=>by simp [uQ] at h
theorem bBI {q:E} {fs:List XF} (h:0<fs.length):sA q fs []=none:=by cases fs <;> simp_all [sA]
theorem tJ {off:E}:∀ {l:List Seg} {st:Nat} {r:List E × List Seg},¬ kO H off [] st l=some r
 | [],st,r,h=>by simp [kO] at h
 | .one y::l,st,r,h=>by
   simp only [kO] at h
   split at h
   ·simp only [Option.map_eq_some_iff] at h;obtain ⟨p,hp,_⟩:=h;exact tJ hp
   ·cases h
 | .run k n A o::l,st,r,h=>by
   cases n with
   | lit z =>
     simp only [kO] at h
     split at h
     ·simp only [Option.map_eq_some_iff] at h;obtain ⟨p,hp,_⟩:=h;exact tJ hp
     ·cases h
   | _=>simp [kO] at h
 | .rows n fs o::l,st,r,h=>by
   have wr:¬ (match gZ fs.length off with
    | some (j,c)=>if st≤c∧(c-st)%fs.length=0∧0<fs.length then
       match sA (mkAdd j (.lit ((c-st) / fs.length+o:Nat))) fs [] with
       | some gs=>some ([mkLt H (mkAdd j (.lit ((c-st) / fs.length:Nat))) n],Seg.rows n gs o::l)
       | none=>none
      else none
    | none=>none)=some r:=by
    intro h
    split at h
    ·split at h
     ·rename_i hc;rw [bBI hc.2.2] at h;cases h
     ·cases h
    ·cases h
   cases n with
   | lit z =>
     simp only [kO] at h
     split at h
     ·simp only [Option.map_eq_some_iff] at h;obtain ⟨p,hp,_⟩:=h;exact tJ hp
     ·exact wr h
   | _=>exact wr h
theorem bGa (hH:H.ok ρ) (off:E) (xs:List S) (hxs:0<xs.length):∀ (l:List Seg) (st:Nat) (nd:List E) (l':List Seg),kO H off xs st l=some (nd,l')→(st:Int)≤off.i ρ→bD ρ nd →
 (off.i ρ-st).toNat+xs.length≤(cellsOf ρ ι l).length∧cellsOf ρ ι l'=(cellsOf ρ ι l).take (off.i ρ-st).toNat++gR ρ ι xs++(cellsOf ρ ι l).drop ((off.i ρ-st).toNat+xs.length):=by
 intro l
 induction l with
 | nil=>intro st nd x h;simp [kO] at h
 | cons s l ih =>
   intro st nd l' h K hn
   have skip:∀ (len st':Nat) (p:List E × List Seg),(s.cells ρ ι).length=len→st'=st+len→(st':Int)≤off.i ρ→kO H off xs st' l=some p→nd=p.1→l'=s::p.2 →
    (off.i ρ-st).toNat+xs.length≤(cellsOf ρ ι (s::l)).length∧cellsOf ρ ι l'=(cellsOf ρ ι (s::l)).take (off.i ρ-st).toNat++gR ρ ι xs++(cellsOf ρ ι (s::l)).drop ((off.i ρ-st).toNat+xs.length):=by
    intro len st' p hlen hst hle hp M T
    subst M;subst T
    obtain ⟨F,J⟩:=ih st' _ _ hp hle hn
    have e:(off.i ρ-st).toNat=len+(off.i ρ-st').toNat:=by omega
    subst hlen
    rw [aG,aG,J,e,List.length_append,List.take_length_add_append,Nat.add_assoc,List.drop_length_add_append]
    refine ⟨by omega,by simp⟩
   cases s with
   | one y =>
     simp only [kO] at h
     split at h
     ·rename_i hl
      have:=aJ hH hl
      simp only [Option.map_eq_some_iff,Prod.mk.injEq] at h
      obtain ⟨p,hp,M,T⟩:=h
      exact skip 1 (st+1) p rfl rfl (by push_cast;omega) hp M.symm T.symm
     ·cases h
   | run k n A o =>
     cases n with
     | lit z =>
       simp only [kO] at h
       split at h
       ·rename_i hc
        have:=aJ hH hc.2
        simp only [Option.map_eq_some_iff,Prod.mk.injEq] at h
        obtain ⟨p,hp,M,T⟩:=h
        exact skip z.toNat (st+z.toNat) p (by rw [bH,aF]) rfl (by push_cast;omega) hp M.symm T.symm
       ·cases h
     | _=>simp [kO] at h
   | rows n fs o =>
     have wr:(match gZ fs.length off with
      | some (j,c)=>if st≤c∧(c-st)%fs.length=0∧0<fs.length then
         match sA (mkAdd j (.lit ((c-st) / fs.length+o:Nat))) fs xs with
         | some gs=>some ([mkLt H (mkAdd j (.lit ((c-st) / fs.length:Nat))) n],Seg.rows n gs o::l)
         | none=>none
        else none
      | none=>none)=some (nd,l')→(off.i ρ-st).toNat+xs.length≤(cellsOf ρ ι (Seg.rows n fs o::l)).length∧cellsOf ρ ι l'=(cellsOf ρ ι (Seg.rows n fs o::l)).take (off.i ρ-st).toNat++gR ρ ι xs++(cellsOf ρ ι (Seg.rows n fs o::l)).drop ((off.i ρ-st).toNat+xs.length):=by
      intro h
      split at h
      ·rename_i j c hsp
       split at h
       ·rename_i hc
        obtain ⟨hc,hm0,hpos⟩:=hc
        split at h
        ·rename_i gs hw
         simp only [Option.some.injEq,Prod.mk.injEq] at h
         obtain ⟨rfl,rfl⟩:=h
         have F:=hn _ (.head _)
         rw [dR hH,aM,aF,decide_eq_true_eq] at F
         have ho:=nH (ρ:=ρ) hpos hsp
         have hj:0≤j.i ρ+((c-st) / fs.length:Nat):=(nF hpos hc K ho).1
         have he:(off.i ρ-st).toNat=(j.i ρ+((c-st) / fs.length:Nat)).toNat*fs.length+(c-st)%fs.length:=(nF hpos hc K ho).2
         rw [hm0,Nat.add_zero] at he
         have hlt:(j.i ρ+((c-st) / fs.length:Nat)).toNat<(n.i ρ).toNat:=by omega
         obtain ⟨w1,w2,w3⟩:=aTt (ρ:=ρ) (ι:=ι) hw
         have hidx:((mkAdd j (.lit ((c-st) / fs.length+o:Nat))).i ρ).toNat=o+(j.i ρ+((c-st) / fs.length:Nat)).toNat:=by rw [aM,aF];omega
         obtain ⟨q,a6⟩:∃ q,(j.i ρ+((c-st) / fs.length:Nat)).toNat=q:=⟨_,rfl⟩
         rw [a6] at he hlt hidx
         clear a6 ho F hj
         have hfit:q*fs.length+fs.length≤((Seg.rows n fs o).cells ρ ι).length:=by
          rw [eP]
          have:(q+1)*fs.length≤(n.i ρ).toNat*fs.length:=Nat.mul_le_mul_right _ (by omega)
          rw [Nat.add_mul] at this;omega
         rw [he,w2]
         refine ⟨by rw [aG,List.length_append];omega,?_⟩
         rw [aG,aG,List.take_append_of_le_length (by omega),List.drop_append_of_le_length (by omega),← List.append_assoc]
         congr 1
         apply List.ext_getElem?
         intro a
         have hgl:0<gs.length:=by omega
         rw [iN _ _ _ _ hgl,w1,List.append_assoc,List.getElem?_append,List.length_take,List.getElem?_take,List.getElem?_append,List.getElem?_drop,iN _ _ _ _ hpos,iN _ _ _ _ hpos]
         have hcl:(gR ρ ι xs).length=fs.length:=by simp [gR,w2]
         rw [hcl,Nat.min_eq_left (by omega)]
         have ham:=Nat.mod_lt a hpos
         have hae:=Nat.div_add_mod' a fs.length
         by_cases hin:q*fs.length≤a∧a<q*fs.length+fs.length
         ·have hq:a / fs.length=q:=by
           have:a=fs.length*q+(a-q*fs.length):=by rw [Nat.mul_comm];omega
           rw [this,Nat.mul_add_div hpos,Nat.div_eq_of_lt (by omega)];rfl
          have hr:a%fs.length=a-q*fs.length:=by rw [hq] at hae;omega
          rw [hq,hr,if_pos hlt,if_neg (by omega),if_pos (by omega)]
          have hgx:a-q*fs.length<gs.length:=by omega
          obtain ⟨d,x,M,T,Z⟩:=w3 _ _ (List.getElem?_eq_getElem hgx)
          rw [List.getElem?_eq_getElem hgx,Option.map_some,Z,hidx,if_pos rfl,gR,List.getElem?_map,T];rfl
         ·have hq:a / fs.length ≠ q:=by
           intro hh
           rw [hh] at hae;omega
          have same:(if a / fs.length<(n.i ρ).toNat then Option.map (fun f=>XF.aC ρ f (o+a / fs.length)) gs[a%fs.length]? else none)=(if a / fs.length<(n.i ρ).toNat then Option.map (fun f=>XF.aC ρ f (o+a / fs.length)) fs[a%fs.length]? else none):=by
           congr 1
           have hgx:a%fs.length<gs.length:=by omega
           obtain ⟨d,x,M,T,Z⟩:=w3 _ _ (List.getElem?_eq_getElem hgx)
           rw [List.getElem?_eq_getElem hgx,M,Option.map_some,Option.map_some,Z,hidx,if_neg (fun hh=>hq (Nat.add_left_cancel hh))]
          rw [same]
          by_cases hlo:a<q*fs.length
          ·rw [if_pos hlo,if_pos hlo]
          ·rw [if_neg hlo,if_neg (show ¬ a-q*fs.length<fs.length by omega),show q*fs.length+fs.length+(a-q*fs.length-fs.length)=a by omega]
        ·cases h
       ·cases h
      ·cases h
     cases n with
     | lit z =>
       simp only [kO] at h
       split at h
       ·rename_i hc
        have hl:=aJ hH hc.2
        have hz:(z.toNat*fs.length:Int)=z*fs.length:=by rw [Int.toNat_of_nonneg hc.1]
        simp only [Option.map_eq_some_iff,Prod.mk.injEq] at h
        obtain ⟨p,hp,M,T⟩:=h
        exact skip (z.toNat*fs.length) (st+z.toNat*fs.length) p (by rw [eP,aF]) rfl (by push_cast;omega) hp M.symm T.symm
       ·exact wr h
     | _=>exact wr h
theorem aK.write (hm:aK ρ β ι m w) {b:Nat} {B:Blk} (hB:m[b]? = some B) (hd:B.dead=false) (hwr:B.wr=true) (o:Nat) (vs:List Value) (aH:List Seg) (hvs:∀ u ∈ vs,u.oneCell'=true)
 (hpos:0<vs.length) (hle:o+vs.length≤(cellsOf ρ ι B.aH).length) (hcs:cellsOf ρ ι aH=(cellsOf ρ ι B.aH).take o++vs++(cellsOf ρ ι B.aH).drop (o+vs.length)) :
 ∃ w',(storeCells ⟨ι b,o,none⟩ vs).run P w=.ok () w'∧aK ρ β ι (m.set b { B with aH:=aH }) w':=by
 have hn:ι.nil b=false:=by
  cases h:ι.nil b with
  | false=>rfl
  | true=>rw [(hm.nils b B hB hd h).2] at hle;simp only [List.length_nil] at hle;omega
 obtain ⟨fz,rest,F,J,N,W⟩:=hm.blk b B hB hd hn
 have hfz:=J hwr
 have hst:=gC P (ι b) o B.ty fz hfz vs 0 _ _ F hvs (by rw [List.length_append];omega)
 have hnew:(cellsOf ρ ι B.aH++rest).take (o+0)++vs++(cellsOf ρ ι B.aH++rest).drop (o+0+vs.length)=cellsOf ρ ι aH++rest:=by
  rw [Nat.add_zero,List.take_append_of_le_length (by omega),List.drop_append_of_le_length (by omega),hcs];simp
 rw [hnew] at hst
 refine ⟨_,hst,hm.cN hB hd hn aH rest hfz (fun sz hs=>?_) W⟩
 have hlen:(cellsOf ρ ι aH).length=(cellsOf ρ ι B.aH).length:=by
  rw [hcs];simp;omega
 have:=N sz hs
 simp only [List.length_append] at this ⊢
 rw [hlen];exact this
theorem eK:∀ {l:List Seg} {xs:List S},gE l=some xs→cellsOf ρ ι l=xs.map (S.aC ρ ι)
 | [],xs,h=>by simp only [gE,Option.some.injEq] at h;subst h;rfl
 | .one x::r,xs,h=>by
   simp only [gE,Option.map_eq_some_iff] at h
   obtain ⟨l,F,rfl⟩:=h
   rw [aG,aY,eK F];rfl
 | .run k n A o::r,xs,h=>by
   cases n with
   | lit z =>
     simp only [gE] at h
     split at h
     ·simp only [Option.map_eq_some_iff] at h
      obtain ⟨l,F,rfl⟩:=h
      rw [aG,eK F,List.map_append,List.map_map]
      congr 1
      simp only [Seg.cells,aF]
      refine List.map_congr_left fun j _=>?_
      simp only [Function.comp_def,S.aC,gB aIo,aF,Int.toNat_natCast]
     ·cases h
   | _=>simp [gE] at h
 | .rows n fs o::r,xs,h=>by simp [gE] at h
theorem fY:∀ l:List S,cellsOf ρ ι (pS l)=l.map (S.aC ρ ι)
 | []=>rfl
 | x::l=>by
   have:=fY l
   unfold pS at this ⊢
   rw [List.map_cons,aG,aY,this];rfl
theorem aHP {k:Nat} {l:List S} (h:l.all (S.sc k)=true):(pS l).all (Seg.sc k)=true:=by
 simp only [pS,List.all_map];exact h
theorem aGr {l:List S} (h:l.all S.plain=true):∀ u ∈ l.map (S.aC ρ ι),u.oneCell'=true:=fun u hu=>by
 obtain ⟨x,hx,rfl⟩:=List.mem_map.1 hu
 exact aGs (List.all_eq_true.1 h x hx)
theorem aK.aVA (hm:aK ρ β ι m w) {b:Nat} {B:Blk} (hB:m[b]? = some B) (hd:B.dead=false) (hn:ι.nil b=false) {l:List S} (hl:gE B.aH=some l) (o j:Nat) (v:Value) (h:((l.map (S.aC ρ ι)).drop o)[j]? = some v) :
 w.cell? ((⟨ι b,o,none⟩:Addr).add j)=some v:=by
 obtain ⟨fz,rest,F,_⟩:=hm.blk b B hB hd hn
 rw [eK hl] at F
 rw [List.getElem?_drop] at h
 have hlt:=(List.getElem?_eq_some_iff.1 h).1
 have e:w.cell? ((⟨ι b,o,none⟩:Addr).add j)=((l.map (S.aC ρ ι))++rest)[o+j]? := by rw [Addr.add_lit];simp [World.cell?,F]
 rw [e,List.getElem?_append_left hlt,h]
theorem aSW (hm:aK ρ β ι m w) {sz:Nat} (hsz:0<sz) {x:SV} {xs:List S} (h:rowOf m sz x=some xs) :
 (xs=[]∧∃ base c,x.aC ρ ι=.slice base 0 c)∨(xs ≠ []∧∃ a n c,x.aC ρ ι=.slice (some a) n c∧0<n∧xs.length=n*sz∧∀ j v,(xs.map (S.aC ρ ι))[j]? = some v→w.cell? (a.add j)=some v):=by
 unfold rowOf at h
 split at h
 ·simp only [Option.some.injEq] at h;subst h
  exact .inl ⟨rfl,_,_,rfl⟩
 ·rename_i b o n c
  split at h
  ·rename_i B hB
   split at h
   ·rename_i l hl
    split at h
    ·rename_i hc
     obtain ⟨hd,ho,hn0,hle⟩:=hc
     simp only [Option.some.injEq] at h;subst h
     by_cases hz:n.toNat=0
     ·left
      refine ⟨by rw [hz];simp,?_⟩
      cases c with
      | kn e=>exact ⟨some (addr ρ ι b (.lit o)),(e.i ρ).toNat,by simp only [SV.aC,S.aC,aF,hz]⟩
      | op e =>
        simp only [SV.aC,S.aC,aF,hz]
        split
        ·exact ⟨_,_,rfl⟩
        ·exact ⟨_,_,rfl⟩
      | tl o' k z=>exact ⟨some (if ι.cap b=(k.i ρ).toNat∧True then addr ρ ι b o' else addr ρ ι b (.lit o)),if z=true then 0 else ι.cap b-(k.i ρ).toNat,by simp only [SV.aC,S.aC,aF,hz]⟩
     ·right
      have hpos:0<n.toNat*sz:=Nat.mul_pos (by omega) hsz
      have hnil:ι.nil b=false:=by
       cases hh:ι.nil b with
       | false=>rfl
       | true =>
         have:=(hm.nils b B hB hd hh).2
         rw [eK hl] at this
         have:=congrArg List.length this
         simp at this
         subst this;simp at hle;omega
      have hlen:((l.drop o.toNat).take (n.toNat*sz)).length=n.toNat*sz:=by simp;omega
      refine ⟨fun hx=>by rw [hx] at hlen;simp at hlen;omega,addr ρ ι b (.lit o),n.toNat,?_⟩
      have hcell:∀ j v,(((l.drop o.toNat).take (n.toNat*sz)).map (S.aC ρ ι))[j]? = some v→w.cell? ((addr ρ ι b (.lit o)).add j)=some v:=by
       intro j v hj
       refine hm.aVA hB hd hnil hl o.toNat j v ?_
       rw [List.map_take,List.getElem?_take] at hj
       split at hj
       ·rw [← List.map_drop];exact hj
       ·cases hj
      cases c with
      | kn e=>exact ⟨(e.i ρ).toNat,by simp only [SV.aC,S.aC,aF],by omega,hlen,hcell⟩
      | op e=>exact ⟨ι.cap b-(e.i ρ).toNat,by simp only [SV.aC,S.aC,aF,hnil,Bool.false_eq_true,false_and,if_false],by omega,hlen,hcell⟩
      | tl o k z=>exact ⟨if z then 0 else ι.cap b-(k.i ρ).toNat,by simp only [SV.aC,S.aC,aF,hz,and_false,if_false],by omega,hlen,hcell⟩
    ·cases h
   ·cases h
  ·cases h
 ·cases h
theorem aK.alias (hm:aK ρ β ι m w) {b:Nat} {B:Blk} (hB:m[b]? = some B) (hd:B.dead=false) (hs:m.all (fun B=>B.aH.all (Seg.sc m.length))=true) :
 aK ρ β (cV ι m.length (ι b) (ι.cap b) (ι.nil b)) ((m.set b { B with dead:=true })++[B]) w:=by
 have hb:b<m.length:=(List.getElem?_eq_some_iff.1 hB).1
 have hag:=cS ι m.length (ι b) (ι.cap b) (ι.nil b)
 have heq:(cV ι m.length (ι b) (ι.cap b) (ι.nil b)).pos m.length=ι b∧(cV ι m.length (ι b) (ι.cap b) (ι.nil b)).cap m.length=ι.cap b∧(cV ι m.length (ι b) (ι.cap b) (ι.nil b)).nil m.length=ι.nil b:=by simp [cV]
 have at_:∀ {i:Nat} {C:Blk},((m.set b { B with dead:=true })++[B])[i]? = some C→C.dead=false→(i<m.length∧i ≠ b∧m[i]? = some C)∨(i=m.length∧C=B):=by
  intro i C h hCd
  by_cases hi:i<m.length
  ·rw [List.getElem?_append_left (by simpa using hi),List.getElem?_set] at h
   split at h
   ·rename_i hbi;subst hbi
    simp only [hb,if_true,Option.some.injEq] at h
    subst h;cases hCd
   ·rename_i hbi;exact .inl ⟨hi,fun e=>hbi e.symm,h⟩
  ·rw [List.getElem?_append_right (by simp;omega)] at h
   have K:=(List.getElem?_eq_some_iff.1 h).1
   simp at K
   have:i=m.length:=by omega
   subst this
   simp at h
   exact .inr ⟨rfl,h.symm⟩
 have scB:∀ {i:Nat} {C:Blk},m[i]? = some C→cellsOf ρ (cV ι m.length (ι b) (ι.cap b) (ι.nil b)) C.aH=cellsOf ρ ι C.aH:=fun hC =>
  (bK hag (List.all_eq_true.1 hs _ (List.mem_of_getElem? hC))).symm
 refine ⟨fun i j C D hC hD hCd hDd hCn hDn he=>?_,fun i C hC hCd hCn=>?_,fun i C hC hCd hCn=>?_,(hag.mono hm.len).symm.trans hm.agr,by have:=hm.len;simp;omega,fun i hi hi'=>?_,hm.size,fun x hx hi=>?_,hm.os,hm.tape,hm.output,hm.xt,fun i j a n' c' hv K k hk=>?_⟩
 ·rcases at_ hC hCd with ⟨hi,hib,Q⟩ | ⟨rfl,rfl⟩ <;> rcases at_ hD hDd with ⟨hj,hjb,Y⟩ | ⟨rfl,rfl⟩
  ·rw [← (hag i hi).1,← (hag j hj).1] at he
   rw [← (hag i hi).2.2] at hCn
   rw [← (hag j hj).2.2] at hDn
   exact hm.inj i j C D Q Y hCd hDd hCn hDn he
  ·rw [← (hag i hi).2.2] at hCn
   rw [heq.2.2] at hDn
   rw [← (hag i hi).1,heq.1] at he
   exact absurd (hm.inj i b C _ Q hB hCd hd hCn hDn he) hib
  ·rw [← (hag j hj).2.2] at hDn
   rw [heq.2.2] at hCn
   rw [← (hag j hj).1,heq.1] at he
   exact absurd (hm.inj b j _ D hB Y hd hDd hCn hDn he).symm hjb
  ·rfl
 ·rcases at_ hC hCd with ⟨hi,hib,Q⟩ | ⟨rfl,rfl⟩
  ·rw [← (hag i hi).2.2] at hCn
   obtain ⟨fz,rest,F,J⟩:=hm.blk i C Q hCd hCn
   rw [← (hag i hi).1,← (hag i hi).2.1,scB Q]
   exact ⟨fz,rest,F,J⟩
  ·rw [heq.2.2] at hCn
   obtain ⟨fz,rest,F,J⟩:=hm.blk b _ hB hd hCn
   rw [heq.1,heq.2.1,scB hB]
   exact ⟨fz,rest,F,J⟩
 ·rcases at_ hC hCd with ⟨hi,hib,Q⟩ | ⟨rfl,rfl⟩
  ·rw [← (hag i hi).2.2] at hCn
   rw [scB Q];exact hm.nils i C Q hCd hCn
  ·rw [heq.2.2] at hCn
   rw [scB hB];exact hm.nils b _ hB hd hCn
 ·by_cases hc:i<m.length
  ·rw [← (hag i hc).1]
   rcases hm.new i hi hc with hn | ⟨j,hj,hn⟩
   ·exact .inl hn
   ·exact .inr ⟨j,hj,by rw [hn];exact (hag j (Nat.lt_of_lt_of_le hj hm.len)).1⟩
  ·have:i=m.length:=by simp at hi';omega
   subst this
   rw [heq.1]
   by_cases hbk:b<β.k
   ·exact .inr ⟨b,hbk,(hag b hb).1⟩
   ·rcases hm.new b (Nat.not_lt.1 hbk) hb with hn | ⟨j,hj,hn⟩
    ·exact .inl hn
    ·exact .inr ⟨j,hj,hn.trans (hag j (Nat.lt_of_lt_of_le hj hm.len)).1⟩
 ·refine hm.old x hx fun i hi'=>?_
  have:=hi i (by simp;omega)
  rwa [← (hag i hi').1] at this
 ·by_cases hc:k<m.length
  ·rw [← (hag k hc).1];exact hm.xd i j a n' c' hv K k hc
  ·have:k=m.length:=by simp at hk;omega
   subst this
   rw [heq.1];exact hm.xd i j a n' c' hv K b hb
theorem aK.bLG (hm:aK ρ β ι m w) {b:Nat} {B:Blk} (hB:m[b]? = some B) (hd:B.dead=false) (hnil:ι.nil b=false) (hgn:B.grow=none) (sz c:Nat) (hlen:(cellsOf ρ ι B.aH).length=c*sz∧c≤maxLen) (hs:m.all (fun B=>B.aH.all (Seg.sc m.length))=true) :
 aK ρ β (cV ι m.length (ι b) c false) ((m.set b { B with dead:=true })++[{ B with grow:=some sz }]) w:=by
 have hb:b<m.length:=(List.getElem?_eq_some_iff.1 hB).1
 have hag:=cS ι m.length (ι b) c false
 have heq:(cV ι m.length (ι b) c false).pos m.length=ι b∧(cV ι m.length (ι b) c false).cap m.length=c∧(cV ι m.length (ι b) c false).nil m.length=false:=by simp [cV]
 have at_:∀ {i:Nat} {C:Blk},((m.set b { B with dead:=true })++[{ B with grow:=some sz }])[i]? = some C→C.dead=false→(i<m.length∧i ≠ b∧m[i]? = some C)∨(i=m.length∧C={ B with grow:=some sz }):=by
  intro i C h hCd
  by_cases hi:i<m.length
  ·rw [List.getElem?_append_left (by simpa using hi),List.getElem?_set] at h
   split at h
   ·rename_i hbi;subst hbi
    simp only [hb,if_true,Option.some.injEq] at h
    subst h;cases hCd
   ·rename_i hbi;exact .inl ⟨hi,fun e=>hbi e.symm,h⟩
  ·rw [List.getElem?_append_right (by simp;omega)] at h
   have K:=(List.getElem?_eq_some_iff.1 h).1
   simp at K
   have:i=m.length:=by omega
   subst this
   simp at h
   exact .inr ⟨rfl,h.symm⟩
 have scB:∀ {i:Nat} {C:Blk},m[i]? = some C→cellsOf ρ (cV ι m.length (ι b) c false) C.aH=cellsOf ρ ι C.aH:=fun hC =>
  (bK hag (List.all_eq_true.1 hs _ (List.mem_of_getElem? hC))).symm
 refine ⟨fun i j C D hC hD hCd hDd hCn hDn he=>?_,fun i C hC hCd hCn=>?_,fun i C hC hCd hCn=>?_,(hag.mono hm.len).symm.trans hm.agr,by have:=hm.len;simp;omega,fun i hi hi'=>?_,hm.size,fun x hx hi=>?_,hm.os,hm.tape,hm.output,hm.xt,fun i j a n' c' hv K k hk=>?_⟩
 ·rcases at_ hC hCd with ⟨hi,hib,Q⟩ | ⟨rfl,rfl⟩ <;> rcases at_ hD hDd with ⟨hj,hjb,Y⟩ | ⟨rfl,rfl⟩
  ·rw [← (hag i hi).1,← (hag j hj).1] at he
   rw [← (hag i hi).2.2] at hCn
   rw [← (hag j hj).2.2] at hDn
   exact hm.inj i j C D Q Y hCd hDd hCn hDn he
  ·rw [← (hag i hi).2.2] at hCn
   rw [← (hag i hi).1,heq.1] at he
   exact absurd (hm.inj i b C _ Q hB hCd hd hCn hnil he) hib
  ·rw [← (hag j hj).2.2] at hDn
   rw [← (hag j hj).1,heq.1] at he
   exact absurd (hm.inj b j _ D hB Y hd hDd hnil hDn he).symm hjb
  ·rfl
 ·rcases at_ hC hCd with ⟨hi,hib,Q⟩ | ⟨rfl,rfl⟩
  ·rw [← (hag i hi).2.2] at hCn
   obtain ⟨fz,rest,F,J⟩:=hm.blk i C Q hCd hCn
   rw [← (hag i hi).1,← (hag i hi).2.1,scB Q]
   exact ⟨fz,rest,F,J⟩
  ·obtain ⟨fz,rest,F,J,N,W⟩:=hm.blk b _ hB hd hnil
   have hr:=W hgn
   subst hr
   rw [heq.1,heq.2.1]
   simp only
   rw [scB hB]
   exact ⟨fz,[],F,J,fun sz' hs'=>by
    simp only [Option.some.injEq] at hs';subst hs'
    rw [List.append_nil];exact hlen,fun h=>by cases h⟩
 ·rcases at_ hC hCd with ⟨hi,hib,Q⟩ | ⟨rfl,rfl⟩
  ·rw [← (hag i hi).2.2] at hCn
   rw [scB Q];exact hm.nils i C Q hCd hCn
  ·rw [heq.2.2] at hCn;cases hCn
 ·by_cases hc:i<m.length
  ·rw [← (hag i hc).1]
   rcases hm.new i hi hc with hn | ⟨j,hj,hn⟩
   ·exact .inl hn
   ·exact .inr ⟨j,hj,by rw [hn];exact (hag j (Nat.lt_of_lt_of_le hj hm.len)).1⟩
  ·have:i=m.length:=by simp at hi';omega
   subst this
   rw [heq.1]
   by_cases hbk:b<β.k
   ·exact .inr ⟨b,hbk,(hag b hb).1⟩
   ·rcases hm.new b (Nat.not_lt.1 hbk) hb with hn | ⟨j,hj,hn⟩
    ·exact .inl hn
    ·exact .inr ⟨j,hj,hn.trans (hag j (Nat.lt_of_lt_of_le hj hm.len)).1⟩
 ·refine hm.old x hx fun i hi'=>?_
  have:=hi i (by simp;omega)
  rwa [← (hag i hi').1] at this
 ·by_cases hc:k<m.length
  ·rw [← (hag k hc).1];exact hm.xd i j a n' c' hv K k hc
  ·have:k=m.length:=by simp at hk;omega
   subst this
   rw [heq.1];exact hm.xd i j a n' c' hv K b hb
theorem aK.forget (hm:aK ρ β ι m w) {b:Nat} {D:Blk} (hD:D.dead=true):aK ρ β ι (m.set b D) w:=by
 have at_:∀ {i:Nat} {C:Blk},(m.set b D)[i]? = some C→C.dead=false→m[i]? = some C:=by
  intro i C h hCd
  rw [List.getElem?_set] at h
  split at h
  ·split at h
   ·simp only [Option.some.injEq] at h;subst h;rw [hD] at hCd;cases hCd
   ·cases h
  ·exact h
 exact ⟨fun i j C D hC hD hCd hDd=>hm.inj i j C D (at_ hC hCd) (at_ hD hDd) hCd hDd,fun i C hC hCd=>hm.blk i C (at_ hC hCd) hCd,fun i C hC hCd=>hm.nils i C (at_ hC hCd) hCd,hm.agr,by simpa using hm.len,fun i F J=>hm.new i F (by simpa using J),hm.size,
  fun x hx hi=>hm.old x hx fun i hi'=>hi i (by simpa using hi'),hm.os,hm.tape,hm.output,hm.xt,fun i j a n' c' hv K k hk=>hm.xd i j a n' c' hv K k (by simpa using hk)⟩
theorem bBG (hH:H.ok ρ) (hm:aK ρ β ι m w) {t:TypeId} {p x:SV} {nd:List E} {v:SV} {m':Mem} (h:aVj P H m t p x=some (nd,v,m')) (hn:bD ρ nd) :
 ∃ w',(Instr.storeAt t (p.aC ρ ι) (x.aC ρ ι)).run P w=.ok () w'∧aK ρ β ι m' w'∧v=.undef:=by
 unfold aVj at h
 split at h
 ·rename_i b off
  split at h
  ·rename_i B l hB hl
   have hx:=yV (ρ:=ρ) (ι:=ι) hl
   split at h
   ·rename_i hwr
    obtain ⟨hwr,hd⟩:=hwr
    split at h
    ·rename_i n l0 o hs ho
     split at h
     ·rename_i hlen
      split at h
      ·rename_i l1 l2 ht hdr
       simp only [Option.some.injEq,Prod.mk.injEq] at h
       obtain ⟨rfl,rfl,rfl⟩:=h
       have M:=eJ (ρ:=ρ) (ι:=ι) _ _ _ ht
       have T:=dP (ρ:=ρ) (ι:=ι) _ _ _ hdr
       have Z:=eQ (ρ:=ρ) (ι:=ι) hlen.1
       have hcs:cellsOf ρ ι (l1++l++l2)=(cellsOf ρ ι B.aH).take o++cellsOf ρ ι l++(cellsOf ρ ι B.aH).drop (o+(cellsOf ρ ι l).length):=by
        rw [cH,cH,M.1,T.1,Z]
       obtain ⟨w',hst,hm'⟩:=hm.write (P:=P) hB hd hwr o (cellsOf ρ ι l) (l1++l++l2) hx.2 (by omega) (by omega) hcs
       refine ⟨w',?_,hm',rfl⟩
       rw [yC ho]
       have hsv:=qA (w:=w) (p:=addr ρ ι b (.lit o)) hs hx.1 Z
       show (Instr.storeAt t (.pointer (some (addr ρ ι b (.lit o)))) (SV.aC ρ ι (.agg l0))).run P w=_
       rw [show (Instr.storeAt t (.pointer (some (addr ρ ι b (.lit o)))) (SV.aC ρ ι (.agg l0)))=storeVar t (addr ρ ι b (.lit o)) (SV.aC ρ ι (.agg l0)) from rfl,hsv]
       exact hst
      ·cases h
     ·cases h
    ·rename_i n l0 hs ho
     split at h
     ·rename_i xs hxs
      split at h
      ·rename_i hxn
       simp only [Option.map_eq_some_iff,Prod.mk.injEq] at h
       obtain ⟨r,hr,rfl,rfl,rfl⟩:=h
       have K:=hn _ (.head _)
       rw [bM hH,aF,decide_eq_true_eq] at K
       have X:=aGn (ρ:=ρ) (ι:=ι) hxs
       have hlen:(cellsOf ρ ι l).length=n:=by rw [X];simp [gR,hxn]
       by_cases hpos:0<xs.length
       ·have N:=bGa (ι:=ι) hH off xs hpos B.aH 0 r.1 r.2 hr (by omega) (fun e he=>hn e (.tail _ he))
        have hoo:(off.i ρ-((0:Nat):Int)).toNat=(off.i ρ).toNat:=by congr 1;omega
        rw [hoo,← X,show xs.length=(cellsOf ρ ι l).length by rw [X];simp [gR]] at N
        obtain ⟨w',hst,hm'⟩:=hm.write (P:=P) hB hd hwr (off.i ρ).toNat (cellsOf ρ ι l) r.2 hx.2 (by omega) N.1 N.2
        refine ⟨w',?_,hm',rfl⟩
        have hsv:=qA (w:=w) (p:=addr ρ ι b off) hs hx.1 hlen
        show (Instr.storeAt t (.pointer (some (addr ρ ι b off))) (SV.aC ρ ι (.agg l0))).run P w=_
        rw [show (Instr.storeAt t (.pointer (some (addr ρ ι b off))) (SV.aC ρ ι (.agg l0)))=storeVar t (addr ρ ι b off) (SV.aC ρ ι (.agg l0)) from rfl,hsv]
        exact hst
       ·exfalso
        have hxe:xs=[]:=List.length_eq_zero_iff.1 (by omega)
        subst hxe
        exact tJ hr
      ·cases h
     ·cases h
    ·rename_i y hs
     simp only [Option.map_eq_some_iff,Prod.mk.injEq] at h
     obtain ⟨r,hr,rfl,rfl,rfl⟩:=h
     have K:=hn _ (.head _)
     rw [bM hH,aF,decide_eq_true_eq] at K
     have N:=bGb (ι:=ι) hH off y B.aH 0 r.1 r.2 hr (by omega) (fun e he=>hn e (.tail _ he))
     have ho:(off.i ρ-((0:Nat):Int)).toNat=(off.i ρ).toNat:=by congr 1;omega
     rw [ho] at N
     have a0:cellsOf ρ ι l=[y.aC ρ ι]:=by
      unfold yU at hl
      simp only at hl
      split at hl
      ·simp only [Option.some.injEq] at hl;subst hl;simp [cellsOf,Seg.cells]
      ·cases hl
     have hcs:cellsOf ρ ι r.2=(cellsOf ρ ι B.aH).take (off.i ρ).toNat++[y.aC ρ ι]++(cellsOf ρ ι B.aH).drop ((off.i ρ).toNat+[y.aC ρ ι].length):=by
      rw [N.2]
      apply List.ext_getElem?
      intro j
      simp only [List.getElem?_append,List.length_append,List.length_take,List.getElem?_take,List.getElem?_set,List.getElem?_drop,List.length_singleton]
      by_cases c1:j<(off.i ρ).toNat
      ·rw [if_neg (by omega),if_pos (by omega),if_pos (by omega),if_pos c1]
      ·by_cases c2:j=(off.i ρ).toNat
       ·subst c2;rw [if_pos rfl,if_pos N.1,if_pos (by omega),if_neg (by omega),show (off.i ρ).toNat-min (off.i ρ).toNat (cellsOf ρ ι B.aH).length=0 by omega];rfl
       ·rw [if_neg (by omega),if_neg (by omega)];congr 1;omega
     obtain ⟨w',hst,hm'⟩:=hm.write (P:=P) hB hd hwr (off.i ρ).toNat [y.aC ρ ι] r.2 (by rw [← a0];exact hx.2) (by simp) (by simp;omega) hcs
     refine ⟨w',?_,hm',rfl⟩
     have hsv:=qA (w:=w) (p:=addr ρ ι b off) (vs:=[y.aC ρ ι]) hs (by rw [← a0];exact hx.1) rfl
     show (Instr.storeAt t (.pointer (some (addr ρ ι b off))) (SV.aC ρ ι (.s y))).run P w=_
     rw [show (Instr.storeAt t (.pointer (some (addr ρ ι b off))) (SV.aC ρ ι (.s y)))=storeVar t (addr ρ ι b off) (SV.aC ρ ι (.s y)) from rfl,hsv]
     exact hst
    ·cases h
   ·cases h
  ·cases h
 ·cases h
theorem jI {e:TypeId} {sz by_:Nat} (h:sB P e=some (sz,by_)):∃ i z,P.info? e=some i∧i.zero=some z∧i.size=sz∧i.bytes=by_∧z.cells.size=sz∧0<sz:=by
 unfold sB at h
 split at h
 ·rename_i i hi
  split at h
  ·rename_i z hz
   split at h
   ·rename_i hc
    simp only [Option.some.injEq,Prod.mk.injEq] at h
    obtain ⟨rfl,rfl⟩:=h
    exact ⟨i,z,hi,hz,rfl,rfl,hc.1,hc.2⟩
   ·cases h
  ·cases h
 ·cases h
theorem cY {t ty e:TypeId} {i:TypeInfo} (ht:P.underlying t=some (.slice e)) (hi:P.info? e=some i) (base:Option Addr) (n c:Nat) (hnc:n≤c) (b':Option Addr) (c':Nat) (w:World) :
 (Builtin.append_ #[t,t] ty #[.slice base n c,.slice b' 0 c']).run P w=.ok (.slice base n c) w:=by
 have hf:(Builtin.firstCells i.size 0 (.slice b' 0 c')).run P w=.ok #[] w:=by
  cases b' with
  | none=>exact run_firstCells_none ..
  | some a=>exact run_firstCells_some w i.size 0 a 0 c' [] (by simp) (fun j v h=>by simp at h)
 cases base <;> simp [Builtin.append_,run_underlying ht,sizeOf,typeInfo,hi,Builtin.lenOf,hnc,hf,storeCells]
theorem nN {t ty e:TypeId} {i:TypeInfo} (ht:P.underlying t=some (.slice e)) (hi:P.info? e=some i) (g:Addr) (sLen sCap:Nat) (a:Addr) (k c:Nat) (news:List Value) (hl:news.length=k*i.size) (hnews:∀ j u,news[j]? = some u→w.cell? (a.add j)=some u)
 (hroom:sLen+k≤sCap) {w':World} (hst:(storeCells (g.add (sLen*i.size)) news).run P w=.ok () w') :
 (Builtin.append_ #[t,t] ty #[.slice (some g) sLen sCap,.slice (some a) k c]).run P w=.ok (.slice (some g) (sLen+k) sCap) w':=by
 have hf:=run_firstCells_some (P:=P) w i.size k a k c news hl hnews
 simp [Builtin.append_,run_underlying ht,sizeOf,typeInfo,hi,Builtin.lenOf,hroom,hf,hst]
theorem aDm (hm:aK ρ β ι m w) {b:Nat} {B:Blk} (hB:m[b]? = some B) (hd:B.dead=false) (hn:ι.nil b=false) {l:List S} (hl:gE B.aH=some l) {sz:Nat} (hsz:0<sz) (o O:Int) (K:0≤O) (cap:Cap) :
 ∃ C,∀ q,roomFor B l sz O.toNat q cap=true→(∀ n1,(S.slc b (.lit o) (.lit n1) cap).aC ρ ι=.slice (some ⟨ι b,o.toNat,none⟩) n1.toNat C)∧O.toNat+q≤C:=by
 cases cap with
 | tl o k z=>exact ⟨0,fun q h=>by simp [roomFor] at h⟩
 | kn e =>
   refine ⟨(e.i ρ).toNat,fun q h=>⟨fun n1=>by simp only [S.aC,addr,aF],?_⟩⟩
   cases e with
   | lit c=>simp only [roomFor,decide_eq_true_eq] at h;rw [aF];omega
   | _=>simp [roomFor] at h
 | op e =>
   refine ⟨ι.cap b-(e.i ρ).toNat,fun q h=>⟨fun n1=>by simp only [S.aC,addr,aF,hn,Bool.false_eq_true,false_and,if_false],?_⟩⟩
   cases e with
   | lit k =>
     simp only [roomFor,decide_eq_true_eq] at h
     obtain ⟨hk,hg,hle⟩:=h
     obtain ⟨fz,rest,F,J,N,W⟩:=hm.blk b B hB hd hn
     have h5:=(N sz hg).1
     rw [eK hl,List.length_append,List.length_map] at h5
     have h6:(k.toNat+O.toNat+q)*sz≤ι.cap b*sz:=by omega
     have h7:=Nat.le_of_mul_le_mul_right h6 hsz
     rw [aF];omega
   | _=>simp [roomFor] at h
theorem aTy (hm:aK ρ β ι m w) (hf:aR ρ ι n fr a) {t ty:TypeId} {s x:SV} {nd:List E} {v:SV} {m':Mem} (h:aGP P fr m t s x=some (nd,v,m')) :
 ∃ r w',(Builtin.append_ #[t,t] ty #[s.aC ρ ι,x.aC ρ ι]).run P w=.ok r w'∧dW ρ β ι n fr m m' a v r w':=by
 unfold aGP at h
 split at h
 ·cases h
 ·rename_i e ht
  have ht:=aU ht
  split at h
  ·cases h
  ·rename_i sz by_ hzi
   obtain ⟨i,z,hi,hz,rfl,rfl,hzs,hsz⟩:=jI hzi
   split at h
   ·cases h
   ·rename_i xs hx
    split at h
    ·rename_i hc
     simp only [Bool.and_eq_true,decide_eq_true_eq] at hc
     obtain ⟨⟨⟨hpl,hsc⟩,hfm⟩,hbd,hby⟩:=hc
     simp only [jL,Bool.and_eq_true] at hfm
     have hrow:=aSW hm hsz hx
     split at h
     ·-- nothing so far
      split at h
      ·rename_i hxs
       simp only [Option.some.injEq,Prod.mk.injEq] at h
       obtain ⟨rfl,rfl,rfl⟩:=h
       rcases hrow with ⟨_,base,c,hxc⟩ | ⟨hne,_⟩
       ·refine ⟨_,w,by rw [hxc];exact cY ht hi none 0 0 (Nat.le_refl _) base c w,ι,rfl,hf,hm⟩
       ·exact absurd hxs hne
      ·rename_i hxs
       simp only [Option.some.injEq,Prod.mk.injEq] at h
       obtain ⟨rfl,rfl,rfl⟩:=h
       rcases hrow with ⟨hxs',_⟩ | ⟨_,ad,k,c,hxc,hk,hlen,hcell⟩
       ·exact absurd hxs' hxs
       ·have hq:xs.length / i.size=k:=by rw [hlen];exact Nat.mul_div_cancel _ hsz
        have hkb:k≤65536:=Nat.le_trans (Nat.le_mul_of_pos_right k hsz) (by omega)
        have hr:=run_append_nil (P:=P) w t ty e i z ht hi hz ad k c (xs.map (S.aC ρ ι)) (by rw [List.length_map];exact hlen) hcell hk (by omega) (Nat.le_trans (Nat.mul_le_mul hkb hby) (by decide))
        rw [hxc]
        refine ⟨_,_,hr,cV ι m.length w.heap.size (grownCap w k 0 e) false,?_,hf.congr (cS _ _ _ _ _) hfm.1,?_⟩
        ·simp only [SV.aC,S.aC,addr,aF,cV,if_true,Bool.false_eq_true,false_and,if_false,hq,Int.toNat_natCast]
         simp
        ·refine hm.push ⟨e,pS xs,true,some i.size,false⟩ w.heap.size (grownCap w k 0 e) false hfm.2 (aHP hsc) (fun b hb=>?_) (by simp [World.alloc]) rfl rfl rfl (Nat.le_refl _) (fun _ _=>⟨(0,0),(Builtin.zeroCells z.cells (grownCap w k 0 e-k)).toList,?_,fun _=>Nat.le_refl _,fun q hq'=>?_,fun h=>by cases h⟩) (fun _ h=>by cases h)
         ·exact heap_alloc_old w.drew _ b hb
         ·rw [fY]
          have:=heap_alloc_new w.drew (.cells ((xs.map (S.aC ρ ι)).toArray++Builtin.zeroCells z.cells (grownCap w k 0 e-k)) e)
          rw [show w.drew.heap.size=w.heap.size from rfl] at this
          rw [this]
          congr 2
          apply Array.ext';simp
         ·simp only [Option.some.injEq] at hq';subst hq'
          have hge:=grownCap_ge w k 0 e
          refine ⟨?_,grownCap_le_maxLen w k 0 e (by simp only [maxLen];omega)⟩
          have hzl:(Builtin.zeroCells z.cells (grownCap w k 0 e-k)).toList.length=(grownCap w k 0 e-k)*i.size:=by rw [Array.length_toList,size_zeroCells,hzs]
          rw [fY,List.length_append,List.length_map,hzl,hlen,← Nat.add_mul]
          congr 1;omega
     ·-- a row
      rename_i b o O cap
      split at h
      ·rename_i B hB
       split at h
       ·rename_i l hl
        split at h
        ·rename_i hcc
         obtain ⟨hd,hwr,hty,ho,hn0,hlp,hnb,hlsc⟩:=hcc
         have hnil:ι.nil b=false:=by
          cases hh:ι.nil b with
          | false=>rfl
          | true =>
            have:=(hm.nils b B hB hd hh).2
            rw [eK hl] at this
            have:=congrArg List.length this
            simp at this;subst this;simp at hlp
         obtain ⟨C,hroom⟩:=aDm hm hB hd hnil hl hsz o O hn0 cap
         split at h
         ·rename_i hrf
          obtain ⟨hconc,hroom⟩:=hroom _ hrf
          split at h
          ·rename_i hxs
           simp only [Option.some.injEq,Prod.mk.injEq] at h
           obtain ⟨rfl,rfl,rfl⟩:=h
           rcases hrow with ⟨_,base,c,hxc⟩ | ⟨hne,_⟩
           ·refine ⟨_,w,?_,ι,rfl,hf,hm⟩
            rw [hxc,show SV.aC ρ ι (.s (.slc b (.lit o) (.lit O) cap))=_ from hconc O]
            exact cY ht hi _ _ _ (Nat.le_trans (Nat.le_add_right _ _) hroom) base c w
           ·exact absurd hxs hne
          ·rename_i hxs
           split at h
           ·rename_i hle
            simp only [Option.some.injEq,Prod.mk.injEq] at h
            obtain ⟨rfl,rfl,rfl⟩:=h
            rcases hrow with ⟨hxs',_⟩ | ⟨_,ad,k,c,hxc,hk,hlen,hcell⟩
            ·exact absurd hxs' hxs
            ·have hq:xs.length / i.size=k:=by rw [hlen];exact Nat.mul_div_cancel _ hsz
             rw [hq] at hroom
             have hcs:cellsOf ρ ι B.aH=l.map (S.aC ρ ι):=eK hl
             obtain ⟨w',hst,hm'⟩:=hm.write (P:=P) hB hd hwr (o.toNat+O.toNat*i.size) (xs.map (S.aC ρ ι)) (pS (l.take (o.toNat+O.toNat*i.size)++xs++l.drop (o.toNat+O.toNat*i.size+xs.length))) (aGr hpl) (by
              rw [List.length_map]
              exact List.length_pos_iff.2 hxs) (by rw [hcs,List.length_map,List.length_map];exact hle) (by
              rw [fY,hcs,List.map_append,List.map_append,List.map_take,List.map_drop,List.length_map])
             refine ⟨.slice (some ⟨ι b,o.toNat,none⟩) (O.toNat+k) C,w',?_,ι,?_,hf,hm'⟩
             ·rw [hxc,show SV.aC ρ ι (.s (.slc b (.lit o) (.lit O) cap))=_ from hconc O]
              refine nN ht hi _ _ _ ad k c (xs.map (S.aC ρ ι)) (by rw [List.length_map];exact hlen) hcell hroom ?_
              rw [Addr.add_lit];exact hst
             ·rw [show SV.aC ρ ι (.s (.slc b (.lit o) (.lit (O+(xs.length / i.size:Nat))) cap))=_ from hconc _,hq]
              congr 1;omega
           ·cases h
         ·split at h
          ·rename_i hcc2
           obtain ⟨rfl,rfl,hg,hll,hxs⟩:=hcc2
           simp only [Option.some.injEq,Prod.mk.injEq] at h
           obtain ⟨rfl,rfl,rfl⟩:=h
           rcases hrow with ⟨hxs',_⟩ | ⟨_,ad,k,c,hxc,hk,hlen,hcell⟩
           ·exact absurd hxs' hxs
           ·have hq:xs.length / i.size=k:=by rw [hlen];exact Nat.mul_div_cancel _ hsz
            have hkb:k≤65536:=Nat.le_trans (Nat.le_mul_of_pos_right k hsz) (by omega)
            have hcs:cellsOf ρ ι B.aH=l.map (S.aC ρ ι):=eK hl
            have hs0:SV.aC ρ ι (.s (.slc b (.lit 0) (.lit O) (.op (.lit 0))))=.slice (some ⟨ι b,0,none⟩) O.toNat (ι.cap b):=by
             simp only [SV.aC,S.aC,addr,aF,hnil,Bool.false_eq_true,false_and,if_false];rfl
            obtain ⟨fz,rest,F,J,N,W⟩:=hm.blk b B hB hd hnil
            have hfz:=J hwr
            have h5:=(N i.size hg).1
            have h6:=(N i.size hg).2
            rw [hcs] at F h5
            rw [List.length_append,List.length_map,hll] at h5
            by_cases hr:O.toNat+k≤ι.cap b
            ·-- it stays where it is
             have hrl:rest.length=(ι.cap b-O.toNat)*i.size:=by rw [Nat.sub_mul];omega
             have hkr:k*i.size≤rest.length:=by rw [hrl];exact Nat.mul_le_mul_right _ (by omega)
             have hst:=gC P (ι b) (O.toNat*i.size) B.ty fz hfz (xs.map (S.aC ρ ι)) 0 _ _ F (aGr hpl) (by rw [List.length_append,List.length_map,List.length_map,hll,hlen];omega)
             have hnew:(l.map (S.aC ρ ι)++rest).take (O.toNat*i.size+0)++xs.map (S.aC ρ ι)++(l.map (S.aC ρ ι)++rest).drop (O.toNat*i.size+0+(xs.map (S.aC ρ ι)).length)=cellsOf ρ ι (pS (l++xs))++rest.drop (k*i.size):=by
              rw [fY,Nat.add_zero,List.map_append,List.length_map,hlen]
              rw [List.take_append_of_le_length (by rw [List.length_map,hll];exact Nat.le_refl _),List.take_of_length_le (by rw [List.length_map,hll];exact Nat.le_refl _)]
              rw [List.drop_append,List.length_map,hll,List.drop_of_length_le (by rw [List.length_map,hll];omega),List.nil_append]
              congr 2;omega
             rw [hnew] at hst
             have hm1:=hm.cN hB hd hnil (pS (l++xs)) (rest.drop (k*i.size)) hfz (fun sz' hs'=>by
              rw [hg,Option.some.injEq] at hs';subst hs'
              refine ⟨?_,h6⟩
              rw [fY,List.length_append,List.length_map,List.length_append,List.length_drop,hll,hlen]
              omega) (fun hgn=>by rw [hg] at hgn;cases hgn)
             have hB1:(m.set b { B with aH:=pS (l++xs) })[b]? = some { B with aH:=pS (l++xs) }:=by
              rw [List.getElem?_set];simp [(List.getElem?_eq_some_iff.1 hB).1]
             have hal:=hm1.alias hB1 hd (by
              rw [List.all_eq_true]
              intro C hC
              rw [List.length_set]
              rcases List.mem_or_eq_of_mem_set hC with hC | rfl
              ·exact List.all_eq_true.1 hfm.2 C hC
              ·exact aHP (by rw [List.all_append,hlsc,hsc];rfl))
             rw [List.length_set,List.set_set,hnil] at hal
             refine ⟨.slice (some ⟨ι b,0,none⟩) (O.toNat+k) (ι.cap b),cN w (ι b) (cellsOf ρ ι (pS (l++xs))++rest.drop (k*i.size)) B.ty fz,?_,cV ι m.length (ι b) (ι.cap b) false,?_,hf.congr (cS ι m.length (ι b) (ι.cap b) false) hfm.1,?_⟩
             ·rw [hxc,hs0]
              refine nN ht hi _ _ _ ad k c (xs.map (S.aC ρ ι)) (by rw [List.length_map];exact hlen) hcell hr ?_
              rw [Addr.add_lit,Nat.zero_add];exact hst
             ·simp only [SV.aC,S.aC,addr,aF,cV,if_true,Bool.false_eq_true,false_and,if_false,hq]
              simp;omega
             ·have eB:({ B with aH:=pS (l++xs) }:Blk)=⟨e,pS (l++xs),true,some i.size,false⟩:=by
               cases B;simp_all
              have h8:=hal.forget (b:=b) (D:={ B with dead:=true }) rfl
              rw [List.set_append_left _ _ (by rw [List.length_set];exact (List.getElem?_eq_some_iff.1 hB).1),List.set_set,eB] at h8
              exact h8
            ·-- it moves
             have holds:∀ j v,(l.map (S.aC ρ ι))[j]? = some v→w.cell? ((⟨ι b,0,none⟩:Addr).add j)=some v:=fun j v h=>hm.aVA hB hd hnil hl 0 j v (by rw [List.drop_zero];exact h)
             have hn0b:O.toNat≤65536:=by omega
             have hr2:=run_append_grow (P:=P) w t ty e i z ht hi hz ⟨ι b,0,none⟩ O.toNat (ι.cap b) (l.map (S.aC ρ ι)) (by rw [List.length_map];exact hll) holds ad k c (xs.map (S.aC ρ ι)) (by rw [List.length_map];exact hlen) hcell (by omega) (by omega)
              (growslice_fits (by omega) (Nat.le_trans (Nat.mul_le_mul (show O.toNat+k≤131072 by omega) hby) (by decide)))
             have hfg:=hm.forget (b:=b) (D:={ B with dead:=true }) rfl
             have hsc2:(m.set b { B with dead:=true }).all (fun B=>B.aH.all (Seg.sc m.length))=true:=by
              rw [List.all_eq_true]
              intro C hC
              rcases List.mem_or_eq_of_mem_set hC with hC | rfl
              ·exact List.all_eq_true.1 hfm.2 C hC
              ·exact List.all_eq_true.1 hfm.2 B (List.mem_of_getElem? hB)
             refine ⟨_,_,by rw [hxc,hs0];exact hr2,cV ι m.length w.heap.size (grownCap w (O.toNat+k) (ι.cap b) e) false,?_,hf.congr (cS _ _ _ _ _) hfm.1,?_⟩
             ·simp only [SV.aC,S.aC,addr,aF,cV,if_true,Bool.false_eq_true,false_and,if_false,hq]
              simp;omega
             ·have hpush:=hfg.push ⟨e,pS (l++xs),true,some i.size,false⟩ w.heap.size (grownCap w (O.toNat+k) (ι.cap b) e) false (w':=w.drew.alloc (.cells ((l.map (S.aC ρ ι)).toArray++(xs.map (S.aC ρ ι)).toArray++Builtin.zeroCells z.cells (grownCap w (O.toNat+k) (ι.cap b) e-(O.toNat+k))) e))
               (by rw [List.length_set];exact hsc2) (by rw [List.length_set];exact aHP (by rw [List.all_append,hlsc,hsc];rfl)) (fun q hq=>heap_alloc_old w.drew _ q hq) (by simp [World.alloc]) rfl rfl rfl (Nat.le_refl _)
               (fun _ _=>⟨(0,0),(Builtin.zeroCells z.cells (grownCap w (O.toNat+k) (ι.cap b) e-(O.toNat+k))).toList,by
                 rw [fY]
                 have:=heap_alloc_new w.drew (.cells ((l.map (S.aC ρ ι)).toArray++(xs.map (S.aC ρ ι)).toArray++Builtin.zeroCells z.cells (grownCap w (O.toNat+k) (ι.cap b) e-(O.toNat+k))) e)
                 rw [show w.drew.heap.size=w.heap.size from rfl] at this
                 rw [this]
                 congr 2
                 apply Array.ext';simp,fun _=>Nat.le_refl _,fun q hq'=>by
                 simp only [Option.some.injEq] at hq';subst hq'
                 have hge:=grownCap_ge w (O.toNat+k) (ι.cap b) e
                 refine ⟨?_,grownCap_le_maxLen w _ _ e (by simp only [maxLen];omega)⟩
                 have hzl:(Builtin.zeroCells z.cells (grownCap w (O.toNat+k) (ι.cap b) e-(O.toNat+k))).toList.length=(grownCap w (O.toNat+k) (ι.cap b) e-(O.toNat+k))*i.size:=by rw [Array.length_toList,size_zeroCells,hzs]
                 rw [fY,List.length_append,List.length_map,hzl,List.length_append,hll,hlen,← Nat.add_mul,← Nat.add_mul]
                 congr 1;omega,fun h=>by cases h⟩) (fun _ h=>by cases h)
              rw [List.length_set] at hpush
              exact hpush
          ·cases h
        ·cases h
       ·cases h
      ·cases h
     ·cases h
    ·cases h
theorem vK (k:IntKind) (n:E):cellsOf ρ ι [.run k n (.tab []) 0]=List.replicate (n.i ρ).toNat (.int k 0):=by
 simp only [cellsOf,List.flatMap_cons,List.flatMap_nil,List.append_nil,Seg.cells,cB]
 apply List.ext_getElem?
 intro j
 simp only [List.getElem?_map,List.getElem?_replicate]
 by_cases hj:j<(n.i ρ).toNat
 ·rw [List.getElem?_range hj,if_pos hj];simp
 ·rw [List.getElem?_eq_none (by simpa using hj),if_neg hj];rfl
theorem bDU (hH:H.ok ρ) (hm:aK ρ β ι m w) (hf:aR ρ ι n fr a) {t:TypeId} {l c:SV} {nd:List E} {v:SV} {m':Mem} (h:bDT P H fr m t l c=some (nd,v,m')) :
 ∃ r w',(Instr.makeSlice t (l.aC ρ ι) (c.aC ρ ι)).run P w=.ok r w'∧dW ρ β ι n fr m m' a v r w':=by
 unfold bDT at h
 split at h
 ·rename_i e k1 q k2 q' ht
  split at h
  ·rename_i by_ k hzi a9
   obtain ⟨i,z,hi,hz,hs1,rfl,hzs,_⟩:=jI hzi
   split at h
   ·rename_i hc
    obtain ⟨rfl,hby,ha,hb⟩:=hc
    have ha:=aJ hH ha
    have hb:=bJ hH hb
    simp only [Option.map_eq_some_iff,Prod.mk.injEq] at h
    obtain ⟨⟨nd',v',m2⟩,hnb,rfl,rfl,rfl⟩:=h
    obtain ⟨ι',F,J,N⟩:=lP (ty:=e) hm hf hnb
    have U:=oU (ρ:=ρ) (ι:=ι) (w:=w) a9
    have hz3:(zeroValue e).run P w=.ok z w:=by simp [zeroValue,hi,hz,typeInfo]
    rw [hz3] at U
    injection U with U _
    subst U
    have hrun:=run_make (P:=P) w t e i _ (aU ht) hi hz k1 k2 (q.i ρ) (q.i ρ) ha (Int.le_refl _) (by
     have h9:(i.bytes:Int)*q.i ρ≤65536*67108864:=Int.mul_le_mul (by omega) hb (by omega) (by omega)
     omega) (by omega)
    have hcells:madeCells (SV.aC ρ ι (.s (.int k (.lit 0)))).cells ((q.i ρ).toNat*i.size)=(cellsOf ρ ι [.run k q (.tab []) 0]).toArray:=by
     rw [vK,hs1,Nat.mul_one]
     apply Array.ext'
     apply List.ext_getElem?
     intro j
     simp only [madeCells,SV.aC,S.aC,aF,Value.cells,Array.toList_map,Array.toList_range,List.getElem?_map,List.getElem?_replicate]
     by_cases hj:j<(q.i ρ).toNat
     ·rw [List.getElem?_range hj,if_pos hj];simp [Nat.mod_one]
     ·rw [List.getElem?_eq_none (by simpa using hj),if_neg hj];rfl
    rw [hcells] at hrun
    refine ⟨_,_,by simpa only [SV.aC,S.aC,World.alloc] using hrun,ι',?_,J,N⟩
    have hv:=wG hnb
    subst hv
    simp only [SV.aC,S.aC,addr,aF,Value.pointer.injEq,Option.some.injEq,Addr.mk.injEq] at F ⊢
    simp [F.1]
   ·cases h
  ·cases h
 ·cases h
theorem bBd (hm:aK ρ β ι m w) {sz:Nat} {x:SV} {aH:List Seg} {k:Nat} (h:aUY m sz x=some (aH,k)) :
 0<k∧(cellsOf ρ ι aH).length=k*sz∧(∃ B ∈ m,aH=B.aH)∧∃ ad c,x.aC ρ ι=.slice (some ad) k c∧∀ j v,(cellsOf ρ ι aH)[j]? = some v→w.cell? (ad.add j)=some v:=by
 unfold aUY at h
 split at h
 ·rename_i b q cap
  split at h
  ·rename_i B hB
   split at h
   ·rename_i hc
    obtain ⟨hd,K,hsz,hl⟩:=hc
    simp only [Option.some.injEq,Prod.mk.injEq] at h
    obtain ⟨rfl,rfl⟩:=h
    have hlen:=eQ (ρ:=ρ) (ι:=ι) hl
    have hpos:0<q.toNat*sz:=Nat.mul_pos (by omega) hsz
    have hnil:ι.nil b=false:=by
     cases hh:ι.nil b with
     | false=>rfl
     | true=>rw [(hm.nils b B hB hd hh).2] at hlen;simp at hlen;omega
    obtain ⟨fz,rest,F,_⟩:=hm.blk b B hB hd hnil
    refine ⟨by omega,hlen,⟨B,List.mem_of_getElem? hB,rfl⟩,addr ρ ι b (.lit 0),?_⟩
    have hcell:∀ j v,(cellsOf ρ ι B.aH)[j]? = some v→w.cell? ((addr ρ ι b (.lit 0)).add j)=some v:=by
     intro j v hj
     have hlt:=(List.getElem?_eq_some_iff.1 hj).1
     have e:w.cell? ((addr ρ ι b (.lit 0)).add j)=(cellsOf ρ ι B.aH++rest)[j]? := by
      have V:addr ρ ι b (.lit 0)=⟨ι b,0,none⟩:=by simp [addr,aF]
      rw [V,Addr.add_lit,Nat.zero_add];simp [World.cell?,F]
     rw [e,List.getElem?_append_left hlt,hj]
    cases cap with
    | kn e=>exact ⟨(e.i ρ).toNat,by simp only [SV.aC,S.aC,aF],hcell⟩
    | op e=>exact ⟨ι.cap b-(e.i ρ).toNat,by simp only [SV.aC,S.aC,aF,hnil,Bool.false_eq_true,false_and,if_false],hcell⟩
    | tl o k z =>
      have a6:¬ q.toNat=0:=by omega
      exact ⟨if z then 0 else ι.cap b-(k.i ρ).toNat,by simp only [SV.aC,S.aC,aF,a6,and_false,if_false],hcell⟩
   ·cases h
  ·cases h
 ·cases h
theorem aVx {s:SV} (h:bare s=true):s.aC ρ ι=.slice none 0 0∨∃ g,s.aC ρ ι=.slice (some g) 0 0:=by
 unfold bare at h
 split at h
 ·exact .inl rfl
 ·rename_i b o;exact .inr ⟨addr ρ ι b o,by simp only [SV.aC,S.aC,aF];rfl⟩
 ·exact .inr ⟨_,by simp only [SV.aC,S.aC,aF];rfl⟩
 ·cases h
theorem bAb (hm:aK ρ β ι m w) (hf:aR ρ ι n fr a) {t ty:TypeId} {s x:SV} {nd:List E} {v:SV} {m':Mem} (h:aTI P fr m t s x=some (nd,v,m')) :
 ∃ r w',(Builtin.append_ #[t,t] ty #[s.aC ρ ι,x.aC ρ ι]).run P w=.ok r w'∧dW ρ β ι n fr m m' a v r w':=by
 unfold aTI at h
 split at h
 ·cases h
 ·rename_i e ht
  have ht:=aU ht
  split at h
  ·cases h
  ·rename_i sz by_ hzi
   obtain ⟨i,z,hi,hz,rfl,rfl,hzs,hsz⟩:=jI hzi
   split at h
   ·rename_i hbare
    split at h
    ·rename_i aH k hx
     split at h
     ·rename_i hc
      obtain ⟨hkb,hby,hfm⟩:=hc
      simp only [jL,Bool.and_eq_true] at hfm
      obtain ⟨hk,hlen,⟨B,hB,rfl⟩,ad,c,hxc,hcell⟩:=bBd hm hx
      simp only [Option.some.injEq,Prod.mk.injEq] at h
      obtain ⟨rfl,rfl,rfl⟩:=h
      have hr:(Builtin.append_ #[t,t] ty #[s.aC ρ ι,x.aC ρ ι]).run P w=.ok (.slice (some ⟨w.heap.size,0,none⟩) k (grownCap w k 0 e)) (w.drew.alloc (.cells ((cellsOf ρ ι B.aH).toArray++Builtin.zeroCells z.cells (grownCap w k 0 e-k)) e)):=by
       rw [hxc]
       rcases aVx (ρ:=ρ) (ι:=ι) hbare with F | ⟨g,F⟩
       ·rw [F]
        exact run_append_nil (P:=P) w t ty e i z ht hi hz ad k c _ hlen hcell hk (by omega) (Nat.le_trans (Nat.mul_le_mul hkb hby) (by decide))
       ·rw [F]
        have:=run_append_grow (P:=P) w t ty e i z ht hi hz g 0 0 [] (by simp) (fun j v h=>by simp at h) ad k c _ hlen hcell (by omega) (by omega)
         (growslice_fits (by omega) (Nat.le_trans (Nat.mul_le_mul (show 0+k≤131072 by omega) hby) (by decide)))
        rw [Nat.zero_add] at this
        rw [this]
        congr 3
        simp
      refine ⟨_,_,hr,cV ι m.length w.heap.size (grownCap w k 0 e) false,?_,hf.congr (cS _ _ _ _ _) hfm.1,?_⟩
      ·simp only [SV.aC,S.aC,addr,aF,cV,if_true,Bool.false_eq_true,false_and,if_false,Int.toNat_natCast]
       simp
      ·refine hm.push ⟨e,B.aH,true,some i.size,false⟩ w.heap.size (grownCap w k 0 e) false hfm.2 (List.all_eq_true.1 hfm.2 B hB) (fun b hb=>?_) (by simp [World.alloc]) rfl rfl rfl (Nat.le_refl _) (fun _ _=>⟨(0,0),(Builtin.zeroCells z.cells (grownCap w k 0 e-k)).toList,?_,fun _=>Nat.le_refl _,fun q hq'=>?_,fun h=>by cases h⟩) (fun _ h=>by cases h)
       ·exact heap_alloc_old w.drew _ b hb
       ·have:=heap_alloc_new w.drew (.cells ((cellsOf ρ ι B.aH).toArray++Builtin.zeroCells z.cells (grownCap w k 0 e-k)) e)
        rw [show w.drew.heap.size=w.heap.size from rfl] at this
        rw [this]
        congr 2
        apply Array.ext';simp
       ·simp only [Option.some.injEq] at hq';subst hq'
        have hge:=grownCap_ge w k 0 e
        refine ⟨?_,grownCap_le_maxLen w k 0 e (by simp only [maxLen];omega)⟩
        have hzl:(Builtin.zeroCells z.cells (grownCap w k 0 e-k)).toList.length=(grownCap w k 0 e-k)*i.size:=by rw [Array.length_toList,size_zeroCells,hzs]
        rw [List.length_append,hzl,hlen,← Nat.add_mul]
        congr 1;omega
     ·cases h
    ·split at h
     ·rename_i hx
      simp only [Option.some.injEq,Prod.mk.injEq] at h
      obtain ⟨rfl,rfl,rfl⟩:=h
      rcases aSW hm hsz hx with ⟨_,base,c,hxc⟩ | ⟨hne,_⟩
      ·rcases aVx (ρ:=ρ) (ι:=ι) hbare with F | ⟨g,F⟩
       ·exact ⟨_,w,by rw [hxc,F];exact cY ht hi none 0 0 (Nat.le_refl _) base c w,ι,by rw [F],hf,hm⟩
       ·exact ⟨_,w,by rw [hxc,F];exact cY ht hi (some g) 0 0 (Nat.le_refl _) base c w,ι,by rw [F],hf,hm⟩
      ·exact absurd rfl hne
     ·cases h
   ·cases h
theorem bIX (hH:H.ok ρ) (hm:aK ρ β ι m w) (hf:aR ρ ι n fr a) {o:Oper} {nd:List E} {v:SV} {m':Mem} (h:bQE P H fr m o.op=some (nd,v,m')) (hn:bD ρ nd) :
 ∃ x w',((execOp a.eval o).run P w=.ok (.value x) w'∨(execOp a.eval o).run P w=.ok .skip w'∧x=Go.undef)∧dW ρ β ι n fr m m' a v x w':=by
 have hG:eM ρ []:=fun e he=>by cases he
 unfold bQE at h
 split at h
 ·rename_i ty x ho
  split at h
  ·rename_i u hu
   split at h
   ·rename_i l hl
    refine ⟨_,_,.inl ?_,lP hm hf h⟩
    simp [execOp,ho,aQ hf hG hu,Instr.box,newVar,newRow,(yV (ρ:=ρ) (ι:=ι) hl).1]
   ·cases h
  ·cases h
 ·rename_i ty ho
  split at h
  ·rename_i u hu
   split at h
   ·rename_i l hl
    refine ⟨_,_,.inl ?_,lP hm hf h⟩
    simp [execOp,ho,Instr.alloc,oU (ρ:=ρ) (ι:=ι) hu,newVar,newRow,(yV (ρ:=ρ) (ι:=ι) hl).1]
   ·cases h
  ·cases h
 ·rename_i t p x ho
  split at h
  ·rename_i u v' hu hv
   obtain ⟨w',F,J,rfl⟩:=bBG (P:=P) hH hm h hn
   refine ⟨_,w',.inr ⟨?_,rfl⟩,ι,rfl,hf,J⟩
   simp [execOp,ho,aQ hf hG hu,aQ hf hG hv,F]
  ·cases h
 ·rename_i t l c ho
  split at h
  ·rename_i u v' hu hv
   obtain ⟨r,w',hr,haf⟩:=bDU hH hm hf h
   refine ⟨r,w',.inl ?_,haf⟩
   simp only [execOp,ho,aQ hf hG hu,aQ hf hG hv,Sem.run_bind,hr,Result.andThen_ok,Sem.run_pure]
  ·cases h
 ·rename_i t len parts ho
  split at h
  ·rename_i X
   split at h
   ·rename_i e he hpt
    split at h
    ·rename_i k hk
     simp only [Option.map_eq_some_iff,Prod.mk.injEq] at h
     obtain ⟨⟨nd',v',m2⟩,hb,rfl,rfl,rfl⟩:=h
     obtain ⟨ι',F,J,N⟩:=lP (ty:=e) hm hf hb
     refine ⟨.slice (some ⟨w.heap.size,0,none⟩) 0 0,_,.inl ?_,ι',?_,J,N⟩
     ·subst X
      obtain rfl:parts=#[]:=Array.ext' hpt
      have hbs:(Instr.buildSlice t 0 #[]).run P w=.ok (.slice (some ⟨w.heap.size,0,none⟩) 0 0) { w with heap:=w.heap.push (.cells #[] e) }:=by
       unfold Instr.buildSlice
       simp [run_underlying (aU he),bG hk,Instr.fill,newRow]
       rw [show Array.map (fun _=>(default:Value)) (Array.range 0)=#[] by simp]
      simp only [execOp,ho]
      rw [Sem.run_bind]
      have M:((#[]:Array (Nat × Operand)).map fun (x:Nat × Operand)=>match x with | (i,x)=>(i,a.eval x))=#[]:=by simp
      rw [M,hbs];rfl
     ·have hv:=wG hb
      subst hv
      simp only [SV.aC,S.aC,addr,aF,Value.pointer.injEq,Option.some.injEq,Addr.mk.injEq] at F ⊢
      simp [F.1]
    ·cases h
   ·cases h
  split at h
  ·rename_i e l he hl
   split at h
   ·rename_i k hk
    split at h
    ·rename_i hsz
     split at h
     ·rename_i aH hr
      split at h
      ·rename_i hp
       simp only [Option.map_eq_some_iff,Prod.mk.injEq] at h
       obtain ⟨⟨nd',v',m2⟩,hb,rfl,rfl,rfl⟩:=h
       obtain ⟨ι',F,J,N⟩:=lP (ty:=e) hm hf hb
       have hrow:=aZl (ρ:=ρ) (ι:=ι) (w:=w) hr
       have hparts:(parts.map fun (p:Nat × Operand)=>(p.1,a.eval p.2)).toList=(parts.toList.map (·.1)).zip (l.map (SV.aC ρ ι)):=by
        rw [← kK hf hG hl,Array.toList_map,List.map_map,List.zip_map',Function.comp_def]
       refine ⟨.slice (some ⟨w.heap.size,0,none⟩) len len,_,.inl ?_,ι',?_,J,N⟩
       ·obtain ⟨hne,z,hz,hfill⟩:=hrow
        have hbs:(Instr.buildSlice t len (parts.map fun (p:Nat × Operand)=>(p.1,a.eval p.2))).run P w=.ok (.slice (some ⟨w.heap.size,0,none⟩) len len) { w with heap:=w.heap.push (.cells (cellsOf ρ ι aH).toArray e) }:=by
         unfold Instr.buildSlice
         have hns:¬ len*k > 2 ^ 24:=by omega
         simp only [Sem.run_bind,run_underlying (aU he),Result.andThen_ok,bG hk]
         rw [if_neg hns,if_neg hne]
         simp only [Sem.run_bind,Sem.run_pure,hz,Result.andThen_ok]
         rw [hparts,hfill]
         simp [newRow]
        simp only [execOp,ho]
        rw [Sem.run_bind]
        have M:(parts.map fun (x:Nat × Operand)=>match x with | (i,x)=>(i,a.eval x))=(parts.map fun (p:Nat × Operand)=>(p.1,a.eval p.2)):=rfl
        rw [M,hbs];rfl
       ·have hv:=wG hb
        subst hv
        simp only [SV.aC,S.aC,addr,aF,Value.pointer.injEq,Option.some.injEq,Addr.mk.injEq] at F ⊢
        simp [F.1]
      ·cases h
     ·cases h
    ·cases h
   ·cases h
  ·cases h
 ·cases h
theorem aZR {e:TypeId} {c sz:Nat} {aH:List Seg} {z:Value} (h:bJd P e c sz=some aH) (hz:(zeroValue e).run P w=.ok z w) (hs:z.cells.size=sz):(Array.range (c*sz)).map (z.cells[·%z.cells.size]!)=(cellsOf ρ ι aH).toArray:=by
 have gen:bAJ P e c sz [] []=some aH→(Array.range (c*sz)).map (z.cells[·%z.cells.size]!)=(cellsOf ρ ι aH).toArray:=by
  intro hr
  obtain ⟨hne,z2,U,hfill⟩:=aZl (ρ:=ρ) (ι:=ι) (w:=w) hr
  rw [hz] at U
  injection U with U _
  subst U
  simpa [Instr.fill] using hfill
 unfold bJd at h
 split at h
 ·rename_i k a9
  split at h
  ·rename_i F
   simp only [Option.some.injEq] at h;subst h
   have U:=oU (ρ:=ρ) (ι:=ι) (w:=w) a9
   rw [hz] at U
   injection U with U _
   subst U
   apply Array.ext'
   simp only [F,Nat.mul_one,SV.aC,S.aC,aF,Value.cells,Array.toList_map,Array.toList_range,cellsOf,List.flatMap_cons,List.flatMap_nil,List.append_nil,Seg.cells,cB,Int.toNat_natCast]
   refine List.map_congr_left fun j _=>?_
   simp [Nat.mod_one]
  ·exact gen h
 ·exact gen h
theorem jA {v:SV} {z:Int} (h:zY v=some z):∃ k,v.aC ρ ι=.int k z:=by
 unfold zY at h
 split at h
 ·simp only [Option.some.injEq] at h;subst h;exact ⟨_,rfl⟩
 ·cases h
theorem bGo (hm:aK ρ β ι m w) (hf:aR ρ ι n fr a) {t ty:TypeId} {x:SV} {nd:List E} {v:SV} {m':Mem} (h:bLQ P m t x=some (nd,v,m')) :
 ∃ r w',(Builtin.cap_ #[t] ty #[x.aC ρ ι]).run P w=.ok r w'∧dW ρ β ι n fr m m' a v r w':=by
 unfold bLQ at h
 split at h
 ·rename_i e ht
  simp only [Option.some.injEq,Prod.mk.injEq] at h
  obtain ⟨rfl,rfl,rfl⟩:=h
  refine ⟨goInt 0,w,by simp [Builtin.cap_,run_underlying (aU ht),SV.aC,S.aC],ι,?_,hf,hm⟩
  simp [SV.aC,S.aC,aF,goInt]
 ·rename_i e _ _ _ c ht
  split at h
  ·rename_i hc
   simp only [Option.some.injEq,Prod.mk.injEq] at h
   obtain ⟨rfl,rfl,rfl⟩:=h
   refine ⟨goInt (c.toNat:Nat),w,by simp [Builtin.cap_,run_underlying (aU ht),SV.aC,S.aC,aF],ι,?_,hf,hm⟩
   simp [SV.aC,S.aC,aF,goInt,Int.max_eq_left hc]
  ·cases h
 ·cases h
theorem bDW (hm:aK ρ β ι m w) (hf:aR ρ ι n fr a) {t:TypeId} {l c:SV} {nd:List E} {v:SV} {m':Mem} (h:bDV P fr m t l c=some (nd,v,m')) :
 ∃ r w',(Instr.makeSlice t (l.aC ρ ι) (c.aC ρ ι)).run P w=.ok r w'∧dW ρ β ι n fr m m' a v r w':=by
 unfold bDV at h
 split at h
 ·rename_i e zl zc ht hl hc
  obtain ⟨kl,hl⟩:=jA (ρ:=ρ) (ι:=ι) hl
  obtain ⟨kc,hc⟩:=jA (ρ:=ρ) (ι:=ι) hc
  split at h
  ·rename_i sz by_ hzi
   obtain ⟨i,z,hi,hz,rfl,rfl,hzs,hsz⟩:=jI hzi
   split at h
   ·rename_i hcc
    obtain ⟨rfl,hpos,hle,hby⟩:=hcc
    split at h
    ·rename_i aH hr
     split at h
     ·simp only [Option.map_eq_some_iff,Prod.mk.injEq] at h
      obtain ⟨⟨nd',v',m2⟩,hb,rfl,rfl,rfl⟩:=h
      obtain ⟨ι',F,J,N⟩:=lP (ty:=e) hm hf hb
      have hfl:=aZR (P:=P) (ρ:=ρ) (ι:=ι) (w:=w) hr (show (zeroValue e).run P w=.ok z w by simp [zeroValue,hi,hz,typeInfo]) hzs
      have hrun:=run_make (P:=P) w t e i z (aU ht) hi hz kl kc zl zl (by omega) (Int.le_refl _) (by
       have h9:(i.bytes:Int)*zl≤65536*1048576:=Int.mul_le_mul (by omega) hle (by omega) (by omega)
       omega) (by omega)
      rw [show madeCells z.cells (zl.toNat*i.size)=(cellsOf ρ ι aH).toArray from hfl] at hrun
      refine ⟨_,_,by rw [hl,hc];exact hrun,ι',?_,J,N⟩
      have hv:=wG hb
      subst hv
      simp only [SV.aC,S.aC,addr,aF,Value.pointer.injEq,Option.some.injEq,Addr.mk.injEq] at F ⊢
      simp [F.1]
     ·cases h
    ·cases h
   ·cases h
  ·cases h
 ·cases h
theorem uP (e:TypeId) (ρ:Env) (ι:Loc) (k:Nat):cellsOf ρ ι (wH P e)=[]∧(wH P e).all (Seg.sc k)=true:=by
 unfold wH
 split
 ·exact ⟨by simp [cellsOf,Seg.cells,aF],rfl⟩
 ·exact ⟨rfl,rfl⟩
theorem bDS (hm:aK ρ β ι m w) (hf:aR ρ ι n fr a) {t:TypeId} {l c:SV} {nd:List E} {v:SV} {m':Mem} (h:bDR P fr m t l c=some (nd,v,m')) :
 ∃ r w',(Instr.makeSlice t (l.aC ρ ι) (c.aC ρ ι)).run P w=.ok r w'∧dW ρ β ι n fr m m' a v r w':=by
 unfold bDR at h
 split at h
 ·rename_i e q ht hl hc
  obtain ⟨kl,hl⟩:=jA (ρ:=ρ) (ι:=ι) hl
  obtain ⟨kc,hc⟩:=jA (ρ:=ρ) (ι:=ι) hc
  split at h
  ·rename_i sz by_ hzi
   obtain ⟨i,z,hi,hz,rfl,rfl,hzs,hsz⟩:=jI hzi
   split at h
   ·rename_i hcc
    obtain ⟨hpos,hle,hby,hfm⟩:=hcc
    simp only [jL,Bool.and_eq_true] at hfm
    simp only [Option.some.injEq,Prod.mk.injEq] at h
    obtain ⟨rfl,rfl,rfl⟩:=h
    have hrun:=run_make (P:=P) w t e i z (aU ht) hi hz kl kc 0 q (Int.le_refl _) (by omega) (by
     have h9:(i.bytes:Int)*q≤65536*67108864:=Int.mul_le_mul (by omega) hle (by omega) (by omega)
     omega) (by omega)
    refine ⟨_,_,by rw [hl,hc];exact hrun,cV ι m.length w.heap.size q.toNat false,?_,hf.congr (cS _ _ _ _ _) hfm.1,?_⟩
    ·simp [SV.aC,S.aC,addr,aF,cV]
    ·refine hm.push ⟨e,wH P e,true,some i.size,false⟩ w.heap.size q.toNat false hfm.2 (uP e ρ ι _).2 (fun b hb=>heap_alloc_old w _ b hb) (by show w.heap.size≤(w.heap.push _).size;rw [Array.size_push];omega) rfl rfl rfl (Nat.le_refl _)
      (fun _ _=>⟨(0,0),(madeCells z.cells (q.toNat*i.size)).toList,?_,⟨fun _=>Nat.le_refl _,fun p hp=>?_,fun h=>by cases h⟩⟩) (fun _ h=>by cases h)
     ·have:=heap_alloc_new w (.cells (madeCells z.cells (q.toNat*i.size)) e)
      rw [this,(uP e ρ ι 0).1]
      congr 2
     ·simp only [Option.some.injEq] at hp;subst hp
      refine ⟨?_,by simp only [maxLen];omega⟩
      rw [(uP e ρ ι 0).1]
      simp [madeCells]
   ·cases h
  ·cases h
 ·cases h
theorem bAo (hm:aK ρ β ι m w) (hf:aR ρ ι n fr a) {t:TypeId} {l c:SV} {nd:List E} {v:SV} {m':Mem} (h:aUc P fr m t l c=some (nd,v,m')) :
 ∃ r w',(Instr.makeSlice t (l.aC ρ ι) (c.aC ρ ι)).run P w=.ok r w'∧dW ρ β ι n fr m m' a v r w':=by
 unfold aUc at h
 split at h
 ·rename_i r hr
  simp only [Option.some.injEq] at h;subst h
  exact bDW hm hf hr
 ·exact bDS hm hf h
theorem oP {t t' ty e:TypeId} {i:TypeInfo} {z:Value} {q:IntKind} (ht:P.underlying t=some (.slice e)) (ht':P.underlying t'=some (.int q)) (hi:P.info? e=some i) (hz:i.zero=some z) (hsz:0<i.size) (k:IntKind) (c:Int) (K:0<c) (F:c≤67108864) (hb:i.bytes≤65536) (w:World) :
 (Builtin.append_ #[t,t'] ty #[.slice none 0 0,.int k c]).run P w=.ok (.slice (some ⟨w.heap.size,0,none⟩) c.toNat (grownCap w c.toNat 0 e)) (w.drew.alloc (.cells (Builtin.zeroCells z.cells c.toNat++Builtin.zeroCells z.cells (grownCap w c.toNat 0 e-c.toNat)) e)):=by
 obtain ⟨n,rfl⟩:=Int.eq_ofNat_of_zero_le (Int.le_of_lt K)
 have hw:IntKind.i64.wrap (n:Int)=n:=by rw [IntKind.wrap_i64];omega
 have hn:n ≠ 0:=by omega
 have hprod:n*i.bytes≤4398046511104:=Nat.le_trans (Nat.mul_le_mul (show n≤67108864 by omega) hb) (by decide)
 have J:¬ ((n:Int)<0):=by omega
 have N:¬ (281474976710656<(n:Int)*(i.bytes:Int)):=by
  have:((n*i.bytes:Nat):Int)≤4398046511104:=by omega
  rw [Int.natCast_mul] at this;omega
 have h48':¬ (281474976710656<Builtin.nextslicecap n 0*i.bytes):=by rw [nextslicecap_zero (by omega)];omega
 have h63':¬ (9223372036854775807<(n:Int)):=by omega
 have hns:n*i.size ≠ 0:=Nat.mul_ne_zero hn (by omega)
 have hns2:¬ (n=0∨i.size=0):=by omega
 simp [Builtin.append_,run_underlying ht,run_underlying ht',sizeOf,typeInfo,zeroValue,hi,hz,asInt,asIntOf,hw,hn,J,N,h48',h63',hns,hns2,Question.forced,run_firstCells_none,newRow,grownCap]
theorem aTA (hm:aK ρ β ι m w) (hf:aR ρ ι n fr a) {t t' ty:TypeId} {s x:SV} {nd:List E} {v:SV} {m':Mem} (h:aGR P fr m t t' s x=some (nd,v,m')) :
 ∃ r w',(Builtin.append_ #[t,t'] ty #[s.aC ρ ι,x.aC ρ ι]).run P w=.ok r w'∧dW ρ β ι n fr m m' a v r w':=by
 unfold aGR at h
 split at h
 ·rename_i e q zn ht ht' hx
  obtain ⟨kx,hx⟩:=jA (ρ:=ρ) (ι:=ι) hx
  split at h
  ·rename_i sz by_ hzi
   obtain ⟨i,z,hi,hz,rfl,rfl,hzs,hsz⟩:=jI hzi
   split at h
   ·rename_i hcc
    obtain ⟨hpos,hle,hby,hfm⟩:=hcc
    simp only [jL,Bool.and_eq_true] at hfm
    split at h
    ·rename_i aH hr
     split at h
     ·rename_i hsc
      simp only [Option.some.injEq,Prod.mk.injEq] at h
      obtain ⟨rfl,rfl,rfl⟩:=h
      have hfl:Builtin.zeroCells z.cells zn.toNat=(cellsOf ρ ι aH).toArray:=by
       have:=aZR (P:=P) (ρ:=ρ) (ι:=ι) (w:=w) hr (show (zeroValue e).run P w=.ok z w by simp [zeroValue,hi,hz,typeInfo]) hzs
       unfold Builtin.zeroCells
       rw [hzs] at this ⊢
       exact this
      have hrun:=oP (P:=P) (ty:=ty) (aU ht) ht' hi hz hsz kx zn hpos (by omega) hby w
      rw [hfl] at hrun
      refine ⟨_,_,by rw [hx];exact hrun,cV ι m.length w.heap.size (grownCap w zn.toNat 0 e) false,?_,hf.congr (cS _ _ _ _ _) hfm.1,?_⟩
      ·simp [SV.aC,S.aC,addr,aF,cV]
      ·refine hm.push ⟨e,aH,true,some i.size,false⟩ w.heap.size (grownCap w zn.toNat 0 e) false hfm.2 hsc (fun b hb=>heap_alloc_old w.drew _ b hb) (by simp [World.alloc]) rfl rfl rfl (Nat.le_refl _)
        (fun _ _=>⟨(0,0),(Builtin.zeroCells z.cells (grownCap w zn.toNat 0 e-zn.toNat)).toList,?_,⟨fun _=>Nat.le_refl _,fun q hq=>?_,fun h=>by cases h⟩⟩) (fun _ h=>by cases h)
       ·have:=heap_alloc_new w.drew (.cells ((cellsOf ρ ι aH).toArray++Builtin.zeroCells z.cells (grownCap w zn.toNat 0 e-zn.toNat)) e)
        rw [show w.drew.heap.size=w.heap.size from rfl] at this
        rw [this]
        congr 2
        apply Array.ext';simp
       ·simp only [Option.some.injEq] at hq;subst hq
        have hge:=grownCap_ge w zn.toNat 0 e
        refine ⟨?_,grownCap_le_maxLen w _ _ e (by simp only [maxLen];omega)⟩
        have a0:(cellsOf ρ ι aH).length=zn.toNat*i.size:=by
         have:=congrArg Array.size hfl
         rw [size_zeroCells,hzs] at this
         simpa using this.symm
        have hzl:(Builtin.zeroCells z.cells (grownCap w zn.toNat 0 e-zn.toNat)).toList.length=(grownCap w zn.toNat 0 e-zn.toNat)*i.size:=by rw [Array.length_toList,size_zeroCells,hzs]
        rw [List.length_append,a0,hzl,← Nat.add_mul]
        congr 1;omega
     ·cases h
    ·cases h
   ·cases h
  ·cases h
 ·cases h
theorem aYx {e:TypeId} (h:bAk P e=true):P.underlying e=some (.int .u8):=by
 unfold bAk at h
 split at h
 ·assumption
 ·cases h
theorem aZZ (hm:aK ρ β ι m w) (hf:aR ρ ι n fr a) {src dst:TypeId} {x:SV} {nd:List E} {v:SV} {m':Mem} (h:aTF P fr m src dst x=some (nd,v,m')) :
 ∃ r w',(convert src dst (x.aC ρ ι)).run P w=.ok r w'∧dW ρ β ι n fr m m' a v r w':=by
 unfold aTF at h
 split at h
 ·rename_i e l hs hd
  split at h
  ·rename_i hc
   simp only [Bool.and_eq_true,decide_eq_true_eq] at hc
   obtain ⟨⟨he,hl⟩,hfm⟩:=hc
   simp only [jL,Bool.and_eq_true] at hfm
   have he:=aYx he
   simp only [Option.some.injEq,Prod.mk.injEq] at h
   obtain ⟨rfl,rfl,rfl⟩:=h
   have hr:=run_bytes_of_string (P:=P) w src dst e ⟨l.toArray⟩ hs (aU hd) he
   have hsz:(⟨l.toArray⟩:ByteArray).size=l.length:=rfl
   rw [hsz] at hr
   refine ⟨_,_,hr,cV ι m.length w.heap.size (grownCap w l.length 0 e) false,?_,hf.congr (cS _ _ _ _ _) hfm.1,?_⟩
   ·simp [SV.aC,S.aC,addr,aF,cV]
   ·refine hm.push ⟨e,[.run .u8 (.lit l.length) (.tab (l.map fun c=>(c.toNat:Int))) 0],false,some 1,false⟩ w.heap.size (grownCap w l.length 0 e) false hfm.2 rfl (fun b hb=>heap_alloc_old w.drew _ b hb) (by simp [World.alloc]) rfl rfl rfl (Nat.le_refl _)
     (fun _ _=>⟨((bytesRow ⟨l.toArray⟩ (grownCap w l.length 0 e)).size,(bytesRow ⟨l.toArray⟩ (grownCap w l.length 0 e)).size+1),List.replicate (grownCap w l.length 0 e-l.length) (.int .u8 0),?_,⟨fun h=>absurd h (by simp),fun q hq=>?_,fun h=>absurd h (by simp)⟩⟩) (fun _ h=>by cases h)
    ·have:=heap_alloc_new w.drew (.cells (bytesRow ⟨l.toArray⟩ (grownCap w l.length 0 e)) e ((bytesRow ⟨l.toArray⟩ (grownCap w l.length 0 e)).size,(bytesRow ⟨l.toArray⟩ (grownCap w l.length 0 e)).size+1))
     rw [show w.drew.heap.size=w.heap.size from rfl] at this
     rw [this]
     congr 2
     apply Array.ext'
     simp only [bytesRow,Array.toList_append,Array.toList_map,Array.toList_replicate,hsz,cellsOf,List.flatMap_cons,List.flatMap_nil,List.append_nil,Seg.cells,aF,cB,Int.toNat_natCast,Nat.zero_add]
     congr 1
     apply List.ext_getElem?
     intro j
     simp only [List.getElem?_map]
     by_cases hj:j<l.length
     ·rw [List.getElem?_range hj,List.getElem?_eq_getElem hj]
      simp [List.getD_eq_getElem?_getD,hj]
     ·rw [List.getElem?_eq_none (Nat.not_lt.1 hj),List.getElem?_eq_none (by rw [List.length_range];exact Nat.not_lt.1 hj)];rfl
    ·simp only [Option.some.injEq] at hq;subst hq
     have hge:=grownCap_ge w l.length 0 e
     refine ⟨?_,grownCap_le_maxLen w _ _ e (by simp only [maxLen];omega)⟩
     simp [cellsOf,Seg.cells,aF];omega
  ·cases h
 ·cases h
theorem aK.bIF (hm:aK ρ β ι m w) {b:Nat} {B:Blk} (hB:m[b]? = some B) (hd:B.dead=false) (hn:ι.nil b=false) (rest:List Value) {fz fz':Nat × Nat} (F:w.heap[ι b]? = some (.cells (cellsOf ρ ι B.aH++rest).toArray B.ty fz))
 (hg:∀ sz,B.grow=some sz→(cellsOf ρ ι B.aH++rest).length=ι.cap b*sz∧ι.cap b≤maxLen) (hr:B.grow=none→rest=[]) :
 aK ρ β ι (m.set b { B with wr:=false }) (Sx.cN w (ι b) (cellsOf ρ ι B.aH++rest) B.ty fz'):=by
 have hb:b<m.length:=(List.getElem?_eq_some_iff.1 hB).1
 have hlt:=hm.aAy hB hd hn
 have at_:∀ {i:Nat} {C:Blk},(m.set b { B with wr:=false })[i]? = some C→(i=b∧C={ B with wr:=false })∨(i ≠ b∧m[i]? = some C):=by
  intro i C h
  rw [List.getElem?_set] at h
  split at h
  ·rename_i hbi;subst hbi;simp only [hb,if_true,Option.some.injEq] at h;exact .inl ⟨rfl,h.symm⟩
  ·rename_i hbi;exact .inr ⟨fun e=>hbi e.symm,h⟩
 have old:∀ {i:Nat} {C:Blk},(m.set b { B with wr:=false })[i]? = some C→∃ C',m[i]? = some C'∧C'.dead=C.dead:=by
  intro i C h
  rcases at_ h with ⟨rfl,rfl⟩ | ⟨_,h⟩
  ·exact ⟨B,hB,rfl⟩
  ·exact ⟨C,h,rfl⟩
 refine ⟨fun i j C D hC hD hCd hDd hCn hDn he=>?_,fun i C hC hCd hCn=>?_,fun i C hC hCd hCn=>?_,hm.agr,by simpa using hm.len,fun i F J=>hm.new i F (by simpa using J),?_,fun k hk hi=>?_,hm.os,hm.tape,hm.output,hm.xt,fun i j a n' c' hv K k hk=>hm.xd i j a n' c' hv K k (by simpa using hk)⟩
 ·obtain ⟨C',hC',M⟩:=old hC
  obtain ⟨D',hD',T⟩:=old hD
  exact hm.inj i j C' D' hC' hD' (M.trans hCd) (T.trans hDd) hCn hDn he
 ·rcases at_ hC with ⟨rfl,rfl⟩ | ⟨hbi,hC⟩
  ·refine ⟨fz',rest,?_,⟨fun h=>absurd h (by simp),hg,hr⟩⟩
   simp [Sx.cN,Array.getElem?_setIfInBounds_self,hlt]
  ·obtain ⟨fz',rest',N,W⟩:=hm.blk i C hC hCd hCn
   refine ⟨fz',rest',?_,W⟩
   simp only [Sx.cN]
   rw [Array.getElem?_setIfInBounds_ne (fun he=>hbi (hm.inj b i B C hB hC hd hCd hn hCn he).symm)]
   exact N
 ·rcases at_ hC with ⟨rfl,rfl⟩ | ⟨hbi,hC⟩
  ·rw [hn] at hCn;cases hCn
  ·exact hm.nils i C hC hCd hCn
 ·simp only [Sx.cN,Array.size_setIfInBounds];exact hm.size
 ·simp only [Sx.cN]
  have:=hi b (by simpa using hb)
  rw [Array.getElem?_setIfInBounds_ne this]
  exact hm.old k hk fun i hi'=>hi i (by simpa using hi')
theorem bDY (hm:aK ρ β ι m w) (hf:aR ρ ι n fr a) {src dst:TypeId} {x:SV} {nd:List E} {v:SV} {m':Mem} (h:bDX P m src dst x=some (nd,v,m')) :
 ∃ r w',(convert src dst (x.aC ρ ι)).run P w=.ok r w'∧dW ρ β ι n fr m m' a v r w':=by
 unfold bDX at h
 split at h
 ·rename_i e b off len cap he
  split at h
  ·rename_i B hB
   split at h
   ·rename_i hc
    simp only [Bool.and_eq_true,decide_eq_true_eq,Bool.not_eq_true'] at hc
    obtain ⟨⟨⟨hu,hsd⟩,hd⟩,X,hls⟩:=hc
    subst hsd
    have hu:=aYx hu
    simp only [Option.some.injEq,Prod.mk.injEq] at h
    obtain ⟨rfl,rfl,rfl⟩:=h
    have hnil:ι.nil b=false:=by
     cases hh:ι.nil b with
     | false=>rfl
     | true =>
       have K:=(hm.nils b B hB hd hh).2
       obtain ⟨q,hq⟩:=Option.isSome_iff_exists.1 hls
       have F:=eQ (ρ:=ρ) (ι:=ι) hq
       rw [K] at F
       simp at F
       subst F
       exact absurd hq X
    obtain ⟨fz,rest,F,J,N,W⟩:=hm.blk b B hB hd hnil
    obtain ⟨A,c,hA,hAb⟩:∃ A c,SV.aC ρ ι (.s (.slc b off len cap))=.slice (some A) (len.i ρ).toNat c∧A.block=ι b:=by
     cases cap with
     | kn q=>exact ⟨addr ρ ι b off,(q.i ρ).toNat,by simp only [SV.aC,S.aC],rfl⟩
     | op q=>exact ⟨addr ρ ι b off,ι.cap b-(q.i ρ).toNat,by simp only [SV.aC,S.aC,hnil,Bool.false_eq_true,false_and,if_false],rfl⟩
     | tl o k z=>exact ⟨if ι.cap b=(k.i ρ).toNat∧(len.i ρ).toNat=0 then addr ρ ι b o else addr ρ ι b off,if z=true then 0 else ι.cap b-(k.i ρ).toNat,by simp only [SV.aC,S.aC],by split <;> rfl⟩
    have hshape:w.shape? (ι b)=some (B.ty,(cellsOf ρ ι B.aH++rest).toArray.size):=by
     unfold World.shape?;rw [F]
    refine ⟨SV.aC ρ ι (.s (.slc b off len cap)),w.freeze ⟨ι b,(cellsOf ρ ι B.aH++rest).toArray.size,none⟩ 1,?_,ι,rfl,hf,?_⟩
    ·rw [hA]
     simp [convert,run_underlying (aU he),run_underlying hu,markStringish,hAb,hshape]
    ·have:=hm.bIF hB hd hnil rest (fz':=if fz.1 == fz.2 then ((cellsOf ρ ι B.aH++rest).toArray.size,(cellsOf ρ ι B.aH++rest).toArray.size+1) else (min fz.1 (cellsOf ρ ι B.aH++rest).toArray.size,max fz.2 ((cellsOf ρ ι B.aH++rest).toArray.size+1))) F N W
     have hfr:w.freeze ⟨ι b,(cellsOf ρ ι B.aH++rest).toArray.size,none⟩ 1=Sx.cN w (ι b) (cellsOf ρ ι B.aH++rest) B.ty (if fz.1 == fz.2 then ((cellsOf ρ ι B.aH++rest).toArray.size,(cellsOf ρ ι B.aH++rest).toArray.size+1) else (min fz.1 (cellsOf ρ ι B.aH++rest).toArray.size,max fz.2 ((cellsOf ρ ι B.aH++rest).toArray.size+1))):=by
      unfold World.freeze Sx.cN
      rw [if_neg (by decide)]
      congr 1
      apply Array.ext_getElem?
      intro j
      rw [Array.getElem?_modify]
      split
      ·rename_i hj
       subst hj
       rw [Array.getElem?_setIfInBounds_self_of_lt (pI F),F]
       rfl
      ·rename_i hj
       rw [Array.getElem?_setIfInBounds_ne hj]
     rw [hfr];exact this
   ·cases h
  ·cases h
 ·cases h
theorem iO (k:IntKind) (i:Int) (y:Nat) (code:BoundsCode) (K:0≤i) (F:i≤y):(Instr.sliceBound (.int k i) y code).run P w=.ok i.toNat w:=by
 simp [Instr.sliceBound,asIntOf,K,F]
theorem dM {t e:TypeId} (ht:P.underlying t=some (.slice e)) {sz:Nat} (hs:dA P e=some sz) (base:Option Addr) (len cap:Nat) (lo hi:Option Value) (l h:Int) (hlo:(lo=none∧l=0)∨∃ k,lo=some (.int k l)) (hhi:(hi=none∧h=len)∨∃ k,hi=some (.int k h)) (K:0≤l) (F:l≤h) (J:h≤cap) (w:World) :
 (Instr.sliceAt t (.slice base len cap) lo hi none).run P w=.ok (.slice (if cap=l.toNat then base else base.map (·.add (l.toNat*sz))) (h.toNat-l.toNat) (cap-l.toNat)) w:=by
 have hz:=bG (w:=w) hs
 have eh:(h.toNat:Int)=h:=Int.toNat_of_nonneg (by omega)
 rcases hlo with ⟨rfl,rfl⟩ | ⟨k,rfl⟩ <;> rcases hhi with ⟨rfl,rfl⟩ | ⟨k',rfl⟩
 ·simp [Instr.sliceAt,run_underlying ht,Instr.slice,Instr.sliceBounds,hz]
 ·simp [Instr.sliceAt,run_underlying ht,Instr.slice,Instr.sliceBounds,iO,hz,J,(by omega:0≤h)]
 ·simp [Instr.sliceAt,run_underlying ht,Instr.slice,Instr.sliceBounds,iO,hz,K,F]
 ·simp [Instr.sliceAt,run_underlying ht,Instr.slice,Instr.sliceBounds,iO,hz,K,F,J,eh,(by omega:0≤h)]
theorem gM {d:Int} {x:Option SV} {z:Int} (h:tZ d x=some z):(x.map (SV.aC ρ ι)=none∧z=d)∨∃ k,x.map (SV.aC ρ ι)=some (.int k z):=by
 cases x with
 | none=>simp only [tZ,Option.some.injEq] at h;exact .inl ⟨rfl,h.symm⟩
 | some v=>obtain ⟨k,hk⟩:=jA (ρ:=ρ) (ι:=ι) h;exact .inr ⟨k,by rw [Option.map_some,hk]⟩
theorem bBa (hm:aK ρ β ι m w) (hf:aR ρ ι n fr a) {t:TypeId} {x:SV} {lo hi mx:Option SV} {nd:List E} {v:SV} {m':Mem} (h:aUW P m t x lo hi mx=some (nd,v,m')) :
 ∃ r w',(Instr.sliceAt t (x.aC ρ ι) (lo.map (SV.aC ρ ι)) (hi.map (SV.aC ρ ι)) (mx.map (SV.aC ρ ι))).run P w=.ok r w'∧dW ρ β ι n fr m m' a v r w':=by
 unfold aUW at h
 split at h
 ·cases h
 ·rename_i e ht
  split at h
  ·cases h
  ·rename_i sz hsz
   split at h
   ·split at h
    ·rename_i hc
     obtain ⟨F,J,rfl⟩:=hc
     simp only [Option.some.injEq,Prod.mk.injEq] at h
     obtain ⟨rfl,rfl,rfl⟩:=h
     have hr:=dM (aU ht) hsz none 0 0 _ _ 0 0 (gM (ρ:=ρ) (ι:=ι) F) (gM (ρ:=ρ) (ι:=ι) J) (Int.le_refl _) (Int.le_refl _) (Int.le_refl _) w
     exact ⟨_,w,hr,ι,by simp [SV.aC,S.aC],hf,hm⟩
    ·cases h
   ·rename_i b o ln cap
    split at h
    ·rename_i l hh B hl hhi hB
     split at h
     ·rename_i L hL
      split at h
      ·rename_i hc
       obtain ⟨hd,hLp,ho,X,hlh,hhn,hln,hszp,rfl,hrf⟩:=hc
       have hnil:ι.nil b=false:=by
        cases hq:ι.nil b with
        | false=>rfl
        | true =>
          have:=(hm.nils b B hB hd hq).2
          rw [eK hL] at this
          have:=congrArg List.length this
          simp at this;subst this;simp at hLp
       obtain ⟨C,hroom⟩:=aDm hm hB hd hnil hL hszp o ln (by omega) cap
       obtain ⟨hconc,hC⟩:=hroom 0 hrf
       have hr:=dM (aU ht) hsz (some ⟨ι b,o.toNat,none⟩) ln.toNat C _ _ l hh (gM (ρ:=ρ) (ι:=ι) hl) (by
        rcases gM (ρ:=ρ) (ι:=ι) hhi with ⟨F,J⟩ | F
        ·exact .inl ⟨F,by omega⟩
        ·exact .inr F) X hlh (by omega) w
       rw [show SV.aC ρ ι (.s (.slc b (.lit o) (.lit ln) cap))=_ from hconc ln]
       have haddr:(if C=l.toNat then some (⟨ι b,o.toNat,none⟩:Addr) else (some (⟨ι b,o.toNat,none⟩:Addr)).map (·.add (l.toNat*sz)))=some ⟨ι b,(o+l*sz).toNat,none⟩:=by
        have M:(o+l*sz).toNat=o.toNat+l.toNat*sz:=by
         obtain ⟨p,rfl⟩:=Int.eq_ofNat_of_zero_le ho
         obtain ⟨q,rfl⟩:=Int.eq_ofNat_of_zero_le X
         simp only [Int.toNat_natCast]
         exact_mod_cast Int.toNat_natCast (p+q*sz)
        by_cases hcl:C=l.toNat
        ·rcases hln with h9 | h9
         ·rw [if_pos hcl,M,h9];simp
         ·omega
        ·rw [if_neg hcl,Option.map_some,Addr.add_lit,M]
       rw [haddr] at hr
       split at h
       ·rename_i c
        simp only [Option.some.injEq,Prod.mk.injEq] at h
        obtain ⟨rfl,rfl,rfl⟩:=h
        have hCc:C=c.toNat:=by
         have:=hconc ln
         simp only [S.aC,aF,Value.slice.injEq] at this
         exact this.2.2.symm
        refine ⟨_,w,hr,ι,?_,hf,hm⟩
        simp only [SV.aC,S.aC,addr,aF,Value.slice.injEq,true_and]
        omega
       ·rename_i k
        simp only [Option.some.injEq,Prod.mk.injEq] at h
        obtain ⟨rfl,rfl,rfl⟩:=h
        have hCc:C=ι.cap b-k.toNat:=by
         have:=hconc ln
         simp only [S.aC,hnil,Bool.false_eq_true,false_and,if_false,aF,Value.slice.injEq] at this
         exact this.2.2.symm
        have hk:0≤k:=by
         simp only [roomFor,decide_eq_true_eq] at hrf;exact hrf.1
        refine ⟨_,w,hr,ι,?_,hf,hm⟩
        simp only [SV.aC,S.aC,addr,hnil,Bool.false_eq_true,false_and,if_false,aF,Value.slice.injEq,true_and]
        omega
       ·cases h
      ·cases h
     ·cases h
    ·cases h
   ·cases h
theorem oK (hf:aR ρ ι n fr a) {x:Option Operand} {v:Option SV} (h:wL fr x=some v):x.map a.eval=v.map (SV.aC ρ ι):=by
 cases x with
 | none=>simp only [wL,Option.some.injEq] at h;subst h;rfl
 | some x =>
   simp only [wL,Option.map_eq_some_iff] at h
   obtain ⟨u,hu,rfl⟩:=h
   simp only [Option.map_some,aQ hf (fun e he=>by cases he) hu]
theorem bIY (hm:aK ρ β ι m w) (hf:aR ρ ι n fr a) {o:Oper} {nd:List E} {v:SV} {m':Mem} (h:bQF P fr m o.op=some (nd,v,m')) :
 ∃ x w',(execOp a.eval o).run P w=.ok (.value x) w'∧dW ρ β ι n fr m m' a v x w':=by
 have hG:eM ρ []:=fun e he=>by cases he
 unfold bQF at h
 split at h
 ·rename_i t u x ha
  unfold oW at ha
  split at ha
  ·rename_i c ho
   obtain ⟨callee,args,argTypes⟩:=c
   split at ha
   ·rename_i s x' t1 t2 hcal har hat
    simp only at hcal har hat
    obtain rfl:args=#[s,x']:=Array.ext' har
    obtain rfl:argTypes=#[t1,t2]:=Array.ext' hat
    subst hcal
    split at ha
    ·rename_i htt;subst htt
     split at ha
     ·rename_i u' v' hu hv
      simp only [Option.some.injEq,Prod.mk.injEq] at ha
      obtain ⟨rfl,rfl,rfl⟩:=ha
      obtain ⟨r,w',hr,haf⟩:∃ r w',(Builtin.append_ #[t1,t1] o.type #[u'.aC ρ ι,v'.aC ρ ι]).run P w=.ok r w'∧dW ρ β ι n fr m m' a v r w':=by
       split at h
       ·rename_i q hq
        simp only [Option.some.injEq] at h;subst h
        exact aTy (ty:=o.type) hm hf hq
       ·exact bAb (ty:=o.type) hm hf h
      refine ⟨r,w',?_,haf⟩
      unfold execOp
      simp only [ho,resolve,invoke,builtin,Sem.run_bind,Sem.run_pure,Result.andThen_ok,List.map_toArray,List.map_cons,List.map_nil,aQ hf hG hu,aQ hf hG hv,hr]
     ·cases ha
    ·cases ha
   ·cases ha
  ·cases ha
 ·split at h
  ·rename_i t x ha
   unfold aVz at ha
   split at ha
   ·rename_i c ho
    obtain ⟨callee,args,argTypes⟩:=c
    split at ha
    ·rename_i x' t1 hcal har hat
     simp only at hcal har hat
     obtain rfl:args=#[x']:=Array.ext' har
     obtain rfl:argTypes=#[t1]:=Array.ext' hat
     subst hcal
     simp only [Option.map_eq_some_iff,Prod.mk.injEq] at ha
     obtain ⟨u,hu,rfl,rfl⟩:=ha
     obtain ⟨r,w',hr,haf⟩:=bGo (ty:=o.type) hm hf h
     refine ⟨r,w',?_,haf⟩
     unfold execOp
     simp only [ho,resolve,invoke,builtin,Sem.run_bind,Sem.run_pure,Result.andThen_ok,List.map_toArray,List.map_cons,List.map_nil,aQ hf hG hu,hr]
    ·cases ha
   ·cases ha
  ·split at h
   ·rename_i t t' u x ha
    unfold mW at ha
    split at ha
    ·rename_i c ho
     obtain ⟨callee,args,argTypes⟩:=c
     split at ha
     ·rename_i s x' t1 t2 hcal har hat
      simp only at hcal har hat
      obtain rfl:args=#[s,x']:=Array.ext' har
      obtain rfl:argTypes=#[t1,t2]:=Array.ext' hat
      subst hcal
      split at ha
      ·rename_i u' v' hu hv
       simp only [Option.some.injEq,Prod.mk.injEq] at ha
       obtain ⟨rfl,rfl,rfl,rfl⟩:=ha
       obtain ⟨r,w',hr,haf⟩:=aTA (ty:=o.type) hm hf h
       refine ⟨r,w',?_,haf⟩
       unfold execOp
       simp only [ho,resolve,invoke,builtin,Sem.run_bind,Sem.run_pure,Result.andThen_ok,List.map_toArray,List.map_cons,List.map_nil,aQ hf hG hu,aQ hf hG hv,hr]
      ·cases ha
     ·cases ha
    ·cases ha
   ·split at h
    ·rename_i t l c ho
     split at h
     ·rename_i u v' hu hv
      obtain ⟨r,w',hr,haf⟩:=bAo hm hf h
      refine ⟨r,w',?_,haf⟩
      simp only [execOp,ho,aQ hf hG hu,aQ hf hG hv,Sem.run_bind,hr,Result.andThen_ok,Sem.run_pure]
     ·cases h
    ·rename_i t x lo hi mx ho
     split at h
     ·rename_i u v1 v2 v3 hu F J N
      obtain ⟨r,w',hr,haf⟩:=bBa hm hf h
      refine ⟨r,w',?_,haf⟩
      simp only [execOp,ho,aQ hf hG hu,oK hf F,oK hf J,oK hf N,Sem.run_bind,hr,Result.andThen_ok,Sem.run_pure]
     ·cases h
    ·rename_i src dst x ho
     split at h
     ·rename_i u hu
      split at h
      ·rename_i r hb
       simp only [Option.some.injEq] at h;subst h
       obtain ⟨r,w',hr,haf⟩:=aZZ hm hf hb
       refine ⟨r,w',?_,haf⟩
       simp only [execOp,ho,aQ hf hG hu,Sem.run_bind,hr,Result.andThen_ok,Sem.run_pure]
      ·obtain ⟨r,w',hr,haf⟩:=bDY hm hf h
       refine ⟨r,w',?_,haf⟩
       simp only [execOp,ho,aQ hf hG hu,Sem.run_bind,hr,Result.andThen_ok,Sem.run_pure]
     ·cases h
    ·cases h
theorem bQI (hH:H.ok ρ) (hm:aK ρ β ι m w) (hf:aR ρ ι n fr a) {o:Oper} {nd:List E} {v:SV} {m':Mem} (h:wop P H fr m o.op=some (nd,v,m')) (hn:bD ρ nd) :
 ∃ x w',((execOp a.eval o).run P w=.ok (.value x) w'∨(execOp a.eval o).run P w=.ok .skip w'∧x=Go.undef)∧dW ρ β ι n fr m m' a v x w':=by
 unfold wop at h
 split at h
 ·rename_i r hr
  simp only [Option.some.injEq] at h;subst h
  exact bIX hH hm hf hr hn
 ·obtain ⟨x,w',F,J⟩:=bIY hm hf h
  exact ⟨x,w',.inl F,J⟩
end
end Go.Sx
