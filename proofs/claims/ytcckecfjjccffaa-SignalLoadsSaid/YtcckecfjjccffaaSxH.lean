/- A run of a program by symbols, proved sound: the code, ways that meet again, calls. It imports no program. -/
import Derived.Test.YtcckecfjjccffaaSxG
import Derived.Defers
import Derived.Recover
set_option linter.unusedVariables false
set_option linter.unusedSimpArgs false
namespace Go.Sx
def aCJ (e:E) (x y:S):Option S :=
 if x=y then some x else
 match x,y with
 | .int k a,.int k' b=>if k=k' then some (.int k (pR e a b)) else none
 | .bool a,.bool b=>some (.bool (aHN e a b))
 | .ptr b o,.ptr b' o'=>if b=b' then some (.ptr b (mkIte e o o')) else none
 | .slc b o l (.kn c),.slc b' o' l' (.kn c')=>if b=b' then some (.slc b (mkIte e o o') (mkIte e l l') (.kn (mkIte e c c'))) else none
 | .slc b o l (.op c),.slc b' o' l' (.op c')=>if b=b' then some (.slc b (mkIte e o o') (mkIte e l l') (.op (mkIte e c c'))) else none
 | .xslc i j o l,.xslc i' j' o' l'=>if i=i'∧j=j' then some (.xslc i j (mkIte e o o') (mkIte e l l')) else none
 | .xptr i j k f,.xptr i' j' k' f'=>if i=i'∧j=j'∧f=f' then some (.xptr i j (mkIte e k k') f) else none
 | .ifc t k a,.ifc t' k' b=>if t=t'∧k=k' then some (.ifc t k (pR e a b)) else none
 | _,_=>none
def bCi:E→E
 | .upd A _ _=>bCi A
 | A=>A
def aZh (c A:E):E→E
 | .upd B j y=>jK (aZh c A B) j (pR c (dY H0 A j) y)
 | B=>mkIte c A B
def aZg (c:E):E→E→E
 | .upd A i x,B=>jK (aZg c A B) i (pR c x (dY H0 B i))
 | A,B=>aZh c A B
def uM (c A B:E):E:=if A=B then A else if bCi A=bCi B then aZg c A B else mkIte c A B
theorem bHB {ρ:Env} (c A:E):∀ B:E,(aZh c A B).a ρ=if c.b ρ then A.a ρ else B.a ρ:=by
 intro B
 induction B with
 | upd B j y ihB _ _ =>
   unfold aZh
   rw [kD,ihB,lY,gB aIo,cC]
   funext k
   cases E.b ρ c
   ·simp only [Bool.false_eq_true,if_false]
   ·simp only [if_true];split
    ·rename_i h;rw [h]
    ·rfl
 | _=>exact aYT _ _ _
theorem bHA {ρ:Env} (c:E):∀ A B:E,(aZg c A B).a ρ=if c.b ρ then A.a ρ else B.a ρ:=by
 intro A
 induction A with
 | upd A i x ihA _ _ =>
   intro B
   unfold aZg
   rw [kD,ihA,lY,gB aIo,cC]
   funext k
   cases E.b ρ c
   ·simp only [Bool.false_eq_true,if_false];split
    ·rename_i h;rw [h]
    ·rfl
   ·simp only [if_true]
 | _=>intro B;exact bHB _ _ _
theorem aCP {ρ:Env} (c A B:E):(uM c A B).a ρ=if c.b ρ then A.a ρ else B.a ρ:=by
 unfold uM
 split
 ·rename_i h;subst h;simp
 ·split
  ·exact bHA _ _ _
  ·exact aYT _ _ _
def pQ (e:E):List XF→List XF→Option (List XF)
 | [],[]=>some []
 | f::l,g::r=>if f.1=g.1 then (pQ e l r).map ((f.1,uM e f.2 g.2)::·) else none
 | _,_=>none
def aCK (e:E) (x y:Seg):Option Seg :=
 match x,y with
 | .one a,.one b=>(aCJ e a b).map .one
 | .run k n A o,.run k' n' A' o'=>if k=k'∧o=o' then some (.run k (mkIte e n n') (uM e A A') o) else none
 | .rows n fs o,.rows n' fs' o'=>if o=o' then (pQ e fs fs').map fun gs=>.rows (mkIte e n n') gs o else none
 | _,_=>none
def iA (e:E):List Seg→List Seg→Option (List Seg)
 | [],[]=>some []
 | x::l,y::r=>match aCK e x y,iA e l r with
   | some z,some s=>some (z::s)
   | _,_=>none
 | _,_=>none
def lX (e:E):List (Bool × List Seg)→List (Bool × List Seg)→Option (List (Bool × List Seg))
 | [],[]=>some []
 | x::l,y::r=>if x.1=y.1 then match iA e x.2 y.2,lX e l r with
    | some z,some s=>some ((x.1,z)::s)
    | _,_=>none
   else none
 | _,_=>none
def aCL (e:E) (x y:SV):Option SV :=
 match x,y with
 | .tup l,.tup r=>(lX e l r).map .tup
 | .s a,.s b=>(aCJ e a b).map .s
 | .agg l,.agg r=>(iA e l r).map .agg
 | x,y=>if x=y then some x else none
def wE (e:E) (x y:Blk):Option Blk :=
 if x.ty=y.ty∧x.wr=y.wr∧x.grow=y.grow then
  if x.dead||y.dead then some { x with aH:=[],dead:=true } else (iA e x.aH y.aH).map fun z=>{ x with aH:=z }
 else none
def gU (e:E):Mem→Mem→Option Mem
 | [],[]=>some []
 | x::l,y::r=>match wE e x y,gU e l r with
   | some z,some s=>some (z::s)
   | _,_=>none
 | _,_=>none
def sV (e:E) (f1 f2:Fr) (t:Nat):FE :=
 match look f1 t,look f2 t with
 | some (g,x),some (g',y)=>if g=g' then match aCL e x y with
    | some z=>⟨t,g,z⟩
    | none=>⟨t,[],.junk⟩
   else ⟨t,[],.junk⟩
 | _,_=>⟨t,[],.junk⟩
def pO (e:E) (fr f1 f2:Fr):Fr :=
 ((f1.take (f1.length-fr.length)).map (·.t)++(f2.take (f2.length-fr.length)).map (·.t)).map (sV e f1 f2)++fr
section
variable {e:E} {ι:Loc} {ρ:Env}
theorem yF {x y z:S} (h:aCJ e x y=some z):z.aC ρ ι=if e.b ρ then x.aC ρ ι else y.aC ρ ι:=by
 unfold aCJ at h
 split at h
 ·rename_i hxy;subst hxy
  simp only [Option.some.injEq] at h;subst h;simp
 ·split at h
  ·split at h
   ·rename_i hk;subst hk
    simp only [Option.some.injEq] at h;subst h
    simp only [S.aC,lY];split <;> rfl
   ·cases h
  ·simp only [Option.some.injEq] at h;subst h
   simp only [S.aC,aSw];split <;> rfl
  ·split at h
   ·rename_i hk;subst hk
    simp only [Option.some.injEq] at h;subst h
    simp only [S.aC,addr,gA];split <;> rfl
   ·cases h
  ·split at h
   ·rename_i hk;subst hk
    simp only [Option.some.injEq] at h;subst h
    simp only [S.aC,addr,gA];split <;> rfl
   ·cases h
  ·split at h
   ·rename_i hk;subst hk
    simp only [Option.some.injEq] at h;subst h
    simp only [S.aC,addr,gA]
    cases e.b ρ <;> simp
   ·cases h
  ·split at h
   ·rename_i hk;obtain ⟨rfl,rfl⟩:=hk
    simp only [Option.some.injEq] at h;subst h
    simp only [S.aC,gA];split <;> rfl
   ·cases h
  ·split at h
   ·rename_i hk;obtain ⟨rfl,rfl,rfl⟩:=hk
    simp only [Option.some.injEq] at h;subst h
    simp only [S.aC,gA];split <;> rfl
   ·cases h
  ·split at h
   ·rename_i hk;obtain ⟨rfl,rfl⟩:=hk
    simp only [Option.some.injEq] at h;subst h
    simp only [S.aC,lY];split <;> rfl
   ·cases h
  ·cases h
theorem aCM:∀ {x y z:List XF},pQ e x y=some z→∀ k,(z.map fun f=>XF.aC ρ f k)=if e.b ρ then x.map fun f=>XF.aC ρ f k else y.map fun f=>XF.aC ρ f k
 | [],[],z,h,k=>by simp only [pQ,Option.some.injEq] at h;subst h;simp
 | x::l,[],z,h,k=>by simp [pQ] at h
 | [],y::r,z,h,k=>by simp [pQ] at h
 | x::l,y::r,z,h,k=>by
   simp only [pQ] at h
   split at h
   ·rename_i hk
    simp only [Option.map_eq_some_iff] at h
    obtain ⟨w,hw,rfl⟩:=h
    simp only [List.map_cons,aCM hw]
    have:XF.aC ρ (x.1,uM e x.2 y.2) k=if e.b ρ then XF.aC ρ x k else XF.aC ρ y k:=by
     simp only [XF.aC,aCP,← hk]
     cases e.b ρ <;> simp
    rw [this]
    cases e.b ρ <;> simp
   ·cases h
theorem aSr {x y z:Seg} (h:aCK e x y=some z):z.cells ρ ι=if e.b ρ then x.cells ρ ι else y.cells ρ ι:=by
 unfold aCK at h
 split at h
 ·simp only [Option.map_eq_some_iff] at h
  obtain ⟨s,hs,rfl⟩:=h
  simp only [aY,yF (ρ:=ρ) (ι:=ι) hs];split <;> rfl
 ·split at h
  ·rename_i hk
   obtain ⟨rfl,rfl⟩:=hk
   simp only [Option.some.injEq] at h;subst h
   simp only [Seg.cells,aCP,gA];cases e.b ρ <;> simp
  ·cases h
 ·split at h
  ·rename_i hk
   subst hk
   simp only [Option.map_eq_some_iff] at h
   obtain ⟨gs,hg,rfl⟩:=h
   simp only [Seg.cells,gA,aCM hg];cases e.b ρ <;> simp
  ·cases h
 ·cases h
theorem lG:∀ {x y z:List Seg},iA e x y=some z→cellsOf ρ ι z=if e.b ρ then cellsOf ρ ι x else cellsOf ρ ι y
 | [],[],z,h=>by simp only [iA,Option.some.injEq] at h;subst h;simp
 | x::l,[],z,h=>by simp [iA] at h
 | [],y::r,z,h=>by simp [iA] at h
 | x::l,y::r,z,h=>by
   simp only [iA] at h
   split at h
   ·rename_i u s hu hs
    simp only [Option.some.injEq] at h;subst h
    rw [aG,aG,aG,aSr (ρ:=ρ) (ι:=ι) hu,lG hs]
    split <;> rfl
   ·cases h
theorem aSs:∀ {x y z:List (Bool × List Seg)},lX e x y=some z→SV.aC ρ ι (.tup z)=if e.b ρ then SV.aC ρ ι (.tup x) else SV.aC ρ ι (.tup y):=by
 have key:∀ {x y z:List (Bool × List Seg)},lX e x y=some z→(z.map fun p=>if p.1 then Value.agg (cellsOf ρ ι p.2).toArray else ((cellsOf ρ ι p.2)[0]?).getD Go.undef) =
  if e.b ρ then (x.map fun p=>if p.1 then Value.agg (cellsOf ρ ι p.2).toArray else ((cellsOf ρ ι p.2)[0]?).getD Go.undef) else (y.map fun p=>if p.1 then Value.agg (cellsOf ρ ι p.2).toArray else ((cellsOf ρ ι p.2)[0]?).getD Go.undef):=by
  intro x
  induction x with
  | nil=>intro y z h;cases y <;> simp [lX] at h;subst h;simp
  | cons a l ih =>
    intro y z h
    cases y with
    | nil=>simp [lX] at h
    | cons b r =>
      simp only [lX] at h
      split at h
      ·rename_i hab
       split at h
       ·rename_i u s hu hs
        simp only [Option.some.injEq] at h;subst h
        simp only [List.map_cons,ih hs,lG (ρ:=ρ) (ι:=ι) hu,hab]
        cases e.b ρ <;> simp
       ·cases h
      ·cases h
 intro x y z h
 simp only [SV.aC,key h]
 split <;> rfl
theorem yG {x y z:SV} (h:aCL e x y=some z):z.aC ρ ι=if e.b ρ then x.aC ρ ι else y.aC ρ ι:=by
 unfold aCL at h
 split at h
 ·simp only [Option.map_eq_some_iff] at h
  obtain ⟨s,hs,rfl⟩:=h
  exact aSs hs
 ·simp only [Option.map_eq_some_iff] at h
  obtain ⟨s,hs,rfl⟩:=h
  exact yF hs
 ·simp only [Option.map_eq_some_iff] at h
  obtain ⟨s,hs,rfl⟩:=h
  simp only [SV.aC,lG (ρ:=ρ) (ι:=ι) hs];split <;> rfl
 ·split at h
  ·rename_i hxy;subst hxy
   simp only [Option.some.injEq] at h;subst h;simp
  ·cases h
theorem zO:∀ {x y z:Mem},gU e x y=some z→x.length=z.length∧y.length=z.length∧∀ (i:Nat) (C:Blk),z[i]? = some C→∃ A B:Blk,x[i]? = some A∧y[i]? = some B∧wE e A B=some C
 | [],[],z,h=>by simp only [gU,Option.some.injEq] at h;subst h;simp
 | x::l,[],z,h=>by simp [gU] at h
 | [],y::r,z,h=>by simp [gU] at h
 | x::l,y::r,z,h=>by
   simp only [gU] at h
   split at h
   ·rename_i u s hu hs
    simp only [Option.some.injEq] at h;subst h
    obtain ⟨N,O,U⟩:=zO hs
    refine ⟨by simp [N],by simp [O],fun i C hC=>?_⟩
    cases i with
    | zero =>
      simp only [List.getElem?_cons_zero,Option.some.injEq] at hC;subst hC
      exact ⟨x,y,rfl,rfl,hu⟩
    | succ i=>simpa using U i C (by simpa using hC)
   ·cases h
theorem fU {A B C:Blk} (h:wE e A B=some C) (hd:C.dead=false):A.dead=false∧B.dead=false∧A.ty=C.ty∧B.ty=C.ty∧A.wr=C.wr∧B.wr=C.wr∧A.grow=C.grow∧B.grow=C.grow∧cellsOf ρ ι C.aH=if e.b ρ then cellsOf ρ ι A.aH else cellsOf ρ ι B.aH:=by
 unfold wE at h
 split at h
 ·rename_i hk
  split at h
  ·simp only [Option.some.injEq] at h;subst h;cases hd
  ·rename_i hdd
   simp only [Bool.or_eq_true,not_or,Bool.not_eq_true] at hdd
   simp only [Option.map_eq_some_iff] at h
   obtain ⟨z,hz,rfl⟩:=h
   exact ⟨hdd.1,hdd.2,rfl,hk.1.symm,rfl,hk.2.1.symm,rfl,hk.2.2.symm,lG hz⟩
 ·cases h
theorem fV {β:dN} {w:World} {x y z:Mem} (h:gU e x y=some z) (hm:if e.b ρ then aK ρ β ι x w else aK ρ β ι y w):aK ρ β ι z w:=by
 obtain ⟨N,O,U⟩:=zO h
 cases he:e.b ρ
 ·rw [he] at hm
  simp only [Bool.false_eq_true,if_false] at hm
  refine ⟨fun i j C D hC hD hCd hDd hCn hDn hq=>?_,fun i C hC hCd hCn=>?_,fun i C hC hCd hCn=>?_,hm.agr,by rw [← O];exact hm.len,by rw [← O];exact hm.new,hm.size,by rw [← O];exact hm.old,hm.os,hm.tape,hm.output,hm.xt,by rw [← O];exact hm.xd⟩
  ·obtain ⟨A,B,ha,hb,hs⟩:=U i C hC
   obtain ⟨A',B',ha',hb',hs'⟩:=U j D hD
   exact hm.inj i j B B' hb hb' (fU (ρ:=ρ) (ι:=ι) hs hCd).2.1 (fU (ρ:=ρ) (ι:=ι) hs' hDd).2.1 hCn hDn hq
  ·obtain ⟨A,B,ha,hb,hs⟩:=U i C hC
   obtain ⟨d1,d2,t1,t2,w1,w2,g1,g2,hc⟩:=fU (ρ:=ρ) (ι:=ι) hs hCd
   rw [he] at hc;simp only [Bool.false_eq_true,if_false] at hc
   rw [hc,← t2,← w2,← g2];exact hm.blk i B hb d2 hCn
  ·obtain ⟨A,B,ha,hb,hs⟩:=U i C hC
   obtain ⟨d1,d2,t1,t2,w1,w2,g1,g2,hc⟩:=fU (ρ:=ρ) (ι:=ι) hs hCd
   rw [he] at hc;simp only [Bool.false_eq_true,if_false] at hc
   rw [hc,← g2];exact hm.nils i B hb d2 hCn
 ·rw [he] at hm
  simp only [if_true] at hm
  refine ⟨fun i j C D hC hD hCd hDd hCn hDn hq=>?_,fun i C hC hCd hCn=>?_,fun i C hC hCd hCn=>?_,hm.agr,by rw [← N];exact hm.len,by rw [← N];exact hm.new,hm.size,by rw [← N];exact hm.old,hm.os,hm.tape,hm.output,hm.xt,by rw [← N];exact hm.xd⟩
  ·obtain ⟨A,B,ha,hb,hs⟩:=U i C hC
   obtain ⟨A',B',ha',hb',hs'⟩:=U j D hD
   exact hm.inj i j A A' ha ha' (fU (ρ:=ρ) (ι:=ι) hs hCd).1 (fU (ρ:=ρ) (ι:=ι) hs' hDd).1 hCn hDn hq
  ·obtain ⟨A,B,ha,hb,hs⟩:=U i C hC
   obtain ⟨d1,d2,t1,t2,w1,w2,g1,g2,hc⟩:=fU (ρ:=ρ) (ι:=ι) hs hCd
   rw [he] at hc;simp only [if_true] at hc
   rw [hc,← t1,← w1,← g1];exact hm.blk i A ha d1 hCn
  ·obtain ⟨A,B,ha,hb,hs⟩:=U i C hC
   obtain ⟨d1,d2,t1,t2,w1,w2,g1,g2,hc⟩:=fU (ρ:=ρ) (ι:=ι) hs hCd
   rw [he] at hc;simp only [if_true] at hc
   rw [hc,← g1];exact hm.nils i A ha d1 hCn
theorem rD (d fr:Fr) (t:Nat):look (d++fr) t=if t ∈ d.map (·.t) then look d t else look fr t:=by
 induction d with
 | nil=>simp
 | cons f d ih =>
   simp only [List.cons_append,gF,dU,List.map_cons,List.mem_cons]
   by_cases hf:f.t=t
   ·simp [hf]
   ·rw [if_neg hf,if_neg hf,ih]
    have:(t=f.t∨t ∈ d.map (·.t))↔t ∈ d.map (·.t):=⟨fun h=>h.resolve_left (fun h=>hf h.symm),.inr⟩
    simp only [this]
theorem bDN (g:Nat→FE) (hg:∀ t,(g t).t=t) (l:List Nat) (t:Nat) (h:t ∈ l):look (l.map g) t=if (g t).x=.junk then none else some ((g t).g,(g t).x):=by
 induction l with
 | nil=>cases h
 | cons u l ih =>
   simp only [List.map_cons,gF,dU,hg]
   by_cases hu:u=t
   ·subst hu;simp
   ·rw [if_neg hu]
    exact ih (by cases h with | head=>exact absurd rfl hu | tail _ h=>exact h)
theorem aGi (f1 f2:Fr) (t:Nat):(sV e f1 f2 t).t=t:=by
 unfold sV;repeat' split
 all_goals rfl
theorem pP {n:Nat} {a:Act} {fr d1 d2:Fr} (h:if e.b ρ then aR ρ ι n (d1++fr) a else aR ρ ι n (d2++fr) a):aR ρ ι n (pO e fr (d1++fr) (d2++fr)) a:=by
 have hk:pO e fr (d1++fr) (d2++fr)=(d1.map (·.t)++d2.map (·.t)).map (sV e (d1++fr) (d2++fr))++fr:=by
  simp [pO]
 have hkeys:((d1.map (·.t)++d2.map (·.t)).map (sV e (d1++fr) (d2++fr))).map (·.t)=d1.map (·.t)++d2.map (·.t):=by
  rw [List.map_map]
  exact List.map_id'' (fun t=>aGi _ _ t) _
 have key:∀ t g z,look (pO e fr (d1++fr) (d2++fr)) t=some (g,z) →
  ∃ x,look (if e.b ρ then d1++fr else d2++fr) t=some (g,x)∧z.aC ρ ι=x.aC ρ ι:=by
  intro t g z hl
  rw [hk,rD,hkeys] at hl
  split at hl
  ·rename_i ht
   rw [bDN _ (fun t=>aGi _ _ t) _ _ ht] at hl
   split at hl
   ·cases hl
   ·rename_i hj
    simp only [Option.some.injEq,Prod.mk.injEq] at hl
    unfold sV at hl hj
    split at hl
    ·rename_i g1 x g2 y N O
     rw [N,O] at hj
     simp only at hj
     split at hl
     ·rename_i hg;subst hg
      split at hl
      ·rename_i z' hz
       obtain ⟨rfl,rfl⟩:=hl
       have:=yG (ρ:=ρ) (ι:=ι) hz
       cases he:e.b ρ
       ·exact ⟨y,by simpa using O,by rw [this,he];simp⟩
       ·exact ⟨x,by simpa using N,by rw [this,he];simp⟩
      ·simp_all
     ·simp_all
    ·simp_all
  ·rename_i ht
   simp only [List.mem_append,not_or] at ht
   refine ⟨z,?_,rfl⟩
   cases he:e.b ρ
   ·simp only [Bool.false_eq_true,if_false];rw [rD,if_neg ht.2];exact hl
   ·simp only [if_true];rw [rD,if_neg ht.1];exact hl
 have h':aR ρ ι n (if e.b ρ then d1++fr else d2++fr) a:=by
  cases he:e.b ρ <;> simp only [he] at h <;> simpa using h
 refine ⟨h'.size,h'.defers,fun t g z hl hg=>?_,fun t g z hl hg=>?_⟩
 ·obtain ⟨x,hx,hz⟩:=key t g z hl
  rw [hz];exact h'.yes _ _ _ hx hg
 ·obtain ⟨x,hx,hz⟩:=key t g z hl
  exact h'.no _ _ _ hx hg
end
def bDK (k:CallKind) (P:Program) (fr:Frame) (w:World):Ending→Prop
 | .returned v=>fr.mode=.returning∧fr.defers=[]∧fr.kind=k∧∃ fn,P.funcs[fr.fn]? = some fn∧(results fn fr.tmps).run P w=.ok v w
 | .panicked chain=>fr.mode=.panicking chain∧fr.defers=[]∧fr.kind=k∧∃ fn,P.funcs[fr.fn]? = some fn
 | .outgrown=>True
theorem aHI {P:Program} {fr:Frame} {w:World} {e:Ending} (h:bDK .normal P fr w e):fr.leaving P w e:=by
 cases e with
 | returned v=>exact h
 | panicked c=>exact ⟨h.1,h.2.1,h.2.2.2⟩
 | outgrown=>trivial
theorem rB {P:Program} {fr:Frame} {w:World} {e:Ending} (h:bDK .deferred P fr w e):fr.going P w e:=by
 cases e with
 | returned v=>exact ⟨h.1,h.2.1,h.2.2.2⟩
 | panicked c=>exact ⟨h.1,h.2.1,h.2.2.2⟩
 | outgrown=>trivial
def nO (P:Program) (f:FuncId) (R:Ending→World→Prop) (todo:List Item) (a:Act) (w:World):Prop :=
 ∀ (b:Frame) (cs:List Frame),b.fn=f→(b.kind=.normal∨b.kind=.deferred)→∃ e w' fr,R e w'∧Comes P (lone (b.at a todo) cs w) (lone fr cs w') e∧fr.fn=f∧bDK b.kind P fr w' e
inductive Tree where
 | ret (v:SV) (m:Mem)
 | stop (todo:List Item) (H:Hyp) (fr:Fr) (m:Mem)
 | again (H:Hyp) (fr:Fr) (m:Mem)
 | need (c:E) (t:Tree)
 | ite (c:E) (t e:Tree)
 | fail (why:String)
def Tree.holds (P:Program) (f:FuncId) (R:Ending→World→Prop) (ρ:Env) (β:dN) (n:Nat) (bs:List Item):Tree→Prop
 | .ret v m=>∀ ι w,aK ρ β ι m w→R (fA ρ ι v) w
 | .stop todo H fr m=>H.ok ρ→∀ ι a w,aR ρ ι n fr a→aK ρ β ι m w→nO P f R todo a w
 | .again H fr m=>H.ok ρ→∀ ι a w,aR ρ ι n fr a→aK ρ β ι m w→nO P f R bs a w
 | .need c t=>c.b ρ=true∧(c.b ρ=true→t.holds P f R ρ β n bs)
 | .ite c t e=>(c.b ρ=true→t.holds P f R ρ β n bs)∧(c.b ρ=false→e.holds P f R ρ β n bs)
 | .fail _=>False
def iG (l:List E) (t:Tree):Tree:=l.foldr .need t
def vJ:SV→Option (Bool × List Seg)
 | .s x=>if x.plain then some (false,[.one x]) else none
 | .agg l=>some (true,l)
 | _=>none
def pW (P:Program) (H:Hyp) (fr:Fr) (m:Mem):ResultVar→Option SV
 | .tmp t=>dB [] fr (.tmp t)
 | .cell t ty=>match dB [] fr (.tmp t) with
   | some (.s (.ptr b off))=>match aZi P H m ty (.s (.ptr b off)) with
     | some (nd,v)=>if lZ nd=[] then some v else none
     | none=>none
   | _=>none
def aAF (P:Program) (H:Hyp) (fr:Fr) (m:Mem):List ResultVar→Option SV
 | []=>some (.tup [])
 | [r]=>pW P H fr m r
 | [r,s]=>match (pW P H fr m r).bind vJ,(pW P H fr m s).bind vJ with
   | some x,some y=>some (.tup [x,y])
   | _,_=>none
 | [r,s,t]=>match (pW P H fr m r).bind vJ,(pW P H fr m s).bind vJ,(pW P H fr m t).bind vJ with
   | some x,some y,some z=>some (.tup [x,y,z])
   | _,_,_=>none
 | _=>none
def rP (P:Program) (H:Hyp) (fr:Fr) (m:Mem) (l:List ResultVar):Option SV:=match aAF P H fr m l with
 | some v=>if dL v then none else some v
 | none=>none
theorem kL {P:Program} {H:Hyp} {fr:Fr} {m:Mem} {l:List ResultVar} {v:SV} (h:rP P H fr m l=some v):aAF P H fr m l=some v∧dL v=false:=by
 unfold rP at h
 split at h
 ·rename_i v' hv
  split at h
  ·cases h
  ·rename_i hp
   simp only [Option.some.injEq] at h;subst h
   exact ⟨hv,by simpa using hp⟩
 ·cases h
def aDc (P:Program) (Γ:Ctx) (n:Nat) (ops:Array Oper):List Oper→Hyp→Fr→Mem→Option (List E × SV × Mem)
 | [],_,_,_=>none
 | o::l,H,fr,m=>match eU P Γ false n ops o H fr m with
   | some (nd,H',fr',m')=>(aDc P Γ n ops l H' fr' m').map fun r=>(nd++r.1,r.2)
   | none=>match kQ H ops fr o with
     | .now _=>match o.op with
       | .panic x=>match dB [] fr x with
         | some (.s (.ifc t k e))=>some ([],aDd (.ifc t k e),m)
         | _=>none
       | _=>match uA P [] fr o.op with
         | some (f,l')=>match Γ f H l' m with
           | some (nd,v,om)=>if dL v then some (lZ nd,v,om.getD m) else none
           | none=>none
         | none=>none
     | _=>none
def aHR (P:Program) (Γ:Ctx) (n:Nat) (ops:Array Oper) (draw:Bool) (H:Hyp) (fr:Fr) (m:Mem):Option (List E × SV × Mem) :=
 if draw then none else aDc P Γ n ops ops.toList H fr m
def pZ (P:Program) (Γ:Ctx) (n:Nat):(fuel loops:Nat)→List Item→Hyp→Fr→Mem→Option (List E × Hyp × Fr × Mem)
 | 0,_,_,_,_,_=>none
 | k+1,u,todo,H,fr,m =>
   match todo with
   | []=>some ([],H,fr,m)
   | .code .skip::r | .code (.label _)::r | .inBlock _::r | .inScope _::r=>pZ P Γ n k u r H fr m
   | .code (.seq x y)::r=>pZ P Γ n k u (.code x::.code y::r) H fr m
   | .code (.block id c)::r=>pZ P Γ n k u (.code c::.inBlock id::r) H fr m
   | .code (.scope c)::r=>pZ P Γ n k u (.code c::.inScope c::r) H fr m
   | .code (.exit id)::r=>match exitTo id r with
     | some r'=>pZ P Γ n k u r' H fr m
     | none=>none
   | .code (.cond c x y)::r=>match dB [] fr c with
     | some (.s (.bool W))=>match fQ H W with
       | .blit t=>pZ P Γ n k u (.code (if t then x else y)::r) H fr m
       | e=>match pZ P Γ n k u [.code x] (jJ true e H) fr m,pZ P Γ n k u [.code y] (jJ false e H) fr m with
         | some (a3,_,f1,m1),some (Z,_,f2,m2)=>match gU e m1 m2 with
           | some m'=>match pZ P Γ n k u r H (pO e fr f1 f2) m' with
             | some (nd,q)=>some (lZ (a3.map (imp [e]))++(lZ (Z.map (imp [mkNot e]))++nd),q)
             | none=>none
           | none=>none
         | _,_=>none
     | _=>none
   | .code (.region id ops draw)::r =>
     match mH P Γ n ops draw H fr m with
     | some (nd,H',fr',m')=>match pZ P Γ n k u r H' fr' m' with
       | some (nd',q)=>some (nd++nd',q)
       | none=>none
     | none=>none
   | .code (.loop c)::r | .inLoop c::r=>match u with
     | 0=>none
     | u+1=>pZ P Γ n k u (.code c::.inLoop c::r) H fr m
   | _=>none
def aYR (P:Program) (Γ:Ctx) (n k u:Nat) (e:E) (x y:Code) (H:Hyp) (fr:Fr) (m:Mem):Option (List E × Fr × Mem) :=
 match pZ P Γ n k u [.code x] (jJ true e H) fr m,pZ P Γ n k u [.code y] (jJ false e H) fr m with
 | some (a3,_,f1,m1),some (Z,_,f2,m2)=>match gU e m1 m2 with
   | some m'=>some (lZ (a3.map (imp [e]))++lZ (Z.map (imp [mkNot e])),pO e fr f1 f2,m')
   | none=>none
 | _,_=>none
def aZe (H:Hyp):S→S
 | .int k e=>.int k (kX H e)
 | .ptr b off=>.ptr b (kX H off)
 | x=>x
def sZ (H:Hyp):Seg→Seg
 | .one x=>.one (aZe H x)
 | s=>s
def aGq (H:Hyp):SV→SV
 | .s x=>.s (aZe H x)
 | .agg l=>.agg (l.map (sZ H))
 | v=>v
def aDf (H:Hyp) (fr:Fr):Fr:=fr.map fun f=>{ f with x:=aGq H f.x }
theorem uR {ρ:Env} {ι:Loc} {H:Hyp} (hH:H.ok ρ) (x:S):(aZe H x).aC ρ ι=x.aC ρ ι:=by
 cases x <;> simp [aZe,S.aC,lH hH,jP hH,addr]
theorem aUw {ρ:Env} {ι:Loc} {H:Hyp} (hH:H.ok ρ) (v:SV):(aGq H v).aC ρ ι=v.aC ρ ι:=by
 cases v with
 | s x=>exact uR hH x
 | agg l =>
   have:cellsOf ρ ι (l.map (sZ H))=cellsOf ρ ι l:=by
    unfold cellsOf
    rw [List.flatMap_map]
    congr 1;funext s
    cases s with
    | one x=>simp only [sZ,Seg.cells,uR hH]
    | _=>rfl
   simp only [aGq,SV.aC,this]
 | _=>rfl
theorem yE {H:Hyp}:∀ {fr:Fr} {t:Nat} {g:List E} {x:SV},look (aDf H fr) t=some (g,x)→∃ y,look fr t=some (g,y)∧x=aGq H y
 | [],t,g,x,h=>by cases h
 | f::l,t,g,x,h=>by
   simp only [aDf,List.map_cons,gF,dU] at h ⊢
   by_cases ht:f.t=t
   ·simp only [if_pos ht] at h ⊢
    have hj:∀ v:SV,aGq H v=.junk↔v=.junk:=fun v=>by cases v <;> simp [aGq]
    by_cases hx:f.x=.junk
    ·rw [if_pos ((hj _).2 hx)] at h;cases h
    ·rw [if_neg (fun e=>hx ((hj _).1 e))] at h
     simp only [Option.some.injEq,Prod.mk.injEq] at h
     exact ⟨f.x,by rw [if_neg hx,h.1],h.2.symm⟩
   ·simp only [if_neg ht] at h ⊢
    exact yE h
theorem aR.pick {ρ:Env} {ι:Loc} {n:Nat} {fr:Fr} {a:Act} {H:Hyp} (hH:H.ok ρ) (h:aR ρ ι n fr a):aR ρ ι n (aDf H fr) a :=
 ⟨h.size,h.defers,fun t g x hl hg=>by
   obtain ⟨y,hy,rfl⟩:=yE hl
   rw [aUw hH];exact h.yes t g y hy hg,fun t g x hl hg=>by
   obtain ⟨y,hy,rfl⟩:=yE hl
   exact h.no t g y hy hg⟩
def aAw:E→Option E
 | .ite c _ _=>some c
 | .add a b | .mul a b | .sub a b=>match aAw a with
   | some c=>some c
   | none=>aAw b
 | _=>none
def iteOf:SV→Option E
 | .s (.ptr _ off)=>aAw off
 | .s (.int _ e)=>aAw e
 | _=>none
abbrev aV:=FuncId→Hyp→List SV→Mem→Option E
def aAx (P:Program) (Γ:Ctx) (hc:aV) (quiet:Bool) (n:Nat) (ops:Array Oper):List Oper→Hyp→Fr→Mem→Option E
 | [],_,_,_=>none
 | o::l,H,fr,m=>match eU P Γ quiet n ops o H fr m with
   | some (_,H',fr',m')=>aAx P Γ hc quiet n ops l H' fr' m'
   | none=>match kQ H ops fr o with
     | .go G=>G.find? (fun g=>match fQ H g with | .blit _=>false | _=>true)
     | .now _=>match uA P [] fr o.op with
       | some (f,l)=>hc f H l m
       | none=>match o.op with
         | .load _ x=>(dB [] fr x).bind iteOf
         | _=>none
     | _=>none
def aTk:Tree→Option E
 | .need _ t=>aTk t
 | .ite c _ _=>some c
 | _=>none
def key:Code→Nat
 | .region id _ _=>id+1
 | .seq a b | .cond _ a b=>if key a=0 then key b else key a
 | .block _ b | .loop b | .scope b=>key b
 | _=>0
def bCy (cut:List Nat) (x:Code):Bool:=match cut with
 | []=>false
 | l=>match x with
   | .region id _ _=>l.contains (id+1)
   | _=>false
def run (P:Program) (Γ:Ctx) (hc:aV) (fn:Func) (n:Nat) (cut:List Nat):(fuel loops:Nat)→Option (List Item)→List Item→Hyp→Fr→Mem→Tree
 | 0,_,_,_,_,_,_=>.fail "fuel"
 | k+1,u,base,todo,H,fr,m =>
   match todo with
   | []=>match base with
     | some _=>.again H fr m
     | none=>match rP P H fr m fn.results.toList with
       | some v=>.ret v m
       | none=>.fail "results"
   | .code .ret::_=>match rP P H fr m fn.results.toList with
     | some v=>.ret v m
     | none=>.fail "results"
   | .code .skip::r | .code (.label _)::r | .inBlock _::r | .inScope _::r=>run P Γ hc fn n cut k u base r H fr m
   | .code (.seq x y)::r=>if bCy cut x=true then .stop (.code x::.code y::(r++base.getD [])) H fr m else run P Γ hc fn n cut k u base (.code x::.code y::r) H fr m
   | .code (.block id c)::r=>run P Γ hc fn n cut k u base (.code c::.inBlock id::r) H fr m
   | .code (.scope c)::r=>run P Γ hc fn n cut k u base (.code c::.inScope c::r) H fr m
   | .code (.exit id)::r=>match exitTo id r with
     | some r'=>run P Γ hc fn n cut k u base r' H fr m
     | none=>match base with
       | some b=>match exitTo id b with
         | some r'=>run P Γ hc fn n cut k u none r' H fr m
         | none=>.fail "exit"
       | none=>.fail "exit"
   | .code (.cond c x y)::r=>match dB [] fr c with
     | some (.s (.bool W))=>match fQ H W with
       | .blit t=>run P Γ hc fn n cut k u base (.code (if t then x else y)::r) H fr m
       | e=>match aYR P Γ n k u e x y H fr m with
         | some (nd,fr',m')=>iG nd (run P Γ hc fn n cut k u base r H fr' m')
         | none=>.ite e (run P Γ hc fn n cut k u base (.code x::r) (jJ true e H) fr m) (run P Γ hc fn n cut k u base (.code y::r) (jJ false e H) fr m)
     | _=>.fail "cond"
   | .code (.region id ops draw)::r =>
     match mH P Γ n ops draw H fr m with
     | some (nd,H',fr',m')=>iG nd (run P Γ hc fn n cut k u base r H' fr' m')
     | none=>match aHR P Γ n ops draw H fr m with
      | some (nd,v,m')=>iG nd (.ret v m')
      | none=>match aAx P Γ hc draw n ops ops.toList H fr m with
       | some c=>match fQ H c with
         | .blit _=>.fail "region (hint)"
         | _=>.ite c (run P Γ hc fn n cut k u base todo (jJ true c H) (aDf (jJ true c H) fr) m) (run P Γ hc fn n cut k u base todo (jJ false c H) (aDf (jJ false c H) fr) m)
       | none=>.fail "region"
   | .code (.loop c)::r | .inLoop c::r =>
     if cut.contains (key c) then .stop (.code c::.inLoop c::(r++base.getD [])) H fr m else
     match u with
     | 0=>.stop (.code c::.inLoop c::(r++base.getD [])) H fr m
     | u+1=>run P Γ hc fn n cut k u base (.code c::.inLoop c::r) H (tidy fr) m
   | _=>.fail "code"
def lV (P:Program) (Γ:Ctx) (hc:aV) (n:Nat):(fuel loops:Nat)→List Item→Hyp→Fr→Mem→Option E
 | 0,_,_,_,_,_=>none
 | k+1,u,todo,H,fr,m =>
   match todo with
   | .code .skip::r | .code (.label _)::r | .inBlock _::r | .inScope _::r=>lV P Γ hc n k u r H fr m
   | .code (.seq x y)::r=>lV P Γ hc n k u (.code x::.code y::r) H fr m
   | .code (.block id c)::r=>lV P Γ hc n k u (.code c::.inBlock id::r) H fr m
   | .code (.scope c)::r=>lV P Γ hc n k u (.code c::.inScope c::r) H fr m
   | .code (.exit id)::r=>match exitTo id r with
     | some r'=>lV P Γ hc n k u r' H fr m
     | none=>none
   | .code (.cond c x y)::r=>match dB [] fr c with
     | some (.s (.bool W))=>match fQ H W with
       | .blit t=>lV P Γ hc n k u (.code (if t then x else y)::r) H fr m
       | e=>match aYR P Γ n k u e x y H fr m with
         | some (_,fr',m')=>lV P Γ hc n k u r H fr' m'
         | none=>some e
     | _=>none
   | .code (.region _ ops draw)::r =>
     match mH P Γ n ops draw H fr m with
     | some (_,H',fr',m')=>lV P Γ hc n k u r H' fr' m'
     | none=>match aHR P Γ n ops draw H fr m with
      | some _=>none
      | none=>match aAx P Γ hc draw n ops ops.toList H fr m with
       | some c=>match fQ H c with
         | .blit _=>none
         | _=>some c
       | none=>none
   | .code (.loop c)::r | .inLoop c::r =>
     match u with
     | 0=>none
     | u+1=>lV P Γ hc n k u (.code c::.inLoop c::r) H (tidy fr) m
   | _=>none
section
variable {ρ:Env} {ι:Loc} {H:Hyp} {P:Program} {Γ:Ctx} {w:World} {β:dN} {m:Mem} {fr:Fr} {n:Nat} {a:Act}
variable {f:FuncId} {fn:Func} {R:Ending→World→Prop} {k:List Item} {a':Act} {w':World}
theorem aZ {todo todo':List Item} (h:∀ (b:Frame) cs,step P (lone (b.at a todo) cs w)=.next (lone (b.at a' todo') cs w')) (hg:nO P f R todo' a' w'):nO P f R todo a w :=
 fun b cs hb hk=>let ⟨e,w2,fr,hr,hc,hl⟩:=hg b cs hb hk;⟨e,w2,fr,hr,.of_steps (.one (h b cs)) hc,hl⟩
theorem bHc {c:Code} {Q:Exit→Act→World→Prop} (h:c.wp P Q a w) (hq:∀ e a' w',Q e a' w'→e=.normal∧nO P f R k a' w'):nO P f R (.code c::k) a w:=by
 intro b cs hb hk
 obtain ⟨e,a1,w1,q,arr⟩:=h b k cs
 obtain ⟨rfl,hg⟩:=hq _ _ _ q
 obtain ⟨e2,w2,fr,hr,hc,hl⟩:=hg b cs hb hk
 exact ⟨e2,w2,fr,hr,.of_steps arr hc,hl⟩
theorem aCu {todo:List Item} {v:Value} (hd:a.defers=[]) (hf:P.funcs[f]? = some fn) (hr:(results fn a.tmps).run P w=.ok v w) (hR:R (.returned v) w)
 (hs:∀ (b:Frame) cs,step P (lone (b.at a todo) cs w)=.next (lone { b.at a todo with mode:=.returning } cs w)):nO P f R todo a w :=
 fun b cs hb hk=>⟨.returned v,w,{ b.at a todo with mode:=.returning },hR,Steps.one (hs b cs),hb,rfl,hd,rfl,fn,by rw [show ({ b.at a todo with mode:=.returning }:Frame).fn=f from hb];exact hf,hr⟩
theorem aDE {c:Code} {args:Array Value} (hf:P.funcs[f]? = some fn) (hb:fn.body=some c)
 (h:nO P f R [.code c] { tmps:=args++Array.replicate (fn.ntmps-args.size) Go.undef,defers:=[] } w):Calls P f args w R:=by
 intro cs
 obtain ⟨e,w',fr,hR,hc,hf',hl⟩:=h { (default:Frame) with fn:=f,kind:=.normal } cs rfl (.inl rfl)
 have he:Frame.enter P f args .normal=({ (default:Frame) with fn:=f,kind:=.normal }:Frame).at { tmps:=args++Array.replicate (fn.ntmps-args.size) Go.undef,defers:=[] } [.code c]:=by
  simp [Frame.enter,Frame.at,hf,hb]
 rw [he]
 exact ⟨e,w',fr,hR,hc,hf',aHI hl⟩
theorem oS {x:SV} {p:Bool × List Seg} (h:vJ x=some p):(if p.1 then Value.agg (cellsOf ρ ι p.2).toArray else ((cellsOf ρ ι p.2)[0]?).getD Go.undef)=x.aC ρ ι:=by
 unfold vJ at h
 split at h
 ·split at h
  ·simp only [Option.some.injEq] at h;subst h;simp [cellsOf,Seg.cells,SV.aC]
  ·cases h
 ·simp only [Option.some.injEq] at h;subst h;rfl
 ·cases h
def vD (tmps:Array Value):ResultVar→Sem Value
 | .tmp t=>pure (tmps[t]?.getD Go.undef)
 | .cell x t=>do loadVar t (← asAddr (tmps[x]?.getD Go.undef))
theorem bAP (hH:H.ok ρ) (hm:aK ρ β ι m w) (hf:aR ρ ι n fr a) {r:ResultVar} {v:SV} (h:pW P H fr m r=some v) :
 (vD a.tmps r).run P w=.ok (v.aC ρ ι) w:=by
 have hG:eM ρ []:=fun e he=>by cases he
 have ev:∀ (t:Tmp) (u:SV),dB [] fr (.tmp t)=some u→a.tmps[t]?.getD Go.undef=u.aC ρ ι:=fun t u hu=>by
  rw [← aQ hf hG hu,Act.eval,Array.getD_eq_getD_getElem?]
 cases r with
 | tmp t =>
   simp only [vD,Sem.run_pure,ev t v h]
 | cell x t =>
   simp only [pW] at h
   split at h
   ·rename_i b off hu
    split at h
    ·rename_i nd v' hq
     split at h
     ·rename_i hnd
      simp only [Option.some.injEq] at h;subst h
      have hn:bD ρ nd:=fE (by rw [hnd];intro e he;cases he)
      have:=aSI (ι:=ι) hH hm hq hn
      simp only [vD,ev x _ hu]
      simp only [Instr.loadAt] at this
      simp only [SV.aC,S.aC,Instr.sureAddr,asAddr] at this ⊢;exact this
     ·cases h
    ·cases h
   ·cases h
theorem aUM (fn:Func) (tmps:Array Value):results fn tmps=(do
 let vs ← fn.results.mapM (vD tmps)
 pure (if h:vs.size=1 then vs[0] else .tuple vs)):=by
 unfold results
 have:(fun r:ResultVar=>match r with | .tmp t=>(pure (tmps.getD t Go.undef):Sem Value) | .cell a t=>do loadVar t (← asAddr (tmps.getD a Go.undef)))=vD tmps:=by
  funext r
  cases r <;> simp [vD,Array.getD_eq_getD_getElem?]
 rw [← this];rfl
theorem aUL (hH:H.ok ρ) (hm:aK ρ β ι m w) (hf:aR ρ ι n fr a) {v:SV} (h:aAF P H fr m fn.results.toList=some v) :
 (results fn a.tmps).run P w=.ok (v.aC ρ ι) w:=by
 rw [aUM]
 cases hr:fn.results with
 | mk l =>
 rw [hr] at h
 unfold aAF at h
 have one:∀ r v,pW P H fr m r=some v→(vD a.tmps r).run P w=.ok (v.aC ρ ι) w:=fun r v h=>bAP hH hm hf h
 split at h
 ·rename_i hl
  simp only [Option.some.injEq] at h;subst h
  simp only at hl;subst hl
  simp [SV.aC]
 ·rename_i r hl
  simp only at hl;subst hl
  have:=one r v h
  simp [this]
 ·rename_i r s hl
  simp only at hl;subst hl
  split at h
  ·rename_i x y hx hy
   simp only [Option.some.injEq] at h;subst h
   rw [Option.bind_eq_some_iff] at hx hy
   obtain ⟨u,hu,hx⟩:=hx
   obtain ⟨u',hu',hy⟩:=hy
   have e:SV.aC ρ ι (.tup [x,y])=.tuple #[u.aC ρ ι,u'.aC ρ ι]:=by
    show Value.tuple (List.map _ [x,y]).toArray=_
    simp only [List.map_cons,List.map_nil,oS (ρ:=ρ) (ι:=ι) hx,oS (ρ:=ρ) (ι:=ι) hy]
   rw [e]
   simp [one r u hu,one s u' hu']
  ·cases h
 ·rename_i r s t hl
  simp only at hl;subst hl
  split at h
  ·rename_i x y z hx hy hz
   simp only [Option.some.injEq] at h;subst h
   rw [Option.bind_eq_some_iff] at hx hy hz
   obtain ⟨u,hu,hx⟩:=hx
   obtain ⟨u',hu',hy⟩:=hy
   obtain ⟨u2,hu2,hz⟩:=hz
   have e:SV.aC ρ ι (.tup [x,y,z])=.tuple #[u.aC ρ ι,u'.aC ρ ι,u2.aC ρ ι]:=by
    show Value.tuple (List.map _ [x,y,z]).toArray=_
    simp only [List.map_cons,List.map_nil,oS (ρ:=ρ) (ι:=ι) hx,oS (ρ:=ρ) (ι:=ι) hy,oS (ρ:=ρ) (ι:=ι) hz]
   rw [e]
   simp [one r u hu,one s u' hu',one t u2 hu2]
  ·cases h
 ·cases h
theorem oN (hH:H.ok ρ) (hm:aK ρ β ι m w) (hf:aR ρ ι n fr a) {v:SV} (h:rP P H fr m fn.results.toList=some v) :
 (results fn a.tmps).run P w=.ok (v.aC ρ ι) w:=aUL hH hm hf (kL h).1
theorem eW {bs:List Item} {l:List E} {t:Tree} (h:(iG l t).holds P f R ρ β n bs):bD ρ l∧t.holds P f R ρ β n bs:=by
 induction l with
 | nil=>exact ⟨fun e he=>(by cases he),h⟩
 | cons e l ih =>
   obtain ⟨N,O⟩:=h
   have:=ih (O N)
   exact ⟨fun x hx=>by cases hx with | head=>exact N | tail _ hx=>exact this.1 x hx,this.2⟩
theorem yM {quiet:Bool} {ops:Array Oper} {o:Oper} {nd:List E} {H':Hyp} {fr':Fr} {m':Mem} (h:eU P Γ quiet n ops o H fr m=some (nd,H',fr',m')):∃ d,fr'=d++fr:=by
 have hp:∀ {dst:Option Tmp} {g:List E} {v:SV} {fr':Fr},put n fr dst g v=some fr'→∃ d,fr'=d++fr:=by
  intro dst g v fr' h
  unfold put at h
  split at h
  ·simp only [Option.some.injEq] at h;subst h;exact ⟨[],rfl⟩
  ·split at h
   ·simp only [Option.some.injEq] at h;subst h;exact ⟨[_],rfl⟩
   ·cases h
 unfold eU at h
 try simp only [aAD] at h
 split at h
 ·cases h
 ·simp only [Option.map_eq_some_iff,Prod.mk.injEq] at h
  obtain ⟨_,h,_,_,rfl,_⟩:=h;exact hp h
 ·split at h
  ·simp only [Option.map_eq_some_iff,Prod.mk.injEq] at h
   obtain ⟨_,h,_,_,rfl,_⟩:=h;exact hp h
  ·cases h
 ·split at h
  ·simp only [Option.map_eq_some_iff,Prod.mk.injEq] at h
   obtain ⟨_,h,_,_,rfl,_⟩:=h;exact hp h
  ·cases h
theorem aHZ {quiet:Bool} {ops:Array Oper}:∀ (l:List Oper) {H H':Hyp} {nd:List E} {fr fr':Fr} {m m':Mem},oO P Γ quiet n ops l H fr m=some (nd,H',fr',m')→∃ d,fr'=d++fr
 | [],H,H',nd,fr,fr',m,m',h=>by
   simp only [oO,Option.some.injEq,Prod.mk.injEq] at h;exact ⟨[],h.2.2.1.symm⟩
 | o::l,H,H',nd,fr,fr',m,m',h=>by
   simp only [oO] at h
   split at h
   ·rename_i a3 H1 fr1 m1 N
    split at h
    ·rename_i Z r O
     simp only [Option.some.injEq,Prod.mk.injEq] at h
     obtain ⟨rfl,rfl⟩:=h
     obtain ⟨d,rfl⟩:=yM N
     obtain ⟨d',rfl⟩:=aHZ l O
     exact ⟨d'++d,by simp⟩
    ·cases h
   ·cases h
theorem aUx {dst:Option Tmp} {g:List E} {v:SV} {fr':Fr} (h:put n fr dst g v=some fr'):∃ d,fr'=d++fr:=by
 unfold put at h
 split at h
 ·simp only [Option.some.injEq] at h;subst h;exact ⟨[],rfl⟩
 ·split at h
  ·simp only [Option.some.injEq] at h;subst h;exact ⟨[_],rfl⟩
  ·cases h
theorem aSa {ops:Array Oper} {o:Oper} {nd:List E} {H':Hyp} {fr':Fr} (h:early P n ops o H fr m=some (nd,H',fr')):∃ d,fr'=d++fr:=by
 unfold early at h
 try simp only [aZd] at h
 split at h
 ·cases h
 ·simp only [Option.map_eq_some_iff,Prod.mk.injEq] at h
  obtain ⟨_,h,_,_,rfl⟩:=h;exact aUx h
 ·split at h
  ·simp only [Option.map_eq_some_iff,Prod.mk.injEq] at h
   obtain ⟨_,h,_,_,rfl⟩:=h;exact aUx h
  ·cases h
 ·split at h
  ·simp only [Option.map_eq_some_iff,Prod.mk.injEq] at h
   obtain ⟨_,h,_,_,rfl⟩:=h;exact aUx h
  ·cases h
theorem aGc {K:Nat} {step:Nat→Option (List E × Hyp × Fr × Mem)}:∀ {l:List Nat} {nd:List E} {fr:Fr} {m:Mem},lW K step l=some (nd,fr,m)→∃ i nd' H',step i=some (nd',H',fr,m)
 | [],nd,fr,m,h=>by simp [lW] at h
 | [i],nd,fr,m,h=>by
   unfold lW at h
   split at h
   ·rename_i nd' H' fr' m' hs
    simp only [Option.some.injEq,Prod.mk.injEq] at h
    obtain ⟨rfl,rfl,rfl⟩:=h
    exact ⟨_,_,_,hs⟩
   ·cases h
 | i::k::l,nd,fr,m,h=>by
   unfold lW at h
   split at h
   ·split at h
    ·rename_i Z a5 m2 hj
     split at h
     ·simp only [Option.some.injEq,Prod.mk.injEq] at h
      obtain ⟨rfl,rfl,rfl⟩:=h
      exact aGc hj
     ·cases h
    ·cases h
   ·cases h
theorem bGS {ops:Array Oper} {nx:Option (List Nat)→Array Bool→Hyp→Fr→Mem→List Nat}:∀ (k:Nat) {D L:List Nat} {listed:Array Bool} {H H':Hyp} {nd:List E} {fr fr':Fr} {m m':Mem},pE P Γ n ops nx D k L listed H fr m=some (nd,H',fr',m')→∃ d,fr'=d++fr:=by
 intro k
 induction k with
 | zero =>
   intro D L listed H H' nd fr fr' m m' h
   unfold pE at h
   split at h
   ·simp only [Option.some.injEq,Prod.mk.injEq] at h;exact ⟨[],h.2.2.1.symm⟩
   ·cases h
 | succ k ih =>
   intro D L listed H H' nd fr fr' m m' h
   unfold pE at h
   simp only at h
   split at h
   ·simp only [Option.some.injEq,Prod.mk.injEq] at h;exact ⟨[],h.2.2.1.symm⟩
   ·split at h
    ·rename_i i a3 H1 f1 he
     split at h
     ·rename_i Z q hd
      obtain ⟨H2,f2,m2⟩:=q
      simp only [Option.some.injEq,Prod.mk.injEq] at h
      obtain ⟨_,rfl,rfl,rfl⟩:=h
      obtain ⟨_,_,o,_,_,hea⟩:=gT he
      obtain ⟨d,rfl⟩:∃ d,f1=d++fr:=hea.elim aSa (fun h=>aSa h.1)
      obtain ⟨d',rfl⟩:=ih hd
      exact ⟨d'++d,by simp⟩
     ·cases h
    ·split at h
     ·split at h
      ·split at h
       ·split at h
        ·rename_i N
         split at h
         ·split at h
          ·rename_i Z q hd
           obtain ⟨H2,f2,m2⟩:=q
           simp only [Option.some.injEq,Prod.mk.injEq] at h
           obtain ⟨_,rfl,rfl,rfl⟩:=h
           obtain ⟨d,rfl⟩:=yM N
           obtain ⟨d',rfl⟩:=ih hd
           exact ⟨d'++d,by simp⟩
          ·cases h
         ·cases h
        ·cases h
       ·cases h
      ·cases h
     ·split at h
      ·rename_i a3 fr1 m1 hj
       simp only [Option.some.injEq,Prod.mk.injEq] at h
       obtain ⟨_,rfl,rfl,rfl⟩:=h
       obtain ⟨i,Z,H2,hs⟩:=aGc hj
       unfold aIw at hs
       split at hs
       ·split at hs
        ·rename_i N
         split at hs
         ·split at hs
          ·rename_i nd3 q hd
           obtain ⟨H3,f3,m3⟩:=q
           simp only [Option.some.injEq,Prod.mk.injEq] at hs
           obtain ⟨_,rfl,rfl,rfl⟩:=hs
           obtain ⟨d,rfl⟩:=yM N
           obtain ⟨d',rfl⟩:=ih hd
           exact ⟨d'++d,by simp⟩
          ·cases hs
         ·cases hs
        ·cases hs
       ·cases hs
      ·cases h
     ·cases h
theorem bAN {ops:Array Oper} {draw:Bool} {H':Hyp} {nd:List E} {fr':Fr} {m':Mem} (h:mH P Γ n ops draw H fr m=some (nd,H',fr',m')):∃ d,fr'=d++fr:=by
 cases draw with
 | false=>exact aHZ _ h
 | true =>
   rcases pV h with ⟨_,hq⟩ | ⟨_,_,_,_,hq⟩
   ·exact aHZ _ hq
   ·exact bGS _ hq
theorem aUg (e:E) (fr f1 f2:Fr):∃ d,pO e fr f1 f2=d++fr:=⟨_,rfl⟩
theorem aAK:∀ (k u:Nat) {todo:List Item} {H H':Hyp} {nd:List E} {fr fr':Fr} {m m':Mem},pZ P Γ n k u todo H fr m=some (nd,H',fr',m')→∃ d,fr'=d++fr:=by
 intro k
 induction k with
 | zero=>intro u todo H H' nd fr fr' m m' h;simp [pZ] at h
 | succ k ih =>
   intro u todo H H' nd fr fr' m m' h
   unfold pZ at h
   split at h
   ·simp only [Option.some.injEq,Prod.mk.injEq] at h;exact ⟨[],h.2.2.1.symm⟩
   ·exact ih _ h
   ·exact ih _ h
   ·exact ih _ h
   ·exact ih _ h
   ·exact ih _ h
   ·exact ih _ h
   ·exact ih _ h
   ·split at h
    ·exact ih _ h
    ·cases h
   ·split at h
    ·split at h
     ·exact ih _ h
     ·split at h
      ·split at h
       ·split at h
        ·rename_i nd' q hq
         obtain ⟨H2,f2,m2⟩:=q
         simp only [Option.some.injEq,Prod.mk.injEq] at h
         obtain ⟨_,rfl,rfl,rfl⟩:=h
         obtain ⟨d,hd⟩:=ih _ hq
         obtain ⟨d2,hd2⟩:=aUg (fQ H _) fr _ _
         exact ⟨d++d2,by rw [hd,hd2,List.append_assoc]⟩
        ·cases h
       ·cases h
      ·cases h
    ·cases h
   ·split at h
    ·rename_i N
     split at h
     ·rename_i nd' q hq
      obtain ⟨H2,f2,m2⟩:=q
      simp only [Option.some.injEq,Prod.mk.injEq] at h
      obtain ⟨_,rfl,rfl,rfl⟩:=h
      obtain ⟨d,rfl⟩:=bAN N
      obtain ⟨d',rfl⟩:=ih _ hq
      exact ⟨d'++d,by simp⟩
     ·cases h
    ·cases h
   ·split at h
    ·cases h
    ·exact ih _ h
   ·split at h
    ·cases h
    ·exact ih _ h
   ·cases h
theorem zV {b:Frame} {cs:List Frame} {c:Code}:step P (lone (b.at a (.code (.scope c)::k)) cs w)=.next (lone (b.at a (.code c::.inScope c::k)) cs w) :=
 step_lone_go (by simp [stepG,stepG.exec,Frame.at])
theorem tY {b:Frame} {cs:List Frame} {c:Code}:step P (lone (b.at a (.inScope c::k)) cs w)=.next (lone (b.at a k) cs w) :=
 step_lone_go (by simp [stepG,stepG.exec,Frame.at])
theorem tT {id:Nat}:∀ {k k':List Item} (r:List Item),exitTo id k=some k'→exitTo id (k++r)=some (k'++r):=by
 intro k
 induction k with
 | nil=>intro k' r h;simp [exitTo] at h
 | cons x k ih =>
   intro k' r h
   cases x <;> simp only [exitTo,List.cons_append] at h ⊢
   case inBlock i =>
    by_cases hc:(i == id)=true
    ·rw [if_pos hc] at h ⊢;simp only [Option.some.injEq] at h;rw [h]
    ·rw [if_neg hc] at h ⊢;exact ih r h
   all_goals exact ih r h
theorem zK {I:Interp} (hΓ:cA P I Γ) (hI:ρ.I=I) (hP:P.follows .mixedOrders=true) {id:Nat} {ops:Array Oper} {draw:Bool} {r:List Item}
 {nd:List E} {H':Hyp} {fr':Fr} {m':Mem} (hr:mH P Γ n ops draw H fr m=some (nd,H',fr',m')) (hn:bD ρ nd) (hH:H.ok ρ) (hf:aR ρ ι n fr a) (hm:aK ρ β ι m w)
 (hk:∀ ι' a' w',H'.ok ρ→aR ρ ι' n fr' a'→aK ρ β ι' m' w'→nO P f R r a' w'):nO P f R (.code (.region id ops draw)::r) a w :=
 bHc (bAi hΓ hI hP hr hn hH hf hm hk) (fun _ _ _ hq=>hq)
theorem aZq {I:Interp} (hΓ:cA P I Γ) (hI:ρ.I=I) (hP:P.follows .mixedOrders=true):∀ (k u:Nat) (todo:List Item) (H H':Hyp) (nd:List E) (fr fr':Fr) (m m':Mem) (ι:Loc) (a:Act) (w:World) (r:List Item),
 pZ P Γ n k u todo H fr m=some (nd,H',fr',m')→bD ρ nd→H.ok ρ→aR ρ ι n fr a→aK ρ β ι m w →
 (∀ ι' a' w',H'.ok ρ→aR ρ ι' n fr' a'→aK ρ β ι' m' w'→nO P f R r a' w')→nO P f R (todo++r) a w:=by
 intro k
 induction k with
 | zero=>intro u todo H H' nd fr fr' m m' ι a w r h;simp [pZ] at h
 | succ k ih =>
   intro u todo H H' nd fr fr' m m' ι a w r h hn hH hf hm hk
   have hG:eM ρ []:=fun e he=>by cases he
   unfold pZ at h
   split at h
   ·simp only [Option.some.injEq,Prod.mk.injEq] at h
    obtain ⟨rfl,rfl,rfl,rfl⟩:=h
    exact hk ι a w hH hf hm
   ·exact aZ (fun b cs=>step_skip) (ih _ _ _ _ _ _ _ _ _ _ _ _ r h hn hH hf hm hk)
   ·exact aZ (fun b cs=>step_label) (ih _ _ _ _ _ _ _ _ _ _ _ _ r h hn hH hf hm hk)
   ·exact aZ (fun b cs=>step_inBlock) (ih _ _ _ _ _ _ _ _ _ _ _ _ r h hn hH hf hm hk)
   ·exact aZ (fun b cs=>tY) (ih _ _ _ _ _ _ _ _ _ _ _ _ r h hn hH hf hm hk)
   ·exact aZ (fun b cs=>step_seq) (ih _ _ _ _ _ _ _ _ _ _ _ _ r h hn hH hf hm hk)
   ·exact aZ (fun b cs=>step_block) (ih _ _ _ _ _ _ _ _ _ _ _ _ r h hn hH hf hm hk)
   ·exact aZ (fun b cs=>zV) (ih _ _ _ _ _ _ _ _ _ _ _ _ r h hn hH hf hm hk)
   ·split at h
    ·rename_i hr
     exact aZ (fun b cs=>step_exit (tT r hr)) (ih _ _ _ _ _ _ _ _ _ _ _ _ r h hn hH hf hm hk)
    ·cases h
   ·rename_i c x y todo'
    split at h
    ·rename_i W hc
     have hev:=aQ hf hG hc
     have hdec:=jP hH W
     split at h
     ·rename_i t ht
      rw [ht,aP] at hdec
      refine aZ (fun b cs=>step_cond (t:=t) ?_) (ih _ _ _ _ _ _ _ _ _ _ _ _ r h hn hH hf hm hk)
      rw [hev,SV.aC,S.aC,hdec]
     ·split at h
      ·rename_i a3 H1 f1 m1 Z H2 f2 m2 N O
       split at h
       ·rename_i mm hmm
        split at h
        ·rename_i nd' q hq
         obtain ⟨H3,f3,m3⟩:=q
         simp only [Option.some.injEq,Prod.mk.injEq] at h
         obtain ⟨rfl,rfl,rfl,rfl⟩:=h
         obtain ⟨a6,hn⟩:=bZ hn
         obtain ⟨a7,hn3⟩:=bZ hn
         refine aZ (fun b cs=>step_cond (t:=W.b ρ) hev) ?_
         obtain ⟨d1,rfl⟩:=aAK _ _ N
         obtain ⟨d2,rfl⟩:=aAK _ _ O
         cases he:W.b ρ
         ·rw [he] at hdec
          have c2:eM ρ [mkNot (fQ H W)]:=fun g hg=>by
           simp only [List.mem_singleton] at hg;subst hg;rw [bR,hdec];rfl
          refine ih u [.code y] _ _ _ _ _ _ _ ι a w (todo'++r) O (gO (fE a7) c2) (dF _ _ _ hH hdec) hf hm fun ι' a' w' _ hf' hm'=>?_
          exact ih u todo' _ _ _ _ _ _ _ ι' a' w' r hq hn3 hH (pP (by rw [hdec];exact hf')) (fV hmm (by rw [hdec];exact hm')) hk
         ·rw [he] at hdec
          have c1:eM ρ [fQ H W]:=fun g hg=>by
           simp only [List.mem_singleton] at hg;subst hg;exact hdec
          refine ih u [.code x] _ _ _ _ _ _ _ ι a w (todo'++r) N (gO (fE a6) c1) (dF _ _ _ hH hdec) hf hm fun ι' a' w' _ hf' hm'=>?_
          exact ih u todo' _ _ _ _ _ _ _ ι' a' w' r hq hn3 hH (pP (by rw [hdec];exact hf')) (fV hmm (by rw [hdec];exact hm')) hk
        ·cases h
       ·cases h
      ·cases h
    ·cases h
   ·split at h
    ·rename_i a3 H1 f1 m1 N
     split at h
     ·rename_i nd' q hq
      obtain ⟨H3,f3,m3⟩:=q
      simp only [Option.some.injEq,Prod.mk.injEq] at h
      obtain ⟨rfl,rfl,rfl,rfl⟩:=h
      obtain ⟨a6,a7⟩:=bZ hn
      exact zK hΓ hI hP N a6 hH hf hm fun ι' a' w' hH' hf' hm'=>ih _ _ _ _ _ _ _ _ _ _ _ _ r hq a7 hH' hf' hm' hk
     ·cases h
    ·cases h
   ·split at h
    ·cases h
    ·exact aZ (fun b cs=>step_loop) (ih _ _ _ _ _ _ _ _ _ _ _ _ r h hn hH hf hm hk)
   ·split at h
    ·cases h
    ·exact aZ (fun b cs=>step_inLoop) (ih _ _ _ _ _ _ _ _ _ _ _ _ r h hn hH hf hm hk)
   ·cases h
theorem bDZ {I:Interp} (hΓ:cA P I Γ) (hI:ρ.I=I) (hP:P.follows .mixedOrders=true) {k u:Nat} {e:E} {x y:Code} {nd:List E} {fr':Fr} {m':Mem} {r:List Item}
 (h:aYR P Γ n k u e x y H fr m=some (nd,fr',m')) (hn:bD ρ nd) (hH:H.ok ρ) (hf:aR ρ ι n fr a) (hm:aK ρ β ι m w)
 (hk:∀ ι' a' w',aR ρ ι' n fr' a'→aK ρ β ι' m' w'→nO P f R r a' w'):nO P f R (.code (if e.b ρ then x else y)::r) a w:=by
 unfold aYR at h
 split at h
 ·rename_i a3 H1 f1 m1 Z H2 f2 m2 N O
  split at h
  ·rename_i mm hmm
   simp only [Option.some.injEq,Prod.mk.injEq] at h
   obtain ⟨rfl,rfl,rfl⟩:=h
   obtain ⟨a6,a7⟩:=bZ hn
   obtain ⟨d1,rfl⟩:=aAK _ _ N
   obtain ⟨d2,rfl⟩:=aAK _ _ O
   cases he:e.b ρ
   ·have c2:eM ρ [mkNot e]:=fun g hg=>by
     simp only [List.mem_singleton] at hg;subst hg;rw [bR,he];rfl
    refine aZq hΓ hI hP k u [.code y] _ _ _ _ _ _ _ ι a w r O (gO (fE a7) c2) (dF _ _ _ hH he) hf hm fun ι' a' w' _ hf' hm'=>?_
    exact hk _ _ _ (pP (by rw [he];exact hf')) (fV hmm (by rw [he];exact hm'))
   ·have c1:eM ρ [e]:=fun g hg=>by
     simp only [List.mem_singleton] at hg;subst hg;exact he
    refine aZq hΓ hI hP k u [.code x] _ _ _ _ _ _ _ ι a w r N (gO (fE a6) c1) (dF _ _ _ hH he) hf hm fun ι' a' w' _ hf' hm'=>?_
    exact hk _ _ _ (pP (by rw [he];exact hf')) (fV hmm (by rw [he];exact hm'))
  ·cases h
 ·cases h
theorem bAw {I:Interp} (hΓ:cA P I Γ) (hI:ρ.I=I) {ops:Array Oper}:∀ (l:List Oper) {H:Hyp} {nd:List E} {fr:Fr} {m:Mem} {v:SV} {m':Mem} {ι:Loc} {a:Act} {w:World} {Q:Exit→Act→World→Prop},
 aDc P Γ n ops l H fr m=some (nd,v,m')→H.ok ρ→bD ρ nd→aK ρ β ι m w→aR ρ ι n fr a →
 (∀ ι' a' w' c,a'.defers=[]→fA ρ ι' v=.panicked c→aK ρ β ι' m' w'→Q (.panic c) a' w')→wpList P ops Q l a w:=by
 intro l
 induction l with
 | nil=>intro H nd fr m v m' ι a w Q h;simp [aDc] at h
 | cons o l ih =>
   intro H nd fr m v m' ι a w Q h hH hn hm hf hk
   have hG:eM ρ []:=fun e he=>by cases he
   simp only [aDc] at h
   split at h
   ·rename_i a3 H1 fr1 m1 ho
    simp only [Option.map_eq_some_iff,Prod.mk.injEq] at h
    obtain ⟨⟨Z,v2,m2⟩,O,rfl,rfl,rfl⟩:=h
    obtain ⟨a6,a7⟩:=bZ hn
    refine wpList_step fun K hK=>?_
    exact lQ hΓ hI ho hH a6 hm hf fun ι' a' w' hH' hf' hm'=>hK _ _ (ih O hH' a7 hm' hf' hk)
   ·split at h
    ·rename_i G hg
     obtain ⟨_,hw⟩:=jR hH hf hg
     simp only [wpList]
     rw [if_pos hw]
     left
     split at h
     ·rename_i x hox
      split at h
      ·rename_i t k e hx
       simp only [Option.some.injEq,Prod.mk.injEq] at h
       obtain ⟨rfl,rfl,rfl⟩:=h
       have hv:=aQ hf hG hx
       have hr:(execOp a.eval o).run P w=.halt (.panic ((S.ifc t k e).aC ρ ι)) w:=by
        simp only [execOp,hox,hv,SV.aC,S.aC,Instr.panic,Sem.run_bind]
        rfl
       unfold Oper.wp
       rw [hr]
       exact hk ι a w _ hf.defers (by rw [gS (yP t k e)];rfl) hm
      ·cases h
     ·split at h
      ·rename_i f l' hc
       split at h
       ·rename_i nd' v' om hg'
        split at h
        ·rename_i hp
         simp only [Option.some.injEq,Prod.mk.injEq] at h
         obtain ⟨rfl,rfl,rfl⟩:=h
         have hcall:=sH (w:=w) hf hG hc
         unfold Oper.wp
         rw [hcall]
         show Calls P f _ w _
         have hp':∃ x,gX v'=some x:=Option.isSome_iff_exists.1 hp
         obtain ⟨x,hx⟩:=hp'
         refine (hΓ.ok _ _ _ _ _ _ _ hg' ρ β ι w hI hH (fE hn) hm).mono fun e w' hr=>?_
         cases om with
         | none =>
           obtain ⟨rfl,hm'⟩:=hr
           rw [gS hx]
           exact hk ι a w' _ hf.defers (gS hx) hm'
         | some m1 =>
           obtain ⟨ι',_,rfl,hm'⟩:=hr
           rw [gS hx]
           exact hk ι' a w' _ hf.defers (gS hx) hm'
        ·cases h
       ·cases h
      ·cases h
    ·cases h
theorem bCK {I:Interp} (hΓ:cA P I Γ) (hI:ρ.I=I) (hfn:P.funcs[f]? = some fn) {id:Nat} {ops:Array Oper} {draw:Bool} {nd:List E} {v:SV} {m':Mem} {r:List Item}
 (h:aHR P Γ n ops draw H fr m=some (nd,v,m')) (hn:bD ρ nd) (hH:H.ok ρ) (hf:aR ρ ι n fr a) (hm:aK ρ β ι m w)
 (hR:∀ ι w,aK ρ β ι m' w→R (fA ρ ι v) w):nO P f R (.code (.region id ops draw)::r) a w:=by
 unfold aHR at h
 split at h
 ·cases h
 ·rename_i hd
  simp only [Bool.not_eq_true] at hd;subst hd
  have hwp:=bAw hΓ hI ops.toList h hH hn hm hf (Q:=fun e a' w'=>∃ c,e=.panic c∧a'.defers=[]∧R (.panicked c) w') fun ι' a' w' c hd he hm'=>⟨c,rfl,hd,by rw [← he];exact hR ι' w' hm'⟩
  intro b cs hb hk
  obtain ⟨e,a1,w1,⟨c,rfl,hd,hr⟩,arr⟩:=wp_region_list hwp b r cs
  obtain ⟨todo,hs⟩:=arr
  exact ⟨.panicked c,w1,_,hr,hs,hb,rfl,hd,rfl,fn,by rw [show ({ b.at a1 todo with mode:=.panicking c }:Frame).fn=f from hb];exact hfn⟩
theorem aSc {id:Nat}:∀ {k:List Item} (r:List Item),exitTo id k=none→exitTo id (k++r)=exitTo id r:=by
 intro k
 induction k with
 | nil=>intro r _;rfl
 | cons x k ih =>
   intro r h
   cases x <;> simp only [exitTo,List.cons_append] at h ⊢
   case inBlock i =>
    by_cases hc:(i == id)=true
    ·rw [if_pos hc] at h;cases h
    ·rw [if_neg hc] at h ⊢;exact ih r h
   all_goals exact ih r h
theorem aUP {bs:List Item} {hc:aV} {cut:List Nat} {I:Interp} (hΓ:cA P I Γ) (hI:ρ.I=I) (hP:P.follows .mixedOrders=true) (hfn:P.funcs[f]? = some fn):∀ (k u:Nat) (base:Option (List Item)) (todo:List Item) (H:Hyp) (fr:Fr) (m:Mem) (ι:Loc) (a:Act) (w:World),
 (run P Γ hc fn n cut k u base todo H fr m).holds P f R ρ β n bs→(∀ b,base=some b→bs=b)→H.ok ρ→aR ρ ι n fr a→aK ρ β ι m w→nO P f R (todo++base.getD []) a w:=by
 intro k
 induction k with
 | zero=>intro u base todo H fr m ι a w h;exact h.elim
 | succ k ih =>
   intro u base todo H fr m ι a w h hbs hH hf hm
   have hG:eM ρ []:=fun e he=>by cases he
   unfold run at h
   split at h
   ·split at h
    ·rename_i bb
     have e:=hbs bb rfl
     subst e
     exact h hH ι a w hf hm
    ·split at h
     ·rename_i v hv
      exact aCu hf.defers hfn (oN hH hm hf hv) (by have:=h ι w hm;rwa [aW (kL hv).2] at this) fun b cs=>step_end
     ·exact h.elim
   ·split at h
    ·rename_i v hv
     exact aCu hf.defers hfn (oN hH hm hf hv) (by have:=h ι w hm;rwa [aW (kL hv).2] at this) fun b cs=>step_ret
    ·exact h.elim
   ·exact aZ (fun b cs=>step_skip) (ih _ base _ _ _ _ _ _ _ h hbs hH hf hm)
   ·exact aZ (fun b cs=>step_label) (ih _ base _ _ _ _ _ _ _ h hbs hH hf hm)
   ·exact aZ (fun b cs=>step_inBlock) (ih _ base _ _ _ _ _ _ _ h hbs hH hf hm)
   ·exact aZ (fun b cs=>tY) (ih _ base _ _ _ _ _ _ _ h hbs hH hf hm)
   ·split at h
    ·exact aZ (fun b cs=>step_seq) (h hH ι a w hf hm)
    ·exact aZ (fun b cs=>step_seq) (ih _ base _ _ _ _ _ _ _ h hbs hH hf hm)
   ·exact aZ (fun b cs=>step_block) (ih _ base _ _ _ _ _ _ _ h hbs hH hf hm)
   ·exact aZ (fun b cs=>zV) (ih _ base _ _ _ _ _ _ _ h hbs hH hf hm)
   ·rename_i id rr
    split at h
    ·rename_i r' hr
     exact aZ (fun b cs=>step_exit (tT _ hr)) (ih _ base _ _ _ _ _ _ _ h hbs hH hf hm)
    ·rename_i hr
     split at h
     ·rename_i bb
      split at h
      ·rename_i r' hr'
       have hx:exitTo id (rr++(some bb).getD [])=some r':=by rw [aSc _ hr];exact hr'
       have:=ih u none r' _ _ _ _ a w h (fun _ hb=>by cases hb) hH hf hm
       simp only [Option.getD_none,List.append_nil] at this
       exact aZ (fun b cs=>step_exit hx) this
      ·exact h.elim
     ·exact h.elim
   ·split at h
    ·rename_i W hc
     have hev:=aQ hf hG hc
     have hdec:=jP hH W
     split at h
     ·rename_i t ht
      rw [ht,aP] at hdec
      refine aZ (fun b cs=>step_cond (t:=t) ?_) (ih _ base _ _ _ _ _ _ _ h hbs hH hf hm)
      rw [hev,SV.aC,S.aC,hdec]
     ·refine aZ (fun b cs=>step_cond (t:=(fQ H W).b ρ) (by rw [hdec];exact hev)) ?_
      split at h
      ·rename_i nd fr' m' hq
       obtain ⟨hn,h⟩:=eW h
       exact bDZ hΓ hI hP hq hn hH hf hm fun ι' a' w' hf' hm'=>ih _ base _ _ _ _ _ _ _ h hbs hH hf' hm'
      ·obtain ⟨N,O⟩:=h
       cases he:(fQ H W).b ρ
       ·exact ih _ base _ _ _ _ _ _ _ (O he) hbs (dF _ false H hH he) hf hm
       ·exact ih _ base _ _ _ _ _ _ _ (N he) hbs (dF _ true H hH he) hf hm
    ·exact h.elim
   ·split at h
    ·rename_i nd H' fr' m' hr
     obtain ⟨hn,h⟩:=eW h
     exact zK hΓ hI hP hr hn hH hf hm fun ι' a' w' hH' hf' hm'=>ih _ base _ _ _ _ _ _ _ h hbs hH' hf' hm'
    ·split at h
     ·rename_i nd v m' hp
      obtain ⟨hn,h⟩:=eW h
      exact bCK hΓ hI hfn hp hn hH hf hm h
     split at h
     ·rename_i c _
      split at h
      ·exact h.elim
      ·obtain ⟨N,O⟩:=h
       cases he:c.b ρ
       ·exact ih _ base _ _ _ _ _ _ _ (O he) hbs (dF _ false H hH he) (hf.pick (dF _ false H hH he)) hm
       ·exact ih _ base _ _ _ _ _ _ _ (N he) hbs (dF _ true H hH he) (hf.pick (dF _ true H hH he)) hm
     ·exact h.elim
   ·split at h
    ·exact aZ (fun b cs=>step_loop) (h hH ι a w hf hm)
    split at h
    ·exact aZ (fun b cs=>step_loop) (h hH ι a w hf hm)
    ·exact aZ (fun b cs=>step_loop) (ih _ base _ _ _ _ _ _ _ h hbs hH hf.tidy hm)
   ·split at h
    ·exact aZ (fun b cs=>step_inLoop) (h hH ι a w hf hm)
    split at h
    ·exact aZ (fun b cs=>step_inLoop) (h hH ι a w hf hm)
    ·exact aZ (fun b cs=>step_inLoop) (ih _ base _ _ _ _ _ _ _ h hbs hH hf.tidy hm)
   ·exact h.elim
end
def yi:Nat:=1000
def S.noY:S→Bool
 | .val n=>n != yi
 | _=>true
def Seg.noY:Seg→Bool
 | .one x=>x.noY
 | _=>true
def SV.noY:SV→Bool
 | .s x=>x.noY
 | .agg l=>l.all Seg.noY
 | .tup l=>l.all fun p=>p.2.all Seg.noY
 | .junk=>true
def bCH (fr:Fr):Bool:=fr.all fun f=>f.x.noY
def aUe (m:Mem):Bool:=m.all fun B=>B.aH.all Seg.noY
def Env.aAd (ρ:Env) (y:Value):Env:={ ρ with vs:=(ρ.vs++List.replicate (yi+1-ρ.vs.length) Go.undef).set yi y }
structure Env.iV (ρ ρ':Env):Prop where
 i:ρ.i=ρ'.i
 b:ρ.b=ρ'.b
 a:ρ.a=ρ'.a
 I:ρ.I=ρ'.I
 v:∀ n,n ≠ yi→ρ.vs.getD n Go.undef=ρ'.vs.getD n Go.undef
section
variable {ρ ρ':Env} {ι:Loc}
theorem Env.iV.refl (ρ:Env):ρ.iV ρ:=⟨rfl,rfl,rfl,rfl,fun _ _=>rfl⟩
theorem Env.iV.symm (h:ρ.iV ρ'):ρ'.iV ρ:=⟨h.i.symm,h.b.symm,h.a.symm,h.I.symm,fun n hn=>(h.v n hn).symm⟩
theorem yW (ρ:Env) (y:Value):ρ.iV (ρ.aAd y):=by
 refine ⟨rfl,rfl,rfl,rfl,fun n hn=>?_⟩
 simp only [Env.aAd,List.getD_eq_getElem?_getD]
 rw [List.getElem?_set_ne (Ne.symm hn)]
 by_cases h:n<ρ.vs.length
 ·rw [List.getElem?_append_left h]
 ·rw [List.getElem?_append_right (Nat.not_lt.1 h),List.getElem?_replicate,List.getElem?_eq_none (Nat.not_lt.1 h)]
  split <;> rfl
theorem aZt (ρ:Env) (y:Value):(ρ.aAd y).vs.getD yi Go.undef=y:=by
 simp only [Env.aAd,List.getD_eq_getElem?_getD]
 rw [List.getElem?_set_self (by simp;omega)];rfl
theorem aCm (h:ρ.iV ρ'):∀ e:E,den ρ e=den ρ' e:=by
 intro e
 induction e <;> simp only [den, *,h.i,h.b,h.a,h.I]
theorem pJ (h:ρ.iV ρ') (e:E):e.i ρ=e.i ρ':=by simp only [E.i,aCm h]
theorem aBa (h:ρ.iV ρ') (e:E):e.b ρ=e.b ρ':=by simp only [E.b,aCm h]
theorem aAQ (h:ρ.iV ρ') (e:E):e.a ρ=e.a ρ':=by simp only [E.a,aCm h]
theorem aEp (h:ρ.iV ρ') {l:List E} (hl:eM ρ l):eM ρ' l:=fun e he=>by rw [← aBa h];exact hl e he
theorem XF.jO (h:ρ.iV ρ') (f:XF) (k:Nat):XF.aC ρ f k=XF.aC ρ' f k:=by simp only [XF.aC,aAQ h]
theorem S.jO (h:ρ.iV ρ') (x:S) (hx:x.noY=true):x.aC ρ ι=x.aC ρ' ι:=by
 cases x with
 | slc b o l c=>cases c <;> simp only [S.aC,addr,pJ h]
 | val n=>simp only [S.noY,bne_iff_ne,ne_eq] at hx;exact h.v n hx
 | _=>simp only [S.aC,addr,pJ h,aBa h,h.I]
theorem Seg.aTH (h:ρ.iV ρ') (x:Seg) (hx:x.noY=true):x.cells ρ ι=x.cells ρ' ι:=by
 cases x with
 | one x=>simp only [Seg.cells,S.jO h x hx]
 | _=>simp only [Seg.cells,pJ h,aAQ h,XF.jO h]
theorem lE (h:ρ.iV ρ'):∀ (l:List Seg),l.all Seg.noY=true→cellsOf ρ ι l=cellsOf ρ' ι l
 | [],_=>rfl
 | x::l,hl=>by
   simp only [List.all_cons,Bool.and_eq_true] at hl
   rw [aG,aG,Seg.aTH h x hl.1,lE h l hl.2]
theorem SV.jO (h:ρ.iV ρ') (x:SV) (hx:x.noY=true):x.aC ρ ι=x.aC ρ' ι:=by
 cases x with
 | s x=>exact S.jO h x hx
 | agg l=>simp only [SV.aC,lE h l hx]
 | junk=>rfl
 | tup l =>
   simp only [SV.aC]
   congr 2
   refine List.map_congr_left fun p hp=>?_
   rw [lE h p.2 (List.all_eq_true.1 hx p hp)]
theorem Hyp.aAC (h:ρ.iV ρ') {H:Hyp} (hH:H.ok ρ):H.ok ρ':=by
 refine ⟨fun p hp=>?_,fun p hp=>by rw [← pJ h];exact hH.e p hp,fun p hp j=>by rw [← aAQ h];exact hH.a p hp j,fun p hp=>by rw [← h.I];exact hH.fi p hp,fun p hp=>by rw [← h.I];exact hH.fa p hp,fun p hp=>by rw [← aBa h];exact hH.b p hp⟩
 obtain ⟨N,O,U,h4,h5,h6,h7⟩:=hH.x p hp
 rw [pJ h] at N
 rw [h.I,pJ h] at O
 rw [h.I] at U
 refine ⟨N,O,U,h4,fun k hk f d hd=>?_,fun k hk q p' hp'=>?_,fun q hq k=>?_⟩
 ·rw [← h.I,h5 k (by rw [pJ h];exact hk) f d hd,XF.jO h]
 ·rw [← h.I];exact h6 k (by rw [pJ h];exact hk) q p' hp'
 ·have h8:=h7 q hq k
  rw [aAQ h,aAQ h,h.I] at h8
  exact h8
theorem aR.iV (h:ρ.iV ρ') {n:Nat} {fr:Fr} {a:Act} (hf:aR ρ ι n fr a) (hy:bCH fr=true):aR ρ' ι n fr a:=by
 refine ⟨hf.size,hf.defers,fun t g x hl hg=>?_,fun t g x hl hg=>?_⟩
 ·have hx:=hl
  obtain ⟨f,hm,rfl⟩:=aSn hx
  rw [hf.yes _ _ _ hl (aEp h.symm hg),SV.jO h _ (List.all_eq_true.1 hy f hm)]
 ·exact hf.no _ _ _ hl fun hc=>hg (aEp h hc)
theorem aK.iV (h:ρ.iV ρ') {β:dN} {m:Mem} {w:World} (hm:aK ρ β ι m w) (hy:aUe m=true):aK ρ' β ι m w:=by
 have hc:∀ {i:Nat} {B:Blk},m[i]? = some B→cellsOf ρ ι B.aH=cellsOf ρ' ι B.aH:=fun hB=>lE h _ (List.all_eq_true.1 hy _ (List.mem_of_getElem? hB))
 refine ⟨hm.inj,fun i B hB hd hn=>by rw [← hc hB];exact hm.blk i B hB hd hn,fun i B hB hd hn=>by rw [← hc hB];exact hm.nils i B hB hd hn,hm.agr,hm.len,hm.new,hm.size,hm.old,hm.os,hm.tape,hm.output,?_,?_⟩
 ·rw [← h.I];exact hm.xt
 ·rw [← h.I];exact hm.xd
end
def wD (a:Act) (ds:List Deferred):Act:=⟨a.tmps,a.defers++ds⟩
theorem lL (a:Act) (ds:List Deferred):(wD a ds).eval=a.eval:=by funext o;cases o <;> rfl
theorem zA (a:Act) (ds:List Deferred) (dst:Option Tmp) (v:Value):(wD a ds).put dst v=wD (a.put dst v) ds:=by cases dst <;> rfl
section
variable {P:Program} {b:Frame} {a:Act} {k:List Item} {cs:List Frame} {w:World} {ops:Array Oper} {ds:List Deferred}
theorem opR {o:Oper} {i:Nat} {rest:List Nat} (ho:ops[i]? = some o) (hw:Region.wanted o (yielded ops a.tmps)=true) (hnd:∀ c,o.op ≠ .defer c)
 {K:Act→World→Prop} {Q:Exit→Act→World→Prop} (hQ:∀ c a w,¬ Q (.panic c) a w) (hL:¬ LetsOut Q) (h:o.wp P a w K Q) :
 ∃ a' w',K a' w'∧Steps P (lone (b.atR (wD a ds) (.inRegion ops (i::rest)::k)) cs w) (lone (b.atR (wD a' ds) (.inRegion ops rest::k)) cs w'):=by
 unfold Oper.wp at h
 simp only [Oper.upon] at h
 have hg:=stepGR_op (P:=P) (b:=b) (a:=wD a ds) (k:=k) (cs:=cs) (w:=w) (rest:=rest) ho hw
 rw [Oper.semAt_eq _ _ _ hnd,lL] at hg
 have hfin:∀ v,(b.atR (wD a ds) (.inRegion ops (i::rest)::k)).finish v=b.atR (wD (a.put o.dst v) ds) (.inRegion ops rest::k):=by
  intro v;rw [Frame.finish_atR,ho,← zA];rfl
 split at h
 ·rename_i v w' hr
  exact ⟨_,_,h,.one (step_lone_go (by rw [hg,← hfin];simp [stepG.apply,hr]))⟩
 ·rename_i w' hr
  exact ⟨_,_,h,.one (step_lone_go (by rw [hg,← hfin];simp [stepG.apply,hr]))⟩
 ·rename_i d w' hr
  refine ⟨_,_,h,.one (step_lone_go ?_)⟩
  have:({ b.atR (wD a ds) (.inRegion ops (i::rest)::k) with defers:=d::(wD a ds).defers }:Frame).finish undef =
   b.atR (wD ({ a with defers:=d::a.defers }.put o.dst undef) ds) (.inRegion ops rest::k):=by
   have:=Frame.finish_atR b { wD a ds with defers:=d::(wD a ds).defers } ops i rest k undef
   rw [ho] at this
   rw [← zA];exact this
  rw [hg];simp only [stepG.apply,Sem.runT_eq,hr,GStep.bare_after]
  exact congrArg (fun fr=>GStep.go { frame:=fr,callers:=cs,status:=.running,dying:=none } w') this
 ·rename_i f args w' hr
  obtain ⟨e,w'',fr,hR,hsteps,hfn,hleave⟩:=h (b.atR (wD a ds) (.inRegion ops (i::rest)::k)::cs)
  have henter:step P (lone (b.atR (wD a ds) (.inRegion ops (i::rest)::k)) cs w) =
   .next (lone (Frame.enter P f args .normal) (b.atR (wD a ds) (.inRegion ops (i::rest)::k)::cs) w') :=
   step_lone_go (by rw [hg];simp [stepG.apply,hr,Frame.atR])
  cases e with
  | returned v =>
    refine ⟨_,_,hR,.head henter (Steps.trans hsteps (.one ?_))⟩
    rw [← hfin];exact step_leave_returned hleave
  | panicked chain=>exact absurd hR (hQ _ _ _)
  | outgrown=>exact absurd hR hL
 ·rename_i row args w' hr
  obtain ⟨v,w'',hR,hsteps⟩:=h (b.atR (wD a ds) (.inRegion ops (i::rest)::k)) cs
  have henter:step P (lone (b.atR (wD a ds) (.inRegion ops (i::rest)::k)) cs w) =
   .next (lone (Frame.ofRow P row args .normal) (b.atR (wD a ds) (.inRegion ops (i::rest)::k)::cs) w') :=
   step_lone_go (by rw [hg];simp [stepG.apply,hr,Frame.atR])
  refine ⟨_,_,hR,.head henter ?_⟩
  rw [← hfin];exact hsteps
 ·exact absurd h (hQ _ _ _)
 ·exact h.elim
theorem opsR (hnd:∀ (i:Nat) (o:Oper),ops[i]? = some o→∀ c,o.op ≠ .defer c) {Q:Exit→Act→World→Prop} (hQ:∀ c a w,¬ Q (.panic c) a w) (hL:¬ LetsOut Q):∀ (l:List Nat) (a:Act) (w:World),wpOps P ops Q l a w →
 ∃ a' w',Q .normal a' w'∧Steps P (lone (b.atR (wD a ds) (.inRegion ops l::k)) cs w) (lone (b.atR (wD a' ds) k) cs w'):=by
 intro l
 induction l with
 | nil=>exact fun a w h=>⟨a,w,h,.one stepR_region_end⟩
 | cons i rest ih =>
   intro a w h
   simp only [wpOps] at h
   cases ho:ops[i]? with
   | none =>
     simp only [ho] at h
     obtain ⟨a',w',hq,hs⟩:=ih a w h
     have N:=stepR_op_skip (P:=P) (b:=b) (a:=wD a ds) (k:=k) (cs:=cs) (w:=w) (ops:=ops) (i:=i) (rest:=rest) (by simp [ho])
     simp only [ho,Option.bind_none,Act.put] at N
     exact ⟨a',w',hq,.head N hs⟩
   | some o =>
     simp only [ho] at h
     by_cases hw:Region.wanted o (yielded ops a.tmps)=true
     ·simp only [hw,if_true] at h
      rcases h with h | ⟨_,h⟩
      ·obtain ⟨a1,w1,hk,hs⟩:=opR (b:=b) (k:=k) (cs:=cs) (ds:=ds) (rest:=rest) ho hw (hnd i o ho) hQ hL h
       obtain ⟨a',w',hq,hs'⟩:=ih a1 w1 hk
       exact ⟨a',w',hq,Steps.trans hs hs'⟩
      ·exact absurd h hL
     ·simp only [hw,if_false,Bool.false_eq_true] at h
      obtain ⟨a',w',hq,hs⟩:=ih _ _ h
      have N:=stepR_op_skip (P:=P) (b:=b) (a:=wD a ds) (k:=k) (cs:=cs) (w:=w) (ops:=ops) (i:=i) (rest:=rest)
       (by simp only [ho,Option.map_some,Option.getD_some];simpa [wD] using hw)
      simp only [ho,Option.bind_some,zA] at N
      exact ⟨a',w',hq,.head N hs⟩
end
def wI (ops:Array Oper):Bool:=ops.toList.all fun o=>match o.op with | .defer _=>false | _=>true
theorem aCS {ops:Array Oper} (h:wI ops=true):∀ (i:Nat) (o:Oper),ops[i]? = some o→∀ c,o.op ≠ .defer c:=by
 intro i o ho c hc
 have N:=List.all_eq_true.1 h o (by
  have:=Array.mem_of_getElem? ho
  exact Array.mem_toList_iff.2 this)
 rw [hc] at N
 cases N
section
variable {P:Program} {b:Frame} {a:Act} {k:List Item} {cs:List Frame} {w:World} {ops:Array Oper} {ds:List Deferred}
variable {ρ:Env} {ι:Loc} {H:Hyp} {Γ:Ctx} {β:dN} {m:Mem} {fr:Fr} {n:Nat}
theorem regR {I:Interp} (hΓ:cA P I Γ) (hI:ρ.I=I) (hP:P.follows .mixedOrders=true) {id:Nat} {draw:Bool}
 {nd:List E} {H':Hyp} {fr':Fr} {m':Mem} (hnd:wI ops=true) (hr:mH P Γ n ops draw H fr m=some (nd,H',fr',m')) (hn:bD ρ nd) (hH:H.ok ρ) (hf:aR ρ ι n fr a) (hm:aK ρ β ι m w) :
 ∃ ι' a' w',(H'.ok ρ∧aR ρ ι' n fr' a'∧aK ρ β ι' m' w')∧Steps P (lone (b.atR (wD a ds) (.code (.region id ops draw)::k)) cs w) (lone (b.atR (wD a' ds) k) cs w'):=by
 let Q:Exit→Act→World→Prop:=fun e a' w'=>e=.normal∧∃ ι',H'.ok ρ∧aR ρ ι' n fr' a'∧aK ρ β ι' m' w'
 have hQ:∀ c a w,¬ Q (.panic c) a w:=fun c a w hq=>by cases hq.1
 have hL:¬ LetsOut Q:=fun ⟨_,_,hq⟩=>by cases hq.1
 cases draw with
 | false =>
   have N:wpList P ops Q ops.toList a w:=aIa hΓ hI ops.toList hr hH hn hm hf fun ι' a' w' hH' hf' hm'=>⟨rfl,ι',hH',hf',hm'⟩
   have O:wpOps P ops Q (List.range ops.size) a w:=by
    rw [List.range_eq_range',← Array.length_toList,wpOps_eq_wpList ops.toList 0 (by simp)];exact N
   obtain ⟨a',w',⟨_,ι',hq⟩,hs⟩:=opsR (b:=b) (k:=k) (cs:=cs) (ds:=ds) (aCS hnd) hQ hL _ a w O
   exact ⟨ι',a',w',hq,.head stepR_region hs⟩
 | true =>
   have N:wpAny P .any ops Q ops.size (Array.replicate ops.size false) a { w with drawn:=w.drawn+1 }:=by
    rcases pV hr with ⟨hB,hq⟩ | ⟨hsel,nx,D,L,hr⟩
    ·have hmem:=aDn _ hq
     subst hmem
     have hquiet:=vF (β:=β) (Q:=fun a'=>∀ w',aK ρ β ι m' w'→Q .normal a' w') hΓ hI ops.toList hq hH hn hf fun a' hH' hf'=>fun w' hm'=>⟨rfl,ι,hH',hf',hm'⟩
     simp only [Region.lexB,Bool.and_eq_true] at hB
     refine wpAny_of_quiet (C:=fun w=>aK ρ β ι m' w) (Q:=fun a'=>∀ w',aK ρ β ι m' w'→Q .normal a' w') (fun _ w' hw' h=>h w' hw') _ _ _ _ (hm.drew _) ?_
     have:=wpAnyQ_lex (C:=fun w=>aK ρ β ι m' w) (md:=.any) hB.1 ops.toList 0 (Array.replicate ops.size false) a (by simp) (by simpa using hB.2) hquiet
     simpa using this
    ·exact fT.any _ _ _ _ (aYl (Q:=Q) hΓ hI hsel hQ ops.size hr hH hn (hm.drew _) hf fun ι' a' w' hH' hf' hm'=>⟨rfl,ι',hH',hf',hm'⟩)
   have O:∀ t,wpOps P ops Q (Region.schedule (P.follows .mixedOrders) ops t) a { w with drawn:=w.drawn+1 }:=fun t=>by
    simp only [Region.schedule,hP,Bool.true_or,if_true]
    exact wpAny_sound ops.size t _ a _ N
   obtain ⟨a',w',⟨_,ι',hq⟩,hs⟩:=opsR (b:=b) (k:=k) (cs:=cs) (ds:=ds) (aCS hnd) hQ hL _ a _ (O (w.tape w.drawn (.order b.fn id)))
   exact ⟨ι',a',w',hq,.head stepR_region_draw hs⟩
end
def fO (l:List SV):Fr:=l.zipIdx.map fun p=>⟨p.2,[],p.1⟩
section
variable {ρ:Env} {ι:Loc} {n:Nat}
theorem aCF (l:List SV) (k:Nat):∀ (t:Nat) (g:List E) (x:SV),look ((l.zipIdx k).map fun p=>⟨p.2,[],p.1⟩) t=some (g,x)→g=[]∧k≤t∧l[t-k]? = some x:=by
 induction l generalizing k with
 | nil=>intro t g x h;simp [gF] at h
 | cons a l ih =>
   intro t g x h
   simp only [List.zipIdx_cons,List.map_cons,gF,dU] at h
   split at h
   ·rename_i hk
    split at h
    ·cases h
    ·simp only [Option.some.injEq,Prod.mk.injEq] at h
     obtain ⟨rfl,rfl⟩:=h
     subst hk
     simp
   ·rename_i hk
    obtain ⟨N,O,U⟩:=ih (k+1) t g x h
    refine ⟨N,by omega,?_⟩
    rw [show t-k=(t-(k+1))+1 by omega,List.getElem?_cons_succ];exact U
theorem oD (l:List SV) (hl:l.length≤n):aR ρ ι n (fO l) { tmps:=(l.map (SV.aC ρ ι)).toArray++Array.replicate (n-(l.map (SV.aC ρ ι)).toArray.size) Go.undef,defers:=[] }:=by
 refine ⟨by simp;omega,rfl,fun t g x h hg=>?_,fun t g x h hg=>?_⟩
 ·obtain ⟨rfl,_,hx⟩:=aCF l 0 t g x h
  have hlt:t<l.length:=by
   have:=(List.getElem?_eq_some_iff.1 hx).1;omega
  simp only [Nat.sub_zero] at hx
  rw [Array.getElem?_append_left (by simpa using hlt)]
  simp [hx]
 ·obtain ⟨rfl,_,hx⟩:=aCF l 0 t g x h
  exact absurd (fun e he=>by cases he) hg
end
structure LI where
 fr:Fr
 k:List Item
 K:Nat
 ps:List Tmp
 as:Code
 bd:Code
 ni:Nat
 fi:Func
structure YI where
 fr:Fr
 todo:List Item
 dst:Option Tmp
 K:Nat
inductive Ph where
 | out
 | it (L:LI) (J:Option Code)
 | rd (L:LI) (Y:YI) (begun:Bool)
def Ph.nt (n:Nat):Ph→Nat
 | .out=>n
 | .it L _=>L.ni
 | .rd _ _ _=>n
inductive Lv where
 | ret (v:SV)
 | go (ph:Ph) (todo:List Item) (fr:Fr)
 | bad
def uI (P:Program) (fn:Func) (ph:Ph) (J:Option Code) (H:Hyp) (fr:Fr) (m:Mem):Lv :=
 match ph with
 | .out=>match rP P H fr m fn.results.toList with
   | some v=>.ret v
   | none=>.bad
 | .it L J0=>match rP P H fr m L.fi.results.toList with
   | some _=>if aUe m then .go .out ((J0.map Item.code).toList++L.k) L.fr else .bad
   | none=>.bad
 | .rd L Y true=>match put L.ni Y.fr Y.dst [] (.s (.bool (.blit J.isNone))) with
   | some fr'=>.go (.it L J) Y.todo fr'
   | none=>.bad
 | .rd _ _ false=>.bad
def bNb (ops:Array Oper):Bool:=ops.toList.any fun o=>match o.op with
 | .call ⟨.value (.tmp _),_,_⟩=>true
 | _=>false
def isIt:Ph→Bool
 | .it _ _=>true
 | _=>false
def aAM (fr:Fr):Op→Option (List SV)
 | .call ⟨.value x,args,_⟩=>match dB [] fr x with
   | some (.s (.val n))=>if n=yi then qE [] fr args.toList else none
   | _=>none
 | _=>none
def wJ (o:Oper):Bool:=match o.op with | .defer _=>false | _=>true
def uT (n:Nat):Fr→List Tmp→List SV→Option Fr
 | fr,[],[]=>some fr
 | fr,t::ts,x::xs=>match put n fr (some t) [] x with
   | some fr'=>uT n fr' ts xs
   | none=>none
 | _,_,_=>none
def aSo:Fr→Option Nat
 | []=>none
 | f::l=>cond (Nat.ble 5000 f.t) (some (f.t-5000)) (aSo l)
def aDz:List Nat→Nat→Nat
 | [],k=>k
 | b::l,k=>aDz l (cond (Nat.ble k b) (b+1) k)
def aAL:Mem→Nat→Nat
 | [],k=>k
 | B::l,k=>aAL l (aDz (B.aH.flatMap tC) k)
def bLx:Fr→Nat→Nat
 | [],k=>k
 | f::l,k=>bLx l (aDz (aGy f.x) k)
def cutAt (L:LI) (m:Mem) (M1:Nat):Nat :=
 let k1:=aAL (m.take M1) (bLx L.fr M1)
 let k2:=aAL ((m.take k1).drop M1) k1
 aAL ((m.take k2).drop k1) k2
def bJm (M1:Nat) (x:SV):SV:=cond (Nat.ble (aDz (aGy x) M1) M1) x .junk
def vW (M1:Nat) (fr:Fr):Fr:=fr.map fun f=>{ f with x:=bJm M1 f.x }
def aAY (ph:Ph) (fr:Fr) (m:Mem):Fr × Mem:=match ph with
 | .it L _=>match aSo fr with
   | some M1=>if L.K≤cutAt L m M1 then (vW M1 (tidy fr),m.take (cutAt L m M1)) else (tidy fr,m)
   | none=>(tidy fr,m)
 | _=>(tidy fr,m)
def aAZ (ph:Ph) (fr:Fr) (m:Mem):Fr:=match ph with
 | .it _ _=>⟨5000+m.length,[],.junk⟩::tidy fr
 | _=>tidy fr
theorem yD {M1:Nat}:∀ {fr:Fr} {t:Nat} {g:List E} {x:SV},look (vW M1 fr) t=some (g,x)→look fr t=some (g,x)
 | [],_,_,_,h=>by cases h
 | f::l,t,g,x,h=>by
   simp only [vW,List.map_cons,dU] at h ⊢
   by_cases ht:f.t=t
   ·simp only [if_pos ht] at h ⊢
    unfold bJm at h
    cases hb:Nat.ble (aDz (aGy f.x) M1) M1 with
    | true=>rw [hb] at h;exact h
    | false=>rw [hb] at h;simp at h
   ·simp only [if_neg ht] at h ⊢
    exact yD h
theorem aR.drop {ρ:Env} {ι:Loc} {n:Nat} {fr:Fr} {a:Act} (h:aR ρ ι n fr a) (M1:Nat):aR ρ ι n (vW M1 fr) a :=
 ⟨h.size,h.defers,fun t g x hl=>h.yes t g x (yD hl),fun t g x hl=>h.no t g x (yD hl)⟩
theorem aR.mark {ρ:Env} {ι:Loc} {n:Nat} {fr:Fr} {a:Act} (h:aR ρ ι n fr a) (T:Nat):aR ρ ι n (⟨T,[],.junk⟩::fr) a:=by
 have hl:∀ {t g x},look (⟨T,[],.junk⟩::fr) t=some (g,x)→look fr t=some (g,x):=fun {t g x} hl=>by
  rw [dU] at hl
  split at hl
  ·simp at hl
  ·exact hl
 exact ⟨h.size,h.defers,fun t g x hx=>h.yes t g x (hl hx),fun t g x hx=>h.no t g x (hl hx)⟩
theorem aR.aAZ {ρ:Env} {ι:Loc} {n:Nat} {fr:Fr} {a:Act} (h:aR ρ ι n fr a) (ph:Ph) (m:Mem):aR ρ ι n (aAZ ph fr m) a:=by
 unfold Sx.aAZ
 split
 ·exact h.tidy.mark _
 ·exact h.tidy
theorem aK.bFU {ρ:Env} {β:dN} {ι:Loc} {m:Mem} {w:World} (h:aK ρ β ι m w) {k:Nat} (hk:β.k≤k):aK ρ β ι (m.take k) w:=by
 have at_:∀ {i:Nat} {B:Blk},(m.take k)[i]? = some B→m[i]? = some B:=by
  intro i B hB
  rw [List.getElem?_take] at hB
  split at hB
  ·exact hB
  ·cases hB
 refine ⟨fun i j B C hB hC=>h.inj i j B C (at_ hB) (at_ hC),fun i B hB=>h.blk i B (at_ hB),fun i B hB=>h.nils i B (at_ hB),h.agr,by have:=h.len;simp;omega,fun i N O=>h.new i N (Nat.lt_of_lt_of_le O (by simp;omega)),h.size,fun b hb hi=>h.old b hb fun i hi'=>?_,h.os,h.tape,h.output,h.xt,fun i j a n' c' hv h0 q hq=>h.xd i j a n' c' hv h0 q (Nat.lt_of_lt_of_le hq (by simp;omega))⟩
 by_cases hc:i<(m.take k).length
 ·exact hi i hc
 ·have N:k≤i:=by simp at hc;omega
  rcases h.new i (Nat.le_trans hk N) hi' with hn | ⟨j,hj,hn⟩
  ·omega
  ·rw [hn];exact hi j (by have:=h.len;simp;omega)
def bKB (H:Hyp) (m:Mem):Bool:=m.all fun B=>!B.dead&&(B.grow.isNone||match B.aH with | .one _::_=>true | .run _ n _ _::_=>aO H 1 n | _=>false)
def iX (P:Program) (Γ:Ctx) (hc:aV) (fn:Func) (n:Nat):(fuel loops:Nat)→Ph→List Item→Hyp→Fr→Mem→Tree
 | 0,_,_,_,_,_,_=>.fail "fuel"
 | k+1,u,ph,todo,H,fr,m =>
   match todo with
   | []=>match uI P fn ph none H fr m with
     | .ret v=>.ret v m
     | .go ph' t' fr'=>iX P Γ hc fn n k u ph' t' H fr' m
     | .bad=>.fail "leave"
   | .code .ret::_=>match uI P fn ph (some .ret) H fr m with
     | .ret v=>.ret v m
     | .go ph' t' fr'=>iX P Γ hc fn n k u ph' t' H fr' m
     | .bad=>.fail "leave"
   | .code .skip::r | .code (.label _)::r | .inBlock _::r | .inScope _::r=>iX P Γ hc fn n k u ph r H fr m
   | .code (.seq x y)::r=>iX P Γ hc fn n k u ph (.code x::.code y::r) H fr m
   | .code (.block id c)::r=>iX P Γ hc fn n k u ph (.code c::.inBlock id::r) H fr m
   | .code (.scope c)::r=>iX P Γ hc fn n k u ph (.code c::.inScope c::r) H fr m
   | .code (.exit id)::r=>match exitTo id r with
     | some r'=>iX P Γ hc fn n k u ph r' H fr m
     | none=>match ph with
       | .rd L Y bg=>match uI P fn (.rd L Y bg) (some (.exit id)) H fr m with
         | .go ph' t' fr'=>iX P Γ hc fn n k u ph' t' H fr' m
         | _=>.fail "leave"
       | _=>.fail "exit"
   | .code (.cond c x y)::r=>match dB [] fr c with
     | some (.s (.bool W))=>match fQ H W with
       | .blit t=>iX P Γ hc fn n k u ph (.code (if t then x else y)::r) H fr m
       | e=>.ite e (iX P Γ hc fn n k u ph (.code x::r) (jJ true e H) fr m) (iX P Γ hc fn n k u ph (.code y::r) (jJ false e H) fr m)
     | _=>.fail "cond"
   | .code (.region id ops draw)::r =>
     if wI ops then
      if !draw&&isIt ph&&bNb ops then iX P Γ hc fn n k u ph (.inRegion ops (List.range ops.size)::r) H fr m else
      match mH P Γ (ph.nt n) ops draw H fr m with
      | some (nd,H',fr',m')=>iG nd (iX P Γ hc fn n k u ph r H' fr' m')
      | none=>match aAx P Γ hc draw (ph.nt n) ops ops.toList H fr m with
        | some c=>match fQ H c with
          | .blit _=>.fail "region (hint)"
          | _=>.ite c (iX P Γ hc fn n k u ph todo (jJ true c H) fr m) (iX P Γ hc fn n k u ph todo (jJ false c H) fr m)
        | none=>.fail "region"
     else .fail "defer"
   | .inRegion _ []::r=>iX P Γ hc fn n k u ph r H fr m
   | .inRegion ops (i::rest)::r=>match ops[i]? with
     | none=>.fail "operation"
     | some o=>match kQ H ops fr o with
       | .bad=>.fail "guard"
       | .skip=>match put (ph.nt n) fr o.dst [] .undef with
         | some fr'=>iX P Γ hc fn n k u ph (.inRegion ops rest::r) H fr' m
         | none=>.fail "put"
       | .go G=>match G.find? (fun g=>match fQ H g with | .blit _=>false | _=>true) with
         | some g=>.ite g (iX P Γ hc fn n k u ph todo (jJ true g H) fr m) (iX P Γ hc fn n k u ph todo (jJ false g H) fr m)
         | none=>.fail "guard (go)"
       | .now _=>match aAM fr o.op with
         | some l=>match ph with
           | .it L none=>if fr.all (fun f=>f.x.sc m.length)&&l.all (fun x=>x.sc m.length) then match uT n L.fr L.ps l with
             | some b8=>iX P Γ hc fn n k u (.rd L ⟨fr,.inRegion ops rest::r,o.dst,m.length⟩ false) [.code L.as,.beginRound,.code L.bd] H b8 m
             | none=>.fail "yield"
             else .fail "yield (sc)"
           | _=>.fail "yield (phase)"
         | none=>if wJ o then match eU P Γ false (ph.nt n) ops o H fr m with
           | some (nd,H',fr',m')=>iG nd (iX P Γ hc fn n k u ph (.inRegion ops rest::r) H' fr' m')
           | none=>match uA P [] fr o.op with
             | some (f,l)=>match hc f H l m with
               | some c=>match fQ H c with
                 | .blit _=>.fail "operation (hint)"
                 | _=>.ite c (iX P Γ hc fn n k u ph todo (jJ true c H) fr m) (iX P Γ hc fn n k u ph todo (jJ false c H) fr m)
               | none=>.fail "operation (call)"
             | none=>.fail "operation"
           else .fail "defer"
   | .beginRound::r=>match ph with
     | .rd L Y false=>iX P Γ hc fn n k u (.rd L Y true) r H fr m
     | _=>.fail "begin"
   | .code (.rangeFunc g ps as bd)::r=>match ph with
     | .out=>match dB [] fr g with
       | some (.s (.fn f iH))=>match P.funcs[f]? with
         | some fi=>match fi.body with
           | some c=>if aUr P f&&bCH fr&&aUe m&&bKB H m&&fr.all (fun f=>f.x.sc m.length)&&decide (iH.length+1≤fi.ntmps) then
              iX P Γ hc fn n k u (.it ⟨fr,r,m.length,ps.toList,as,bd,fi.ntmps,fi⟩ none) [.code c] H (fO (.s (.val yi)::iH.map fun p=>.s (.ptr p.1 p.2))) m
             else .fail "range"
           | none=>.fail "range"
         | none=>.fail "range"
       | _=>.fail "range"
     | _=>.fail "range"
   | .code (.loop c)::r | .inLoop c::r=>match u with
     | 0=>.fail "loop"
     | u+1=>iX P Γ hc fn n k u ph (.code c::.inLoop c::r) H (match todo with | .code _::_=>aAZ ph fr m | _=>(aAY ph fr m).1) (match todo with | .code _::_=>m | _=>(aAY ph fr m).2)
   | _=>.fail "code"
def aAN (β:dN) (ι:Loc) (m:Mem) (w:World) (b:Nat) (o:Obj):Prop:=w.heap[b]? = some o∧β.w.heap.size≤b∧∀ i,i<m.length→ι i ≠ b
structure SvF where
 fr:Fr
 a:Act
 n:Nat
 K:Nat
structure Inv (ρ:Env) (β:dN) (ι:Loc) (m:Mem) (w:World) (X:List (Nat × Obj)) (F:List SvF):Prop where
 mem:aK ρ β ι m w
 keep:∀ p ∈ X,aAN β ι m w p.1 p.2
 frs:∀ q ∈ F,aR ρ ι q.n q.fr q.a∧q.fr.all (fun f=>f.x.sc q.K)=true∧q.K≤m.length∧β.k≤q.K
section
variable {ρ:Env} {β:dN} {ι ι':Loc} {m m':Mem} {w w':World} {X:List (Nat × Obj)} {F:List SvF} {b:Nat} {o:Obj}
theorem aAN.step (h:aAN β ι m w b o) (h':aK ρ ⟨w,m.length,ι⟩ ι' m' w'):aAN β ι' m' w' b o:=by
 obtain ⟨N,O,U⟩:=h
 have hb:b<w.heap.size:=(Array.getElem?_eq_some_iff.1 N).1
 have hag:Loc.bV m.length ι' ι:=h'.agr
 have key:∀ i,i<m'.length→ι' i ≠ b:=by
  intro i hi
  by_cases hc:i<m.length
  ·rw [(hag i hc).1];exact U i hc
  ·rcases h'.new i (Nat.not_lt.1 hc) hi with hn | ⟨j,hj,hn⟩
   ·have:w.heap.size≤ι' i:=hn
    omega
   ·have hj:j<m.length:=hj
    rw [hn,(hag j hj).1];exact U j hj
 exact ⟨by rw [h'.old b hb key];exact N,O,key⟩
theorem aR.bNQ {fr:Fr} {n K:Nat} {a:Act} (hf:aR ρ ι n fr a) (hs:fr.all (fun f=>f.x.sc K)=true) (hK:K≤m.length) (h':aK ρ ⟨w,m.length,ι⟩ ι' m' w'):aR ρ ι' n fr a :=
 have hag:Loc.bV m.length ι' ι:=h'.agr
 hf.congr (Loc.bV.mono hag.symm hK) hs
theorem Inv.step (h:Inv ρ β ι m w X F) (h':aK ρ ⟨w,m.length,ι⟩ ι' m' w'):Inv ρ β ι' m' w' X F :=
 ⟨h.mem.since h',fun p hp=>(h.keep p hp).step h',fun q hq=>⟨(h.frs q hq).1.bNQ (h.frs q hq).2.1 (h.frs q hq).2.2.1 h',(h.frs q hq).2.1,Nat.le_trans (h.frs q hq).2.2.1 h'.len,(h.frs q hq).2.2.2⟩⟩
theorem aK.bAA (h:aK ρ β ι m w) (hb:β.w.heap.size≤b) (hi:∀ i,i<m.length→ι i ≠ b) (o:Obj):aK ρ β ι m (w.putObj b o):=by
 refine ⟨h.inj,fun i B hB hd hn=>?_,h.nils,h.agr,h.len,h.new,by rw [World.putObj_size];exact h.size,fun c hc hi'=>?_,h.os,h.tape,h.output,h.xt,h.xd⟩
 ·rw [World.putObj_heap_other (hi i (List.getElem?_eq_some_iff.1 hB).1)];exact h.blk i B hB hd hn
 ·rw [World.putObj_heap_other (by omega)];exact h.old c hc hi'
theorem aAN.other (h:aAN β ι m w b o) {c:Nat} (hc:b ≠ c) (o':Obj):aAN β ι m (w.putObj c o') b o :=
 ⟨by rw [World.putObj_heap_other hc];exact h.1,h.2⟩
theorem aAN.self (h:aAN β ι m w b o) (o':Obj):aAN β ι m (w.putObj b o') b o' :=
 ⟨World.putObj_heap_same (Array.getElem?_eq_some_iff.1 h.1).1,h.2⟩
theorem Inv.bAA (h:Inv ρ β ι m w ((b,o)::X) F) (hX:∀ p ∈ X,p.1 ≠ b) (o':Obj):Inv ρ β ι m (w.putObj b o') ((b,o')::X) F:=by
 have hb:=h.keep (b,o) (.head _)
 refine ⟨h.mem.bAA hb.2.1 hb.2.2 o',fun p hp=>?_,h.frs⟩
 cases hp with
 | head=>exact hb.self o'
 | tail _ hp=>exact (h.keep p (.tail _ hp)).other (hX p hp) o'
theorem Inv.bFU (h:Inv ρ β ι m w X F) {k:Nat} (hβ:β.k≤k) (hk:∀ q ∈ F,q.K≤k):Inv ρ β ι (m.take k) w X F :=
 ⟨h.mem.bFU hβ,fun p hp=>⟨(h.keep p hp).1,(h.keep p hp).2.1,fun i hi=>(h.keep p hp).2.2 i (Nat.lt_of_lt_of_le hi (by simp;omega))⟩,fun q hq=>⟨(h.frs q hq).1,(h.frs q hq).2.1,by have N:=hk q hq;have O:=(h.frs q hq).2.2.1;simp only [List.length_take];omega,(h.frs q hq).2.2.2⟩⟩
theorem Inv.tail {p:Nat × Obj} (h:Inv ρ β ι m w (p::X) F):Inv ρ β ι m w X F:=⟨h.mem,fun q hq=>h.keep q (.tail _ hq),h.frs⟩
theorem aK.bDQ {H:Hyp} (hH:H.ok ρ) (hm:aK ρ β ι m w) (h:bKB H m=true) {i:Nat} (hi:i<m.length):ι i<w.heap.size:=by
 obtain ⟨B,hB⟩:∃ B,m[i]? = some B:=⟨m[i],by simp [hi]⟩
 have N:=List.all_eq_true.1 h B (List.mem_of_getElem? hB)
 simp only [Bool.and_eq_true,Bool.not_eq_true',Bool.or_eq_true] at N
 obtain ⟨hd,O⟩:=N
 have hn:ι.nil i=false:=by
  cases hn:ι.nil i with
  | false=>rfl
  | true =>
    obtain ⟨U,h4⟩:=hm.nils i B hB hd hn
    rcases O with O | O
    ·rw [Option.isNone_iff_eq_none] at O;rw [O] at U;cases U
    ·split at O
     ·rename_i x l hs
      rw [hs,aG] at h4
      simp [Seg.cells] at h4
     ·rename_i kd z A o l hs
      have h5:=congrArg List.length h4
      have h6:=aJ hH O
      rw [hs,aG,List.length_append,Seg.cells,List.length_map,List.length_range,List.length_nil] at h5
      omega
     ·cases O
 obtain ⟨fz,rest,U,_⟩:=hm.blk i B hB hd hn
 exact (Array.getElem?_eq_some_iff.1 U).1
end
def Fin (P:Program) (f:FuncId) (R:Ending→World→Prop) (cs0:List Frame) (M:Machine):Prop :=
 ∃ e w' fr,R e w'∧Comes P M (lone fr cs0 w') e∧fr.fn=f∧fr.leaving P w' e
theorem Fin.back {P:Program} {f:FuncId} {R:Ending→World→Prop} {cs0:List Frame} {M M':Machine} (hs:Steps P M M') (h:Fin P f R cs0 M'):Fin P f R cs0 M :=
 let ⟨e,w',fr,N,O,U⟩:=h;⟨e,w',fr,N,O.of_steps hs,U⟩
theorem Fin.one {P:Program} {f:FuncId} {R:Ending→World→Prop} {cs0:List Frame} {M M':Machine} (hs:step P M=.next M') (h:Fin P f R cs0 M'):Fin P f R cs0 M:=h.back (.one hs)
def mkD (r:Nat):Deferred:={ target:=.collected r,args:=#[] }
def mks (rs:List Nat):List (Nat × Obj):=rs.map fun r=>(r,.deferred (some []))
def aSO (lp:Loop) (s:LoopState) (J:Option Code):Obj:=.loop { lp with state:=s,pending:=J }
def stJ (J:Option Code):LoopState:=if J.isNone then .ready else .done
structure LS (f:FuncId) (ρ:Env) (cs0:List Frame) (L:LI) (ρ':Env) (rs:List Nat) (l D:Nat) (lp:Loop) (aA:Act) (bA:Frame) (csI:List Frame):Prop where
 nd:(D::rs).Nodup
 ps:lp.params=L.ps.toArray
 as:lp.assign=L.as
 bd:lp.body=L.bd
 tm:lp.tmps=aA.tmps
 fn:lp.fn=f
 env:ρ'=ρ.aAd (.func (.yield l) #[] #[])
 ro:bA.roundOf=none
 bf:bA.fn=f
 kd:bA.kind=.normal
 cs:csI=bA.atR (wD aA ((D::rs).map mkD)) (.inRangeFunc l::L.k)::cs0
 ny:bCH L.fr=true
def Shape (P:Program) (f:FuncId) (n:Nat) (ρ:Env) (cs0:List Frame):Ph→Env→List (Nat × Obj)→List SvF→List Deferred→Frame→List Frame→Prop
 | .out,ρ',X,F,ds,b,cs=>∃ rs:List Nat,rs.Nodup∧X=mks rs∧F=[]∧ds=rs.map mkD∧ρ'=ρ∧b.roundOf=none∧b.fn=f∧b.kind=.normal∧cs=cs0
 | .it L J,ρ',X,F,ds,b,cs=>∃ (rs:List Nat) (l D:Nat) (lp:Loop) (aA:Act) (bA:Frame),LS f ρ cs0 L ρ' rs l D lp aA bA cs∧X=(l,aSO lp (stJ J) J)::mks (D::rs)∧F=[⟨L.fr,aA,n,L.K⟩]∧ds=[] ∧
    b.roundOf=none∧b.kind=.normal∧P.funcs[b.fn]? = some L.fi
 | .rd L Y bg,ρ',X,F,ds,b,cs=>∃ (rs:List Nat) (l D:Nat) (lp:Loop) (aA:Act) (bA:Frame) (csI:List Frame) (aI:Act) (bI:Frame) (ops:Array Oper) (i:Nat) (rest:List Nat) (r:List Item),LS f ρ cs0 L ρ' rs l D lp aA bA csI∧X=(l,aSO lp (if bg then .busy else .ready) none)::mks (D::rs) ∧
    F=[⟨Y.fr,aI,L.ni,Y.K⟩,⟨L.fr,aA,n,L.K⟩]∧ds=[]∧b.roundOf=some l∧b.kind=.normal∧bI.roundOf=none∧bI.kind=.normal∧P.funcs[bI.fn]? = some L.fi ∧
    cs=bI.atR (wD aI []) (.inRegion ops (i::rest)::r)::csI∧Y.todo=.inRegion ops rest::r∧(ops[i]?).bind (·.dst)=Y.dst
section
variable {P:Program} {Γ:Ctx} {f:FuncId} {fn:Func} {R:Ending→World→Prop} {cs0:List Frame} {ρ ρ':Env} {β:dN} {n:Nat}
theorem Shape.iV:∀ {ph:Ph} {X:List (Nat × Obj)} {F:List SvF} {ds:List Deferred} {b:Frame} {cs:List Frame},Shape P f n ρ cs0 ph ρ' X F ds b cs→ρ.iV ρ'
 | .out,_,_,_,_,_,h=>by obtain ⟨rs,_,_,_,_,rfl,_⟩:=h;exact .refl _
 | .it L J,_,_,_,_,_,h=>by obtain ⟨rs,l,D,lp,aA,bA,h,_⟩:=h;rw [h.env];exact yW _ _
 | .rd L Y bg,_,_,_,_,_,h=>by obtain ⟨rs,l,D,lp,aA,bA,csI,aI,bI,ops,i,rest,r,h,_⟩:=h;rw [h.env];exact yW _ _
theorem aEo (h:ρ.iV ρ') {l:List E} (hl:bD ρ l):bD ρ' l:=fun e he=>by rw [← aBa h];exact hl e he
theorem bNZ {ι:Loc} {m:Mem} {tmps:Array Value} (hfn:P.funcs[f]? = some fn) (hR:∀ w,aK ρ β ι m w→∃ v,(results fn tmps).run P w=.ok v w∧R (.returned v) w) :
 ∀ (rs:List Nat) (fr:Frame) (w:World),fr.mode=.returning→fr.defers=rs.map mkD→fr.tmps=tmps→fr.fn=f→fr.kind=.normal→rs.Nodup→(∀ r ∈ rs,aAN β ι m w r (.deferred (some [])))→aK ρ β ι m w →
 Fin P f R cs0 (lone fr cs0 w):=by
 intro rs
 induction rs with
 | nil =>
   intro fr w hm hd ht hf hk _ _ hmem
   obtain ⟨v,N,O⟩:=hR w hmem
   exact ⟨.returned v,w,fr,O,Steps.refl _ _,hf,hm,hd,hk,fn,by rw [hf];exact hfn,by rw [ht];exact N⟩
 | cons r rs ih =>
   intro fr w hm hd ht hf hk hnd hkp hmem
   rw [List.nodup_cons] at hnd
   have h0:=hkp r (.head _)
   refine Fin.one (step_collected (by rw [hm];exact fun h=>by cases h) hd rfl (run_takeDeferred h0.1)) ?_
   exact ih { fr with defers:=[]++rs.map mkD } _ hm rfl ht hf hk hnd.2 (fun q hq=>(hkp q (.tail _ hq)).other (fun h=>hnd.1 (show r ∈ rs by rw [← h];exact hq)) _) (hmem.bAA h0.2.1 h0.2.2 _)
theorem aUk {ι:Loc} {m:Mem} {w:World} {X:List (Nat × Obj)} {F:List SvF} {l:Nat} {o:Obj} {rs:List Nat} (h:Inv ρ' β ι m w ((l,o)::mks rs) F) (ho:∀ x,o ≠ .deferred x):∀ p ∈ mks rs,p.1 ≠ l:=by
 intro p hp he
 have N:=(h.keep (l,o) (.head _)).1
 have O:=(h.keep p (.tail _ hp)).1
 simp only [mks,List.mem_map] at hp
 obtain ⟨r,_,rfl⟩:=hp
 simp only at he O N
 subst he
 rw [O] at N
 injection N with N
 exact ho _ N.symm
def Lv.holds (P:Program) (f:FuncId) (R:Ending→World→Prop) (n:Nat) (ρ:Env) (β:dN) (cs0:List Frame) (H:Hyp) (m:Mem):Lv→Prop
 | .ret v=>∀ ι w,aK ρ β ι m w→R (fA ρ ι v) w
 | .go ph todo fr=>∀ ρ' ι a w X F ds b cs,H.ok ρ→Shape P f n ρ cs0 ph ρ' X F ds b cs→Inv ρ' β ι m w X F→aR ρ' ι (ph.nt n) fr a→Fin P f R cs0 (lone (b.atR (wD a ds) todo) cs w)
 | .bad=>False
theorem yB {ph:Ph} {J:Option Code} {H:Hyp} {fr:Fr} {m:Mem} {ι:Loc} {a:Act} {w:World} {X:List (Nat × Obj)} {F:List SvF} {ds:List Deferred} {b:Frame} {cs:List Frame} {todo:List Item}
 (hfn:P.funcs[f]? = some fn) (h:(uI P fn ph J H fr m).holds P f R n ρ β cs0 H m) (hH:H.ok ρ) (hsh:Shape P f n ρ cs0 ph ρ' X F ds b cs) (hinv:Inv ρ' β ι m w X F) (hf:aR ρ' ι (ph.nt n) fr a)
 (hret:b.roundOf=none→step P (lone (b.atR (wD a ds) todo) cs w)=.next (lone { b.atR (wD a ds) todo with mode:=.returning } cs w))
 (hrd:∀ l c cs' v w',b.roundOf=some l→b.kind=.normal→cs=c::cs'→(Instr.endRound l J).run P w=.ok v w'→step P (lone (b.atR (wD a ds) todo) cs w)=.next (lone (c.finish v) cs' w')) :
 Fin P f R cs0 (lone (b.atR (wD a ds) todo) cs w):=by
 have hlike:=hsh.iV
 unfold uI at h
 split at h
 ·-- the function itself
  obtain ⟨rs,hnd,rfl,rfl,rfl,rfl,hro,hbf,hkd,rfl⟩:=hsh
  split at h
  ·rename_i v hv
   refine Fin.one (hret hro) ?_
   refine bNZ (ρ:=ρ') (β:=β) (ι:=ι) (m:=m) (tmps:=a.tmps) hfn (fun w' hm'=>⟨_,oN hH hm' hf hv,by have:=h ι w' hm';rwa [aW (kL hv).2] at this⟩) rs _ w rfl ?_ rfl hbf hkd hnd (fun r hr=>hinv.keep (r,_) (List.mem_map.2 ⟨r,hr,rfl⟩)) hinv.mem
   show a.defers++rs.map mkD=rs.map mkD
   rw [hf.defers];rfl
  ·exact h.elim
 ·-- the function that is ranged over
  rename_i L J0
  obtain ⟨rs,l,D,lp,aA,bA,ls,rfl,rfl,rfl,hro,hkd,hbf⟩:=hsh
  split at h
  ·rename_i v hv
   split at h
   ·rename_i hmy
    refine Fin.one (hret hro) ?_
    have hres:=oN (Hyp.aAC hlike hH) hinv.mem hf hv
    have hleave:({ b.atR (wD a []) todo with mode:=.returning }:Frame).leaving P w (.returned (v.aC ρ' ι)) :=
     ⟨rfl,by show a.defers++[]=[];rw [hf.defers];rfl,hkd,L.fi,hbf,hres⟩
    have hcs:=ls.cs
    subst hcs
    refine Fin.one (step_leave_returned hleave) ?_
    rw [finish_atR_inRangeFunc]
    have hrec:w.heap[l]? = some (aSO lp (stJ J0) J0):=(hinv.keep (l,_) (.head _)).1
    have hb:({ lp with state:=stJ J0,pending:=J0 }:Loop).state ≠ .busy:=by
     unfold stJ;cases J0 <;> simp
    refine Fin.one (stepR_endRangeFunc (run_endLoop hrec hb)) ?_
    have hinv2:=(hinv.bAA (aUk (X:=[]) hinv fun x hx=>by cases hx) (.loop { lp with state:=.exhausted,pending:=J0 })).tail
    have hA:=hinv2.frs ⟨L.fr,aA,n,L.K⟩ (.head _)
    refine h ρ ι aA _ (mks (D::rs)) [] _ bA cs0 hH ⟨D::rs,ls.nd,rfl,rfl,rfl,rfl,ls.ro,ls.bf,ls.kd,rfl⟩ ?_ (hA.1.iV hlike.symm ls.ny)
    exact ⟨hinv2.mem.iV hlike.symm hmy,hinv2.keep,fun q hq=>by cases hq⟩
   ·exact h.elim
  ·exact h.elim
 ·-- a round
  rename_i L Y
  obtain ⟨rs,l,D,lp,aA,bA,csI,aI,bI,ops,i,rest,r,ls,rfl,rfl,rfl,hro,hkd,hroI,hkI,hbI,rfl,hY,hdst⟩:=hsh
  split at h
  ·rename_i fr' hp
   have hrec:w.heap[l]? = some (aSO lp .busy none):=by
    have:=(hinv.keep (l,_) (.head _)).1
    exact this
   have hend:=run_endRound (P:=P) J hrec
   refine Fin.one (hrd l _ _ _ _ hro hkd rfl hend) ?_
   rw [Frame.finish_atR,hdst]
   have hinv2:=hinv.bAA (aUk (X:=[]) hinv fun x hx=>by cases hx) (aSO lp (stJ J) J)
   have hI:=hinv2.frs ⟨Y.fr,aI,L.ni,Y.K⟩ (.head _)
   have hfr':aR ρ' ι L.ni fr' (aI.put Y.dst (.bool J.isNone)):=gY hI.1 hp (fun _=>rfl) (fun hx=>absurd (fun e he=>by cases he) hx)
   rw [zA]
   rw [hY] at h
   refine h ρ' ι (aI.put Y.dst (.bool J.isNone)) _ _ [⟨L.fr,aA,n,L.K⟩] [] bI csI hH ⟨rs,l,D,lp,aA,bA,ls,rfl,rfl,rfl,hroI,hkI,hbI⟩ ?_ hfr'
   exact ⟨hinv2.mem,hinv2.keep,fun q hq=>hinv2.frs q (.tail _ hq)⟩
  ·exact h.elim
 ·exact h.elim
theorem aGv {ι:Loc} {k:Nat}:∀ {ps:List Tmp} {l:List SV} {fr fr':Fr} {a:Act},aR ρ ι k fr a→uT k fr ps l=some fr' →
 ps.length=l.length∧aR ρ ι k fr' ⟨(ps.zip (l.map (SV.aC ρ ι))).foldl (fun tmps p=>tmps.setIfInBounds p.1 p.2) a.tmps,a.defers⟩
 | [],[],fr,fr',a,hf,h=>by
   simp only [uT,Option.some.injEq] at h;subst h
   exact ⟨rfl,hf⟩
 | t::ts,x::xs,fr,fr',a,hf,h=>by
   simp only [uT] at h
   split at h
   ·rename_i a5 hp
    have O:=gY (x:=x.aC ρ ι) hf hp (fun _=>rfl) (fun hx=>absurd (fun e he=>by cases he) hx)
    obtain ⟨U,h4⟩:=aGv O h
    exact ⟨by simp [U],h4⟩
   ·cases h
 | [],_::_,_,_,_,_,h=>by simp [uT] at h
 | _::_,[],_,_,_,_,h=>by simp [uT] at h
theorem aVq {ι:Loc} {k:Nat} {fr:Fr} {a:Act} {o:Oper} {l:List SV} {ll:Nat} {w:World} {r:Loop} (hf:aR ρ ι k fr a) (hy:ρ.vs.getD yi Go.undef=.func (.yield ll) #[] #[]) (h:aAM fr o.op=some l)
 (hr:w.heap[ll]? = some (.loop r)) (hs:l.length=r.params.size) :
 (execOp a.eval o).run P w=.ok (.round ll r.fn ((r.params.zip (l.map (SV.aC ρ ι)).toArray).foldl (fun tmps (t,a)=>tmps.setIfInBounds t a) r.tmps) r.assign r.body) w:=by
 have hG:eM ρ []:=fun e he=>by cases he
 unfold aAM at h
 split at h
 ·rename_i x args ts ho
  split at h
  ·rename_i n hx
   split at h
   ·rename_i hn
    subst hn
    have e1:args.map a.eval=(l.map (SV.aC ρ ι)).toArray:=by rw [← kK hf hG h,← Array.toList_map]
    have ex:a.eval x=.func (.yield ll) #[] #[]:=by
     rw [aQ hf hG hx];exact hy
    have:=run_yield (P:=P) (args:=(l.map (SV.aC ρ ι)).toArray) hr (by simp [hs])
    simp [execOp,ho,resolve,ex,Deferred.ofValue,invoke,e1,this,Function.comp_def]
   ·cases h
  ·cases h
 ·cases h
theorem rI {o:Oper} (h:wJ o=true):∀ c,o.op ≠ .defer c:=by
 intro c hc
 unfold wJ at h
 rw [hc] at h
 cases h
theorem wV {b:Frame} {a:Act} {k:List Item} {cs:List Frame} {w:World} {c:Code}:step P (lone (b.atR a (.code (.scope c)::k)) cs w)=.next (lone (b.atR a (.code c::.inScope c::k)) cs w) :=
 step_lone_go (by simp [stepG,stepG.exec,Frame.atR])
theorem rW {b:Frame} {a:Act} {k:List Item} {cs:List Frame} {w:World} {c:Code}:step P (lone (b.atR a (.inScope c::k)) cs w)=.next (lone (b.atR a k) cs w) :=
 step_lone_go (by simp [stepG,stepG.exec,Frame.atR])
theorem zD {f:FuncId} {w:World} (hok:aUr P f=true) (vs:Array Value):(callFunc f vs).run P w=.ok (.enter f vs) w:=by
 unfold aUr at hok
 split at hok
 ·rename_i fn hfn
  simp only [Bool.and_eq_true,Bool.not_eq_true'] at hok
  have hb:fn.body.isNone=false:=by
   cases hbb:fn.body <;> simp_all
  unfold callFunc
  rw [Sem.run_bind,run_program,Result.andThen_ok]
  simp only [hfn,hok.1,hb]
  rfl
 ·cases hok
theorem aEq {ph:Ph} {X:List (Nat × Obj)} {F:List SvF} {ds:List Deferred} {b:Frame} {cs:List Frame} {ι:Loc} {a:Act} {w:World} {fr:Fr} {m:Mem} (hsh:Shape P f n ρ cs0 ph ρ' X F ds b cs) (hinv:Inv ρ' β ι m w X F) (hf:aR ρ' ι (ph.nt n) fr a) :
 Inv ρ' β ι (aAY ph fr m).2 w X F∧aR ρ' ι (ph.nt n) (aAY ph fr m).1 a:=by
 unfold aAY
 split
 ·rename_i L J
  split
  ·split
   ·rename_i hk
    obtain ⟨rs,l,D,lp,aA,bA,ls,rfl,rfl,_⟩:=hsh
    have N:=(hinv.frs _ (.head _)).2.2.2
    exact ⟨hinv.bFU (Nat.le_trans N hk) (fun q hq=>by simp only [List.mem_singleton] at hq;subst hq;exact hk),hf.tidy.drop _⟩
   ·exact ⟨hinv,hf.tidy⟩
  ·exact ⟨hinv,hf.tidy⟩
 ·exact ⟨hinv,hf.tidy⟩
theorem bIC {I:Interp} {hc:aV} (hΓ:cA P I Γ) (hI:ρ.I=I) (hP:P.follows .mixedOrders=true) (hfn:P.funcs[f]? = some fn):∀ (k u:Nat) (ph:Ph) (todo:List Item) (H:Hyp) (fr:Fr) (m:Mem) (ρ':Env) (ι:Loc) (a:Act) (w:World) (X:List (Nat × Obj)) (F:List SvF) (ds:List Deferred) (b:Frame) (cs:List Frame),
 (iX P Γ hc fn n k u ph todo H fr m).holds P f R ρ β n []→H.ok ρ→Shape P f n ρ cs0 ph ρ' X F ds b cs→Inv ρ' β ι m w X F→aR ρ' ι (ph.nt n) fr a→Fin P f R cs0 (lone (b.atR (wD a ds) todo) cs w):=by
 intro k
 induction k with
 | zero=>intro u ph todo H fr m ρ' ι a w X F ds b cs h;exact h.elim
 | succ k ih =>
   intro u ph todo H fr m ρ' ι a w X F ds b cs h hH hsh hinv hf
   have hG:eM ρ' []:=fun e he=>by cases he
   have hlike:=hsh.iV
   have hI':ρ'.I=I:=hlike.I.symm.trans hI
   have hH':H.ok ρ':=Hyp.aAC hlike hH
   have hds:∀ {L Y bg},ph=.rd L Y bg→b.kind=.normal:=fun {L Y bg} he=>by
    subst he
    obtain ⟨rs,l,D,lp,aA,bA,csI,aI,bI,ops,i,rest,r,ls,_,_,_,_,hk,_⟩:=hsh
    exact hk
   have hleave:∀ {J:Option Code} {lv:Lv},uI P fn ph J H fr m=lv→(match lv with | .ret v=>Tree.holds P f R ρ β n [] (.ret v m) | .go ph' t' fr'=>(iX P Γ hc fn n k u ph' t' H fr' m).holds P f R ρ β n [] | .bad=>False) →
    (uI P fn ph J H fr m).holds P f R n ρ β cs0 H m:=by
    intro J lv he hl
    rw [he]
    cases lv with
    | ret v=>exact hl
    | go ph' t' fr'=>exact fun ρ2 ι2 a2 w2 X2 F2 ds2 b2 cs2 a0 c3 hi2 hf2=>ih u ph' t' H fr' m ρ2 ι2 a2 w2 X2 F2 ds2 b2 cs2 hl a0 c3 hi2 hf2
    | bad=>exact hl
   unfold iX at h
   split at h
   ·refine yB (J:=none) hfn (hleave rfl ?_) hH hsh hinv hf (fun hb=>stepR_end hb) (fun l c cs' v w' hb hk hc hr=>by subst hc;exact stepR_round_end hb hk hr)
    split at h <;> (rename_i hl;first | (simp only [hl];exact h) | exact h | (rw [hl];exact h))
   ·refine yB (J:=some .ret) hfn (hleave rfl ?_) hH hsh hinv hf (fun hb=>stepR_ret hb) (fun l c cs' v w' hb hk hc hr=>by subst hc;exact stepR_round_ret hb hk hr)
    split at h <;> (rename_i hl;first | (simp only [hl];exact h) | exact h | (rw [hl];exact h))
   ·exact Fin.one stepR_skip (ih _ _ _ _ _ _ _ _ _ _ _ _ _ _ _ h hH hsh hinv hf)
   ·exact Fin.one stepR_label (ih _ _ _ _ _ _ _ _ _ _ _ _ _ _ _ h hH hsh hinv hf)
   ·exact Fin.one stepR_inBlock (ih _ _ _ _ _ _ _ _ _ _ _ _ _ _ _ h hH hsh hinv hf)
   ·exact Fin.one rW (ih _ _ _ _ _ _ _ _ _ _ _ _ _ _ _ h hH hsh hinv hf)
   ·exact Fin.one stepR_seq (ih _ _ _ _ _ _ _ _ _ _ _ _ _ _ _ h hH hsh hinv hf)
   ·exact Fin.one stepR_block (ih _ _ _ _ _ _ _ _ _ _ _ _ _ _ _ h hH hsh hinv hf)
   ·exact Fin.one wV (ih _ _ _ _ _ _ _ _ _ _ _ _ _ _ _ h hH hsh hinv hf)
   ·rename_i id0 r0
    split at h
    ·rename_i r' hr
     exact Fin.one (stepR_exit hr) (ih _ _ _ _ _ _ _ _ _ _ _ _ _ _ _ h hH hsh hinv hf)
    ·rename_i hr
     split at h
     ·rename_i L Y bg
      refine yB (J:=some (.exit id0)) hfn (hleave rfl ?_) hH hsh hinv hf (fun hb=>?_) (fun l c cs' v w' hb hk hc hr'=>by subst hc;exact stepR_round_exit hb hk hr hr')
      ·split at h
       ·rename_i hl;simp only [hl];exact h
       ·exact h.elim
      ·obtain ⟨rs,l,D,lp,aA,bA,csI,aI,bI,ops,i,rest,r,ls,_,_,_,hk,_⟩:=hsh
       rw [hk] at hb;cases hb
     ·exact h.elim
   ·split at h
    ·rename_i W hc
     have hev:=aQ hf hG hc
     have hdec:=jP hH' W
     split at h
     ·rename_i t ht
      rw [ht,aP] at hdec
      refine Fin.one (stepR_cond (t:=t) ?_) (ih _ _ _ _ _ _ _ _ _ _ _ _ _ _ _ h hH hsh hinv hf)
      rw [lL,hev,SV.aC,S.aC,hdec]
     ·refine Fin.one (stepR_cond (t:=(fQ H W).b ρ) (by rw [lL,aBa hlike,hdec];exact hev)) ?_
      obtain ⟨N,O⟩:=h
      cases he:(fQ H W).b ρ
      ·exact ih _ _ _ _ _ _ _ _ _ _ _ _ _ _ _ (O he) (dF _ false H hH he) hsh hinv hf
      ·exact ih _ _ _ _ _ _ _ _ _ _ _ _ _ _ _ (N he) (dF _ true H hH he) hsh hinv hf
    ·exact h.elim
   ·split at h
    ·rename_i hnd
     split at h
     ·rename_i hc
      simp only [Bool.and_eq_true,Bool.not_eq_true'] at hc
      obtain ⟨⟨rfl,_⟩,_⟩:=hc
      exact Fin.one stepR_region (ih _ _ _ _ _ _ _ _ _ _ _ _ _ _ _ h hH hsh hinv hf)
     ·split at h
      ·rename_i nd H2 a5 m2 hr
       obtain ⟨hn,h⟩:=eW h
       obtain ⟨ι2,a2,w2,⟨a0,hf2,V⟩,hs⟩:=regR (b:=b) (cs:=cs) (ds:=ds) hΓ hI' hP hnd hr (aEo hlike hn) hH' hf hinv.mem.now
       exact Fin.back hs (ih _ _ _ _ _ _ _ _ _ _ _ _ _ _ _ h (Hyp.aAC hlike.symm a0) hsh (hinv.step V) hf2)
      ·split at h
       ·rename_i c _
        split at h
        ·exact h.elim
        ·obtain ⟨N,O⟩:=h
         cases he:c.b ρ
         ·exact ih _ _ _ _ _ _ _ _ _ _ _ _ _ _ _ (O he) (dF _ false H hH he) hsh hinv hf
         ·exact ih _ _ _ _ _ _ _ _ _ _ _ _ _ _ _ (N he) (dF _ true H hH he) hsh hinv hf
       ·exact h.elim
    ·exact h.elim
   ·exact Fin.one stepR_region_end (ih _ _ _ _ _ _ _ _ _ _ _ _ _ _ _ h hH hsh hinv hf)
   ·rename_i ops i rest r
    split at h
    ·exact h.elim
    ·rename_i o ho
     split at h
     ·exact h.elim
     ·rename_i hg
      split at h
      ·rename_i a5 hp
       have hw:=kG hH' hf hg
       have N:=stepR_op_skip (P:=P) (b:=b) (a:=wD a ds) (k:=r) (cs:=cs) (w:=w) (ops:=ops) (i:=i) (rest:=rest)
        (by simp only [ho,Option.map_some,Option.getD_some];exact hw)
       simp only [ho,Option.bind_some,zA] at N
       exact Fin.one N (ih _ _ _ _ _ _ _ _ _ _ _ _ _ _ _ h hH hsh hinv (gY hf hp (fun _=>rfl) (fun hx=>absurd (fun e he=>by cases he) hx)))
      ·exact h.elim
     ·split at h
      ·rename_i g _
       obtain ⟨N,O⟩:=h
       cases he:g.b ρ
       ·exact ih _ _ _ _ _ _ _ _ _ _ _ _ _ _ _ (O he) (dF _ false H hH he) hsh hinv hf
       ·exact ih _ _ _ _ _ _ _ _ _ _ _ _ _ _ _ (N he) (dF _ true H hH he) hsh hinv hf
      ·exact h.elim
     ·rename_i G hg
      obtain ⟨_,hw⟩:=jR hH' hf hg
      split at h
      ·rename_i l hy
       split at h
       ·rename_i L
        split at h
        ·rename_i hsc
         simp only [Bool.and_eq_true] at hsc
         split at h
         ·rename_i b8 hpa
          obtain ⟨rs,ll,D,lp,aA,bA,ls,rfl,rfl,rfl,hro,hkd,hbf⟩:=hsh
          have hA:=hinv.frs ⟨L.fr,aA,n,L.K⟩ (.head _)
          obtain ⟨hlen,hfr0⟩:=aGv hA.1 hpa
          have hrec:w.heap[ll]? = some (.loop { lp with state:=stJ none,pending:=none }):=(hinv.keep (ll,_) (.head _)).1
          have hx:=aVq (P:=P) (o:=o) hf (by rw [ls.env];exact aZt _ _) hy hrec (by simp [ls.ps,hlen])
          simp only [ls.ps,ls.as,ls.bd,ls.tm,ls.fn] at hx
          have hz:(L.ps.toArray.zip (l.map (SV.aC ρ' ι)).toArray).foldl (fun tmps p=>tmps.setIfInBounds p.1 p.2) aA.tmps=(L.ps.zip (l.map (SV.aC ρ' ι))).foldl (fun tmps p=>tmps.setIfInBounds p.1 p.2) aA.tmps:=by
           rw [← Array.foldl_toList,Array.toList_zip]
          have hg:=stepGR_op (P:=P) (b:=b) (a:=wD a []) (k:=r) (cs:=cs) (w:=w) (rest:=rest) ho hw
          have hnd:∀ c,o.op ≠ .defer c:=fun c hc=>by unfold aAM at hy;rw [hc] at hy;cases hy
          rw [Oper.semAt_eq _ _ _ hnd,lL] at hg
          have hst:step P (lone (b.atR (wD a []) (.inRegion ops (i::rest)::r)) cs w) =
           .next (lone (Frame.round ll f ((L.ps.zip (l.map (SV.aC ρ' ι))).foldl (fun tmps p=>tmps.setIfInBounds p.1 p.2) aA.tmps) L.as L.bd .normal) (b.atR (wD a []) (.inRegion ops (i::rest)::r)::cs) w) :=
           step_lone_go (by
            rw [hg,← hz]
            simp only [stepG.apply,Sem.runT_eq]
            simp [hx,Frame.atR])
          refine Fin.one hst ?_
          have hfrm:∀ (tm:Array Value),Frame.round ll f tm L.as L.bd .normal=({ (default:Frame) with fn:=f,kind:=.normal,roundOf:=some ll }:Frame).atR (wD ⟨tm,[]⟩ []) [.code L.as,.beginRound,.code L.bd]:=fun tm=>by
           simp [Frame.round,Frame.atR,wD]
          rw [hfrm]
          have hdA:=hA.1.defers
          simp only at hdA
          simp only [hdA] at hfr0
          refine ih u (.rd L ⟨fr,.inRegion ops rest::r,o.dst,m.length⟩ false) _ H b8 m ρ' ι _ w ((ll,aSO lp .ready none)::mks (D::rs)) [⟨fr,a,L.ni,m.length⟩,⟨L.fr,aA,n,L.K⟩] [] _ _ h hH
           ⟨rs,ll,D,lp,aA,bA,cs,a,b,ops,i,rest,r,ls,rfl,rfl,rfl,rfl,rfl,hro,hkd,hbf,rfl,rfl,by rw [ho];rfl⟩ ?_ hfr0
          exact ⟨hinv.mem,hinv.keep,fun q hq=>by
           cases hq with
           | head=>exact ⟨hf,hsc.1,Nat.le_refl _,hinv.mem.len⟩
           | tail _ hq=>exact hinv.frs q hq⟩
         ·exact h.elim
        ·exact h.elim
       ·exact h.elim
      ·split at h
       ·rename_i hnd
        split at h
        ·rename_i nd H2 a5 m2 hop
         obtain ⟨hn,h⟩:=eW h
         have N:=lQ (β:=⟨w,m.length,ι⟩) (Q:=fun _ _ _=>False) hΓ hI' hop hH' (aEo hlike hn) hinv.mem.now hf (K:=fun a' w'=>∃ ι',H2.ok ρ'∧aR ρ' ι' (ph.nt n) a5 a'∧aK ρ' ⟨w,m.length,ι⟩ ι' m2 w')
          (fun ι' a' w' a0 hf2 V=>⟨ι',a0,hf2,V⟩)
         rw [if_pos hw] at N
         obtain ⟨a2,w2,⟨ι2,a0,hf2,V⟩,hs⟩:=opR (b:=b) (k:=r) (cs:=cs) (ds:=ds) (rest:=rest) ho hw (rI hnd) (fun _ _ _ hq=>hq) (fun ⟨_,_,hq⟩=>hq) N
         exact Fin.back hs (ih _ _ _ _ _ _ _ _ _ _ _ _ _ _ _ h (Hyp.aAC hlike.symm a0) hsh (hinv.step V) hf2)
        ·split at h
         ·split at h
          ·rename_i c _
           split at h
           ·exact h.elim
           ·obtain ⟨N,O⟩:=h
            cases he:c.b ρ
            ·exact ih _ _ _ _ _ _ _ _ _ _ _ _ _ _ _ (O he) (dF _ false H hH he) hsh hinv hf
            ·exact ih _ _ _ _ _ _ _ _ _ _ _ _ _ _ _ (N he) (dF _ true H hH he) hsh hinv hf
          ·exact h.elim
         ·exact h.elim
       ·exact h.elim
   ·split at h
    ·rename_i L Y
     obtain ⟨rs,l,D,lp,aA,bA,csI,aI,bI,ops,i,rest,r,ls,rfl,hF,rfl,hro,hkd,hrest⟩:=hsh
     have hrec:w.heap[l]? = some (.loop { lp with state:=.ready,pending:=none }):=(hinv.keep (l,_) (.head _)).1
     refine Fin.one (stepR_beginRound hro (run_beginRound hrec rfl)) ?_
     exact ih u (.rd L Y true) _ H fr m ρ' ι a _ ((l,aSO lp .busy none)::mks (D::rs)) F [] b cs h hH ⟨rs,l,D,lp,aA,bA,csI,aI,bI,ops,i,rest,r,ls,rfl,hF,rfl,hro,hkd,hrest⟩
      (hinv.bAA (aUk (X:=[]) hinv fun x hx=>by cases hx) _) hf
    ·exact h.elim
   ·rename_i g ps as bd r
    split at h
    ·split at h
     ·rename_i f' iH hg
      split at h
      ·rename_i fi hfi
       split at h
       ·rename_i c hcb
        split at h
        ·rename_i hc
         simp only [Bool.and_eq_true,decide_eq_true_eq] at hc
         obtain ⟨⟨⟨⟨⟨hok,hfy⟩,hmy⟩,hom⟩,hsc⟩,hcap⟩:=hc
         obtain ⟨rs,hnd,rfl,rfl,rfl,rfl,hro,hbf,hkd,rfl⟩:=hsh
         let D:=w.heap.size
         let l:=w.heap.size+1
         let lp:Loop:={ state:=.ready,pending:=none,fn:=f,tmps:=a.tmps,params:=ps,assign:=as,body:=bd,defers:=D }
         let w1:=(w.alloc (.deferred (some []))).alloc (.loop lp)
         let yv:Value:=.func (.yield l) #[] #[]
         let cv:Array Value:=(iH.map fun p=>Value.pointer (some (addr ρ' ι p.1 p.2))).toArray
         have hlk:=yW ρ' yv
         have he:(Instr.enterLoop b.fn (wD a (rs.map mkD)).tmps ps as bd b.roundOf).run P w=.ok (l,[mkD D]) w1:=by
          rw [hbf,hro];exact run_enterLoop_outer f a.tmps ps as bd
         have hev:a.eval g=.func (.func f') #[] cv:=aQ hf hG hg
         have hres:(resolve (wD a (rs.map mkD)).eval (rangeCall g l) 0).run P w1=.ok { target:=.fn (.func f') cv,args:=#[yv] } w1:=by
          rw [lL]
          simp only [rangeCall,resolve,hev,Deferred.ofValue]
          have W:Array.map a.eval #[Operand.const (Value.func (Fn.yield l) #[] #[])]=#[yv]:=by simp [Act.eval,yv]
          rw [W]
          simp
         have hinvk:(invoke (.fn (.func f') cv) #[yv]).run P w1=.ok (.enter f' (#[yv]++cv)) w1:=by
          simp only [invoke];exact zD hok _
         refine Fin.one (stepR_rangeFunc he hres hinvk) ?_
         have hargs:(#[yv]++cv:Array Value)=((SV.s (.val yi)::iH.map fun p=>SV.s (.ptr p.1 p.2)).map (SV.aC (ρ'.aAd yv) ι)).toArray:=by
          have e1:SV.aC (ρ'.aAd yv) ι (.s (.val yi))=yv:=aZt _ _
          simp only [List.map_cons,List.map_map,e1]
          have e2:(iH.map ((SV.aC (ρ'.aAd yv) ι) ∘ fun p=>SV.s (.ptr p.1 p.2)))=iH.map fun p=>Value.pointer (some (addr ρ' ι p.1 p.2)) :=
           List.map_congr_left fun p _=>by simp only [Function.comp,SV.aC,S.aC,addr,pJ hlk]
          rw [e2]
          simp [cv]
         have hfr:=oD (ρ:=ρ'.aAd yv) (ι:=ι) (n:=fi.ntmps) (SV.s (.val yi)::iH.map fun p=>SV.s (.ptr p.1 p.2)) (by simpa using hcap)
         have hent:Frame.enter P f' (#[yv]++cv) .normal=({ (default:Frame) with fn:=f',kind:=.normal,roundOf:=none }:Frame).atR
          (wD ⟨((SV.s (.val yi)::iH.map fun p=>SV.s (.ptr p.1 p.2)).map (SV.aC (ρ'.aAd yv) ι)).toArray++Array.replicate (fi.ntmps-((SV.s (.val yi)::iH.map fun p=>SV.s (.ptr p.1 p.2)).map (SV.aC (ρ'.aAd yv) ι)).toArray.size) Go.undef,[]⟩ []) [.code c]:=by
          rw [hargs]
          simp [Frame.enter,Frame.atR,wD,hfi,hcb]
         rw [hent]
         have hbel:RowKit.Below w.heap.size w w1:=((RowKit.Below.refl _ w).alloc (Nat.le_refl _) _).alloc (by simp) _
         have hcs:({ wD a (rs.map mkD) with defers:=[mkD D]++(wD a (rs.map mkD)).defers }:Act)=wD a ((D::rs).map mkD):=by
          simp [wD,hf.defers]
         rw [hcs]
         have hltD:∀ r ∈ rs,r<D:=fun r hr=>(Array.getElem?_eq_some_iff.1 (hinv.keep (r,_) (List.mem_map.2 ⟨r,hr,rfl⟩)).1).1
         refine ih u (.it ⟨fr,r,m.length,ps.toList,as,bd,fi.ntmps,fi⟩ none) [.code c] H _ m (ρ'.aAd yv) ι _ w1 ((l,aSO lp (stJ none) none)::mks (D::rs)) [⟨fr,a,n,m.length⟩] [] _ _ h hH
          ⟨rs,l,D,lp,a,b,⟨?_,rfl,rfl,rfl,rfl,rfl,rfl,hro,hbf,hkd,rfl,hfy⟩,rfl,rfl,rfl,rfl,rfl,hfi⟩ ⟨(hinv.mem.below hbel).iV hlk hmy,fun p hp=>?_,fun q hq=>?_⟩ hfr
         ·rw [List.nodup_cons];exact ⟨fun hh=>Nat.lt_irrefl _ (hltD D hh),hnd⟩
         ·have hlt:∀ i,i<m.length→ι i<w.heap.size:=fun i hi=>aK.bDQ hH hinv.mem hom hi
          have hsz:=hinv.mem.size
          cases hp with
          | head =>
            refine ⟨?_,by show β.w.heap.size≤w.heap.size+1;omega,fun i hi=>by have:=hlt i hi;show ι i ≠ w.heap.size+1;omega⟩
            have:=World.alloc_heap_new (w.alloc (.deferred (some []))) (.loop lp)
            have e:(w.alloc (.deferred (some []))).heap.size=w.heap.size+1:=by simp
            rw [e] at this
            exact this
          | tail _ hp =>
            cases hp with
            | head =>
              refine ⟨?_,hsz,fun i hi=>by have:=hlt i hi;show ι i ≠ w.heap.size;omega⟩
              have N:=World.alloc_heap_new w (.deferred (some []))
              have O:w1.heap[w.heap.size]? = (w.alloc (.deferred (some []))).heap[w.heap.size]? := by
               show ((w.alloc (.deferred (some []))).heap.push _)[w.heap.size]? = _
               rw [Array.getElem?_push_lt (by simp)];simp
              rw [O];exact N
            | tail _ hp =>
              have hk:=hinv.keep p hp
              exact ⟨by rw [hbel.block _ (Array.getElem?_eq_some_iff.1 hk.1).1];exact hk.1,hk.2⟩
         ·simp only [List.mem_singleton] at hq;subst hq
          exact ⟨hf.iV hlk hfy,hsc,Nat.le_refl _,hinv.mem.len⟩
        ·exact h.elim
       ·exact h.elim
      ·exact h.elim
     ·exact h.elim
    ·exact h.elim
   ·split at h
    ·exact h.elim
    ·exact Fin.one stepR_loop (ih _ _ _ _ _ _ _ _ _ _ _ _ _ _ _ h hH hsh hinv (hf.aAZ _ _))
   ·split at h
    ·exact h.elim
    ·exact Fin.one stepR_inLoop (ih _ _ _ _ _ _ _ _ _ _ _ _ _ _ _ h hH hsh (aEq hsh hinv hf).1 (aEq hsh hinv hf).2)
   ·exact h.elim
end
abbrev Spec:=Hyp→List SV→Mem→Option (List E × SV × Option Mem)
structure aX (P:Program) (I:Interp) (f:FuncId) (s:Spec):Prop where
 ok:∀ H l m nd v om,s H l m=some (nd,v,om)→∀ (ρ:Env) (β:dN) (ι:Loc) (w:World),ρ.I=I→H.ok ρ→bD ρ nd→aK ρ β ι m w →
  Calls P f (l.map (SV.aC ρ ι)).toArray w fun e w'=>match om with
   | none=>e=fA ρ ι v∧aK ρ β ι m w'
   | some m'=>∃ ι',Loc.bV m.length ι ι'∧e=fA ρ ι' v∧aK ρ β ι' m' w'
def ctx (l:List (FuncId × Spec)):Ctx:=fun f=>match l.find? (fun p=>p.1 == f) with
 | some p=>p.2
 | none=>fun _ _ _=>none
theorem kP {P:Program} {I:Interp} {l:List (FuncId × Spec)} (h:∀ p ∈ l,aX P I p.1 p.2):cA P I (ctx l):=by
 constructor
 intro f H a m nd v om hs
 cases hp:l.find? (fun p=>p.1 == f) with
 | none=>simp [ctx,hp] at hs
 | some p =>
   simp only [ctx,hp] at hs
   have N:=List.find?_some hp
   have O:=List.mem_of_find?_eq_some hp
   simp only [beq_iff_eq] at N
   subst N
   exact (h p O).ok H a m nd v om hs
def trim (k:Nat) (v:SV) (m:Mem):Mem:=if v.sc k&&(m.take k).all (fun B=>B.aH.all (Seg.sc k)) then m.take k else m
def aTv (L:List Nat):List Nat→List Nat
 | []=>L
 | b::r=>aTv (if L.contains b then L else b::L) r
def reach (m:Mem):Nat→List Nat→List Nat
 | 0,L=>L
 | f+1,L =>
   let L':=aTv L (L.flatMap fun b=>match m[b]? with
    | some B=>if B.dead then [] else B.aH.flatMap tC
    | none=>[])
   if L'.length=L.length then L else reach m f L'
def aSf (k:Nat) (v:SV) (m:Mem):List Nat :=
 let R:=reach m 8 (aTv (List.range k) (aGy v))
 List.range k++((List.range m.length).drop k).filter fun b=>R.contains b
def bCJ (m:Mem) (π:List Nat):List Nat:=(List.range m.length).map fun b=>π.idxOf b
def gcM (m:Mem) (π:List Nat):Mem:=π.filterMap fun i=>(m[i]?).map fun B=>{ B with aH:=B.aH.map (mI (bCJ m π)) }
def gc (k:Nat) (v:SV) (m:Mem):SV × Mem :=
 if m.length≤k then (v,m) else
 if (aSf k v m).length<m.length&&aHY k (aSf k v m) m (gcM m (aSf k v m))&&decide (v=lJ (aSf k v m) (lJ (bCJ m (aSf k v m)) v)) then (lJ (bCJ m (aSf k v m)) v,gcM m (aSf k v m)) else (v,m)
def aUh (e:E) (x y:SV):Option SV:=match gX x,gX y with
 | none,none=>(match aCL e x y with
   | some z=>if dL z then none else some z
   | none=>none)
 | some a,some b=>(match aCJ e a b with
   | some (.ifc t k z)=>some (aDd (.ifc t k z))
   | _=>none)
 | _,_=>none
theorem aGj {e:E} {ρ:Env} {ι:Loc} {x y z:SV} (h:aUh e x y=some z):fA ρ ι z=if e.b ρ then fA ρ ι x else fA ρ ι y:=by
 unfold aUh at h
 split at h
 ·rename_i hx hy
  split at h
  ·rename_i z' hz
   split at h
   ·cases h
   ·rename_i hp
    simp only [Option.some.injEq] at h;subst h
    rw [aW (by simpa using hp),aW (show dL x=false by simp [dL,hx]),aW (show dL y=false by simp [dL,hy]),yG hz]
    split <;> rfl
  ·cases h
 ·rename_i a b hx hy
  split at h
  ·rename_i t k w hz
   simp only [Option.some.injEq] at h;subst h
   rw [gS (yP t k w),gS hx,gS hy,yF hz]
   split <;> rfl
  ·cases h
 ·cases h
def eZ (k:Nat):Tree→Option (List E × SV × Mem)
 | .ret v m=>some ([],if dL v then (v,trim k v m) else gc k v (trim k v m))
 | .need c t=>(eZ k t).map fun r=>(c::r.1.map (imp [c]),r.2)
 | .ite c t e=>match eZ k t,eZ k e with
   | some (a3,v1,m1),some (Z,v2,m2)=>match aUh c v1 v2,gU c m1 m2 with
     | some v,some m=>some (lZ (a3.map (imp [c]))++lZ (Z.map (imp [mkNot c])),v,m)
     | _,_=>none
   | _,_=>none
 | _=>none
section
variable {P:Program} {I:Interp} {Γ:Ctx} {f:FuncId} {fn:Func} {ρ:Env} {β:dN} {n:Nat} {H:Hyp} {ι:Loc} {w:World} {m:Mem}
theorem aK.trim (h:aK ρ β ι m w) {k:Nat} (hk:β.k≤k) (v:SV):aK ρ β ι (trim k v m) w:=by
 unfold Sx.trim
 split
 ·have at_:∀ {i:Nat} {B:Blk},(m.take k)[i]? = some B→m[i]? = some B:=by
   intro i B hB
   rw [List.getElem?_take] at hB
   split at hB
   ·exact hB
   ·cases hB
  refine ⟨fun i j B C hB hC=>h.inj i j B C (at_ hB) (at_ hC),fun i B hB=>h.blk i B (at_ hB),fun i B hB=>h.nils i B (at_ hB),h.agr,by have:=h.len;simp;omega,fun i N O=>h.new i N (Nat.lt_of_lt_of_le O (by simp;omega)),h.size,fun b hb hi=>h.old b hb fun i hi'=>?_,h.os,h.tape,h.output,h.xt,fun i j a n' c' hv h0 q hq=>h.xd i j a n' c' hv h0 q (Nat.lt_of_lt_of_le hq (by simp;omega))⟩
  by_cases hc:i<(m.take k).length
  ·exact hi i hc
  ·have N:k≤i:=by simp at hc;omega
   rcases h.new i (Nat.le_trans hk N) hi' with hn | ⟨j,hj,hn⟩
   ·omega
   ·rw [hn];exact hi j (by have:=h.len;simp;omega)
 ·exact h
theorem gc_ok {K:Nat} {v:SV} (hK:β.k≤K) (hm:aK ρ β ι m w):∃ ι',aK ρ β ι' (gc K v m).2 w∧(gc K v m).1.aC ρ ι'=v.aC ρ ι:=by
 unfold gc
 split
 ·exact ⟨ι,hm,rfl⟩
 ·split
  ·rename_i hc
   simp only [Bool.and_eq_true,decide_eq_true_eq] at hc
   refine ⟨piv (aSf K v m) ι,aGz hK hc.1.2 hm,?_⟩
   simp only
   rw [← aAE,← hc.2]
  ·exact ⟨ι,hm,rfl⟩
theorem bEL {π:List Nat} {v:SV} (h:dL v=false):dL (lJ π v)=false:=by
 cases hp:gX (lJ π v) with
 | none=>simp [dL,hp]
 | some x =>
   obtain ⟨⟨t,k,e,rfl⟩,he⟩:=pT hp
   exfalso
   cases v with
   | s y=>simp [lJ,aDd] at he
   | agg l=>simp [lJ,aDd] at he
   | junk=>simp [lJ,aDd] at he
   | tup l =>
     simp only [lJ,aDd,SV.tup.injEq] at he
     rcases l with _ | ⟨⟨b1,l1⟩,_ | ⟨⟨b2,l2⟩,_ | ⟨q,l⟩⟩⟩
     ·simp at he
     ·simp at he
     ·simp only [List.map_cons,List.map_nil,List.cons.injEq,Prod.mk.injEq,and_true] at he
      obtain ⟨⟨rfl,N⟩,rfl,O⟩:=he
      rcases l1 with _ | ⟨y1,_ | ⟨z1,l1⟩⟩
      ·simp at N
      ·rcases l2 with _ | ⟨y2,_ | ⟨z2,l2⟩⟩
       ·simp at O
       ·simp only [List.map_cons,List.map_nil,List.cons.injEq,and_true] at N O
        cases y1 <;> simp only [mI,reduceCtorEq,Seg.one.injEq] at N
        cases y2 <;> simp only [mI,reduceCtorEq,Seg.one.injEq] at O
        rename_i s1 s2
        cases s1 <;> simp only [aUK,reduceCtorEq,S.val.injEq] at N
        cases s2 <;> simp only [aUK,reduceCtorEq,S.ifc.injEq] at O
        obtain ⟨rfl,rfl,rfl⟩:=O
        subst N
        simp [dL,gX,pk] at h
       ·simp at O
      ·simp at N
     ·simp at he
theorem bNx {k:Nat} {v:SV} (h:dL v=false):dL (gc k v m).1=false:=by
 unfold gc
 split
 ·exact h
 ·split
  ·exact bEL h
  ·exact h
theorem qL {bs:List Item} {t:Tree} {K:Nat} (hK:β.k≤K):∀ {nd:List E} {v:SV} {m':Mem} {R:Ending→World→Prop},eZ K t=some (nd,v,m')→bD ρ nd →
 (∀ ι w,aK ρ β ι m' w→R (fA ρ ι v) w)→t.holds P f R ρ β n bs:=by
 induction t with
 | ret v m =>
   intro nd v' m' R h hn hR
   simp only [eZ,Option.some.injEq,Prod.mk.injEq] at h
   obtain ⟨rfl,h⟩:=h
   intro ι w hm
   split at h
   ·simp only [Prod.mk.injEq] at h
    obtain ⟨rfl,rfl⟩:=h
    exact hR ι w (hm.trim hK v)
   ·rename_i hp
    simp only [Bool.not_eq_true] at hp
    obtain ⟨ι',N,O⟩:=gc_ok (v:=v) hK (hm.trim hK v)
    have U:=bNx (k:=K) (m:=trim K v m) hp
    rw [h] at N O U
    have:=hR ι' w N
    rw [aW U] at this
    rw [aW hp,← O]
    exact this
 | need c t ih =>
   intro nd v' m' R h hn hR
   simp only [eZ,Option.map_eq_some_iff,Prod.mk.injEq] at h
   obtain ⟨⟨nd',v2,m2⟩,hr,rfl,rfl,rfl⟩:=h
   have hc:=hn c (.head _)
   exact ⟨hc,fun _=>ih hr (gO (fun e he=>hn e (.tail _ he)) (fun g hg=>by simp only [List.mem_singleton] at hg;subst hg;exact hc)) hR⟩
 | ite c t e iht ihe =>
   intro nd v' m' R h hn hR
   simp only [eZ] at h
   split at h
   ·rename_i a3 v1 m1 Z v2 m2 N O
    split at h
    ·rename_i v m hv hm
     simp only [Option.some.injEq,Prod.mk.injEq] at h
     obtain ⟨rfl,rfl,rfl⟩:=h
     obtain ⟨a6,a7⟩:=bZ hn
     refine ⟨fun hc=>iht N (gO (fE a6) (fun g hg=>by simp only [List.mem_singleton] at hg;subst hg;exact hc)) fun ι w hmr=>?_,
      fun hc=>ihe O (gO (fE a7) (fun g hg=>by simp only [List.mem_singleton] at hg;subst hg;rw [bR,hc];rfl)) fun ι w hmr=>?_⟩
     ·have:=hR ι w (fV hm (by rw [hc];exact hmr))
      rw [aGj (ρ:=ρ) (ι:=ι) hv,hc] at this
      exact this
     ·have:=hR ι w (fV hm (by rw [hc];exact hmr))
      rw [aGj (ρ:=ρ) (ι:=ι) hv,hc] at this
      exact this
    ·cases h
   ·cases h
 | stop=>intro nd v' m' R h;simp [eZ] at h
 | again=>intro nd v' m' R h;simp [eZ] at h
 | fail=>intro nd v' m' R h;simp [eZ] at h
end
structure DF where
 f:FuncId
 l:List SV
def DF.rep (P:Program) (ρ:Env) (ι:Loc) (d:DF) (D:Deferred):Prop :=
 aUr P d.f=true∧∃ cap dargs,D={ target:=.fn (.func d.f) cap,args:=dargs }∧dargs++cap=(d.l.map (SV.aC ρ ι)).toArray
def aHt (P:Program) (fr:Fr):Op→Option DF
 | .defer ⟨.value x,args,_⟩=>match dB [] fr x,qE [] fr args.toList with
   | some (.s (.fn f iH)),some l=>if aUr P f then some ⟨f,l++iH.map fun p=>.s (.ptr p.1 p.2)⟩ else none
   | _,_=>none
 | _=>none
def bEt:Nat→List Item→List Item
 | 0,t=>t
 | k+1,t=>match t with
   | .code (.seq x y)::r=>bEt k (.code x::.code y::r)
   | t=>t
def bIc:List Item→Option (Tmp × List Item)
 | .code (.region _ ops false)::r=>match ops.toList with
   | [o]=>match o.op,o.guard,o.dst with
     | .call ⟨.builtin .recover,_,_⟩,none,some t=>some (t,r)
     | _,_,_=>none
   | _=>none
 | _=>none
def aUO (P:Program) (Γ:Ctx) (hc:aV) (fuel loops:Nat) (d:DF) (md:Option S) (H:Hyp) (m:Mem):Option (List E × Mem × Option S) :=
 match P.funcs[d.f]? with
 | none=>none
 | some fn=>match fn.body with
   | none=>none
   | some c=>if decide (d.l.length≤fn.ntmps) then
      match bIc (bEt 4 [.code c]) with
      | some (t,rest)=>if decide (t<fn.ntmps) then
         match eZ m.length (run P Γ hc fn fn.ntmps [] fuel loops none rest H (⟨t,[],.s (md.getD .nilIface)⟩::fO d.l) m) with
         | some (nd,v,m')=>if dL v then none else some (nd,m',none)
         | none=>none
        else none
      | none=>match eZ m.length (run P Γ hc fn fn.ntmps [] fuel loops none [.code c] H (fO d.l) m) with
        | some (nd,v,m')=>if dL v then none else some (nd,m',md)
        | none=>none
     else none
def dsc (ds:List DF) (m:Mem):Bool:=ds.all fun d=>d.l.all fun x=>x.sc m.length
def uH (P:Program) (Γ:Ctx) (hc:aV) (fn:Func) (fuel loops:Nat):List DF→Option S→Hyp→Fr→Mem→Tree
 | [],none,H,fr,m=>match rP P H fr m fn.results.toList with
   | some v=>.ret v m
   | none=>.fail "results"
 | [],some x,H,fr,m=>match x with
   | .ifc t k e=>.ret (aDd (.ifc t k e)) m
   | _=>.fail "panic"
 | d::ds,md,H,fr,m=>match aUO P Γ hc fuel loops d md H m with
   | some (nd,m',md')=>if fr.all (fun f=>f.x.sc m.length)&&dsc ds m then iG (lZ nd) (uH P Γ hc fn fuel loops ds md' H fr m') else .fail "deferred (sc)"
   | none=>.fail "deferred"
def mK (P:Program) (Γ:Ctx) (hc:aV) (fn:Func) (n fuel loops:Nat):Nat→List DF→List Item→Hyp→Fr→Mem→Tree
 | 0,_,_,_,_,_=>.fail "fuel"
 | k+1,ds,todo,H,fr,m =>
   match todo with
   | [] | .code .ret::_=>uH P Γ hc fn fuel loops ds none H fr m
   | .code .skip::r | .code (.label _)::r | .inBlock _::r | .inScope _::r=>mK P Γ hc fn n fuel loops k ds r H fr m
   | .code (.seq x y)::r=>mK P Γ hc fn n fuel loops k ds (.code x::.code y::r) H fr m
   | .code (.block id c)::r=>mK P Γ hc fn n fuel loops k ds (.code c::.inBlock id::r) H fr m
   | .code (.scope c)::r=>mK P Γ hc fn n fuel loops k ds (.code c::.inScope c::r) H fr m
   | .code (.exit id)::r=>match exitTo id r with
     | some r'=>mK P Γ hc fn n fuel loops k ds r' H fr m
     | none=>.fail "exit"
   | .code (.cond c x y)::r=>match dB [] fr c with
     | some (.s (.bool W))=>match fQ H W with
       | .blit t=>mK P Γ hc fn n fuel loops k ds (.code (if t then x else y)::r) H fr m
       | e=>.ite e (mK P Γ hc fn n fuel loops k ds (.code x::r) (jJ true e H) fr m) (mK P Γ hc fn n fuel loops k ds (.code y::r) (jJ false e H) fr m)
     | _=>.fail "cond"
   | .code (.region id ops draw)::r =>
     match (if wI ops&&dsc ds m then mH P Γ n ops draw H fr m else none) with
     | some (nd,H',fr',m')=>iG nd (mK P Γ hc fn n fuel loops k ds r H' fr' m')
     | none=>if draw then .fail "region" else mK P Γ hc fn n fuel loops k ds (.inRegion ops (List.range ops.size)::r) H fr m
   | .inRegion _ []::r=>mK P Γ hc fn n fuel loops k ds r H fr m
   | .inRegion ops (i::rest)::r=>match ops[i]? with
     | none=>.fail "operation"
     | some o=>match kQ H ops fr o with
       | .bad=>.fail "guard"
       | .skip=>match put n fr o.dst [] .undef with
         | some fr'=>mK P Γ hc fn n fuel loops k ds (.inRegion ops rest::r) H fr' m
         | none=>.fail "put"
       | .go G=>match G.find? (fun g=>match fQ H g with | .blit _=>false | _=>true) with
         | some g=>.ite g (mK P Γ hc fn n fuel loops k ds todo (jJ true g H) fr m) (mK P Γ hc fn n fuel loops k ds todo (jJ false g H) fr m)
         | none=>.fail "guard (go)"
       | .now _=>match aHt P fr o.op with
         | some d=>if o.dst.isNone then mK P Γ hc fn n fuel loops k (d::ds) (.inRegion ops rest::r) H fr m else .fail "defer"
         | none=>if wJ o then match eU P Γ false n ops o H fr m with
           | some (nd,H',fr',m')=>if dsc ds m then iG nd (mK P Γ hc fn n fuel loops k ds (.inRegion ops rest::r) H' fr' m') else .fail "sc"
           | none=>match uA P [] fr o.op with
             | some (f,l)=>match Γ f H l m with
               | some (nd,v,om)=>match gX v with
                 | some x=>if fr.all (fun f=>f.x.sc m.length)&&dsc ds m then iG (lZ nd) (uH P Γ hc fn fuel loops ds (some x) H fr (om.getD m)) else .fail "sc"
                 | none=>.fail "operation (call)"
               | none=>match hc f H l m with
                 | some c=>match fQ H c with
                   | .blit _=>.fail "operation (hint)"
                   | _=>.ite c (mK P Γ hc fn n fuel loops k ds todo (jJ true c H) fr m) (mK P Γ hc fn n fuel loops k ds todo (jJ false c H) fr m)
                 | none=>.fail "operation (call)"
             | none=>.fail "operation"
           else .fail "defer"
   | _=>.fail "code"
def bHx (md:Option S):Prop:=md=none∨∃ t k e,md=some (.ifc t k e)
def jX (ρ:Env) (ι:Loc):Option S→FrameMode
 | none=>.returning
 | some x=>.panicking [aUv (x.aC ρ ι)]
theorem bAs {ρ:Env} {ι ι':Loc} {md:Option S} (h:bHx md):jX ρ ι md=jX ρ ι' md:=by
 rcases h with rfl | ⟨t,k,e,rfl⟩ <;> rfl
theorem aEh {ρ:Env} {ι:Loc} (md:Option S):settle (jX ρ ι md)=jX ρ ι md:=by
 cases md <;> rfl
theorem aUm {ρ:Env} {ι:Loc} (md:Option S):jX ρ ι md ≠ .run:=by
 cases md <;> (intro h;cases h)
def aDl (P:Program) (ρ:Env) (ι:Loc):List DF→List Deferred→Prop
 | [],[]=>True
 | d::ds,D::Ds=>d.rep P ρ ι D∧aDl P ρ ι ds Ds
 | _,_=>False
theorem rF {ρ:Env} {ι ι':Loc} {n:Nat} (h:Loc.bV n ι ι'):∀ {l:List SV},l.all (fun x=>x.sc n)=true→l.map (SV.aC ρ ι)=l.map (SV.aC ρ ι')
 | [],_=>rfl
 | x::l,hl=>by
   simp only [List.all_cons,Bool.and_eq_true] at hl
   rw [List.map_cons,List.map_cons,SV.jN h hl.1,rF h hl.2]
theorem jF {P:Program} {ρ:Env} {ι ι':Loc} {n:Nat} (h:Loc.bV n ι ι'):∀ {ds:List DF} {Ds:List Deferred},ds.all (fun d=>d.l.all fun x=>x.sc n)=true→aDl P ρ ι ds Ds→aDl P ρ ι' ds Ds
 | [],[],_,_=>trivial
 | d::ds,D::Ds,hs,hr=>by
   simp only [List.all_cons,Bool.and_eq_true] at hs
   obtain ⟨⟨N,cap,dargs,O,U⟩,hr⟩:=hr
   exact ⟨⟨N,cap,dargs,O,by rw [U,rF h hs.1]⟩,jF h hs.2 hr⟩
 | [],_::_,_,hr=>hr.elim
 | _::_,[],_,hr=>hr.elim
section
variable {P:Program} {I:Interp} {Γ:Ctx} {f:FuncId} {fn:Func} {ρ:Env} {β:dN} {n:Nat} {H:Hyp} {ι:Loc} {w:World} {m:Mem} {fr:Fr} {a:Act} {R:Ending→World→Prop} {hc:aV}
theorem aTL (hf:aR ρ ι n fr a) {o:Oper} {d:DF} (h:aHt P fr o.op=some d):∃ D,(execOp a.eval o).run P w=.ok (.defer D) w∧d.rep P ρ ι D:=by
 have hG:eM ρ []:=fun e he=>by cases he
 unfold aHt at h
 split at h
 ·rename_i x args ts ho
  split at h
  ·rename_i f iH l hx hl
   split at h
   ·rename_i hok
    simp only [Option.some.injEq] at h;subst h
    refine ⟨{ target:=.fn (.func f) (iH.map fun p=>.pointer (some (addr ρ ι p.1 p.2))).toArray,args:=args.map a.eval },?_,hok,_,_,rfl,?_⟩
    ·simp [execOp,ho,resolve,aQ hf hG hx,SV.aC,S.aC,Deferred.ofValue]
    ·have e1:args.map a.eval=(l.map (SV.aC ρ ι)).toArray:=by
      apply Array.ext'
      simp only [Array.toList_map]
      exact kK hf hG hl
     rw [e1]
     simp [SV.aC,S.aC,Function.comp_def]
   ·cases h
  ·cases h
 ·cases h
theorem aSX (hΓ:cA P I Γ) (hI:ρ.I=I) (hP:P.follows .mixedOrders=true) (hfn:P.funcs[f]? = some fn) {k u:Nat} {todo:List Item} {nd:List E} {v:SV} {m':Mem}
 (hcol:eZ m.length (run P Γ hc fn n [] k u none todo H fr m)=some (nd,v,m')) (hp:dL v=false) (hn:bD ρ nd) (hH:H.ok ρ) (hm:aK ρ β ι m w) (hf:aR ρ ι n fr a) :
 nO P f (fun e w'=>(∃ x,e=.returned x)∧∃ ι',Loc.bV m.length ι ι'∧aK ρ β ι' m' w') todo a w:=by
 have:=aUP (β:=⟨w,m.length,ι⟩) (bs:=[]) (R:=fun e w'=>(∃ x,e=.returned x)∧∃ ι',Loc.bV m.length ι ι'∧aK ρ β ι' m' w') hΓ hI hP hfn k u none todo H fr m ι a w
  (qL (Nat.le_refl _) hcol hn fun ι' w' h'=>⟨⟨_,aW hp⟩,ι',h'.agr.symm,hm.since h'⟩) (fun _ hb=>by cases hb) hH hf hm.now
 simpa using this
theorem aDg:∀ (k:Nat) (t:List Item) (b:Frame) (cs:List Frame),Steps P (lone (b.at a t) cs w) (lone (b.at a (bEt k t)) cs w)
 | 0,t,b,cs=>by unfold bEt;exact Steps.refl _ _
 | k+1,t,b,cs=>by
   unfold bEt
   split
   ·exact .head step_seq (aDg k _ b cs)
   ·exact Steps.refl _ _
theorem bId {t rest:List Item} {tm:Tmp} (h:bIc t=some (tm,rest)):∃ id ops o args ts,t=.code (.region id ops false)::rest∧ops.toList=[o]∧o.op=.call ⟨.builtin .recover,args,ts⟩∧o.guard=none∧o.dst=some tm:=by
 unfold bIc at h
 split at h
 ·rename_i id ops r
  split at h
  ·rename_i o ho
   split at h
   ·rename_i args ts t' N O U
    simp only [Option.some.injEq,Prod.mk.injEq] at h
    obtain ⟨rfl,rfl⟩:=h
    exact ⟨_,_,_,_,_,rfl,ho,N,O,U⟩
   ·cases h
  ·cases h
 ·cases h
theorem bAM {t rest:List Item} {tm:Tmp} (h:bIc t=some (tm,rest)) (b:Frame) (hb:b.kind=.deferred) (hr:b.roundOf=none) (c:Frame) (cs:List Frame) (md:Option S) (hc:c.mode=jX ρ ι md) :
 ∃ u',settle u'=.returning∧Steps P (lone (b.at a t) (c::cs) w) (lone (b.at (a.put (some tm) ((S.aC ρ ι (md.getD .nilIface)))) rest) ({ c with mode:=u' }::cs) w):=by
 obtain ⟨id,ops,o,args,ts,rfl,hops,hop,hg,hd⟩:=bId h
 have hsz:ops.size=1:=by rw [← Array.length_toList,hops];rfl
 have h0:ops[0]? = some o:=by
  have:ops.toList[0]? = some o:=by rw [hops];rfl
  simpa using this
 have hw:Region.wanted o (yielded ops a.tmps)=true:=by unfold Region.wanted;rw [hg]
 have hex:(execOp a.eval o).run P w=.ok .recover w:=by
  simp only [execOp,hop,resolve,Sem.run_bind,Sem.run_pure,Result.andThen_ok,invoke,builtin]
 let u':FrameMode:=match md with | none=>.returning | some x=>.panicking [{ v:=x.aC ρ ι,recovered:=true }]
 let v:=S.aC ρ ι (md.getD .nilIface)
 have hq:wpOpsS P ops (fun e a' cs' w'=>e=.normal∧a'=a.put (some tm) v∧cs'={ c with mode:=u' }::cs∧w'=w) [0] a (c::cs) w:=by
  simp only [wpOpsS,h0]
  rw [if_pos hw,hex]
  cases md with
  | none =>
    have:recoverD (c::cs)=none:=by simp [recoverD,hc,jX]
    simp only [this]
    refine ⟨trivial,by rw [hd];rfl,?_,trivial⟩
    show c::cs={ c with mode:=.returning }::cs
    have:c.mode=.returning:=hc
    rw [← this]
  | some x =>
    have:recoverD (c::cs)=some (x.aC ρ ι,{ c with mode:=.panicking [{ v:=x.aC ρ ι,recovered:=true }] }::cs):=by simp [recoverD,hc,jX,aUv]
    simp only [this]
    exact ⟨trivial,by rw [hd];rfl,rfl,trivial⟩
 obtain ⟨e,a',cs',w',⟨rfl,rfl,rfl,hw'⟩,harr⟩:=wp_opsS [0] a (c::cs) w hq b rest hb hr
 rw [hw'] at harr
 refine ⟨u',?_,?_⟩
 ·cases md <;> rfl
 ·have N:step P (lone (b.at a (.code (.region id ops false)::rest)) (c::cs) w)=.next (lone (b.at a (.inRegion ops [0]::rest)) (c::cs) w):=by
   have:=step_region (P:=P) (b:=b) (a:=a) (k:=rest) (cs:=c::cs) (w:=w) (id:=id) (ops:=ops)
   rw [hsz] at this
   exact this
  exact .head N harr
theorem bAT (hΓ:cA P I Γ) (hI:ρ.I=I) (hP:P.follows .mixedOrders=true) {k u:Nat} {d:DF} {D:Deferred} {md md':Option S} {nd:List E} {m':Mem}
 (h:aUO P Γ hc k u d md H m=some (nd,m',md')) (hmd:bHx md) (hH:H.ok ρ) (hn:bD ρ nd) (hm:aK ρ β ι m w) (hd:d.rep P ρ ι D) :
 bHx md'∧∃ cap dargs args,D={ target:=.fn (.func d.f) cap,args:=dargs }∧(invoke (.fn (.func d.f) cap) dargs).run P w=.ok (.enter d.f args) w ∧
  CallsD P d.f args (jX ρ ι md) w fun e u' w'=>(∃ x,e=.returned x)∧∃ ι',Loc.bV m.length ι ι'∧settle u'=jX ρ ι' md'∧aK ρ β ι' m' w':=by
 obtain ⟨hok,cap,dargs,rfl,hargs⟩:=hd
 have hinv:(invoke (.fn (.func d.f) cap) dargs).run P w=.ok (.enter d.f (d.l.map (SV.aC ρ ι)).toArray) w:=by
  rw [← hargs]
  simp only [invoke]
  exact zD hok _
 have hG:eM ρ []:=fun e he=>by cases he
 unfold aUO at h
 split at h
 ·cases h
 rename_i fn hfn
 split at h
 ·cases h
 rename_i c hcb
 split at h
 case isFalse=>cases h
 rename_i hl
 simp only [decide_eq_true_eq] at hl
 have henter:Frame.enter P d.f (d.l.map (SV.aC ρ ι)).toArray .deferred=({ (default:Frame) with fn:=d.f,kind:=.deferred }:Frame).at { tmps:=(d.l.map (SV.aC ρ ι)).toArray++Array.replicate (fn.ntmps-(d.l.map (SV.aC ρ ι)).toArray.size) Go.undef,defers:=[] } [.code c]:=by
  simp [Frame.enter,Frame.at,hfn,hcb]
 split at h
 ·rename_i t rest hrec
  split at h
  case isFalse=>cases h
  rename_i ht
  simp only [decide_eq_true_eq] at ht
  split at h
  ·rename_i nd' v m2 hcol
   split at h
   ·cases h
   rename_i hp
   simp only [Bool.not_eq_true] at hp
   simp only [Option.some.injEq,Prod.mk.injEq] at h
   obtain ⟨rfl,rfl,rfl⟩:=h
   refine ⟨.inl rfl,cap,dargs,_,rfl,hinv,?_⟩
   intro c0 cs hu
   have hs1:=aDg (P:=P) (a:={ tmps:=(d.l.map (SV.aC ρ ι)).toArray++Array.replicate (fn.ntmps-(d.l.map (SV.aC ρ ι)).toArray.size) Go.undef,defers:=[] }) (w:=w) 4 [.code c] ({ (default:Frame) with fn:=d.f,kind:=.deferred }:Frame) (c0::cs)
   obtain ⟨u',hset,c3⟩:=bAM (P:=P) (a:={ tmps:=(d.l.map (SV.aC ρ ι)).toArray++Array.replicate (fn.ntmps-(d.l.map (SV.aC ρ ι)).toArray.size) Go.undef,defers:=[] }) (w:=w) hrec ({ (default:Frame) with fn:=d.f,kind:=.deferred }:Frame) rfl rfl c0 cs md hu
   have hfr:aR ρ ι fn.ntmps (⟨t,[],.s (md.getD .nilIface)⟩::fO d.l) (({ tmps:=(d.l.map (SV.aC ρ ι)).toArray++Array.replicate (fn.ntmps-(d.l.map (SV.aC ρ ι)).toArray.size) Go.undef,defers:=[] }:Act).put (some t) (S.aC ρ ι (md.getD .nilIface))) :=
    gY (oD d.l hl) (dst:=some t) (g:=[]) (v:=.s (md.getD .nilIface)) (by simp [put,ht]) (fun _=>rfl) (fun hx=>absurd hG hx)
   obtain ⟨e,w',fr',⟨⟨x,rfl⟩,ι',hag,hm'⟩,hcm,hff,hlv⟩:=aSX hΓ hI hP hfn hcol hp hn hH hm hfr ({ (default:Frame) with fn:=d.f,kind:=.deferred }:Frame) ({ c0 with mode:=u' }::cs) rfl (.inr rfl)
   refine ⟨_,u',w',fr',⟨⟨x,rfl⟩,ι',hag,hset,hm'⟩,?_,hlv.2.2.1,rB hlv⟩
   rw [henter]
   exact Comes.of_steps (Steps.trans hs1 c3) hcm
  ·cases h
 ·split at h
  ·rename_i nd' v m2 hcol
   split at h
   ·cases h
   rename_i hp
   simp only [Bool.not_eq_true] at hp
   simp only [Option.some.injEq,Prod.mk.injEq] at h
   obtain ⟨rfl,rfl,rfl⟩:=h
   refine ⟨hmd,cap,dargs,_,rfl,hinv,?_⟩
   intro c0 cs hu
   obtain ⟨e,w',fr',⟨⟨x,rfl⟩,ι',hag,hm'⟩,hcm,hff,hlv⟩:=aSX hΓ hI hP hfn hcol hp hn hH hm (oD d.l hl) ({ (default:Frame) with fn:=d.f,kind:=.deferred }:Frame) (c0::cs) rfl (.inr rfl)
   refine ⟨_,jX ρ ι md,w',fr',⟨⟨x,rfl⟩,ι',hag,by rw [aEh,bAs hmd],hm'⟩,?_,hlv.2.2.1,rB hlv⟩
   rw [henter]
   have:({ c0 with mode:=jX ρ ι md }:Frame)=c0:=by rw [← hu]
   rw [this]
   exact hcm
  ·cases h
theorem sU (hΓ:cA P I Γ) (hI:ρ.I=I) (hP:P.follows .mixedOrders=true) {k u:Nat}:∀ (ds:List DF) (md:Option S) (m:Mem) (ι:Loc) (w:World) (Ds:List Deferred),bHx md →
 (uH P Γ hc fn k u ds md H fr m).holds P f R ρ β n []→H.ok ρ→aR ρ ι fn.ntmps fr a→aK ρ β ι m w→aDl P ρ ι ds Ds→Leaves P fn a.tmps R Ds (jX ρ ι md) w
 | [],none,m,ι,w,Ds,hmd,h,hH,hf,hm,hr=>by
   cases Ds with
   | cons D Ds=>exact hr.elim
   | nil =>
     simp only [uH] at h
     split at h
     ·rename_i v hv
      have O:=h ι w hm
      rw [aW (kL hv).2] at O
      exact ⟨_,oN hH hm hf hv,O⟩
     ·exact h.elim
 | [],some x,m,ι,w,Ds,hmd,h,hH,hf,hm,hr=>by
   cases Ds with
   | cons D Ds=>exact hr.elim
   | nil =>
     rcases hmd with hmd | ⟨t,kk,e,hmd⟩
     ·cases hmd
     ·simp only [Option.some.injEq] at hmd;subst hmd
      simp only [uH] at h
      have O:=h ι w hm
      rw [gS (yP t kk e)] at O
      exact O
 | d::ds,md,m,ι,w,Ds,hmd,h,hH,hf,hm,hr=>by
   cases Ds with
   | nil=>exact hr.elim
   | cons D Ds =>
     simp only [uH] at h
     split at h
     ·rename_i nd m' md' hd
      split at h
      ·rename_i hsc
       simp only [Bool.and_eq_true] at hsc
       obtain ⟨hn,h⟩:=eW h
       obtain ⟨hmd',cap,dargs,args,rfl,hinv,hcall⟩:=bAT hΓ hI hP hd hmd hH (fE hn) hm hr.1
       refine leaves_cons (aUm md) hinv (hcall.mono fun e u' w' hq=>?_)
       obtain ⟨⟨x,rfl⟩,ι',hag,hset,hm'⟩:=hq
       simp only
       rw [hset]
       exact sU hΓ hI hP ds md' m' ι' w' Ds hmd' h hH (hf.congr hag hsc.1) hm' (jF hag hsc.2 hr.2)
      ·exact h.elim
     ·exact h.elim
theorem finL {cs0:List Frame} {todo:List Item} {b:Frame} {Ds:List Deferred} {mode:FrameMode} (hfn:P.funcs[f]? = some fn) (hb:b.fn=f) (hk:b.kind=.normal) (ha:a.defers=[])
 (h:Leaves P fn a.tmps R Ds mode w):Fin P f R cs0 (lone { b.atR (wD a Ds) todo with mode:=mode } cs0 w):=by
 obtain ⟨e,w',fr',hR,hcm,hff,hlv⟩:=leaves_steps (P:=P) Ds mode w { b.atR (wD a Ds) todo with mode:=mode } cs0 rfl (by show a.defers++Ds=Ds;rw [ha];rfl) rfl (by rw [show ({ b.atR (wD a Ds) todo with mode:=mode }:Frame).fn=f from hb];exact hfn) hk h
 exact ⟨e,w',fr',hR,hcm,hff.trans hb,hlv⟩
theorem finN {todo':List Item} {cs0:List Frame} {b:Frame} {Ds:List Deferred} (hfn:P.funcs[f]? = some fn) (hb:b.fn=f) (hk:b.kind=.normal) (ha:a.defers=[])
 (hs:step P (lone (b.atR (wD a Ds) todo') cs0 w)=.next (lone { b.atR (wD a Ds) todo' with mode:=.returning } cs0 w)) (h:Leaves P fn a.tmps R Ds .returning w):Fin P f R cs0 (lone (b.atR (wD a Ds) todo') cs0 w) :=
 Fin.one hs (finL hfn hb hk ha h)
theorem bOm {b:Frame} {cs k:_} {ops:Array Oper} {Ds:List Deferred} {o:Oper} {i:Nat} {rest:List Nat} {D:Deferred} (ho:ops[i]? = some o) (hw:Region.wanted o (yielded ops a.tmps)=true) (hr:b.roundOf=none) (ha:a.defers=[]) (hd:o.dst=none)
 (hx:(execOp a.eval o).run P w=.ok (.defer D) w) :
 step P (lone (b.atR (wD a Ds) (.inRegion ops (i::rest)::k)) cs w)=.next (lone (b.atR (wD a (D::Ds)) (.inRegion ops rest::k)) cs w):=by
 have hg:=stepGR_op (P:=P) (b:=b) (a:=wD a Ds) (k:=k) (cs:=cs) (w:=w) (rest:=rest) ho hw
 rw [hr,Oper.semAt_none,lL] at hg
 refine step_lone_go ?_
 have hfin:({ b.atR (wD a Ds) (.inRegion ops (i::rest)::k) with defers:=D::(wD a Ds).defers }:Frame).finish undef=b.atR (wD a (D::Ds)) (.inRegion ops rest::k):=by
  have N:=Frame.finish_atR b { wD a Ds with defers:=D::(wD a Ds).defers } ops i rest k undef
  rw [ho] at N
  have e:({ wD a Ds with defers:=D::(wD a Ds).defers }:Act).put (Option.bind (some o) fun x=>x.dst) undef=wD a (D::Ds):=by
   rw [Option.bind_some,hd]
   simp only [Act.put,wD,ha,List.nil_append]
  rw [e] at N
  exact N
 rw [hg];simp only [stepG.apply,Sem.runT_eq,hx,GStep.bare_after]
 exact congrArg (fun fr=>GStep.go { frame:=fr,callers:=cs,status:=.running,dying:=none } w) hfin
theorem bOn {b:Frame} {cs k:_} {ops:Array Oper} {Ds:List Deferred} {o:Oper} {i:Nat} {rest:List Nat} {g:FuncId} {args:Array Value} {K:List PanicEntry→World→Prop} (ho:ops[i]? = some o) (hw:Region.wanted o (yielded ops a.tmps)=true) (hnd:∀ c,o.op ≠ .defer c)
 (hx:(execOp a.eval o).run P w=.ok (.enter g args) w) (hC:Calls P g args w fun e w'=>∃ c,e=.panicked c∧K c w') :
 ∃ c w',K c w'∧Steps P (lone (b.atR (wD a Ds) (.inRegion ops (i::rest)::k)) cs w) (lone { b.atR (wD a Ds) (.inRegion ops (i::rest)::k) with mode:=.panicking c } cs w'):=by
 have hg:=stepGR_op (P:=P) (b:=b) (a:=wD a Ds) (k:=k) (cs:=cs) (w:=w) (rest:=rest) ho hw
 rw [Oper.semAt_eq _ _ _ hnd,lL] at hg
 obtain ⟨e,w'',fr,⟨c,rfl,hK⟩,hsteps,hfn,hleave⟩:=hC (b.atR (wD a Ds) (.inRegion ops (i::rest)::k)::cs)
 have henter:step P (lone (b.atR (wD a Ds) (.inRegion ops (i::rest)::k)) cs w) =
  .next (lone (Frame.enter P g args .normal) (b.atR (wD a Ds) (.inRegion ops (i::rest)::k)::cs) w) :=
  step_lone_go (by rw [hg];simp [stepG.apply,hx,Frame.atR])
 refine ⟨c,w'',hK,.head henter (Steps.trans hsteps (.one ?_))⟩
 have:=step_leave_panicked (c:=b.atR (wD a Ds) (.inRegion ops (i::rest)::k)) (cs:=cs) hleave
 rw [Frame.raise_mode] at this
 exact this
theorem bIB (hΓ:cA P I Γ) (hI:ρ.I=I) (hP:P.follows .mixedOrders=true) (hfn:P.funcs[f]? = some fn) {cs0:List Frame} {kk u:Nat}:∀ (k:Nat) (ds:List DF) (todo:List Item) (H:Hyp) (fr:Fr) (m:Mem) (ι:Loc) (a:Act) (w:World) (Ds:List Deferred) (b:Frame),
 (mK P Γ hc fn fn.ntmps kk u k ds todo H fr m).holds P f R ρ β n []→H.ok ρ→aR ρ ι fn.ntmps fr a→aK ρ β ι m w→aDl P ρ ι ds Ds→b.fn=f→b.kind=.normal→b.roundOf=none →
 Fin P f R cs0 (lone (b.atR (wD a Ds) todo) cs0 w):=by
 intro k
 induction k with
 | zero=>intro ds todo H fr m ι a w Ds b h;exact h.elim
 | succ k ih =>
   intro ds todo H fr m ι a w Ds b h hH hf hm hrep hb hk hr
   have hG:eM ρ []:=fun e he=>by cases he
   have ic:∀ {c:E} {todo:List Item},Tree.holds P f R ρ β n [] (.ite c (mK P Γ hc fn fn.ntmps kk u k ds todo (jJ true c H) fr m) (mK P Γ hc fn fn.ntmps kk u k ds todo (jJ false c H) fr m))→Fin P f R cs0 (lone (b.atR (wD a Ds) todo) cs0 w):=by
    intro c todo ⟨N,O⟩
    cases he:c.b ρ
    ·exact ih _ _ _ _ _ _ _ _ _ _ (O he) (dF _ false H hH he) hf hm hrep hb hk hr
    ·exact ih _ _ _ _ _ _ _ _ _ _ (N he) (dF _ true H hH he) hf hm hrep hb hk hr
   unfold mK at h
   split at h
   ·exact finN hfn hb hk hf.defers (stepR_end hr) (sU hΓ hI hP ds none m ι w Ds (.inl rfl) h hH hf hm hrep)
   ·exact finN hfn hb hk hf.defers (stepR_ret hr) (sU hΓ hI hP ds none m ι w Ds (.inl rfl) h hH hf hm hrep)
   ·exact Fin.one stepR_skip (ih _ _ _ _ _ _ _ _ _ _ h hH hf hm hrep hb hk hr)
   ·exact Fin.one stepR_label (ih _ _ _ _ _ _ _ _ _ _ h hH hf hm hrep hb hk hr)
   ·exact Fin.one stepR_inBlock (ih _ _ _ _ _ _ _ _ _ _ h hH hf hm hrep hb hk hr)
   ·exact Fin.one rW (ih _ _ _ _ _ _ _ _ _ _ h hH hf hm hrep hb hk hr)
   ·exact Fin.one stepR_seq (ih _ _ _ _ _ _ _ _ _ _ h hH hf hm hrep hb hk hr)
   ·exact Fin.one stepR_block (ih _ _ _ _ _ _ _ _ _ _ h hH hf hm hrep hb hk hr)
   ·exact Fin.one wV (ih _ _ _ _ _ _ _ _ _ _ h hH hf hm hrep hb hk hr)
   ·split at h
    ·rename_i r' hx
     exact Fin.one (stepR_exit hx) (ih _ _ _ _ _ _ _ _ _ _ h hH hf hm hrep hb hk hr)
    ·exact h.elim
   ·split at h
    ·rename_i W hc
     have hev:=aQ hf hG hc
     have hdec:=jP hH W
     split at h
     ·rename_i t ht
      rw [ht,aP] at hdec
      refine Fin.one (stepR_cond (t:=t) ?_) (ih _ _ _ _ _ _ _ _ _ _ h hH hf hm hrep hb hk hr)
      rw [lL,hev,SV.aC,S.aC,hdec]
     ·refine Fin.one (stepR_cond (t:=(fQ H W).b ρ) (by rw [lL,hdec];exact hev)) ?_
      obtain ⟨N,O⟩:=h
      cases he:(fQ H W).b ρ
      ·exact ih _ _ _ _ _ _ _ _ _ _ (O he) (dF _ false H hH he) hf hm hrep hb hk hr
      ·exact ih _ _ _ _ _ _ _ _ _ _ (N he) (dF _ true H hH he) hf hm hrep hb hk hr
    ·exact h.elim
   ·split at h
    ·rename_i nd H2 a5 m2 hq
     split at hq
     case isFalse=>cases hq
     rename_i hc
     simp only [Bool.and_eq_true] at hc
     obtain ⟨hn,h⟩:=eW h
     obtain ⟨ι2,a2,w2,⟨a0,hf2,V⟩,hs⟩:=regR (b:=b) (cs:=cs0) (ds:=Ds) hΓ hI hP hc.1 hq hn hH hf hm.now
     exact Fin.back hs (ih _ _ _ _ _ _ _ _ _ _ h a0 hf2 (hm.since V) (jF V.agr.symm hc.2 hrep) hb hk hr)
    ·split at h
     ·exact h.elim
     ·rename_i hdr
      simp only [Bool.not_eq_true] at hdr
      subst hdr
      exact Fin.one stepR_region (ih _ _ _ _ _ _ _ _ _ _ h hH hf hm hrep hb hk hr)
   ·exact Fin.one stepR_region_end (ih _ _ _ _ _ _ _ _ _ _ h hH hf hm hrep hb hk hr)
   ·rename_i ops i rest r
    split at h
    ·exact h.elim
    ·rename_i o ho
     split at h
     ·exact h.elim
     ·rename_i hg
      split at h
      ·rename_i a5 hp
       have hw:=kG hH hf hg
       have N:=stepR_op_skip (P:=P) (b:=b) (a:=wD a Ds) (k:=r) (cs:=cs0) (w:=w) (ops:=ops) (i:=i) (rest:=rest)
        (by simp only [ho,Option.map_some,Option.getD_some];exact hw)
       simp only [ho,Option.bind_some,zA] at N
       exact Fin.one N (ih _ _ _ _ _ _ _ _ _ _ h hH (gY hf hp (fun _=>rfl) (fun hx=>absurd (fun e he=>by cases he) hx)) hm hrep hb hk hr)
      ·exact h.elim
     ·split at h
      ·exact ic h
      ·exact h.elim
     ·rename_i G hg
      obtain ⟨_,hw⟩:=jR hH hf hg
      split at h
      ·rename_i d hd
       split at h
       ·rename_i hdst
        obtain ⟨D,hx,hdr⟩:=aTL (P:=P) (w:=w) hf hd
        exact Fin.one (bOm ho hw hr hf.defers (by simpa using hdst) hx) (ih _ _ _ _ _ _ _ _ _ _ h hH hf hm ⟨hdr,hrep⟩ hb hk hr)
       ·exact h.elim
      ·split at h
       ·rename_i hnd
        split at h
        ·rename_i nd H2 a5 m2 hop
         split at h
         ·rename_i hsc
          obtain ⟨hn,h⟩:=eW h
          have N:=lQ (β:=⟨w,m.length,ι⟩) (Q:=fun _ _ _=>False) hΓ hI hop hH hn hm.now hf (K:=fun a' w'=>∃ ι',H2.ok ρ∧aR ρ ι' fn.ntmps a5 a'∧aK ρ ⟨w,m.length,ι⟩ ι' m2 w')
           (fun ι' a' w' a0 hf2 V=>⟨ι',a0,hf2,V⟩)
          rw [if_pos hw] at N
          obtain ⟨a2,w2,⟨ι2,a0,hf2,V⟩,hs⟩:=opR (b:=b) (k:=r) (cs:=cs0) (ds:=Ds) (rest:=rest) ho hw (rI hnd) (fun _ _ _ hq=>hq) (fun ⟨_,_,hq⟩=>hq) N
          exact Fin.back hs (ih _ _ _ _ _ _ _ _ _ _ h a0 hf2 (hm.since V) (jF V.agr.symm hsc hrep) hb hk hr)
         ·exact h.elim
        ·split at h
         ·rename_i g l hcall
          split at h
          ·rename_i nd v om hΓr
           split at h
           ·rename_i x hpx
            split at h
            ·rename_i hsc
             simp only [Bool.and_eq_true] at hsc
             obtain ⟨hn,h⟩:=eW h
             have hx:=sH (w:=w) hf hG hcall
             obtain ⟨⟨t',k',e',hxe⟩,_⟩:=pT hpx
             have hC:=(hΓ.ok _ _ _ _ _ _ _ hΓr ρ β ι w hI hH (fE hn) hm).mono (R':=fun e w'=>∃ c,e=.panicked c∧(∃ ι',Loc.bV m.length ι ι'∧c=[aUv (x.aC ρ ι')]∧aK ρ β ι' (om.getD m) w')) fun e w' hq=>by
              cases om with
              | none=>exact ⟨_,hq.1.trans (gS hpx),ι,Loc.bV.refl _ _,rfl,hq.2⟩
              | some m1 =>
                obtain ⟨ι',hag,he,hm'⟩:=hq
                exact ⟨_,he.trans (gS hpx),ι',hag,rfl,hm'⟩
             obtain ⟨c,w',⟨ι',hag,rfl,hm'⟩,hs⟩:=bOn (b:=b) (k:=r) (cs:=cs0) (Ds:=Ds) (rest:=rest) ho hw (rI hnd) hx hC
             exact Fin.back hs (finL hfn hb hk hf.defers (sU hΓ hI hP ds (some x) (om.getD m) ι' w' Ds (.inr ⟨t',k',e',by rw [hxe]⟩) h hH (hf.congr hag hsc.1) hm' (jF hag hsc.2 hrep)))
            ·exact h.elim
           ·exact h.elim
          ·split at h
           ·split at h
            ·exact h.elim
            ·exact ic h
           ·exact h.elim
         ·exact h.elim
       ·exact h.elim
   ·exact h.elim
end
def aFZ:Code→Bool
 | .rangeFunc _ _ _ _=>true
 | .seq x y | .cond _ x y=>aFZ x||aFZ y
 | .block _ c | .loop c | .scope c=>aFZ c
 | _=>false
def aFY:Code→Bool
 | .region _ ops _=>!wI ops
 | .seq x y | .cond _ x y=>aFY x||aFY y
 | .block _ c | .loop c | .scope c=>aFY c
 | _=>false
def aDq (P:Program) (Γ:Ctx) (hc:aV) (fn:Func) (fuel loops:Nat) (c:Code) (H:Hyp) (fr:Fr) (m:Mem):Tree :=
 if aFZ c then iX P Γ hc fn fn.ntmps fuel loops .out [.code c] H fr m else if aFY c then mK P Γ hc fn fn.ntmps fuel loops fuel [] [.code c] H fr m else run P Γ hc fn fn.ntmps [] fuel loops none [.code c] H fr m
def enter (P:Program) (Γ:Ctx) (hc:aV) (fuel loops:Nat) (f:FuncId):Spec:=fun H l m =>
 match P.funcs[f]? with
 | some fn=>match fn.body with
   | some c =>
     if l.length≤fn.ntmps then
      match eZ m.length (aDq P Γ hc fn fuel loops c H (fO l) m) with
      | some (nd,v,m')=>if m'.take m.length=m&&v.sc m.length&&m.all (fun B=>B.aH.all (Seg.sc m.length)) then some (nd,v,none) else some (nd,v,some m')
      | none=>none
     else none
   | none=>none
 | none=>none
def bKj (P:Program) (Γ:Ctx) (hc:aV) (fuel loops:Nat):aV:=fun f H l m =>
 match P.funcs[f]? with
 | some fn=>match fn.body with
   | some c=>if aFZ c||aFY c then aTk (aDq P Γ hc fn fuel loops c H (fO l) m) else lV P Γ hc fn.ntmps fuel loops [.code c] H (fO l) m
   | none=>none
 | none=>none
def bHg (P:Program) (base:Ctx) (fuel loops:Nat):Nat→Ctx × aV
 | 0=>(base,fun _ _ _ _=>none)
 | d+1=>let r:=bHg P base fuel loops d
   (fun f H l m=>match base f H l m with
     | some r=>some r
     | none=>enter P r.1 r.2 fuel loops f H l m,bKj P r.1 r.2 fuel loops)
def inl (P:Program) (base:Ctx) (fuel loops d:Nat):Ctx:=(bHg P base fuel loops d).1
def bCV (P:Program) (base:Ctx) (fuel loops d:Nat):aV:=(bHg P base fuel loops d).2
def bEr:Tree→Bool
 | .ret _ _=>true
 | .need _ t=>bEr t
 | _=>false
def parts (P:Program) (Γ:Ctx) (hc:aV) (fuel loops:Nat) (f:FuncId) (H:Hyp) (l:List SV) (m:Mem):Bool :=
 match P.funcs[f]? with
 | some fn=>match fn.body with
   | some c=>if aFZ c||aFY c then !bEr (aDq P Γ hc fn fuel loops c H (fO l) m) else (lV P Γ hc fn.ntmps fuel loops [.code c] H (fO l) m).isSome
   | none=>true
 | none=>true
def aYt (P:Program) (sp:List FuncId) (base:Ctx) (fuel loops:Nat):Nat→Ctx × aV
 | 0=>(base,fun _ _ _ _=>none)
 | d+1=>let r:=aYt P sp base fuel loops d
   (fun f H l m=>match base f H l m with
     | some r=>some r
     | none=>if sp.contains f&&parts P r.1 r.2 fuel loops f H l m then none else enter P r.1 r.2 fuel loops f H l m,bKj P r.1 r.2 fuel loops)
def aHE (P:Program) (sp:List FuncId) (base:Ctx) (fuel loops d:Nat):Ctx:=(aYt P sp base fuel loops d).1
def aCv (P:Program) (sp:List FuncId) (base:Ctx) (fuel loops d:Nat):aV:=(aYt P sp base fuel loops d).2
section
variable {P:Program} {I:Interp} {Γ:Ctx} {f:FuncId} {fn:Func} {ρ:Env} {β:dN} {n:Nat} {H:Hyp} {ι:Loc} {w:World} {m:Mem}
theorem aGB {hc':aV} {cut:List Nat} (hΓ:cA P I Γ) (hI:ρ.I=I) (hP:P.follows .mixedOrders=true) (hfn:P.funcs[f]? = some fn) {c:Code} (hc:fn.body=some c) {l:List SV} (hl:l.length≤fn.ntmps) {k u:Nat} {R:Ending→World→Prop}
 (h:(run P Γ hc' fn fn.ntmps cut k u none [.code c] H (fO l) m).holds P f R ρ β fn.ntmps []) (hH:H.ok ρ) (hm:aK ρ β ι m w):Calls P f (l.map (SV.aC ρ ι)).toArray w R :=
 aDE hfn hc (aUP hΓ hI hP hfn k u none [.code c] H _ m ι _ w h (fun _ hb=>by cases hb) hH (oD l hl) hm)
theorem wR {hc':aV} (hΓ:cA P I Γ) (hI:ρ.I=I) (hP:P.follows .mixedOrders=true) (hfn:P.funcs[f]? = some fn) {c:Code} (hc:fn.body=some c) {l:List SV} (hl:l.length≤fn.ntmps) {k u:Nat} {R:Ending→World→Prop}
 (h:(aDq P Γ hc' fn k u c H (fO l) m).holds P f R ρ β fn.ntmps []) (hH:H.ok ρ) (hm:aK ρ β ι m w):Calls P f (l.map (SV.aC ρ ι)).toArray w R:=by
 unfold aDq at h
 split at h
 ·intro cs
  have N:=bIC (cs0:=cs) hΓ hI hP hfn k u .out [.code c] H (fO l) m ρ ι _ w [] [] [] ({ (default:Frame) with fn:=f,kind:=.normal,roundOf:=none }:Frame) cs h hH
   ⟨[],List.nodup_nil,rfl,rfl,rfl,rfl,rfl,rfl,rfl,rfl⟩ ⟨hm,fun p hp=>(by cases hp),fun q hq=>(by cases hq)⟩ (oD l hl)
  have he:Frame.enter P f (l.map (SV.aC ρ ι)).toArray .normal=({ (default:Frame) with fn:=f,kind:=.normal,roundOf:=none }:Frame).atR
   (wD { tmps:=(l.map (SV.aC ρ ι)).toArray++Array.replicate (fn.ntmps-(l.map (SV.aC ρ ι)).toArray.size) Go.undef,defers:=[] } []) [.code c]:=by
   simp [Frame.enter,Frame.atR,wD,hfn,hc]
  rw [he]
  exact N
 ·split at h
  ·intro cs
   have N:=bIB (cs0:=cs) (f:=f) hΓ hI hP hfn k [] [.code c] H (fO l) m ι _ w [] ({ (default:Frame) with fn:=f,kind:=.normal,roundOf:=none }:Frame) h hH (oD l hl) hm trivial rfl rfl rfl
   have he:Frame.enter P f (l.map (SV.aC ρ ι)).toArray .normal=({ (default:Frame) with fn:=f,kind:=.normal,roundOf:=none }:Frame).atR
    (wD { tmps:=(l.map (SV.aC ρ ι)).toArray++Array.replicate (fn.ntmps-(l.map (SV.aC ρ ι)).toArray.size) Go.undef,defers:=[] } []) [.code c]:=by
    simp [Frame.enter,Frame.atR,wD,hfn,hc]
   rw [he]
   exact N
  ·exact aGB hΓ hI hP hfn hc hl h hH hm
theorem uD {ι ι':Loc} {k:Nat} {v:SV} (h:Loc.bV k ι ι') (hv:v.sc k=true):fA ρ ι v=fA ρ ι' v:=by
 cases hp:gX v with
 | some x =>
   obtain ⟨⟨t,kk,e,rfl⟩,rfl⟩:=pT hp
   rfl
 | none=>rw [aW (show dL v=false by simp [dL,hp]),aW (show dL v=false by simp [dL,hp]),SV.jN h hv]
theorem bS {hc':aV} (hΓ:cA P I Γ) (hP:P.follows .mixedOrders=true) (k u:Nat):aX P I f (enter P Γ hc' k u f):=by
 constructor
 intro H l m nd v om h ρ β ι w hI hH hn hm
 unfold enter at h
 split at h
 ·rename_i fn hfn
  split at h
  ·rename_i c hc
   split at h
   ·rename_i hl
    split at h
    ·rename_i nd' v' m' hcol
     have V:=hm.now
     split at h
     ·rename_i b5
      simp only [Bool.and_eq_true,decide_eq_true_eq] at b5
      simp only [Option.some.injEq,Prod.mk.injEq] at h
      obtain ⟨rfl,rfl,rfl⟩:=h
      refine wR (β:=⟨w,m.length,ι⟩) hΓ hI hP hfn hc hl (qL (Nat.le_refl _) hcol hn fun ι' w' h'=>?_) hH V
      have hagr:Loc.bV m.length ι' ι:=h'.agr
      have O:=hm.since h'
      have hat:∀ {i:Nat} {B:Blk},m[i]? = some B→m'[i]? = some B:=fun {i B} hB=>by
       have hi:i<m.length:=(List.getElem?_eq_some_iff.1 hB).1
       have:=congrArg (fun l=>l[i]?) b5.1.1
       simp only [List.getElem?_take,if_pos hi] at this
       rw [this];exact hB
      have lt:∀ {i:Nat} {B:Blk},m[i]? = some B→i<m.length:=fun hB=>(List.getElem?_eq_some_iff.1 hB).1
      have sc:∀ {i:Nat} {B:Blk},m[i]? = some B→cellsOf ρ ι' B.aH=cellsOf ρ ι B.aH:=fun hB=>bK hagr (List.all_eq_true.1 b5.2 _ (List.mem_of_getElem? hB))
      have old:∀ b,b<β.w.heap.size→(∀ i,i<m.length→ι i ≠ b)→w'.heap[b]? = β.w.heap[b]? := by
       intro b hb hi
       have hb':b<w.heap.size:=Nat.lt_of_lt_of_le hb hm.size
       rw [← hm.old b hb hi]
       refine h'.old b hb' fun i hi'=>?_
       by_cases hc:i<m.length
       ·rw [(hagr i hc).1];exact hi i hc
       ·rcases h'.new i (Nat.not_lt.1 hc) hi' with hn | ⟨j,hj,hn⟩
        ·have:w.heap.size≤ι' i:=hn
         omega
        ·have hj:j<m.length:=hj
         rw [hn,(hagr j hj).1];exact hi j hj
      refine ⟨uD hagr b5.1.2,hm.inj,fun i B hB hd hn'=>?_,hm.nils,hm.agr,hm.len,hm.new,Nat.le_trans hm.size h'.size,old,h'.os.trans hm.os,h'.tape.trans hm.tape,h'.output.trans hm.output,hm.xt,hm.xd⟩
      have hi:=lt hB
      obtain ⟨fz,rest,k1,k2,k3,k4⟩:=h'.blk i B (hat hB) hd (by rw [(hagr i hi).2.2];exact hn')
      rw [(hagr i hi).1,sc hB] at k1
      rw [(hagr i hi).2.1,sc hB] at k3
      exact ⟨fz,rest,k1,k2,k3,k4⟩
     ·simp only [Option.some.injEq,Prod.mk.injEq] at h
      obtain ⟨rfl,rfl,rfl⟩:=h
      refine wR (β:=⟨w,m.length,ι⟩) hΓ hI hP hfn hc hl (qL (Nat.le_refl _) hcol hn fun ι' w' h'=>?_) hH V
      exact ⟨ι',h'.agr.symm,rfl,hm.since h'⟩
    ·cases h
   ·cases h
  ·cases h
 ·cases h
theorem aK.empty {w:World} (hx:∀ i j,(ρ.I.xs i j).ok w) (ι:Loc):aK ρ ⟨w,0,ι⟩ ι [] w :=
 ⟨fun _ _ _ _ h=>by simp at h,fun _ _ h=>by simp at h,fun _ _ h=>by simp at h,Loc.bV.refl _ _,Nat.le_refl _,fun _ _ h=>absurd h (Nat.not_lt_zero _),Nat.le_refl _,fun _ _ _=>rfl,rfl,rfl,rfl,hx,fun _ _ _ _ _ _ _ _ h=>absurd h (Nat.not_lt_zero _)⟩
theorem aK.toBelow {w w':World} (h:aK ρ ⟨w,0,ι⟩ ι [] w'):RowKit.Below w.heap.size w w' :=
 ⟨h.os,h.tape,h.output,h.size,fun k hk=>h.old k hk fun _ h=>absurd h (Nat.not_lt_zero _)⟩
theorem Ext.jC (w:World):Ext.none.ok w:=⟨.none,0,rfl,Nat.le_refl _,fun _=>⟨rfl,rfl⟩,fun _ h=>by cases h⟩
theorem aCA (hΓ:cA P I Γ) (hP:P.follows .mixedOrders=true) {k u:Nat} {l:List SV} {nd:List E} {e:E} {hc':aV} (h:enter P Γ hc' k u f H l []=some (nd,.s (.bool e),none))
 (hI:ρ.I=I) (hH:H.ok ρ) (hn:bD ρ nd) (he:e.b ρ=true) (w:World) (hx:∀ i j,(ρ.I.xs i j).ok w) :
 Calls P f (l.map (SV.aC ρ Loc.id)).toArray w fun r w'=>r=.returned (.bool true)∧RowKit.Below w.heap.size w w' :=
 ((bS hΓ hP k u).ok H l [] nd _ none h ρ ⟨w,0,Loc.id⟩ Loc.id w hI hH hn (aK.empty hx Loc.id)).mono fun r w' hr=>by
   obtain ⟨rfl,hm⟩:=hr
   exact ⟨by rw [aW rfl];simp [SV.aC,S.aC,he],hm.toBelow⟩
theorem yA {base:Ctx} (hb:cA P I base) (hP:P.follows .mixedOrders=true) (k u:Nat):∀ d,cA P I (inl P base k u d)
 | 0=>hb
 | d+1=>by
   constructor
   intro f H l m nd v om h
   simp only [inl,bHg] at h
   split at h
   ·rename_i r hr
    simp only [Option.some.injEq] at h;subst h
    exact hb.ok f H l m nd v om hr
   ·exact (bS (yA hb hP k u d) hP k u).ok H l m nd v om h
theorem nC {sp:List FuncId} {base:Ctx} (hb:cA P I base) (hP:P.follows .mixedOrders=true) (k u:Nat):∀ d,cA P I (aHE P sp base k u d)
 | 0=>hb
 | d+1=>by
   constructor
   intro f H l m nd v om h
   simp only [aHE,aYt] at h
   split at h
   ·rename_i r hr
    simp only [Option.some.injEq] at h;subst h
    exact hb.ok f H l m nd v om hr
   ·split at h
    ·cases h
    ·exact (bS (nC hb hP k u d) hP k u).ok H l m nd v om h
end
end Go.Sx
