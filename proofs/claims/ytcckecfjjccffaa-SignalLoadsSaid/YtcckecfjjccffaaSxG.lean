/- A run of a program by symbols, proved sound: rows of unknown length; regions in whatever order. It imports no program. -/
import Derived.Test.YtcckecfjjccffaaSxB
import Derived.RangeFuncRecord
set_option linter.unusedVariables false
set_option linter.unusedSimpArgs false
namespace Go.Sx
def leH (H:Hyp) (a b:E):Bool:=decide (a=b)||decide (mkLe H a b=.blit true)||aO H 0 (mkSub b a)||decide (fQ H (mkLe H a b)=.blit true)
theorem nL {ρ:Env} {H:Hyp} (hH:H.ok ρ) {a b:E} (h:leH H a b=true):a.i ρ≤b.i ρ:=by
 simp only [leH,Bool.or_eq_true,decide_eq_true_eq] at h
 rcases h with ((rfl | h) | h) | h
 ·exact Int.le_refl _
 ·have:=bM hH a b
  rw [h,aP] at this
  simpa using this.symm
 ·have:=aJ hH h
  rw [fD] at this;omega
 ·have J:=jP hH (mkLe H a b)
  rw [h,aP,bM hH] at J
  simpa using J
def leA (H:Hyp) (p len n:E):Bool:=decide (len=mkSub n p)||leH H (mkAdd p len) n
theorem aCB {ρ:Env} {H:Hyp} (hH:H.ok ρ) {p len n:E} (h:leA H p len n=true):p.i ρ+len.i ρ≤n.i ρ:=by
 simp only [leA,Bool.or_eq_true,decide_eq_true_eq] at h
 rcases h with rfl | h
 ·rw [fD];omega
 ·have:=nL hH h
  rw [aM] at this;exact this
def rY (H:Hyp):List Seg→Option E
 | []=>some (.lit 0)
 | .one _::r=>(rY H r).map (mkAdd (.lit 1))
 | .run _ n _ _::r=>if aO H 0 n then (rY H r).map (mkAdd n) else none
 | _=>none
def mJ (H:Hyp) (sz:Nat) (l:List Seg):Option E:=match eE l with
 | some L=>if L%sz=0∧0<sz then some (.lit (L / sz:Nat)) else none
 | none=>if sz=1 then rY H l else none
def pD (H:Hyp) (p len:E) (k:IntKind) (n A:E) (o:Nat):Option (List Seg) :=
 if aO H 0 p&&(aO H 0 len||(decide (len=mkSub n p)&&leH H p n))&&leA H p len n then
  match p with
  | .lit z=>some [.run k len A (o+z.toNat)]
  | p=>some [.run k len (.blt (.tab []) (.lit 0) len A (mkAdd p (.lit o))) 0]
 else none
def fP (H:Hyp) (off len:E):Nat→List Seg→Option (List Seg)
 | st,.one _::r=>if aO H (st+1) off then fP H off len (st+1) r else none
 | st,.run k n A o::r=>match n with
   | .lit z=>if 0≤z∧aO H (st+z) off=true then fP H off len (st+z.toNat) r else pD H (mkSub off (.lit st)) len k n A o
   | n=>pD H (mkSub off (.lit st)) len k n A o
 | _,_=>none
def aUN (H:Hyp) (sz:Nat) (aH:List Seg) (len:E):E→Option (List Seg)
 | .lit o=>if 0≤o then match bL o.toNat aH with
   | some L=>if mJ H sz L=some len then some L else none
   | none=>none
   else none
 | _=>none
def aHB:List (Nat × E × E)→Nat→Option (E × E)
 | [],_=>none
 | (i,p)::l,k=>if i=k then some p else aHB l k
def aCE:List (Nat × XI)→Nat→Option (E × E)
 | [],_=>none
 | (_,x)::l,k=>match aHB x.ns k with
   | some p=>some p
   | none=>aCE l k
theorem aCs:∀ {l:List (Nat × E × E)} {k:Nat} {p:E × E},aHB l k=some p→(k,p) ∈ l
 | (i,q)::l,k,p,h=>by
   simp only [aHB] at h
   split at h
   ·rename_i hi;cases h;subst hi;exact .head _
   ·exact .tail _ (aCs h)
theorem uJ:∀ {l:List (Nat × XI)} {k:Nat} {p:E × E},aCE l k=some p→∃ q ∈ l,(k,p) ∈ q.2.ns
 | (i,x)::l,k,p,h=>by
   simp only [aCE] at h
   split at h
   ·rename_i q hq;cases h;exact ⟨_,.head _,aCs hq⟩
   ·obtain ⟨q,hq,hp⟩:=uJ h;exact ⟨q,.tail _ hq,hp⟩
def vG (H:Hyp) (m:Mem) (sz:Nat):SV→Option (List Seg × E)
 | .s .nilSlc=>some ([],.lit 0)
 | .s (.slc b off len _)=>match m[b]? with
   | some B=>if B.dead then none else match off,len with
     | .lit o,.lit n=>if 0≤o∧0≤n then (if n=0 then some ([],.lit n) else match (bL o.toNat B.aH).bind (bT (n.toNat*sz)) with
       | some l=>some (l,.lit n)
       | none=>if sz=1 then (fP H (.lit o) (.lit n) 0 B.aH).map fun l=>(l,.lit n) else none) else none
     | off,len=>match aUN H sz B.aH len off with
       | some L=>some (L,len)
       | none=>if sz=1 then (fP H off len 0 B.aH).map fun l=>(l,len) else none
   | none=>none
 | .s (.xslc i (.lit 0) off len)=>match oH H.x i with
   | some ⟨n,[(some k,A)],[]⟩=>if sz=1 then (pD H off len k n A 0).map fun l=>(l,len) else none
   | _=>none
 | .s (.xslc i j off len)=>match aCE H.x i with
   | some (L,A)=>if sz=1∧aO H 0 j=true∧aO H 0 off=true∧aO H 0 len=true∧leH H (mkAdd off len) (dY H L j)=true then
      some ([.run .u8 len (.blt (.tab []) (.lit 0) len A (mkAdd (mkMul j (.lit 18446744073709551616)) off)) 0],len) else none
   | none=>none
 | .s (.xtl _ _ _ _)=>some ([],.lit 0)
 | _=>none
def zX (a b:E):E:=match b with
 | .sub z y=>if y=a then z else mkAdd a (.sub z y)
 | b=>mkAdd a b
theorem xF {ρ:Env} (a b:E):(zX a b).i ρ=a.i ρ+b.i ρ:=by
 unfold zX
 split
 ·rename_i z y
  split
  ·rename_i h;subst h
   have h9:=aM (ρ:=ρ) y (.sub z y)
   have h8:=fD (ρ:=ρ) z y
   rw [show (E.sub z y).i ρ=z.i ρ-y.i ρ from rfl]
   omega
  ·exact aM _ _
 ·exact aM _ _
def geZ (H:Hyp) (n:E):Bool:=aO H 0 n||(match n with
 | .sub a b=>leH H b a
 | _=>false)
theorem bNy {ρ:Env} {H:Hyp} (hH:H.ok ρ) {n:E} (h:geZ H n=true):0≤n.i ρ:=by
 unfold geZ at h
 rw [Bool.or_eq_true] at h
 rcases h with h | h
 ·exact aJ hH h
 ·split at h
  ·rename_i a b
   have:=nL hH h
   rw [show (E.sub a b).i ρ=a.i ρ-b.i ρ from rfl];omega
  ·cases h
def aIl (H:Hyp) (p:E):E→E
 | .upd A i x=>match i with
   | .add y (.lit c)=>if y=p∧c<0∧aO H 0 (.add y (.lit c))=true then aIl H p A else .upd A (.add y (.lit c)) x
   | i=>.upd A i x
 | A=>A
theorem bBi {ρ:Env} {H:Hyp} (hH:H.ok ρ) {p:E}:∀ (A:E) (j:Nat),(p.i ρ).toNat≤j→(aIl H p A).a ρ j=A.a ρ j:=by
 intro A
 induction A with
 | upd A i x ihA ih2 ih3 =>
   clear ih2 ih3
   intro j hj
   unfold aIl
   split
   ·rename_i y c
    split
    ·rename_i h
     obtain ⟨rfl,hc,N⟩:=h
     have M:=aJ hH N
     have J:(E.add y (.lit c)).i ρ=y.i ρ+c:=rfl
     rw [ihA j hj,cC]
     simp only
     rw [if_neg (by omega)]
    ·rfl
   ·rfl
 | _=>intro j hj;rfl
def aUi (H:Hyp) (A p n B:E) (o:Nat):E:=match B with
 | .blt (.tab []) (.lit 0) len C q=>if o=0∧len=n∧q=p∧aO H 0 p=true∧aIl H p A=C then A else .blt A p n B (.lit o)
 | B=>.blt A p n B (.lit o)
theorem bEa {ρ:Env} {H:Hyp} (hH:H.ok ρ) (A p n B:E) (o:Nat):(aUi H A p n B o).a ρ=(E.blt A p n B (.lit o)).a ρ:=by
 unfold aUi
 split
 ·rename_i len C q
  split
  ·rename_i h
   obtain ⟨rfl,rfl,rfl,N,rfl⟩:=h
   have N:=aJ hH N
   funext j
   simp only [nP,aF]
   split
   ·rename_i hj
    simp only [Int.toNat_zero,Nat.zero_add,Nat.sub_zero,Nat.zero_le,true_and,Int.toNat_natCast]
    rw [if_pos (by omega)]
    rw [bBi hH _ _ (by omega)]
    congr 1;omega
   ·rfl
  ·rfl
 ·rfl
def tV (H:Hyp) (k:IntKind) (n A:E) (o:Nat):List Seg→List Seg
 | .one (.int k' x)::r=>if k'=k then tV H k (mkAdd n (.lit 1)) (jK A (mkAdd n (.lit o)) x) o r else .run k n A o::.one (.int k' x)::r
 | .run k' n' A' o'::r=>if k'=k∧geZ H n'=true then tV H k (zX n n') (aUi H A (mkAdd n (.lit o)) n' A' o') o r else .run k n A o::.run k' n' A' o'::r
 | r=>.run k n A o::r
def qF (H:Hyp):List Seg→List Seg
 | .run k n A o::r=>match n with
   | .lit _=>.run k n A o::qF H r
   | n=>if aO H 0 n then tV H k n A o r else .run k n A o::r
 | x::r=>x::qF H r
 | []=>[]
def fS (k:IntKind) (l:List Seg):Bool:=l.all fun
 | .one (.int k' _)=>decide (k'=k)
 | .run k' _ _ _=>decide (k'=k)
 | _=>false
def kJ:Value→Int
 | .int _ z=>z
 | .bool b=>if b then 1 else 0
 | _=>0
def aIt:E→E→List Seg→Option E
 | A,_,[]=>some A
 | A,st,.one (.int _ x)::r=>aIt (jK A st x) (mkAdd st (.lit 1)) r
 | A,st,.run _ n B o::r=>aIt (.blt A st n B (.lit o)) (mkAdd st n) r
 | _,_,_=>none
def bCg:List Seg→Option E
 | [.run _ _ A 0]=>some A
 | l=>aIt (.tab []) (.lit 0) l
def bHz (H:Hyp) (l:List Seg):Bool:=l.all fun
 | .run _ n _ _=>aO H 0 n
 | _=>true
def aDC (H:Hyp) (l:List Seg):Option E:=if bHz H l then bCg l else none
def bNR:List Seg→Option IntKind
 | .one (.int k _)::_=>some k
 | .run k _ _ _::_=>some k
 | _=>none
def bDd:List Seg→Bool
 | [.run _ _ _ 0]=>true
 | _=>false
def tA (H:Hyp) (l:List Seg):List Seg:=cond (bDd l) l (match bNR l with
 | some k=>cond (fS k l) (match mJ H 1 l,aDC H l with
   | some n,some A=>[.run k n A 0]
   | _,_=>l) l
 | none=>l)
def lI (H:Hyp) (B:Blk):Blk:=cond (B.dead||!decide (B.grow=some 1)) B { B with aH:=tA H B.aH }
def aTU (l:List Seg):Bool:=l.any fun
 | .run _ (.lit _) _ _=>false
 | .run _ _ _ _=>true
 | _=>false
def eG (H:Hyp) (l:List Seg):List Seg:=cond (aTU l) (tA H (qF H l)) (qF H l)
def narrow (n:Nat):E→Nat→E × Nat
 | .upd C i x,o=>match i with
   | .lit z=>bif Nat.blt z.toNat o||Nat.ble (o+n) z.toNat then narrow n C o else (.upd C i x,o)
   | _=>(.upd C i x,o)
 | .blt C i m D j,o=>match i,m,j with
   | .lit a,.lit l,.lit q=>bif Nat.ble (o+n) a.toNat||Nat.ble (a.toNat+l.toNat) o then narrow n C o
     else bif Nat.ble a.toNat o&&Nat.ble (o+n) (a.toNat+l.toNat) then narrow n D (o-a.toNat+q.toNat) else (.blt C i m D j,o)
   | _,_,_=>(.blt C i m D j,o)
 | A,o=>(A,o)
def nE (n:E):E→Nat→E × Nat
 | .upd C i x,o=>match i with
   | .lit z=>bif Nat.blt z.toNat o then nE n C o else (.upd C i x,o)
   | _=>(.upd C i x,o)
 | .blt C i m D j,o=>match i,j with
   | .lit a,.lit q=>bif Nat.beq a.toNat o&&E.beq m n then nE n D q.toNat else (.blt C i m D j,o)
   | _,_=>(.blt C i m D j,o)
 | A,o=>(A,o)
def pG:Seg→List Seg
 | .run k (.lit z) A o=>if z≤16 then (match gE [.run k (.lit z) A o] with
   | some l=>pS l
   | none=>[.run k (.lit z) A o]) else [.run k (.lit z) (narrow z.toNat A o).1 (narrow z.toNat A o).2]
 | .run k n A o=>[.run k n (nE n A o).1 (nE n A o).2]
 | x=>[x]
def bQ (l:List Seg):List Seg:=l.flatMap pG
def aGO (P:Program) (H:Hyp) (fr:Fr) (m:Mem) (t:TypeId) (s x:SV):WR :=
 match jG P t with
 | none=>none
 | some e=>match sB P e with
   | none=>none
   | some (sz,by_)=>match vG H m sz x with
     | none=>none
     | some (L,q)=>if decide (by_≤65536)&&jL m.length fr m&&L.all Seg.plain then
       match s with
       | .s .nilSlc=>if dK H 67108864 q then some ([],.s (.slc m.length (.lit 0) q (.op (.lit 0))),m++[⟨e,eG H (bQ L),true,some sz,false⟩]) else none
       | .s (.slc b (.lit 0) O (.op (.lit 0)))=>match m[b]? with
         | some B=>if B.dead=false∧B.wr=true∧B.ty=e∧B.grow=some sz∧mJ H sz B.aH=some O∧dK H 67108864 (zX O q)=true then
            some ([],.s (.slc m.length (.lit 0) (zX O q) (.op (.lit 0))),(m.set b { B with dead:=true })++[⟨e,eG H (bQ (B.aH++L)),true,some sz,false⟩])
           else none
         | none=>none
       | .s (.slc b off O (.kn c))=>match vG H m sz (.s (.slc b off O (.kn c))) with
         | some (L0,q0)=>if dK H 67108864 (mkAdd q0 q)&&aO H 1 q&&aO H 0 c&&leH H (mkAdd c (.lit 1)) (mkAdd q0 q) then some ([],.s (.slc m.length (.lit 0) (mkAdd q0 q) (.op (.lit 0))),m++[⟨e,eG H (bQ (L0++L)),true,some sz,false⟩]) else none
         | none=>none
       | _=>none
       else none
def aGQ (P:Program) (H:Hyp) (fr:Fr) (m:Mem) (t:TypeId) (s x:SV):WR :=
 match jG P t with
 | none=>none
 | some e=>match sB P e with
   | none=>none
   | some (sz,by_)=>match vG H m sz x with
     | none=>none
     | some (L,q)=>if decide (by_≤65536)&&jL m.length fr m&&L.all Seg.plain then
       match s with
       | .s (.slc b (.lit 0) O (.kn c))=>match m[b]? with
         | some B=>if B.dead=false∧B.wr=true∧B.ty=e∧B.grow=none∧O=c∧mJ H sz B.aH=some O∧dK H 67108864 (zX O q)=true then
            if q=.lit 0 then some ([],.s (.slc b (.lit 0) O (.kn c)),m) else if aO H 1 q=true then some ([],.s (.slc m.length (.lit 0) (zX O q) (.op (.lit 0))),m++[⟨e,eG H (bQ (B.aH++L)),true,some sz,false⟩]) else
            some ([],.s (.slc m.length (.lit 0) (zX O q) (.op (.lit 0))),(m.set b { B with dead:=true })++[⟨e,eG H (bQ (B.aH++L)),true,some sz,false⟩])
           else none
         | none=>none
       | _=>none
       else none
def bCt (P:Program) (H:Hyp) (m:Mem) (t:TypeId) (d x:SV):WR :=
 match jG P t with
 | none=>none
 | some e=>match dA P e with
   | none=>none
   | some sz=>if sz=0 then none else match d,vG H m sz x with
     | .s (.slc b (.lit o) (.lit n) _),some (L,.lit q) =>
       if min n.toNat q.toNat=0 then some ([],.s (.int .i64 (.lit 0)),m) else
       match m[b]?,bT (min n.toNat q.toNat*sz) L with
       | some B,some l=>if B.wr=true∧B.dead=false∧0≤o∧0<sz∧l.all Seg.plain=true then
          match bT o.toNat B.aH,bL (o.toNat+min n.toNat q.toNat*sz) B.aH with
          | some l1,some l2=>some ([],.s (.int .i64 (.lit (min n.toNat q.toNat:Nat))),m.set b { B with aH:=l1++l++l2 })
          | _,_=>none
         else none
       | _,_=>none
     | _,_=>none
def aAV (P:Program) (H:Hyp) (fr:Fr) (m:Mem) (t t':TypeId) (s x:SV):WR :=
 match jG P t,P.underlying t',s,x with
 | some e,some (.int _),.s .nilSlc,.s (.int _ n)=>match sB P e,xE P e with
   | some (1,by_),some (.s (.int k (.lit 0)))=>if by_≤65536∧aO H 1 n=true∧dK H 67108864 n=true∧jL m.length fr m=true then
      some ([],.s (.slc m.length (.lit 0) n (.op (.lit 0))),m++[⟨e,[.run k n (.tab []) 0],true,some 1,false⟩]) else none
   | _,_=>none
 | _,_,_,_=>none
def aZY (d:E):Option SV→Option E
 | none=>some d
 | some (.s (.int _ e))=>some e
 | _=>none
def aUT (P:Program) (H:Hyp) (m:Mem) (t:TypeId) (x:SV) (lo hi:Option SV):WR :=
 match jG P t with
 | none=>none
 | some e=>match dA P e with
   | none=>none
   | some sz=>match x with
     | .s (.slc b (.lit 0) n (.op (.lit 0)))=>match tZ 0 lo,hi,aZY n hi,m[b]? with
       | some 0,some _,some h,some B=>match B.aH with
         | [.run .i64 n' A o]=>if B.dead=false∧B.wr=true∧aO H 1 n=true∧n'=n∧B.grow=some 1 then
             some ([mkLe H (.lit 0) h,mkLe H h n],.s (.slc b (.lit 0) h (.op (.lit 0))),m.set b { B with aH:=[.run .i64 h A o] }) else none
         | _=>none
       | _,_,_,_=>none
     | _=>none
def bNN:E→Bool
 | .lit _=>true
 | _=>false
def aUX (P:Program) (H:Hyp) (m:Mem) (t:TypeId) (x:SV) (lo hi:Option SV):WR :=
 match jG P t with
 | none=>none
 | some e=>match dA P e with
   | none=>none
   | some sz=>match x with
     | .s (.slc b (.lit 0) n (.op (.lit 0)))=>match tZ 0 lo,hi,tZ 0 hi,m[b]? with
       | some 0,some _,some 0,some B=>match B.aH with
         | [.run _ n' _ _]=>if B.dead=false∧B.wr=true∧aO H 1 n=true∧n'=n∧bNN n=false∧B.grow.isSome=true then
             some ([],.s (.slc b (.lit 0) (.lit 0) (.op (.lit 0))),m.set b { B with aH:=[] }) else none
         | _=>none
       | _,_,_,_=>none
     | _=>none
def bBF (k:IntKind) (A p:E):List Seg→Option E
 | []=>some A
 | .one (.int k' x)::r=>if k'=k then bBF k (jK A p x) (mkAdd p (.lit 1)) r else none
 | _=>none
def bCr (P:Program) (H:Hyp) (m:Mem) (t:TypeId) (d x:SV):WR :=
 match jG P t with
 | none=>none
 | some e=>match dA P e,d,vG H m 1 x with
   | some 1,.s (.slc b off len _),some (L,.lit q)=>match m[b]? with
     | some B=>match B.aH with
       | [.run k n A o]=>match bBF k A (mkAdd off (.lit o)) L with
         | some A'=>if 0<q∧B.wr=true∧B.dead=false∧leA H off len n=true∧L.all Seg.plain=true then
            some ([mkLe H (.lit 0) off,mkLe H (.lit q) len],.s (.int .i64 (.lit q)),m.set b { B with aH:=[.run k n A' o] }) else none
         | none=>none
       | _=>none
     | none=>none
   | _,_,_=>none
def zR (B:Blk) (L sz n:Nat):Cap→Bool
 | .kn (.lit c)=>decide ((n:Nat)≤c)
 | .op (.lit k)=>decide (0≤k∧B.grow=some sz∧0<L∧(k.toNat+n)*sz≤L)
 | _=>false
def aUU (P:Program) (m:Mem) (t:TypeId) (x:SV) (lo hi mx:Option SV):WR :=
 match jG P t with
 | none=>none
 | some e=>match dA P e with
   | none=>none
   | some sz=>match x with
     | .s (.slc b (.lit o) (.lit n) cap)=>match tZ 0 lo,tZ n hi,m[b]? with
       | some l,some h,some B=>match eE B.aH with
         | some L=>if B.dead=false∧0≤o∧0≤l∧l≤h∧h≤n∧0<sz∧zR B L sz n.toNat cap=true then
            match mx with
            | none=>if l=0∨l<n then match cap with
              | .kn (.lit c)=>some ([],.s (.slc b (.lit (o+l*sz)) (.lit (h-l)) (.kn (.lit (c-l)))),m)
              | .op (.lit k)=>some ([],.s (.slc b (.lit (o+l*sz)) (.lit (h-l)) (.op (.lit (k+l)))),m)
              | _=>none
              else match cap with
              | .kn (.lit c)=>if l=c then some ([],.s (.slc b (.lit o) (.lit (h-l)) (.kn (.lit (c-l)))),m) else none
              | _=>none
            | some v=>match zY v with
              | some z=>if hi.isSome=true∧h≤z∧z≤n∧(l=0∨l<z) then some ([],.s (.slc b (.lit (o+l*sz)) (.lit (h-l)) (.kn (.lit (z-l)))),m) else none
              | none=>none
           else none
         | none=>none
       | _,_,_=>none
     | _=>none
def aUV (P:Program) (m:Mem) (t:TypeId) (x:SV) (lo hi mx:Option SV):WR :=
 match jG P t with
 | none=>none
 | some e=>match dA P e with
   | none=>none
   | some sz=>match x with
     | .s (.slc b (.lit o) (.lit n) (.op (.lit k)))=>match tZ 0 lo,tZ n hi,mx,m[b]? with
       | some l,some h,none,some B=>match eE B.aH with
         | some L=>if B.dead=false∧0≤o∧l=n∧h=n∧0<n∧0<sz∧zR B L sz n.toNat (.op (.lit k))=true then
            some ([],.s (.slc b (.lit (o+l*sz)) (.lit 0) (.tl (.lit o) (.lit (k+l)) false)),m) else none
         | none=>none
       | _,_,_,_=>none
     | .s (.slc b off (.lit 0) (.tl o k false))=>match tZ 0 lo,hi,tZ 0 hi,mx with
       | some 0,some _,some 0,some v=>match zY v with
         | some 0=>some ([],.s (.slc b off (.lit 0) (.tl o k true)),m)
         | _=>none
       | _,_,_,_=>none
     | _=>none
def bCm (H:Hyp) (B:Blk) (off len:E):Cap→Bool
 | .kn c=>leH H len c
 | .op k=>decide (B.grow=some 1∧off=k)&&(match mJ H 1 B.aH with
   | some q=>leA H off len q&&aO H 1 q
   | none=>false)
 | .tl _ _ _=>false
def lB:E→List E
 | .add x y=>lB x++lB y
 | e=>[e]
def wX:List E→List E→Option (List E)
 | l,[]=>some l
 | l,x::r=>if x ∈ l then wX (l.erase x) r else none
def bBj (a b:E):E:=match mkSub a b with
 | .sub p q=>(match wX (lB a) (lB b) with
   | some r=>r.foldl mkAdd (.lit 0)
   | none=>.sub p q)
 | e=>e
def tQ (ρ:Env) (l:List E):Int:=l.foldr (fun x s=>x.i ρ+s) 0
theorem kB (ρ:Env) (x:E) (l:List E):tQ ρ (x::l)=x.i ρ+tQ ρ l:=rfl
theorem zW (ρ:Env):∀ (l r:List E),tQ ρ (l++r)=tQ ρ l+tQ ρ r
 | [],r=>by simp [tQ]
 | x::l,r=>by rw [List.cons_append,kB,kB,zW ρ l r];omega
theorem aEk (ρ:Env):∀ e:E,tQ ρ (lB e)=e.i ρ:=by
 intro e
 induction e with
 | add x y ihx ihy =>
   rw [show lB (.add x y)=lB x++lB y from rfl,zW,ihx,ihy];rfl
 | _=>simp [lB,tQ]
theorem aDx (ρ:Env):∀ (l:List E) (x:E),x ∈ l→tQ ρ (l.erase x)+x.i ρ=tQ ρ l
 | [],x,h=>by cases h
 | y::l,x,h=>by
   by_cases hxy:y=x
   ·subst hxy;rw [List.erase_cons_head,kB];omega
   ·rw [List.erase_cons_tail (by simpa using hxy),kB,kB]
    have:=aDx ρ l x (by
     cases h with
     | head=>exact absurd rfl hxy
     | tail _ h=>exact h)
    omega
theorem aGH (ρ:Env):∀ (b l r:List E),wX l b=some r→tQ ρ r+tQ ρ b=tQ ρ l
 | [],l,r,h=>by
   simp only [wX,Option.some.injEq] at h;subst h;simp [tQ]
 | x::b,l,r,h=>by
   simp only [wX] at h
   split at h
   ·rename_i hx
    have J:=aGH ρ b _ r h
    have M:=aDx ρ l x hx
    rw [kB];omega
   ·cases h
theorem zJ (ρ:Env):∀ (l:List E) (a:E),(l.foldl mkAdd a).i ρ=a.i ρ+tQ ρ l
 | [],a=>by simp [tQ]
 | x::l,a=>by rw [List.foldl_cons,zJ ρ l,aM,kB];omega
theorem bFN {ρ:Env} (a b:E):(bBj a b).i ρ=a.i ρ-b.i ρ:=by
 have N:=fD (ρ:=ρ) a b
 unfold bBj
 split
 ·rename_i p q hpq
  split
  ·rename_i r hr
   have J:=aGH ρ _ _ _ hr
   rw [aEk,aEk] at J
   rw [zJ,aF];omega
  ·rw [← hpq];exact N
 ·exact N
def aUp (H:Hyp):SV→SV
 | .s (.slc b off len (.tl o k false))=>if aO H 1 len then .s (.slc b off len (.op k)) else .s (.slc b off len (.tl o k false))
 | v=>v
theorem bAu {ρ:Env} {ι:Loc} {H:Hyp} (hH:H.ok ρ) (v:SV):(aUp H v).aC ρ ι=v.aC ρ ι:=by
 unfold aUp
 split
 ·split
  ·rename_i h
   have:=aJ hH h
   simp only [SV.aC,S.aC,Bool.false_eq_true,if_false]
   rw [if_neg (by omega),if_neg (by omega)]
  ·rfl
 ·rfl
def Cap.isOp:Cap→Bool
 | .op _=>true
 | _=>false
def aUS (P:Program) (H:Hyp) (m:Mem) (t:TypeId) (x:SV) (lo hi:Option SV):WR :=
 match jG P t with
 | none=>none
 | some e=>match dA P e with
   | none=>none
   | some sz=>match x with
     | .s (.slc b off len cap)=>match aZY (.lit 0) lo,aZY len hi,m[b]? with
       | some l,some h,some B=>if B.dead=false∧aO H 0 off=true∧bCm H B off len cap=true then
          if mkOr (mkLe H l (.lit 0)) (mkLt H l len)=.blit true∨cap.isOp=false then
           some ([mkLe H (.lit 0) l,mkLe H l h,mkLe H h len,mkOr (mkLe H l (.lit 0)) (mkLt H l len)],.s (.slc b (mkAdd off (mkMul l (.lit sz))) (aDH H (bBj h l)) (match cap with | .kn c=>.kn (mkSub c l) | .op k=>.op (mkAdd k l) | .tl o k z=>.tl o k z)),m)
          else some ([mkLe H (.lit 0) l,mkLe H l h,mkLe H h len],.s (.slc b (mkAdd off (mkMul l (.lit sz))) (aDH H (bBj h l)) (.tl off (mkAdd off l) false)),m)
          else none
       | _,_,_=>none
     | _=>none
def aDt (P:Program) (H:Hyp) (m:Mem) (t:TypeId) (u:SV) (a b c:Option SV):WR :=
 match (if c.isNone then aUT P H m t u a b else none) with
 | some r=>some r
 | none=>match aUU P m t u a b c with
   | some r=>some r
   | none=>(match aUV P m t u a b c with
     | some r=>some r
     | none=>if c.isNone then (match aUX P H m t u a b with
       | some r=>some r
       | none=>aUS P H m t u a b) else none)
def bDM:List S→Option (List Int)
 | []=>some []
 | .int .u8 (.lit z)::l=>if 0≤z∧z≤255 then (bDM l).map (z::·) else none
 | _=>none
def bCW:List S→Option (List E)
 | []=>some []
 | .int .u8 e::l=>(bCW l).map (e::·)
 | _=>none
def aVa (H:Hyp) (m:Mem) (x:SV):Option (List Seg × E):=match vG H m 1 x with
 | some r=>some r
 | none=>match x with
   | .s (.slc b off len _)=>match m[b]? with
     | some B=>if B.dead then none else if aO H 0 off then (fP H off len 0 B.aH).map fun l=>(l,len) else none
     | none=>none
   | _=>none
def bEM (H:Hyp) (e:E):E:=match e with
 | .sel A j=>dY H A j
 | e=>e
def bPq (P:Program) (H:Hyp) (m:Mem) (src dst:TypeId) (x:SV):WR :=
 match P.underlying dst,jG P src with
 | some .string,some e=>if bAk P e then match aVa H m x with
   | some (L,.lit q)=>if 0<q∧q≤256 then match gE L with
     | some l=>match bDM l with
       | some zs=>some ([],.s (.str (zs.map fun z=>UInt8.ofNat z.toNat)),m)
       | none=>match bCW l with
         | some es=>some ([],.s (.strE (es.map (bEM H))),m)
         | none=>none
     | none=>none
     else none
   | _=>none
   else none
 | _,_=>none
def aID (fr:Fr):Op→Option (TypeId × SV × SV)
 | .call c=>match c.callee,c.args.toList,c.argTypes.toList with
   | .builtin .copy,[s,x],[t,_]=>match dB [] fr s,dB [] fr x with
     | some u,some v=>some (t,u,v)
     | _,_=>none
   | _,_,_=>none
 | _=>none
def bQG (P:Program) (H:Hyp) (fr:Fr) (m:Mem) (o:Op):WR :=
 match oW fr o with
 | some (t,u,v)=>(match aGO P H fr m t u v with
   | some r=>some r
   | none=>aGQ P H fr m t u v)
 | none=>match aID fr o with
   | some (t,u,v)=>(match bCt P H m t u v with
     | some r=>some r
     | none=>bCr P H m t u v)
   | none=>match mW fr o with
   | some (t,t',u,v)=>aAV P H fr m t t' u v
   | none=>match o with
     | .slice t x lo hi mx=>match dB [] fr x,wL fr lo,wL fr hi,wL fr mx with
       | some u,some a,some b,some c=>aDt P H m t (aUp H u) a b c
       | _,_,_,_=>none
     | .convert src dst x=>match dB [] fr x with
       | some u=>bPq P H m src dst u
       | none=>none
     | _=>none
def bQH (P:Program) (H:Hyp) (fr:Fr) (m:Mem) (o:Op):WR:=match wop P H fr m o with
 | some r=>some r
 | none=>bQG P H fr m o
section
variable {ρ:Env} {ι:Loc} {H:Hyp} {P:Program} {w:World} {β:dN} {m:Mem} {fr:Fr} {n:Nat} {a:Act}
theorem yY (hH:H.ok ρ):∀ {l:List Seg} {q:E},rY H l=some q→0≤q.i ρ∧(cellsOf ρ ι l).length=(q.i ρ).toNat
 | [],q,h=>by simp only [rY,Option.some.injEq] at h;subst h;simp [aF,cellsOf]
 | .one x::r,q,h=>by
   simp only [rY,Option.map_eq_some_iff] at h
   obtain ⟨q',hq,rfl⟩:=h
   have:=yY hH hq
   rw [aG,aY,aM,aF,List.length_append,this.2]
   simp;omega
 | .run k n A o::r,q,h=>by
   simp only [rY] at h
   split at h
   ·rename_i hn
    have hn:=aJ hH hn
    simp only [Option.map_eq_some_iff] at h
    obtain ⟨q',hq,rfl⟩:=h
    have:=yY hH hq
    rw [aG,aM,List.length_append,this.2,bH]
    omega
   ·cases h
 | .rows n fs o::r,q,h=>by simp [rY] at h
theorem iC (hH:H.ok ρ) {sz:Nat} {l:List Seg} {q:E} (h:mJ H sz l=some q):0≤q.i ρ∧(cellsOf ρ ι l).length=(q.i ρ).toNat*sz:=by
 unfold mJ at h
 split at h
 ·rename_i L hL
  split at h
  ·rename_i hc
   simp only [Option.some.injEq] at h;subst h
   rw [eQ hL,aF]
   refine ⟨Int.natCast_nonneg _,?_⟩
   rw [Int.toNat_natCast,Nat.div_mul_cancel (Nat.dvd_of_mod_eq_zero hc.1)]
  ·cases h
 ·split at h
  ·rename_i hs;subst hs
   have:=yY (ι:=ι) hH h
   rw [Nat.mul_one];exact this
  ·cases h
theorem xV (hH:H.ok ρ) {p len:E} {k:IntKind} {n A:E} {o:Nat} {l:List Seg} (h:pD H p len k n A o=some l) :
 0≤p.i ρ∧0≤len.i ρ∧p.i ρ+len.i ρ≤n.i ρ∧cellsOf ρ ι l=(((Seg.run k n A o).cells ρ ι).drop (p.i ρ).toNat).take (len.i ρ).toNat:=by
 unfold pD at h
 split at h
 ·rename_i hc
  simp only [Bool.and_eq_true] at hc
  have N:=aJ hH hc.1.1
  have J:0≤len.i ρ:=by
   have h9:=hc.1.2
   rw [Bool.or_eq_true,Bool.and_eq_true,decide_eq_true_eq] at h9
   rcases h9 with h9 | ⟨rfl,h9⟩
   ·exact aJ hH h9
   ·have:=nL hH h9
    rw [fD];omega
  have M:p.i ρ+len.i ρ≤n.i ρ:=by
   exact aCB hH hc.2
  refine ⟨N,J,M,?_⟩
  have key:∀ (B:E) (o':Nat),(∀ j:Nat,j<(len.i ρ).toNat→B.a ρ (o'+j)=A.a ρ (o+((p.i ρ).toNat+j))) →
   cellsOf ρ ι [.run k len B o']=(((Seg.run k n A o).cells ρ ι).drop (p.i ρ).toNat).take (len.i ρ).toNat:=by
   intro B o' hB
   simp only [cellsOf,List.flatMap_cons,List.flatMap_nil,List.append_nil,Seg.cells]
   apply List.ext_getElem?
   intro j
   rw [List.getElem?_take,List.getElem?_drop,List.getElem?_map,List.getElem?_map]
   by_cases hj:j<(len.i ρ).toNat
   ·rw [if_pos hj,List.getElem?_range hj,List.getElem?_range (by omega)]
    simp only [Option.map_some]
    rw [hB j hj]
   ·rw [if_neg hj,List.getElem?_eq_none (by simpa using hj)];rfl
  split at h
  ·rename_i z
   simp only [Option.some.injEq] at h;subst h
   refine key _ _ fun j hj=>?_
   rw [aF];congr 1;omega
  ·simp only [Option.some.injEq] at h;subst h
   refine key _ _ fun j hj=>?_
   rw [nP]
   simp only [aF,aM]
   rw [if_pos (by simp;omega)]
   congr 1
   simp
   omega
 ·cases h
theorem oA (hH:H.ok ρ) (off len:E):∀ (l:List Seg) (st:Nat) (r:List Seg),fP H off len st l=some r→(st:Int)≤off.i ρ →
 0≤len.i ρ∧(off.i ρ-st).toNat+(len.i ρ).toNat≤(cellsOf ρ ι l).length∧cellsOf ρ ι r=((cellsOf ρ ι l).drop (off.i ρ-st).toNat).take (len.i ρ).toNat
 | [],st,r,h,N=>by simp [fP] at h
 | .one x::l,st,r,h,N=>by
   simp only [fP] at h
   split at h
   ·rename_i hc
    have hc:=aJ hH hc
    obtain ⟨J,M,U⟩:=oA hH off len l (st+1) r h (by omega)
    rw [aG,aY]
    have e:(off.i ρ-st).toNat=(off.i ρ-(st+1:Nat)).toNat+1:=by omega
    refine ⟨J,by simp;omega,?_⟩
    rw [U,e,List.singleton_append,List.drop_succ_cons]
   ·cases h
 | .run k n A o::l,st,r,h,N=>by
   have fits:pD H (mkSub off (.lit st)) len k n A o=some r→0≤len.i ρ∧(off.i ρ-st).toNat+(len.i ρ).toNat≤(cellsOf ρ ι (.run k n A o::l)).length∧cellsOf ρ ι r=((cellsOf ρ ι (.run k n A o::l)).drop (off.i ρ-st).toNat).take (len.i ρ).toNat:=by
    intro hf
    obtain ⟨f0,f1,f2,f3⟩:=xV (ι:=ι) hH hf
    rw [fD,aF] at f0 f2 f3
    have hl:=bH (ρ:=ρ) (ι:=ι) k n A o
    refine ⟨f1,by rw [aG,List.length_append,hl];omega,?_⟩
    rw [f3,aG,List.drop_append_of_le_length (by rw [hl];omega),List.take_append_of_le_length (by rw [List.length_drop,hl];omega)]
   unfold fP at h
   split at h
   ·rename_i z
    split at h
    ·rename_i hc
     have hc2:=aJ hH hc.2
     obtain ⟨J,M,U⟩:=oA hH off len l (st+z.toNat) r h (by omega)
     have hl:=bH (ρ:=ρ) (ι:=ι) k (.lit z) A o
     rw [aF] at hl
     rw [aG]
     have e:(off.i ρ-st).toNat=z.toNat+(off.i ρ-(st+z.toNat:Nat)).toNat:=by omega
     refine ⟨J,by rw [List.length_append,hl];omega,?_⟩
     rw [U,e,List.drop_append,hl,Nat.add_sub_cancel_left]
     have e2:List.drop (z.toNat+(off.i ρ-(st+z.toNat:Nat)).toNat) (Seg.cells ρ ι (Seg.run k (E.lit z) A o))=[]:=List.drop_of_length_le (by rw [hl];omega)
     rw [e2,List.nil_append]
    ·exact fits h
   ·exact fits h
 | .rows n fs o::l,st,r,h,N=>by simp [fP] at h
theorem aCl (hH:H.ok ρ) {off len:E}:∀ (l:List Seg) (st:Nat) (r:List Seg),fP H off len st l=some r→¬ off.i ρ<0
 | [],st,r,h=>by simp [fP] at h
 | .one x::l,st,r,h=>by
   simp only [fP] at h
   split at h
   ·rename_i hc;have:=aJ hH hc;omega
   ·cases h
 | .run k n A o::l,st,r,h=>by
   have fits:pD H (mkSub off (.lit st)) len k n A o=some r→¬ off.i ρ<0:=by
    intro hf
    have:=(xV (ι:=⟨fun _=>0,fun _=>0,fun _=>false⟩) hH hf).1
    rw [fD,aF] at this;omega
   unfold fP at h
   split at h
   ·split at h
    ·rename_i hc;have:=aJ hH hc.2;omega
    ·exact fits h
   ·exact fits h
 | .rows n fs o::l,st,r,h=>by simp [fP] at h
theorem zF {k:Nat}:∀ (l:List Seg) (j:Nat) (r:List Seg),bL j l=some r→l.all (Seg.sc k)=true→r.all (Seg.sc k)=true:=by
 intro l
 induction l with
 | nil =>
   intro j r h hs
   cases j with
   | zero=>simp only [bL,Option.some.injEq] at h;subst h;rfl
   | succ j=>simp [bL] at h
 | cons x l ih =>
   intro j r h hs
   simp only [List.all_cons,Bool.and_eq_true] at hs
   cases j with
   | zero=>simp only [bL,Option.some.injEq] at h;subst h;simp [hs.1];simpa using hs.2
   | succ j =>
     cases x with
     | one y=>simp only [bL] at h;exact ih _ _ h hs.2
     | run kd n A o =>
       cases n with
       | lit z =>
         simp only [bL] at h
         split at h
         ·split at h
          ·exact ih _ _ h hs.2
          ·simp only [Option.some.injEq] at h;subst h
           simp only [List.all_cons,hs.2,Bool.and_true];rfl
         ·cases h
       | _=>simp [bL] at h
     | rows n fs o =>
       cases n with
       | lit z =>
         simp only [bL] at h
         split at h
         ·split at h
          ·exact ih _ _ h hs.2
          ·split at h
           ·simp only [Option.some.injEq] at h;subst h
            simp only [List.all_cons,hs.2,Bool.and_true];rfl
           ·simp only [Option.some.injEq] at h;subst h
            rw [List.all_append]
            simp only [List.all_cons,Seg.sc,Bool.true_and,hs.2,Bool.and_true]
            rw [List.all_eq_true]
            intro y hy
            have:=List.mem_of_mem_drop hy
            simp only [kN,List.mem_map] at this
            obtain ⟨f,_,rfl⟩:=this
            simp only [Seg.sc,qH];split <;> rfl
         ·cases h
       | _=>simp [bL] at h
theorem aTi {k:Nat}:∀ (l:List Seg) (j:Nat) (r:List Seg),bT j l=some r→l.all (Seg.sc k)=true→r.all (Seg.sc k)=true:=by
 have hun:∀ (fs:List XF) (o j:Nat),((kN fs o).take j).all (Seg.sc k)=true:=by
  intro fs o j
  rw [List.all_eq_true]
  intro y hy
  have:=List.mem_of_mem_take hy
  simp only [kN,List.mem_map] at this
  obtain ⟨f,_,rfl⟩:=this
  simp only [Seg.sc,qH];split <;> rfl
 intro l
 induction l with
 | nil =>
   intro j r h hs
   cases j with
   | zero=>simp only [bT,Option.some.injEq] at h;subst h;rfl
   | succ j=>simp [bT] at h
 | cons x l ih =>
   intro j r h hs
   simp only [List.all_cons,Bool.and_eq_true] at hs
   cases j with
   | zero=>simp only [bT,Option.some.injEq] at h;subst h;rfl
   | succ j =>
     cases x with
     | one y =>
       simp only [bT,Option.map_eq_some_iff] at h
       obtain ⟨r',h,rfl⟩:=h
       simp only [List.all_cons,hs.1,ih _ _ h hs.2,Bool.and_self]
     | run kd n A o =>
       cases n with
       | lit z =>
         simp only [bT] at h
         split at h
         ·split at h
          ·simp only [Option.map_eq_some_iff] at h
           obtain ⟨r',h,rfl⟩:=h
           simp only [List.all_cons,Seg.sc,ih _ _ h hs.2,Bool.and_self]
          ·simp only [Option.some.injEq] at h;subst h
           simp [Seg.sc]
         ·cases h
       | _=>simp [bT] at h
     | rows n fs o =>
       cases n with
       | lit z =>
         simp only [bT] at h
         split at h
         ·split at h
          ·simp only [Option.map_eq_some_iff] at h
           obtain ⟨r',h,rfl⟩:=h
           simp only [List.all_cons,Seg.sc,ih _ _ h hs.2,Bool.and_self]
          ·split at h
           ·simp only [Option.some.injEq] at h;subst h
            exact hun _ _ _
           ·simp only [Option.some.injEq] at h;subst h
            simp only [List.all_cons,Seg.sc,hun,Bool.and_self]
         ·cases h
       | _=>simp [bT] at h
theorem xW {p len:E} {k:IntKind} {n A:E} {o j:Nat} {l:List Seg} (h:pD H p len k n A o=some l):l.all (Seg.sc j)=true:=by
 unfold pD at h
 split at h
 ·split at h <;> (simp only [Option.some.injEq] at h;subst h;simp [Seg.sc])
 ·cases h
theorem sS {j:Nat} (off len:E):∀ (l:List Seg) (st:Nat) (r:List Seg),fP H off len st l=some r→r.all (Seg.sc j)=true
 | [],st,r,h=>by simp [fP] at h
 | .one x::l,st,r,h=>by
   simp only [fP] at h
   split at h
   ·exact sS off len l _ _ h
   ·cases h
 | .run k n A o::l,st,r,h=>by
   unfold fP at h
   split at h
   ·split at h
    ·exact sS off len l _ _ h
    ·exact xW h
   ·exact xW h
 | .rows n fs o::l,st,r,h=>by simp [fP] at h
theorem bIA {j sz:Nat} {aH L:List Seg} {len off:E} (h:aUN H sz aH len off=some L) (hs:aH.all (Seg.sc j)=true):L.all (Seg.sc j)=true:=by
 unfold aUN at h
 split at h
 ·split at h
  ·split at h
   ·rename_i hd
    split at h
    ·simp only [Option.some.injEq] at h;subst h;exact zF _ _ _ hd hs
    ·cases h
   ·cases h
  ·cases h
 ·cases h
theorem aAJ {sz:Nat} {x:SV} {L:List Seg} {q:E} (h:vG H m sz x=some (L,q)) (hm:m.all (fun B=>B.aH.all (Seg.sc m.length))=true):L.all (Seg.sc m.length)=true:=by
 unfold vG at h
 split at h
 ·simp only [Option.some.injEq,Prod.mk.injEq] at h;obtain ⟨rfl,rfl⟩:=h;rfl
 ·split at h
  ·rename_i B hB
   have hBs:B.aH.all (Seg.sc m.length)=true:=List.all_eq_true.1 hm B (List.mem_of_getElem? hB)
   split at h
   ·cases h
   ·split at h
    ·split at h
     ·split at h
      ·simp only [Option.some.injEq,Prod.mk.injEq] at h;obtain ⟨rfl,rfl⟩:=h;rfl
      ·split at h
       ·rename_i l hl
        simp only [Option.some.injEq,Prod.mk.injEq] at h;obtain ⟨rfl,rfl⟩:=h
        obtain ⟨l1,J,M⟩:=Option.bind_eq_some_iff.1 hl
        exact aTi _ _ _ M (zF _ _ _ J hBs)
       ·split at h
        ·simp only [Option.map_eq_some_iff,Prod.mk.injEq] at h
         obtain ⟨l,J,rfl,rfl⟩:=h
         exact sS _ _ _ _ _ J
        ·cases h
     ·cases h
    ·split at h
     ·rename_i hrd
      simp only [Option.some.injEq,Prod.mk.injEq] at h;obtain ⟨rfl,rfl⟩:=h;exact bIA hrd hBs
     ·split at h
      ·simp only [Option.map_eq_some_iff,Prod.mk.injEq] at h
       obtain ⟨l,J,rfl,rfl⟩:=h
       exact sS _ _ _ _ _ J
      ·cases h
  ·cases h
 ·split at h
  ·split at h
   ·simp only [Option.map_eq_some_iff,Prod.mk.injEq] at h
    obtain ⟨l,J,rfl,rfl⟩:=h
    exact xW J
   ·cases h
  ·cases h
 ·split at h
  ·split at h
   ·simp only [Option.some.injEq,Prod.mk.injEq] at h
    obtain ⟨rfl,rfl⟩:=h
    rfl
   ·cases h
  ·cases h
 ·simp only [Option.some.injEq,Prod.mk.injEq] at h
  obtain ⟨rfl,rfl⟩:=h
  rfl
 ·cases h
theorem lF:cellsOf ρ ι []=[]:=rfl
theorem rT {k:IntKind} {n A:E} {o:Nat}:(cellsOf ρ ι [.run k n A o]).length=(n.i ρ).toNat:=by
 simp [cellsOf,Seg.cells]
theorem gQ {l:List Seg} (h:(cellsOf ρ ι l).length=0):cellsOf ρ ι l=[]:=List.eq_nil_of_length_eq_zero h
theorem aId (b:Nat) (off len:E) (cap:Cap) :
 ∃ base C,(S.slc b off len cap).aC ρ ι=.slice base (len.i ρ).toNat C∧(0<(len.i ρ).toNat→base=some (addr ρ ι b off)):=by
 cases cap with
 | tl o k z=>exact ⟨_,_,rfl,fun h=>by rw [if_neg (by omega)]⟩
 | kn e=>exact ⟨some (addr ρ ι b off),(e.i ρ).toNat,rfl,fun _=>rfl⟩
 | op e =>
   simp only [S.aC]
   split
   ·rename_i hc;exact ⟨none,0,by rw [hc.2],fun h=>by omega⟩
   ·exact ⟨_,_,rfl,fun _=>rfl⟩
theorem aIe (hm:aK ρ β ι m w) {b:Nat} {B:Blk} (hB:m[b]? = some B) (hd:B.dead=false) (off len:E) (cap:Cap) :
 ∃ base C,(S.slc b off len cap).aC ρ ι=.slice base (len.i ρ).toNat C∧(0<(len.i ρ).toNat→base=some (addr ρ ι b off)):=aId b off len cap
theorem nQ (hm:aK ρ β ι m w) {b:Nat} {B:Blk} (hB:m[b]? = some B) (hd:B.dead=false) (off:E) (L:List Value) (hL:∀ j v,L[j]? = some v→(cellsOf ρ ι B.aH)[(off.i ρ).toNat+j]? = some v) :
 ∀ j v,L[j]? = some v→w.cell? ((addr ρ ι b off).add j)=some v:=by
 intro j v hj
 have J:=hL j v hj
 have hnil:ι.nil b=false:=by
  cases hh:ι.nil b with
  | false=>rfl
  | true=>rw [(hm.nils b B hB hd hh).2] at J;simp at J
 obtain ⟨fz,rest,M,_⟩:=hm.blk b B hB hd hnil
 have hlt:=(List.getElem?_eq_some_iff.1 J).1
 have e:w.cell? ((addr ρ ι b off).add j)=(cellsOf ρ ι B.aH++rest)[(off.i ρ).toNat+j]? := by
  rw [addr,Addr.add_lit];simp [World.cell?,M]
 rw [e,List.getElem?_append_left hlt,J]
theorem bIz (hH:H.ok ρ) {sz:Nat} {aH L:List Seg} {len off:E} (h:aUN H sz aH len off=some L) :
 0≤len.i ρ∧(off.i ρ).toNat+(len.i ρ).toNat*sz≤(cellsOf ρ ι aH).length∧cellsOf ρ ι L=((cellsOf ρ ι aH).drop (off.i ρ).toNat).take ((len.i ρ).toNat*sz):=by
 unfold aUN at h
 split at h
 ·rename_i o
  split at h
  ·split at h
   ·rename_i L' hd
    split at h
    ·rename_i hr
     simp only [Option.some.injEq] at h;subst h
     obtain ⟨r0,r1⟩:=iC (ι:=ι) hH hr
     obtain ⟨d1,d2⟩:=dP (ρ:=ρ) (ι:=ι) _ _ _ hd
     rw [d1,List.length_drop] at r1
     refine ⟨r0,by rw [aF];omega,?_⟩
     rw [d1,aF,← r1,List.take_of_length_le (by rw [List.length_drop];omega)]
    ·cases h
   ·cases h
  ·cases h
 ·cases h
theorem bEQ {sz:Nat} {aH L:List Seg} {len off:E} (h:aUN H sz aH len off=some L):0≤off.i ρ:=by
 unfold aUN at h
 split at h
 ·split at h
  ·rename_i hc;rw [aF];exact hc
  ·cases h
 ·cases h
theorem lK (hH:H.ok ρ) (hm:aK ρ β ι m w) {sz:Nat} (hsz:0<sz) {x:SV} {L:List Seg} {q:E} (h:vG H m sz x=some (L,q)) :
 0≤q.i ρ∧(cellsOf ρ ι L).length=(q.i ρ).toNat*sz∧∃ base C,x.aC ρ ι=.slice base (q.i ρ).toNat C∧(0<(q.i ρ).toNat→∃ ad,base=some ad∧∀ j v,(cellsOf ρ ι L)[j]? = some v→w.cell? (ad.add j)=some v):=by
 unfold vG at h
 split at h
 ·simp only [Option.some.injEq,Prod.mk.injEq] at h;obtain ⟨rfl,rfl⟩:=h
  refine ⟨by rw [aF];omega,by rw [aF];simp [cellsOf],none,0,?_,fun h=>?_⟩
  ·rw [aF];rfl
  ·rw [aF] at h;simp at h
 ·rename_i b off len cap
  split at h
  ·rename_i B hB
   split at h
   ·cases h
   ·rename_i hd
    simp only [Bool.not_eq_true] at hd
    obtain ⟨base,C,hc,hbase⟩:=aIe hm hB hd off len cap
    have fin:∀ (l:List Seg),0≤len.i ρ→(off.i ρ).toNat+(len.i ρ).toNat*sz≤(cellsOf ρ ι B.aH).length→cellsOf ρ ι l=((cellsOf ρ ι B.aH).drop (off.i ρ).toNat).take ((len.i ρ).toNat*sz) →
     0≤len.i ρ∧(cellsOf ρ ι l).length=(len.i ρ).toNat*sz∧∃ base C,(SV.s (.slc b off len cap)).aC ρ ι=.slice base (len.i ρ).toNat C∧(0<(len.i ρ).toNat→∃ ad,base=some ad∧∀ j v,(cellsOf ρ ι l)[j]? = some v→w.cell? (ad.add j)=some v):=by
     intro l N J M
     refine ⟨N,by rw [M];simp;omega,base,C,hc,fun hp=>⟨_,hbase hp,?_⟩⟩
     refine nQ hm hB hd off _ fun j v hj=>?_
     rw [M,List.getElem?_take] at hj
     split at hj
     ·rw [List.getElem?_drop] at hj;exact hj
     ·cases hj
    split at h
    ·rename_i o nn
     split at h
     ·rename_i hcc
      split at h
      ·rename_i e7
       simp only [Option.some.injEq,Prod.mk.injEq] at h
       obtain ⟨rfl,rfl⟩:=h
       subst e7
       exact ⟨Int.le_refl _,by simp [cellsOf,aF],base,C,hc,fun hp=>by simp [aF] at hp⟩
      ·split at h
       ·rename_i l hl
        simp only [Option.some.injEq,Prod.mk.injEq] at h;obtain ⟨rfl,rfl⟩:=h
        obtain ⟨l1,J,M⟩:=Option.bind_eq_some_iff.1 hl
        obtain ⟨d1,d2⟩:=dP (ρ:=ρ) (ι:=ι) _ _ _ J
        obtain ⟨t1,t2⟩:=eJ (ρ:=ρ) (ι:=ι) _ _ _ M
        rw [d1,List.length_drop] at t2
        refine fin _ (by rw [aF];exact hcc.2) ?_ ?_
        ·rw [aF,aF];omega
        ·rw [t1,d1,aF,aF]
       ·split at h
        ·rename_i Z;subst Z
         simp only [Option.map_eq_some_iff,Prod.mk.injEq] at h
         obtain ⟨l,J,rfl,rfl⟩:=h
         obtain ⟨c0,c1,c2⟩:=oA (ι:=ι) hH (.lit o) (.lit nn) _ _ _ J (by rw [aF];simpa using hcc.1)
         simp only [Int.natCast_zero,Int.sub_zero] at c1 c2
         exact fin _ c0 (by omega) (by rw [c2,Nat.mul_one])
        ·cases h
     ·cases h
    ·split at h
     ·rename_i hrd
      simp only [Option.some.injEq,Prod.mk.injEq] at h;obtain ⟨rfl,rfl⟩:=h
      obtain ⟨r0,r1,r2⟩:=bIz (ι:=ι) hH hrd
      exact fin _ r0 r1 r2
     ·split at h
      ·rename_i Z;subst Z
       simp only [Option.map_eq_some_iff,Prod.mk.injEq] at h
       obtain ⟨l,J,rfl,rfl⟩:=h
       have hoff:0≤off.i ρ∨off.i ρ<0:=by omega
       rcases hoff with ho | ho
       ·obtain ⟨c0,c1,c2⟩:=oA (ι:=ι) hH off len _ _ _ J (by simpa using ho)
        simp only [Int.natCast_zero,Int.sub_zero] at c1 c2
        exact fin _ c0 (by omega) (by rw [c2,Nat.mul_one])
       ·exact absurd J (by
         intro hcr
         exact aCl hH (off:=off) (len:=len) _ _ _ hcr ho)
      ·cases h
  ·cases h
 ·rename_i i off len
  split at h
  ·rename_i nn k A hx
   split at h
   ·rename_i Z;subst Z
    simp only [Option.map_eq_some_iff,Prod.mk.injEq] at h
    obtain ⟨l,J,rfl,rfl⟩:=h
    obtain ⟨f0,f1,f2,f3⟩:=xV (ι:=ι) hH J
    have hX:=hH.x _ (hZ hx)
    have hl:=bH (ρ:=ρ) (ι:=ι) k nn A 0
    have hlen:(cellsOf ρ ι l).length=(len.i ρ).toNat:=by rw [f3,List.length_take,List.length_drop,hl];omega
    obtain ⟨b,c,hv,hnc,d9,hcell⟩:=(hm.xD i 0).ok
    have hn:(ρ.I.xs i 0).n=(nn.i ρ).toNat:=hX.n
    have hsz1:(ρ.I.xs i 0).sz=1:=hX.sz
    have hsub:SV.aC ρ ι (.s (.xslc i (.lit 0) off len))=.slice (b.map fun q=>q.add ((off.i ρ).toNat*(ρ.I.xs i 0).sz)) (len.i ρ).toNat (c-(off.i ρ).toNat):=by
     simp only [SV.aC,S.aC,Ext.sub,aF,Int.toNat_zero,hv]
    refine ⟨f1,by rw [Nat.mul_one];exact hlen,_,_,hsub,fun hp=>?_⟩
    cases b with
    | none =>
      have:=(d9 rfl).1
      omega
    | some ad =>
      refine ⟨_,rfl,fun j v hj=>?_⟩
      have hjl:j<(len.i ρ).toNat:=by rw [← hlen];exact (List.getElem?_eq_some_iff.1 hj).1
      have hnn0:=hX.pos
      simp only at hnn0
      have hkk:(off.i ρ).toNat+j<(ρ.I.xs i 0).n*(ρ.I.xs i 0).sz:=by rw [hn,hsz1];omega
      have hce:=(hcell ad rfl _ hkk).2
      have hcv:=hX.cell ((off.i ρ).toNat+j) (show (off.i ρ).toNat+j<(nn.i ρ).toNat by omega) 0 (some k,A) rfl
      simp only [XI.w,List.length_cons,List.length_nil,Nat.zero_add,Nat.mul_one,Nat.add_zero] at hcv
      have eadd:(ad.add ((off.i ρ).toNat*(ρ.I.xs i 0).sz)).add j=ad.add ((off.i ρ).toNat+j):=by
       rw [hsz1,Nat.mul_one];exact add_add ad _ _
      rw [eadd,hce,hcv]
      rw [f3,List.getElem?_take,if_pos hjl,List.getElem?_drop] at hj
      rw [kA _ _ _ _ _ (by omega)] at hj
      rw [← hj]
      simp [XF.aC]
   ·cases h
  ·cases h
 ·rename_i i jj off len _
  split at h
  ·rename_i L' A hx
   split at h
   ·rename_i hc
    obtain ⟨rfl,e5,e8,a9,hle⟩:=hc
    simp only [Option.some.injEq,Prod.mk.injEq] at h
    obtain ⟨rfl,rfl⟩:=h
    have e5:=aJ hH e5
    have e8:=aJ hH e8
    have a9:=aJ hH a9
    have hle:=nL hH hle
    rw [aM,gB hH] at hle
    obtain ⟨⟨i0,xi⟩,hq,hp⟩:=uJ hx
    have hX:=hH.x _ hq
    obtain ⟨r0,rn,rs,rc⟩:=hX.row _ hp (jj.i ρ).toNat
    simp only at r0 rn rs rc
    have hlen:=bH (ρ:=ρ) (ι:=ι) .u8 len (.blt (.tab []) (.lit 0) len A (mkAdd (mkMul jj (.lit 18446744073709551616)) off)) 0
    obtain ⟨b,c,hv,hnc,d9,hcell⟩:=(hm.xD i (jj.i ρ).toNat).ok
    have hc1:cellsOf ρ ι [Seg.run .u8 len (.blt (.tab []) (.lit 0) len A (mkAdd (mkMul jj (.lit 18446744073709551616)) off)) 0]=(Seg.run .u8 len (.blt (.tab []) (.lit 0) len A (mkAdd (mkMul jj (.lit 18446744073709551616)) off)) 0).cells ρ ι:=by simp [cellsOf]
    rw [hc1]
    have hsub:SV.aC ρ ι (.s (.xslc i jj off len))=.slice (b.map fun q=>q.add ((off.i ρ).toNat*(ρ.I.xs i (jj.i ρ).toNat).sz)) (len.i ρ).toNat (c-(off.i ρ).toNat):=by
     simp only [SV.aC,S.aC,Ext.sub,hv]
    refine ⟨a9,by rw [Nat.mul_one];exact hlen,_,_,hsub,fun hp=>?_⟩
    cases b with
    | none =>
      have:=(d9 rfl).1
      omega
    | some ad =>
      refine ⟨_,rfl,fun t v hj=>?_⟩
      have hjl:t<(len.i ρ).toNat:=by rw [← hlen];exact (List.getElem?_eq_some_iff.1 hj).1
      have hkk:(off.i ρ).toNat+t<(ρ.I.xs i (jj.i ρ).toNat).n*(ρ.I.xs i (jj.i ρ).toNat).sz:=by rw [rn,rs];omega
      have hce:=(hcell ad rfl _ hkk).2
      have hcv:=rc ((off.i ρ).toNat+t) (by rw [rn];omega)
      have eadd:(ad.add ((off.i ρ).toNat*(ρ.I.xs i (jj.i ρ).toNat).sz)).add t=ad.add ((off.i ρ).toNat+t):=by
       rw [rs,Nat.mul_one];exact add_add ad _ _
      rw [eadd,hce,hcv]
      rw [kA _ _ _ _ _ (by omega)] at hj
      rw [← hj]
      simp only [nP,aF,aM,dD,Int.toNat_zero,Nat.zero_add,Nat.sub_zero]
      rw [if_pos (by omega)]
      congr 3
      rw [Int.toNat_add (by omega) e8,Int.toNat_mul e5 (by decide)]
      rw [show Int.toNat 18446744073709551616=18446744073709551616 from rfl];omega
   ·cases h
  ·cases h
 ·rename_i i j o off
  simp only [Option.some.injEq,Prod.mk.injEq] at h
  obtain ⟨rfl,rfl⟩:=h
  obtain ⟨b,c,V,_⟩:=(hm.xD i (j.i ρ).toNat).ok
  have hc:SV.aC ρ ι (.s (.xtl i j o off))=.slice (b.map fun a=>a.add ((if c=(off.i ρ).toNat then (o.i ρ).toNat else (off.i ρ).toNat)*(ρ.I.xs i (j.i ρ).toNat).sz)) 0 (c-(off.i ρ).toNat):=by
   rw [show SV.aC ρ ι (.s (.xtl i j o off))=(ρ.I.xs i (j.i ρ).toNat).tl (o.i ρ).toNat (off.i ρ).toNat from rfl,Ext.tl,V]
  refine ⟨by rw [aF];omega,by rw [aF];simp [cellsOf],_,_,by rw [hc,aF];rfl,fun h=>?_⟩
  ·rw [aF] at h;simp at h
 ·cases h
end
section
variable {ρ:Env} {ι:Loc} {H:Hyp}
theorem rA {k:IntKind}:∀ {l:List Seg},fS k l=true→∀ v ∈ cellsOf ρ ι l,∃ z,v=.int k z
 | [],_,v,hv=>by simp [cellsOf] at hv
 | x::l,h,v,hv=>by
   simp only [fS,List.all_cons,Bool.and_eq_true] at h
   rw [aG,List.mem_append] at hv
   rcases hv with hv | hv
   ·cases x with
    | one s =>
      cases s <;> simp only [Bool.false_eq_true,decide_eq_true_eq,false_and] at h
      rename_i k' e
      obtain ⟨rfl,_⟩:=h
      simp only [Seg.cells,List.mem_singleton] at hv
      exact ⟨_,hv⟩
    | run k' nn A o =>
      simp only [decide_eq_true_eq] at h
      obtain ⟨rfl,_⟩:=h
      simp only [Seg.cells,List.mem_map] at hv
      obtain ⟨j,_,rfl⟩:=hv
      exact ⟨_,rfl⟩
    | rows _ _ _=>simp at h
   ·exact rA (l:=l) h.2 v hv
end
section
variable {ρ:Env} {ι:Loc} {H:Hyp}
theorem aGS:∀ (l:List Seg) (A st B:E),aIt A st l=some B→0≤st.i ρ→(∀ x ∈ l,match x with | .run _ n _ _=>0≤n.i ρ | _=>True) →
 ∀ j,B.a ρ j=if j<(st.i ρ).toNat then A.a ρ j else if j<(st.i ρ).toNat+(cellsOf ρ ι l).length then kJ (((cellsOf ρ ι l)[j-(st.i ρ).toNat]?).getD Go.undef) else A.a ρ j
 | [],A,st,B,h,N,hr,j=>by
   simp only [aIt,Option.some.injEq] at h;subst h
   simp only [cellsOf,List.flatMap_nil,List.length_nil,Nat.add_zero]
   split <;> rfl
 | .one s::l,A,st,B,h,N,hr,j=>by
   cases s <;> simp only [aIt,reduceCtorEq] at h
   rename_i k x
   have ih:=aGS l _ _ _ h (by rw [aM,aF];omega) (fun y hy=>hr y (.tail _ hy)) j
   have V:((mkAdd st (.lit 1)).i ρ).toNat=(st.i ρ).toNat+1:=by rw [aM,aF];omega
   rw [ih,V,kD,aG,aY]
   simp only [List.singleton_append,List.length_cons]
   by_cases J:j<(st.i ρ).toNat
   ·rw [if_pos (by omega),if_neg (by omega),if_pos J]
   ·rw [if_neg J]
    by_cases M:j=(st.i ρ).toNat
    ·subst M
     rw [if_pos (by omega),if_pos rfl,if_pos (by omega),Nat.sub_self]
     simp [S.aC,kJ]
    ·rw [if_neg (by omega)]
     by_cases U:j<(st.i ρ).toNat+((cellsOf ρ ι l).length+1)
     ·rw [if_pos (by omega),if_pos U]
      have:j-(st.i ρ).toNat=(j-((st.i ρ).toNat+1))+1:=by omega
      rw [this,List.getElem?_cons_succ]
     ·rw [if_neg (by omega),if_neg M,if_neg U]
 | .run k n C o::l,A,st,B,h,N,hr,j=>by
   simp only [aIt] at h
   have hn:0≤n.i ρ:=hr _ (.head _)
   have ih:=aGS l _ _ _ h (by rw [aM];omega) (fun y hy=>hr y (.tail _ hy)) j
   have V:((mkAdd st n).i ρ).toNat=(st.i ρ).toNat+(n.i ρ).toNat:=by rw [aM];omega
   rw [ih,V,nP,aG]
   have hl:=bH (ρ:=ρ) (ι:=ι) k n C o
   rw [List.length_append,hl]
   simp only [aF,Int.toNat_natCast]
   by_cases J:j<(st.i ρ).toNat
   ·rw [if_pos (by omega),if_neg (by omega),if_pos J]
   ·rw [if_neg J]
    by_cases M:j<(st.i ρ).toNat+(n.i ρ).toNat
    ·rw [if_pos M,if_pos (by omega),if_pos (by omega),List.getElem?_append_left (by omega),kA _ _ _ _ _ (by omega)]
     simp only [Option.getD_some,kJ]
     congr 1;omega
    ·rw [if_neg M]
     by_cases U:j<(st.i ρ).toNat+((n.i ρ).toNat+(cellsOf ρ ι l).length)
     ·rw [if_pos (by omega),if_pos U,List.getElem?_append_right (by omega),hl]
      congr 3;omega
     ·rw [if_neg (by omega),if_neg (by omega),if_neg U]
 | .rows _ _ _::l,A,st,B,h,N,hr,j=>by simp [aIt] at h
theorem oX (hH:H.ok ρ) {l:List Seg} {A:E} (h:aDC H l=some A):∀ j,j<(cellsOf ρ ι l).length→A.a ρ j=kJ (((cellsOf ρ ι l)[j]?).getD Go.undef):=by
 unfold aDC at h
 split at h
 ·rename_i hp
  have hr:∀ x ∈ l,match x with | .run _ n _ _=>0≤n.i ρ | _=>True:=by
   intro x hx
   have:=List.all_eq_true.1 hp x hx
   cases x with
   | run k n A o=>exact aJ hH this
   | _=>trivial
  intro j hj
  unfold bCg at h
  split at h
  ·rename_i k n A' 
   simp only [Option.some.injEq] at h;subst h
   have hl:=bH (ρ:=ρ) (ι:=ι) k n A' 0
   simp only [cellsOf,List.flatMap_cons,List.flatMap_nil,List.append_nil] at hj ⊢
   rw [kA _ _ _ _ _ (by omega)]
   simp [kJ]
  ·have:=aGS (ι:=ι) l _ _ _ h (by rw [aF];omega) hr j
   rw [aF,Int.toNat_zero,if_neg (by omega),Nat.zero_add,if_pos hj,Nat.sub_zero] at this
   exact this
 ·cases h
end
section
variable {ρ:Env} {ι:Loc} {H:Hyp} {β:dN} {m:Mem} {w:World}
theorem aDj (hH:H.ok ρ) (l:List Seg):cellsOf ρ ι (tA H l)=cellsOf ρ ι l:=by
 unfold tA
 cases bDd l with
 | true=>rfl
 | false =>
   simp only [cond_false]
   split
   ·rename_i k _
    cases hk:fS k l with
    | false=>rfl
    | true =>
      simp only [cond_true]
      split
      ·rename_i n A M U
       obtain ⟨hn,hl⟩:=iC (ι:=ι) hH M
       have hA:=oX (ι:=ι) hH U
       rw [Nat.mul_one] at hl
       simp only [cellsOf,List.flatMap_cons,List.flatMap_nil,List.append_nil,Seg.cells]
       apply List.ext_getElem?
       intro j
       rw [List.getElem?_map]
       by_cases hj:j<(n.i ρ).toNat
       ·rw [List.getElem?_range hj]
        have hj':j<(cellsOf ρ ι l).length:=by omega
        have hv:=List.getElem?_eq_getElem hj'
        obtain ⟨z,hz⟩:=rA (ρ:=ρ) (ι:=ι) hk _ (List.getElem_mem hj')
        have:=hA j hj'
        rw [hv,hz] at this
        change _=(cellsOf ρ ι l)[j]?
        rw [hv,hz]
        simp only [Option.map_some,Nat.zero_add,this,Option.getD_some,kJ]
       ·rw [List.getElem?_eq_none (by simpa using hj),Option.map_none]
        exact (List.getElem?_eq_none (by change (cellsOf ρ ι l).length≤j;omega)).symm
      ·rfl
   ·rfl
theorem aUG (hH:H.ok ρ) (B:Blk):(lI H B).ty=B.ty∧(lI H B).wr=B.wr∧(lI H B).grow=B.grow∧(lI H B).dead=B.dead∧cellsOf ρ ι (lI H B).aH=cellsOf ρ ι B.aH:=by
 unfold lI
 cases B.dead||!decide (B.grow=some 1) with
 | true=>exact ⟨rfl,rfl,rfl,rfl,rfl⟩
 | false=>exact ⟨rfl,rfl,rfl,rfl,aDj hH _⟩
theorem aK.bOD (hH:H.ok ρ) (hm:aK ρ β ι m w):aK ρ β ι (m.map (lI H)) w:=by
 have at_:∀ {i:Nat} {C:Blk},(m.map (lI H))[i]? = some C→∃ B,m[i]? = some B∧C.ty=B.ty∧C.wr=B.wr∧C.grow=B.grow∧C.dead=B.dead∧cellsOf ρ ι C.aH=cellsOf ρ ι B.aH:=by
  intro i C h
  rw [List.getElem?_map,Option.map_eq_some_iff] at h
  obtain ⟨B,hB,rfl⟩:=h
  exact ⟨B,hB,aUG hH B⟩
 refine ⟨fun i j C D hC hD hCd hDd=>?_,fun i C hC hCd hCn=>?_,fun i C hC hCd hCn=>?_,hm.agr,by simpa using hm.len,fun i J M=>hm.new i J (by simpa using M),hm.size,fun b hb hi=>hm.old b hb fun i hi'=>hi i (by simpa using hi'),hm.os,hm.tape,hm.output,hm.xt,fun i j a n c hv N k hk=>hm.xd i j a n c hv N k (by simpa using hk)⟩
 ·obtain ⟨B,hB,_,_,_,hd,_⟩:=at_ hC
  obtain ⟨B',hB',_,_,_,hd',_⟩:=at_ hD
  exact hm.inj i j B B' hB hB' (hd ▸ hCd) (hd' ▸ hDd)
 ·obtain ⟨B,hB,ht,hw,hg,hd,hc⟩:=at_ hC
  obtain ⟨fz,rest,J,M,U,h4⟩:=hm.blk i B hB (hd ▸ hCd) hCn
  rw [hc,ht,hg]
  exact ⟨fz,rest,J,fun h=>M (hw ▸ h),U,h4⟩
 ·obtain ⟨B,hB,ht,hw,hg,hd,hc⟩:=at_ hC
  rw [hg,hc];exact hm.nils i B hB (hd ▸ hCd) hCn
end
section
variable {ρ:Env} {ι:Loc} {H:Hyp} {P:Program} {w:World} {β:dN} {m:Mem} {fr:Fr} {n:Nat} {a:Act}
theorem aCZ (hH:H.ok ρ) (k:IntKind):∀ (r:List Seg) (n A:E) (o:Nat),0≤n.i ρ→cellsOf ρ ι (tV H k n A o r)=cellsOf ρ ι (.run k n A o::r)
 | [],n,A,o,N=>rfl
 | .rows _ _ _::r,n,A,o,N=>rfl
 | .one (.int k' x)::r,n,A,o,N=>by
   simp only [tV]
   split
   ·rename_i hk;subst hk
    rw [aCZ hH _ r _ _ _ (by rw [aM,aF];omega),aG,aG,aG,← List.append_assoc]
    congr 1
    apply List.ext_getElem?
    intro j
    have hn:((mkAdd n (.lit 1)).i ρ).toNat=(n.i ρ).toNat+1:=by rw [aM,aF];omega
    have hp:((mkAdd n (.lit o)).i ρ).toNat=(n.i ρ).toNat+o:=by rw [aM,aF];omega
    simp only [Seg.cells,List.getElem?_map,hn,kD,hp]
    by_cases hj:j<(n.i ρ).toNat
    ·rw [List.getElem?_range (by omega),List.getElem?_append_left (by simpa using hj),List.getElem?_map,List.getElem?_range hj]
     simp only [Option.map_some]
     rw [if_neg (by omega)]
    ·by_cases b4:j=(n.i ρ).toNat
     ·rw [List.getElem?_range (by omega),List.getElem?_append_right (by simp;omega)]
      simp only [Option.map_some,List.length_map,List.length_range,b4,Nat.sub_self,List.getElem?_cons_zero,S.aC]
      rw [if_pos (by omega)]
     ·rw [List.getElem?_eq_none (by simp;omega),List.getElem?_eq_none (by simp;omega)];rfl
   ·rfl
 | .one .nil::r,n,A,o,N | .one (.bool _)::r,n,A,o,N | .one (.ptr _ _)::r,n,A,o,N | .one (.slc _ _ _ _)::r,n,A,o,N | .one (.xslc _ _ _ _)::r,n,A,o,N | .one (.xptr _ _ _ _)::r,n,A,o,N
 | .one .nilIface::r,n,A,o,N | .one .nilSlc::r,n,A,o,N | .one (.str _)::r,n,A,o,N | .one (.fn _ _)::r,n,A,o,N | .one .nilFn::r,n,A,o,N | .one (.val _)::r,n,A,o,N | .one (.ifc _ _ _)::r,n,A,o,N | .one (.strE _)::r,n,A,o,N | .one (.xtl _ _ _ _)::r,n,A,o,N | .one .undef::r,n,A,o,N=>rfl
 | .run k' n' A' o'::r,n,A,o,N=>by
   simp only [tV]
   split
   ·rename_i hk
    obtain ⟨rfl,hn'⟩:=hk
    have hn':=bNy hH hn'
    rw [aCZ hH _ r _ _ _ (by rw [xF];omega),aG,aG,aG,← List.append_assoc]
    congr 1
    apply List.ext_getElem?
    intro j
    have hn:((zX n n').i ρ).toNat=(n.i ρ).toNat+(n'.i ρ).toNat:=by rw [xF];omega
    have hp:((mkAdd n (.lit o)).i ρ).toNat=(n.i ρ).toNat+o:=by rw [aM,aF];omega
    simp only [Seg.cells,List.getElem?_map,hn,bEa hH,nP,hp,aF,Int.toNat_natCast]
    by_cases hj:j<(n.i ρ).toNat
    ·rw [List.getElem?_range (by omega),List.getElem?_append_left (by simpa using hj),List.getElem?_map,List.getElem?_range hj]
     simp only [Option.map_some]
     rw [if_neg (by omega)]
    ·by_cases b4:j<(n.i ρ).toNat+(n'.i ρ).toNat
     ·rw [List.getElem?_range b4,List.getElem?_append_right (by simp;omega)]
      simp only [List.length_map,List.length_range,List.getElem?_map]
      rw [List.getElem?_range (by omega)]
      simp only [Option.map_some]
      rw [if_pos (by omega)]
      congr 3;omega
     ·rw [List.getElem?_eq_none (by simp;omega),List.getElem?_eq_none (by simp;omega)];rfl
   ·rfl
theorem rL (hH:H.ok ρ):∀ (l:List Seg),cellsOf ρ ι (qF H l)=cellsOf ρ ι l
 | []=>rfl
 | .one x::r=>by simp only [qF];rw [aG,aG,rL hH r]
 | .rows n fs o::r=>by simp only [qF];rw [aG,aG,rL hH r]
 | .run k n A o::r=>by
   unfold qF
   split
   ·rw [aG,aG,rL hH r]
   ·split
    ·rename_i hn;exact aCZ hH k r n A o (aJ hH hn)
    ·rfl
theorem aDa {j:Nat} (k:IntKind):∀ (r:List Seg) (n A:E) (o:Nat),r.all (Seg.sc j)=true→(tV H k n A o r).all (Seg.sc j)=true
 | [],n,A,o,h=>rfl
 | .rows _ _ _::r,n,A,o,h=>by simpa [tV,Seg.sc] using h
 | .one x::r,n,A,o,h=>by
   simp only [List.all_cons,Bool.and_eq_true] at h
   unfold tV
   split
   ·split
    ·rename_i J _;simp only [List.cons.injEq] at J;obtain ⟨_,rfl⟩:=J;exact aDa k _ _ _ _ h.2
    ·rename_i J _;simp only [List.cons.injEq] at J;obtain ⟨M,rfl⟩:=J;simp only [List.all_cons,h.2,Bool.and_true];rfl
   ·rename_i J;cases J
   ·simp only [List.all_cons,h.1,h.2,Bool.and_true];rfl
 | .run k' n' A' o'::r,n,A,o,h=>by
   simp only [List.all_cons,Bool.and_eq_true] at h
   simp only [tV]
   split
   ·exact aDa k _ _ _ _ h.2
   ·simp only [List.all_cons,h.2,Bool.and_true];rfl
theorem rM {j:Nat}:∀ (l:List Seg),l.all (Seg.sc j)=true→(qF H l).all (Seg.sc j)=true
 | [],h=>rfl
 | .one x::r,h=>by
   simp only [List.all_cons,Bool.and_eq_true] at h
   simp only [qF,List.all_cons,h.1,rM r h.2,Bool.and_self]
 | .rows n fs o::r,h=>by
   simp only [List.all_cons,Bool.and_eq_true] at h
   simp only [qF,List.all_cons,rM r h.2,Bool.and_true];rfl
 | .run k n A o::r,h=>by
   simp only [List.all_cons,Bool.and_eq_true] at h
   unfold qF
   split
   ·simp only [List.all_cons,rM r h.2,Bool.and_true];rfl
   ·split
    ·exact aDa k r _ _ _ h.2
    ·simp only [List.all_cons,h.2,Bool.and_true];rfl
theorem aUH {j:Nat} {l:List Seg} (h:l.all (Seg.sc j)=true):(tA H l).all (Seg.sc j)=true:=by
 unfold tA
 cases bDd l with
 | true=>exact h
 | false =>
   simp only [cond_false]
   split
   ·rename_i k _
    cases fS k l with
    | false=>exact h
    | true =>
      simp only [cond_true]
      split
      ·simp [Seg.sc]
      ·exact h
   ·exact h
theorem oM (hH:H.ok ρ) (l:List Seg):cellsOf ρ ι (eG H l)=cellsOf ρ ι l:=by
 unfold eG
 cases aTU l with
 | false=>exact rL hH l
 | true=>rw [cond_true,aDj hH,rL hH]
theorem rN {j:Nat} (l:List Seg) (h:l.all (Seg.sc j)=true):(eG H l).all (Seg.sc j)=true:=by
 unfold eG
 cases aTU l with
 | false=>exact rM l h
 | true=>exact aUH (rM l h)
theorem iQ (hm:aK ρ β ι m w) (hs:m.all (fun B=>B.aH.all (Seg.sc m.length))=true) {e:TypeId} {i:TypeInfo} {z:Value} (hzs:z.cells.size=i.size) {aH:List Seg} (hsc:aH.all (Seg.sc m.length)=true) {k c:Nat} (hk:k≤67108864)
 (hlen:(cellsOf ρ ι aH).length=k*i.size) :
 aK ρ β (cV ι m.length w.heap.size (grownCap w k c e) false) (m++[⟨e,aH,true,some i.size,false⟩]) (w.drew.alloc (.cells ((cellsOf ρ ι aH).toArray++Builtin.zeroCells z.cells (grownCap w k c e-k)) e)):=by
 refine hm.push ⟨e,aH,true,some i.size,false⟩ w.heap.size (grownCap w k c e) false hs hsc (fun b hb=>?_) (by simp [World.alloc]) rfl rfl rfl (Nat.le_refl _) (fun _ _=>⟨(0,0),(Builtin.zeroCells z.cells (grownCap w k c e-k)).toList,?_,fun _=>Nat.le_refl _,fun q hq'=>?_,fun h=>by cases h⟩) (fun _ h=>by cases h)
 ·exact heap_alloc_old w.drew _ b hb
 ·have:=heap_alloc_new w.drew (.cells ((cellsOf ρ ι aH).toArray++Builtin.zeroCells z.cells (grownCap w k c e-k)) e)
  rw [show w.drew.heap.size=w.heap.size from rfl] at this
  rw [this]
  congr 2
  apply Array.ext';simp
 ·simp only [Option.some.injEq] at hq';subst hq'
  have hge:=grownCap_ge w k c e
  refine ⟨?_,grownCap_le_maxLen w k c e (by simp only [maxLen];omega)⟩
  have hzl:(Builtin.zeroCells z.cells (grownCap w k c e-k)).toList.length=(grownCap w k c e-k)*i.size:=by rw [Array.length_toList,size_zeroCells,hzs]
  rw [List.length_append,hzl,hlen,← Nat.add_mul]
  congr 1;omega
theorem jB {e:TypeId} {r c:Nat} {q:E} (K:Nat):SV.aC ρ (cV ι K r c false) (.s (.slc K (.lit 0) q (.op (.lit 0))))=.slice (some ⟨r,0,none⟩) (q.i ρ).toNat c:=by
 simp only [SV.aC,S.aC,addr,aF,cV,if_true,Bool.false_eq_true,false_and,if_false]
 simp
theorem aSz {r c:Nat} {q:E} (K:Nat) (hq:(q.i ρ).toNat=0):SV.aC ρ (cV ι K r c true) (.s (.slc K (.lit 0) q (.op (.lit 0))))=.slice none 0 0:=by
 simp only [SV.aC,S.aC,addr,aF,cV,if_true,hq,true_and]
theorem aSA (hm:aK ρ β ι m w) (hs:m.all (fun B=>B.aH.all (Seg.sc m.length))=true) {e:TypeId} {sz:Nat} {aH:List Seg} (hsc:aH.all (Seg.sc m.length)=true) (hnil:cellsOf ρ ι aH=[]) :
 aK ρ β (cV ι m.length w.heap.size 0 true) (m++[⟨e,aH,true,some sz,false⟩]) w :=
 hm.push ⟨e,aH,true,some sz,false⟩ w.heap.size 0 true hs hsc (fun b hb=>rfl) (Nat.le_refl _) rfl rfl rfl (Nat.le_refl _) (fun _ h=>by cases h) (fun _ _=>⟨rfl,hnil⟩)
theorem sX (n:Nat):∀ (A:E) (o k:Nat),k<n→(narrow n A o).1.a ρ ((narrow n A o).2+k)=A.a ρ (o+k)
 | .upd C i x,o,k,hk=>by
   unfold narrow
   split
   ·rename_i z
    cases hc:(Nat.blt z.toNat o||Nat.ble (o+n) z.toNat)
    ·rfl
    ·simp only [cond_true]
     rw [sX n C o k hk,cC,aF]
     rw [Bool.or_eq_true,Nat.blt_eq,Nat.ble_eq] at hc
     show _=if o+k=z.toNat then _ else _
     rw [if_neg (by omega)]
   ·rfl
 | .blt C i m D j,o,k,hk=>by
   unfold narrow
   split
   ·rename_i a l q
    cases hc:(Nat.ble (o+n) a.toNat||Nat.ble (a.toNat+l.toNat) o)
    ·cases hc2:(Nat.ble a.toNat o&&Nat.ble (o+n) (a.toNat+l.toNat))
     ·rfl
     ·simp only [cond_true,cond_false]
      rw [sX n D _ k hk,nP]
      show _=if a.toNat≤o+k∧o+k<a.toNat+l.toNat then D.a ρ (o+k-a.toNat+q.toNat) else C.a ρ (o+k)
      rw [Bool.and_eq_true,Nat.ble_eq,Nat.ble_eq] at hc2
      rw [if_pos (by omega)]
      congr 1;omega
    ·simp only [cond_true]
     rw [sX n C o k hk,nP]
     show _=if a.toNat≤o+k∧o+k<a.toNat+l.toNat then D.a ρ (o+k-a.toNat+q.toNat) else C.a ρ (o+k)
     rw [Bool.or_eq_true,Nat.ble_eq,Nat.ble_eq] at hc
     rw [if_neg (by omega)]
   ·rfl
 | .v _,_,_,_ | .bv _,_,_,_ | .av _,_,_,_ | .lit _,_,_,_ | .blit _,_,_,_ | .add _ _,_,_,_ | .sub _ _,_,_,_ | .mul _ _,_,_,_ | .div _ _,_,_,_ | .mod _ _,_,_,_ | .tdiv _ _,_,_,_ | .tmod _ _,_,_,_ | .pow2 _,_,_,_ | .wrap _ _,_,_,_ | .bits _ _ _ _,_,_,_ | .ite _ _ _,_,_,_ | .sel _ _,_,_,_ | .lt _ _,_,_,_ | .le _ _,_,_,_ | .eq _ _,_,_,_ | .not _,_,_,_ | .and _ _,_,_,_ | .or _ _,_,_,_ | .iff _ _,_,_,_ | .aeq _ _ _ _ _ _,_,_,_ | .tab _,_,_,_ | .app _ _,_,_,_ | .nil,_,_,_ | .cons _ _,_,_,_=>rfl
theorem uO (n:E):∀ (A:E) (o k:Nat),k<(n.i ρ).toNat→(nE n A o).1.a ρ ((nE n A o).2+k)=A.a ρ (o+k)
 | .upd C i x,o,k,hk=>by
   unfold nE
   split
   ·rename_i z
    cases hc:Nat.blt z.toNat o
    ·rfl
    ·simp only [cond_true]
     rw [uO n C o k hk,cC,aF]
     rw [Nat.blt_eq] at hc
     show _=if o+k=z.toNat then _ else _
     rw [if_neg (by omega)]
   ·rfl
 | .blt C i m D j,o,k,hk=>by
   unfold nE
   split
   ·rename_i a q
    cases hc:(Nat.beq a.toNat o&&E.beq m n)
    ·rfl
    ·simp only [cond_true]
     rw [Bool.and_eq_true,E.beq_iff] at hc
     obtain ⟨ha,rfl⟩:=hc
     have ha:=Nat.eq_of_beq_eq_true ha
     rw [uO _ D _ k hk,nP]
     show _=if a.toNat≤o+k∧o+k<a.toNat+_ then D.a ρ (o+k-a.toNat+q.toNat) else C.a ρ (o+k)
     rw [if_pos (by omega)]
     congr 1;omega
   ·rfl
 | .v _,_,_,_ | .bv _,_,_,_ | .av _,_,_,_ | .lit _,_,_,_ | .blit _,_,_,_ | .add _ _,_,_,_ | .sub _ _,_,_,_ | .mul _ _,_,_,_ | .div _ _,_,_,_ | .mod _ _,_,_,_ | .tdiv _ _,_,_,_ | .tmod _ _,_,_,_ | .pow2 _,_,_,_ | .wrap _ _,_,_,_ | .bits _ _ _ _,_,_,_ | .ite _ _ _,_,_,_ | .sel _ _,_,_,_ | .lt _ _,_,_,_ | .le _ _,_,_,_ | .eq _ _,_,_,_ | .not _,_,_,_ | .and _ _,_,_,_ | .or _ _,_,_,_ | .iff _ _,_,_,_ | .aeq _ _ _ _ _ _,_,_,_ | .tab _,_,_,_ | .app _ _,_,_,_ | .nil,_,_,_ | .cons _ _,_,_,_=>rfl
theorem aTR (x:Seg):cellsOf ρ ι (pG x)=x.cells ρ ι:=by
 unfold pG
 split
 ·rename_i k z A o
  split
  ·split
   ·rename_i l hl
    have:=eK (ρ:=ρ) (ι:=ι) hl
    rw [fY,← this]
    simp [cellsOf]
   ·simp [cellsOf]
  ·simp only [cellsOf,List.flatMap_cons,List.flatMap_nil,List.append_nil,Seg.cells,aF]
   exact List.map_congr_left fun j hj=>by rw [sX _ _ _ _ (List.mem_range.1 hj)]
 ·simp only [cellsOf,List.flatMap_cons,List.flatMap_nil,List.append_nil,Seg.cells]
  exact List.map_congr_left fun j hj=>by rw [uO _ _ _ _ (List.mem_range.1 hj)]
 ·simp [cellsOf]
theorem jQ (l:List Seg):cellsOf ρ ι (bQ l)=cellsOf ρ ι l:=by
 induction l with
 | nil=>rfl
 | cons x l ih =>
   rw [show bQ (x::l)=pG x++bQ l from rfl,cH,ih,aTR,aG]
theorem aTS {j:Nat} {x:Seg} (h:Seg.sc j x=true):(pG x).all (Seg.sc j)=true:=by
 unfold pG
 split
 ·rename_i k z A o
  split
  ·split
   ·rename_i l hl
    unfold gE at hl
    split at hl
    ·simp only [gE,Option.map_some,Option.some.injEq,List.append_nil] at hl
     subst hl
     simp [pS,List.all_eq_true,Seg.sc,S.sc]
    ·cases hl
   ·simp [Seg.sc]
  ·simp [Seg.sc]
 ·simp [Seg.sc]
 ·simpa using h
theorem lU {j:Nat} {l:List Seg} (h:l.all (Seg.sc j)=true):(bQ l).all (Seg.sc j)=true:=by
 induction l with
 | nil=>rfl
 | cons x l ih =>
   simp only [List.all_cons,Bool.and_eq_true] at h
   rw [show bQ (x::l)=pG x++bQ l from rfl,List.all_append,aTS h.1,ih h.2];rfl
theorem aTx (hH:H.ok ρ) (hm:aK ρ β ι m w) (hf:aR ρ ι n fr a) {t ty:TypeId} {s x:SV} {nd:List E} {v:SV} {m':Mem} (h:aGO P H fr m t s x=some (nd,v,m')) :
 ∃ r w',(Builtin.append_ #[t,t] ty #[s.aC ρ ι,x.aC ρ ι]).run P w=.ok r w'∧dW ρ β ι n fr m m' a v r w':=by
 unfold aGO at h
 split at h
 ·cases h
 ·rename_i e ht
  have ht:=aU ht
  split at h
  ·cases h
  ·rename_i sz by_ hzi
   obtain ⟨i,z,hi,hz,rfl,rfl,hzs,hsz⟩:=jI hzi
   split at h
   ·cases h
   ·rename_i L q hx
    split at h
    ·rename_i hc
     simp only [Bool.and_eq_true,decide_eq_true_eq] at hc
     obtain ⟨⟨hby,hfm⟩,hpl⟩:=hc
     simp only [jL,Bool.and_eq_true] at hfm
     have hLsc:=aAJ hx hfm.2
     obtain ⟨b0,hLlen,base,C,hxc,hcell⟩:=lK (ι:=ι) hH hm hsz hx
     have fit:∀ k:Nat,k≤67108864→k*i.bytes≤140737488355328:=fun k hk=>Nat.le_trans (Nat.mul_le_mul hk hby) (by decide)
     split at h
     ·-- nothing so far
      split at h
      ·rename_i hqm
       have hqm:=bJ hH hqm
       simp only [Option.some.injEq,Prod.mk.injEq] at h
       obtain ⟨rfl,rfl,rfl⟩:=h
       by_cases hk:(q.i ρ).toNat=0
       ·refine ⟨.slice none 0 0,w,?_,cV ι m.length w.heap.size 0 true,(aSz _ hk).symm,hf.congr (cS _ _ _ _ _) hfm.1,?_⟩
        ·rw [hxc,hk];exact cY ht hi none 0 0 (Nat.le_refl _) base C w
        ·exact aSA hm hfm.2 (rN _ (lU hLsc)) (by rw [oM hH,jQ];exact gQ (by rw [hLlen,hk,Nat.zero_mul]))
       ·obtain ⟨ad,rfl,hcl⟩:=hcell (by omega)
        have hr:=run_append_nil (P:=P) w t ty e i z ht hi hz ad (q.i ρ).toNat C _ hLlen hcl (by omega) (by omega) (Nat.le_trans (fit _ (by omega)) (by decide))
        refine ⟨_,_,by rw [hxc];exact hr,cV ι m.length w.heap.size (grownCap w (q.i ρ).toNat 0 e) false,(jB (e:=e) _).symm,hf.congr (cS _ _ _ _ _) hfm.1,?_⟩
        have:=iQ (c:=0) (e:=e) hm hfm.2 hzs (rN (H:=H) _ (lU hLsc)) (show (q.i ρ).toNat≤67108864 by omega) (by rw [oM hH,jQ];exact hLlen)
        rw [oM hH,jQ] at this
        exact this
      ·cases h
     ·-- a row
      rename_i b O
      split at h
      ·rename_i B hB
       split at h
       ·rename_i hcc
        obtain ⟨hd,hwr,hty,hg,hrl,hbd⟩:=hcc
        have hbd:=bJ hH hbd
        rw [xF] at hbd
        obtain ⟨e7,hBlen⟩:=iC (ι:=ι) hH hrl
        simp only [Option.some.injEq,Prod.mk.injEq] at h
        obtain ⟨rfl,rfl,rfl⟩:=h
        have hBsc:B.aH.all (Seg.sc m.length)=true:=List.all_eq_true.1 hfm.2 B (List.mem_of_getElem? hB)
        have hblt:b<m.length:=(List.getElem?_eq_some_iff.1 hB).1
        have hsum:((zX O q).i ρ).toNat=(O.i ρ).toNat+(q.i ρ).toNat:=by rw [xF];omega
        have hcat:cellsOf ρ ι (eG H (bQ (B.aH++L)))=cellsOf ρ ι B.aH++cellsOf ρ ι L:=by rw [oM hH,jQ,cH]
        have hcsc:(eG H (bQ (B.aH++L))).all (Seg.sc m.length)=true:=rN _ (lU <| by rw [List.all_append,hBsc,hLsc];rfl)
        have hfg:=hm.forget (b:=b) (D:={ B with dead:=true }) rfl
        have hsc2:(m.set b { B with dead:=true }).all (fun D=>D.aH.all (Seg.sc (m.set b { B with dead:=true }).length))=true:=by
         rw [List.length_set,List.all_eq_true]
         intro D hD
         rcases List.mem_or_eq_of_mem_set hD with hD | rfl
         ·exact List.all_eq_true.1 hfm.2 D hD
         ·exact hBsc
        have aliased:ι.nil b=false→∀ (aH:List Seg) (w1:World),aH.all (Seg.sc m.length)=true→aK ρ β ι (m.set b { B with aH:=aH }) w1 →
         aK ρ β (cV ι m.length (ι b) (ι.cap b) false) ((m.set b { B with dead:=true })++[{ B with aH:=aH }]) w1:=by
         intro hnil aH w1 hss a7
         have d7:(m.set b { B with aH:=aH })[b]? = some { B with aH:=aH }:=by
          rw [List.getElem?_set];simp [hblt]
         have hal:=a7.alias d7 hd (by
          rw [List.all_eq_true]
          intro D hD
          rw [List.length_set]
          rcases List.mem_or_eq_of_mem_set hD with hD | rfl
          ·exact List.all_eq_true.1 hfm.2 D hD
          ·exact hss)
         rw [List.length_set,List.set_set,hnil] at hal
         have h8:=hal.forget (b:=b) (D:={ B with dead:=true }) rfl
         rw [List.set_append_left _ _ (by rw [List.length_set];exact hblt),List.set_set] at h8
         exact h8
        have eB:∀ aH,({ B with aH:=aH }:Blk)=⟨e,aH,true,some i.size,false⟩:=fun aH=>by cases B;simp_all
        cases hnil:ι.nil b with
        | true =>
          have d0:=(hm.nils b B hB hd hnil).2
          have hn00:(O.i ρ).toNat=0:=by
           rw [d0] at hBlen
           simp only [List.length_nil] at hBlen
           rcases Nat.mul_eq_zero.1 hBlen.symm with h | h
           ·exact h
           ·omega
          have W:SV.aC ρ ι (.s (.slc b (.lit 0) O (.op (.lit 0))))=.slice none 0 0:=by
           simp only [SV.aC,S.aC,hnil,hn00,true_and,if_true]
          by_cases hk:(q.i ρ).toNat=0
          ·refine ⟨.slice none 0 0,w,?_,cV ι m.length w.heap.size 0 true,(aSz _ (by rw [hsum];omega)).symm,hf.congr (cS _ _ _ _ _) hfm.1,?_⟩
           ·rw [hxc,W,hk];exact cY ht hi none 0 0 (Nat.le_refl _) base C w
           ·have:=aSA (e:=e) (sz:=i.size) hfg hsc2 (aH:=eG H (bQ (B.aH++L))) (by rw [List.length_set];exact hcsc) (by
             rw [hcat,d0];exact gQ (by rw [hLlen,hk,Nat.zero_mul]))
            rw [List.length_set] at this
            exact this
          ·obtain ⟨ad,rfl,hcl⟩:=hcell (by omega)
           have hr:=run_append_nil (P:=P) w t ty e i z ht hi hz ad (q.i ρ).toNat C _ hLlen hcl (by omega) (by omega) (Nat.le_trans (fit _ (by omega)) (by decide))
           refine ⟨_,_,by rw [hxc,W];exact hr,cV ι m.length w.heap.size (grownCap w (q.i ρ).toNat 0 e) false,?_,hf.congr (cS _ _ _ _ _) hfm.1,?_⟩
           ·rw [jB (e:=e),hsum,hn00,Nat.zero_add]
           ·have:=iQ (c:=0) (e:=e) hfg hsc2 hzs (aH:=eG H (bQ (B.aH++L))) (by rw [List.length_set];exact hcsc) (show (q.i ρ).toNat≤67108864 by omega) (by rw [hcat,d0,List.nil_append];exact hLlen)
            rw [List.length_set,hcat,d0,List.nil_append] at this
            exact this
        | false =>
          have W:SV.aC ρ ι (.s (.slc b (.lit 0) O (.op (.lit 0))))=.slice (some ⟨ι b,0,none⟩) (O.i ρ).toNat (ι.cap b):=by
           simp only [SV.aC,S.aC,addr,aF,hnil,Bool.false_eq_true,false_and,if_false];rfl
          obtain ⟨fz,rest,J,M,U,h4⟩:=hm.blk b B hB hd hnil
          have hfz:=M hwr
          have h5:=(U i.size hg).1
          have h6:=(U i.size hg).2
          rw [List.length_append,hBlen] at h5
          have hcapn:(O.i ρ).toNat≤ι.cap b:=Nat.le_of_mul_le_mul_right (show (O.i ρ).toNat*i.size≤ι.cap b*i.size by omega) hsz
          have hcn:SV.aC ρ (cV ι m.length (ι b) (ι.cap b) false) (.s (.slc m.length (.lit 0) (zX O q) (.op (.lit 0))))=.slice (some ⟨ι b,0,none⟩) ((O.i ρ).toNat+(q.i ρ).toNat) (ι.cap b):=by
           rw [jB (e:=e),hsum]
          by_cases hk:(q.i ρ).toNat=0
          ·-- nothing more
           have b8:cellsOf ρ ι L=[]:=gQ (by rw [hLlen,hk,Nat.zero_mul])
           have a7:aK ρ β ι (m.set b { B with aH:=eG H (bQ (B.aH++L)) }) w:=by
            have hset:=hm.cN hB hd hnil (eG H (bQ (B.aH++L))) rest hfz (fun sz' hs'=>by
             rw [hg,Option.some.injEq] at hs';subst hs'
             rw [hcat,b8,List.append_nil,List.length_append,hBlen]
             exact ⟨h5,h6⟩) (fun hgn=>by rw [hg] at hgn;cases hgn)
            rw [hcat,b8,List.append_nil,kM J] at hset
            exact hset
           refine ⟨_,w,?_,cV ι m.length (ι b) (ι.cap b) false,hcn.symm,hf.congr (cS _ _ _ _ _) hfm.1,?_⟩
           ·rw [hxc,W,hk,Nat.add_zero];exact cY ht hi _ _ _ hcapn base C w
           ·have:=aliased hnil _ _ hcsc a7
            rw [eB] at this
            exact this
          ·obtain ⟨ad,rfl,hcl⟩:=hcell (by omega)
           by_cases hr:(O.i ρ).toNat+(q.i ρ).toNat≤ι.cap b
           ·-- it stays where it is
            have hrl:rest.length=(ι.cap b-(O.i ρ).toNat)*i.size:=by rw [Nat.sub_mul];omega
            have hkr:(q.i ρ).toNat*i.size≤rest.length:=by rw [hrl];exact Nat.mul_le_mul_right _ (by omega)
            have hst:=gC P (ι b) ((O.i ρ).toNat*i.size) B.ty fz hfz (cellsOf ρ ι L) 0 _ _ J (iS hpl) (by rw [List.length_append,hBlen,hLlen];omega)
            have hnew:(cellsOf ρ ι B.aH++rest).take ((O.i ρ).toNat*i.size+0)++cellsOf ρ ι L++(cellsOf ρ ι B.aH++rest).drop ((O.i ρ).toNat*i.size+0+(cellsOf ρ ι L).length)=cellsOf ρ ι (eG H (bQ (B.aH++L)))++rest.drop ((q.i ρ).toNat*i.size):=by
             rw [hcat,Nat.add_zero,hLlen]
             rw [List.take_append_of_le_length (by rw [hBlen];exact Nat.le_refl _),List.take_of_length_le (by rw [hBlen];exact Nat.le_refl _)]
             rw [List.drop_append,hBlen,List.drop_of_length_le (by rw [hBlen];omega),List.nil_append]
             congr 2;omega
            rw [hnew] at hst
            have a7:=hm.cN hB hd hnil (eG H (bQ (B.aH++L))) (rest.drop ((q.i ρ).toNat*i.size)) hfz (fun sz' hs'=>by
             rw [hg,Option.some.injEq] at hs';subst hs'
             refine ⟨?_,h6⟩
             rw [hcat,List.length_append,List.length_append,List.length_drop,hBlen,hLlen]
             omega) (fun hgn=>by rw [hg] at hgn;cases hgn)
            refine ⟨_,cN w (ι b) (cellsOf ρ ι (eG H (bQ (B.aH++L)))++rest.drop ((q.i ρ).toNat*i.size)) B.ty fz,?_,cV ι m.length (ι b) (ι.cap b) false,hcn.symm,hf.congr (cS ι m.length (ι b) (ι.cap b) false) hfm.1,?_⟩
            ·rw [hxc,W]
             refine nN ht hi _ _ _ ad _ C _ hLlen hcl hr ?_
             rw [Addr.add_lit,Nat.zero_add];exact hst
            ·have:=aliased hnil _ _ hcsc a7
             rw [eB] at this
             exact this
           ·-- it moves
            have holds:∀ j v,(cellsOf ρ ι B.aH)[j]? = some v→w.cell? ((⟨ι b,0,none⟩:Addr).add j)=some v:=by
             intro j v hj
             have:=nQ hm hB hd (.lit 0) (cellsOf ρ ι B.aH) (fun j v h=>by rw [aF,Int.toNat_zero,Nat.zero_add];exact h) j v hj
             simpa [addr,aF] using this
            have b2:=run_append_grow (P:=P) w t ty e i z ht hi hz ⟨ι b,0,none⟩ (O.i ρ).toNat (ι.cap b) _ hBlen holds ad _ C _ hLlen hcl (by omega) (by omega)
             (growslice_fits (by omega) (fit _ (by omega)))
            refine ⟨_,_,by rw [hxc,W];exact b2,cV ι m.length w.heap.size (grownCap w ((O.i ρ).toNat+(q.i ρ).toNat) (ι.cap b) e) false,?_,hf.congr (cS _ _ _ _ _) hfm.1,?_⟩
            ·rw [jB (e:=e),hsum]
            ·have:=iQ (c:=ι.cap b) (e:=e) hfg hsc2 hzs (aH:=eG H (bQ (B.aH++L))) (by rw [List.length_set];exact hcsc) (show (O.i ρ).toNat+(q.i ρ).toNat≤67108864 by omega) (by rw [hcat,List.length_append,hBlen,hLlen,← Nat.add_mul])
             rw [List.length_set,hcat] at this
             have e9:(cellsOf ρ ι B.aH++cellsOf ρ ι L).toArray=(cellsOf ρ ι B.aH).toArray++(cellsOf ρ ι L).toArray:=by simp
             rw [e9] at this
             exact this
       ·cases h
      ·cases h
     ·-- no room
      rename_i b off O c
      split at h
      ·rename_i L0 q0 hx0
       split at h
       ·rename_i hqm
        simp only [Bool.and_eq_true] at hqm
        obtain ⟨⟨⟨hqm,X⟩,hc0⟩,hlt⟩:=hqm
        have X:=aJ hH X
        have hc0:=aJ hH hc0
        have hqm:=bJ hH hqm
        rw [aM] at hqm
        have hlt:c.i ρ<q0.i ρ+q.i ρ:=by
         have:=nL hH hlt
         rw [aM,aM,aF] at this;omega
        simp only [Option.some.injEq,Prod.mk.injEq] at h
        obtain ⟨rfl,rfl,rfl⟩:=h
        obtain ⟨ad,rfl,hcl⟩:=hcell (by omega)
        have hL0sc:=aAJ hx0 hfm.2
        obtain ⟨hq00,hL0len,base0,C0,hxc0,hcell0⟩:=lK (ι:=ι) hH hm hsz hx0
        have W:SV.aC ρ ι (.s (.slc b off O (.kn c)))=.slice (some (addr ρ ι b off)) (q0.i ρ).toNat (c.i ρ).toNat:=by
         have h9:SV.aC ρ ι (.s (.slc b off O (.kn c)))=.slice (some (addr ρ ι b off)) (O.i ρ).toNat (c.i ρ).toNat:=rfl
         rw [h9] at hxc0 ⊢
         simp only [Value.slice.injEq] at hxc0
         rw [hxc0.2.1]
        have holds:∀ j v,(cellsOf ρ ι L0)[j]? = some v→w.cell? ((addr ρ ι b off).add j)=some v:=by
         intro j v hj
         have hp:0<(q0.i ρ).toNat:=by
          rcases Nat.eq_zero_or_pos (q0.i ρ).toNat with h | h
          ·rw [h,Nat.zero_mul] at hL0len
           rw [gQ hL0len] at hj;simp at hj
          ·exact h
         obtain ⟨ad0,had0,hcl0⟩:=hcell0 hp
         rw [W] at hxc0
         simp only [Value.slice.injEq] at hxc0
         rw [← hxc0.1] at had0
         simp only [Option.some.injEq] at had0
         rw [had0];exact hcl0 j v hj
        have hsum:((mkAdd q0 q).i ρ).toNat=(q0.i ρ).toNat+(q.i ρ).toNat:=by rw [aM];omega
        have b2:=run_append_grow (P:=P) w t ty e i z ht hi hz (addr ρ ι b off) (q0.i ρ).toNat (c.i ρ).toNat _ hL0len holds ad _ C _ hLlen hcl (by omega) (by omega)
         (growslice_fits (by omega) (fit _ (by omega)))
        have hcat:cellsOf ρ ι (eG H (bQ (L0++L)))=cellsOf ρ ι L0++cellsOf ρ ι L:=by rw [oM hH,jQ,cH]
        refine ⟨_,_,by rw [hxc,W];exact b2,cV ι m.length w.heap.size (grownCap w ((q0.i ρ).toNat+(q.i ρ).toNat) (c.i ρ).toNat e) false,?_,hf.congr (cS _ _ _ _ _) hfm.1,?_⟩
        ·rw [jB (e:=e),hsum]
        ·have:=iQ (c:=(c.i ρ).toNat) (e:=e) hm hfm.2 hzs (aH:=eG H (bQ (L0++L))) (rN _ (lU <| by rw [List.all_append,hL0sc,hLsc];rfl)) (show (q0.i ρ).toNat+(q.i ρ).toNat≤67108864 by omega) (by rw [hcat,List.length_append,hL0len,hLlen,← Nat.add_mul])
         rw [hcat] at this
         have e9:(cellsOf ρ ι L0++cellsOf ρ ι L).toArray=(cellsOf ρ ι L0).toArray++(cellsOf ρ ι L).toArray:=by simp
         rw [e9] at this
         exact this
       ·cases h
      ·cases h
     ·cases h
    ·cases h
theorem aTz (hH:H.ok ρ) (hm:aK ρ β ι m w) (hf:aR ρ ι n fr a) {t ty:TypeId} {s x:SV} {nd:List E} {v:SV} {m':Mem} (h:aGQ P H fr m t s x=some (nd,v,m')) :
 ∃ r w',(Builtin.append_ #[t,t] ty #[s.aC ρ ι,x.aC ρ ι]).run P w=.ok r w'∧dW ρ β ι n fr m m' a v r w':=by
 unfold aGQ at h
 split at h
 ·cases h
 ·rename_i e ht
  have ht:=aU ht
  split at h
  ·cases h
  ·rename_i sz by_ hzi
   obtain ⟨i,z,hi,hz,rfl,rfl,hzs,hsz⟩:=jI hzi
   split at h
   ·cases h
   ·rename_i L q hx
    split at h
    ·rename_i hc
     simp only [Bool.and_eq_true,decide_eq_true_eq] at hc
     obtain ⟨⟨hby,hfm⟩,hpl⟩:=hc
     simp only [jL,Bool.and_eq_true] at hfm
     have hLsc:=aAJ hx hfm.2
     obtain ⟨b0,hLlen,base,C,hxc,hcell⟩:=lK (ι:=ι) hH hm hsz hx
     have fit:∀ k:Nat,k≤67108864→k*i.bytes≤140737488355328:=fun k hk=>Nat.le_trans (Nat.mul_le_mul hk hby) (by decide)
     split at h
     ·rename_i b O c
      split at h
      ·rename_i B hB
       split at h
       ·rename_i hcc
        obtain ⟨hd,hwr,hty,hg,hnc,hrl,hbd⟩:=hcc
        subst hnc
        have hbd:=bJ hH hbd
        rw [xF] at hbd
        obtain ⟨e7,hBlen⟩:=iC (ι:=ι) hH hrl
        have hBsc:B.aH.all (Seg.sc m.length)=true:=List.all_eq_true.1 hfm.2 B (List.mem_of_getElem? hB)
        have hblt:b<m.length:=(List.getElem?_eq_some_iff.1 hB).1
        have hnil:ι.nil b=false:=by
         cases hh:ι.nil b with
         | false=>rfl
         | true=>have:=(hm.nils b B hB hd hh).1;rw [hg] at this;cases this
        have hsum:((zX O q).i ρ).toNat=(O.i ρ).toNat+(q.i ρ).toNat:=by rw [xF];omega
        have hcat:cellsOf ρ ι (eG H (bQ (B.aH++L)))=cellsOf ρ ι B.aH++cellsOf ρ ι L:=by rw [oM hH,jQ,cH]
        have hcsc:(eG H (bQ (B.aH++L))).all (Seg.sc m.length)=true:=rN _ (lU <| by rw [List.all_append,hBsc,hLsc];rfl)
        have W:SV.aC ρ ι (.s (.slc b (.lit 0) O (.kn O)))=.slice (some ⟨ι b,0,none⟩) (O.i ρ).toNat (O.i ρ).toNat:=by
         simp only [SV.aC,S.aC,addr,aF];rfl
        split at h
        ·rename_i X
         subst X
         simp only [Option.some.injEq,Prod.mk.injEq] at h
         obtain ⟨rfl,rfl,rfl⟩:=h
         exact ⟨_,w,by rw [hxc,W];exact cY ht hi _ _ _ (Nat.le_refl _) base C w,ι,by rw [W],hf,hm⟩
        split at h
        ·rename_i X
         have X:=aJ hH X
         simp only [Option.some.injEq,Prod.mk.injEq] at h
         obtain ⟨rfl,rfl,rfl⟩:=h
         obtain ⟨ad,rfl,hcl⟩:=hcell (by omega)
         have holds:∀ j v,(cellsOf ρ ι B.aH)[j]? = some v→w.cell? ((⟨ι b,0,none⟩:Addr).add j)=some v:=by
          intro j v hj
          have:=nQ hm hB hd (.lit 0) (cellsOf ρ ι B.aH) (fun j v h=>by rw [aF,Int.toNat_zero,Nat.zero_add];exact h) j v hj
          simpa [addr,aF] using this
         have b2:=run_append_grow (P:=P) w t ty e i z ht hi hz ⟨ι b,0,none⟩ (O.i ρ).toNat (O.i ρ).toNat _ hBlen holds ad _ C _ hLlen hcl (by omega) (by omega)
          (growslice_fits (by omega) (fit _ (by omega)))
         refine ⟨_,_,by rw [hxc,W];exact b2,cV ι m.length w.heap.size (grownCap w ((O.i ρ).toNat+(q.i ρ).toNat) (O.i ρ).toNat e) false,?_,hf.congr (cS _ _ _ _ _) hfm.1,?_⟩
         ·rw [jB (e:=e),hsum]
         ·have:=iQ (c:=(O.i ρ).toNat) (e:=e) hm hfm.2 hzs (aH:=eG H (bQ (B.aH++L))) hcsc (show (O.i ρ).toNat+(q.i ρ).toNat≤67108864 by omega) (by rw [hcat,List.length_append,hBlen,hLlen,← Nat.add_mul])
          rw [hcat] at this
          have e9:(cellsOf ρ ι B.aH++cellsOf ρ ι L).toArray=(cellsOf ρ ι B.aH).toArray++(cellsOf ρ ι L).toArray:=by simp
          rw [e9] at this
          exact this
        ·simp only [Option.some.injEq,Prod.mk.injEq] at h
         obtain ⟨rfl,rfl,rfl⟩:=h
         have hfg:=hm.forget (b:=b) (D:={ B with dead:=true }) rfl
         have hsc2:(m.set b { B with dead:=true }).all (fun D=>D.aH.all (Seg.sc (m.set b { B with dead:=true }).length))=true:=by
          rw [List.length_set,List.all_eq_true]
          intro D hD
          rcases List.mem_or_eq_of_mem_set hD with hD | rfl
          ·exact List.all_eq_true.1 hfm.2 D hD
          ·exact hBsc
         obtain ⟨fz,rest,J,M,U,h4⟩:=hm.blk b B hB hd hnil
         have hr0:=h4 hg
         subst hr0
         have hfz:=M hwr
         by_cases hk:(q.i ρ).toNat=0
         ·have b8:cellsOf ρ ι L=[]:=gQ (by rw [hLlen,hk,Nat.zero_mul])
          have a7:aK ρ β ι (m.set b { B with aH:=eG H (bQ (B.aH++L)) }) w:=by
           have hset:=hm.cN hB hd hnil (eG H (bQ (B.aH++L))) [] hfz (fun sz' hs'=>by rw [hg] at hs';cases hs') (fun _=>rfl)
           rw [hcat,b8,List.append_nil,kM J] at hset
           exact hset
          have d7:(m.set b { B with aH:=eG H (bQ (B.aH++L)) })[b]? = some { B with aH:=eG H (bQ (B.aH++L)) }:=by
           rw [List.getElem?_set];simp [hblt]
          have hal:=a7.bLG d7 hd hnil hg i.size (O.i ρ).toNat ⟨by
           show (cellsOf ρ ι (eG H (bQ (B.aH++L)))).length=_
           rw [hcat,b8,List.append_nil,hBlen],by simp only [maxLen];omega⟩ (by
           rw [List.all_eq_true]
           intro D hD
           rw [List.length_set]
           rcases List.mem_or_eq_of_mem_set hD with hD | rfl
           ·exact List.all_eq_true.1 hfm.2 D hD
           ·exact hcsc)
          rw [List.length_set,List.set_set] at hal
          have h8:=hal.forget (b:=b) (D:={ B with dead:=true }) rfl
          rw [List.set_append_left _ _ (by rw [List.length_set];exact hblt),List.set_set] at h8
          refine ⟨_,w,by rw [hxc,W,hk];exact cY ht hi _ _ _ (Nat.le_refl _) base C w,cV ι m.length (ι b) (O.i ρ).toNat false,?_,hf.congr (cS _ _ _ _ _) hfm.1,?_⟩
          ·rw [jB (e:=e),hsum,hk,Nat.add_zero]
          ·have eB:({ B with aH:=eG H (bQ (B.aH++L)),grow:=some i.size }:Blk)=⟨e,eG H (bQ (B.aH++L)),true,some i.size,false⟩:=by cases B;simp_all
           rw [← eB];exact h8
         ·obtain ⟨ad,rfl,hcl⟩:=hcell (by omega)
          have holds:∀ j v,(cellsOf ρ ι B.aH)[j]? = some v→w.cell? ((⟨ι b,0,none⟩:Addr).add j)=some v:=by
           intro j v hj
           have:=nQ hm hB hd (.lit 0) (cellsOf ρ ι B.aH) (fun j v h=>by rw [aF,Int.toNat_zero,Nat.zero_add];exact h) j v hj
           simpa [addr,aF] using this
          have b2:=run_append_grow (P:=P) w t ty e i z ht hi hz ⟨ι b,0,none⟩ (O.i ρ).toNat (O.i ρ).toNat _ hBlen holds ad _ C _ hLlen hcl (by omega) (by omega)
           (growslice_fits (by omega) (fit _ (by omega)))
          refine ⟨_,_,by rw [hxc,W];exact b2,cV ι m.length w.heap.size (grownCap w ((O.i ρ).toNat+(q.i ρ).toNat) (O.i ρ).toNat e) false,?_,hf.congr (cS _ _ _ _ _) hfm.1,?_⟩
          ·rw [jB (e:=e),hsum]
          ·have:=iQ (c:=(O.i ρ).toNat) (e:=e) hfg hsc2 hzs (aH:=eG H (bQ (B.aH++L))) (by rw [List.length_set];exact hcsc) (show (O.i ρ).toNat+(q.i ρ).toNat≤67108864 by omega) (by rw [hcat,List.length_append,hBlen,hLlen,← Nat.add_mul])
           rw [List.length_set,hcat] at this
           have e9:(cellsOf ρ ι B.aH++cellsOf ρ ι L).toArray=(cellsOf ρ ι B.aH).toArray++(cellsOf ρ ι L).toArray:=by simp
           rw [e9] at this
           exact this
       ·cases h
      ·cases h
     ·cases h
    ·cases h
theorem aDs {e:TypeId} {k:Nat} (h:dA P e=some k):(P.info? e).map (·.size)=some k:=h
theorem bCu (hH:H.ok ρ) (hm:aK ρ β ι m w) (hf:aR ρ ι n fr a) {t t' ty:TypeId} {d x:SV} {nd:List E} {v:SV} {m':Mem} (h:bCt P H m t d x=some (nd,v,m')) :
 ∃ r w',(Builtin.copy_ #[t,t'] ty #[d.aC ρ ι,x.aC ρ ι]).run P w=.ok r w'∧dW ρ β ι n fr m m' a v r w':=by
 unfold bCt at h
 split at h
 ·cases h
 ·rename_i e ht
  have ht:=aU ht
  split at h
  ·cases h
  ·rename_i sz hs
   split at h
   ·cases h
   rename_i hsz0
   have hszp:0<sz:=by omega
   split at h
   ·rename_i b o nn cap L q hx
    have hs':=aDs hs
    cases hq:P.info? e with
    | none=>simp [hq] at hs'
    | some i =>
    have hi:i.size=sz:=by simpa [hq] using hs'
    have one:∀ (base:Option Addr) (k dc:Nat) (base':Option Addr) (k' sc:Nat) (cs:List Value) (w':World),(Builtin.firstCells sz (Nat.min k' k) (.slice base' k' sc)).run P w=.ok cs.toArray w →
     (match base with | some ad=>(storeCells ad cs).run P w=.ok () w' | none=>w'=w) →
     (Builtin.copy_ #[t,t'] ty #[.slice base k dc,.slice base' k' sc]).run P w=.ok (goInt (Nat.min k' k)) w':=by
     intro base k dc base' k' sc cs w' J M
     cases base with
     | none=>subst M;simp [Builtin.copy_,run_underlying ht,Builtin.lenOf,sizeOf,typeInfo,hq,hi,J]
     | some ad=>simp [Builtin.copy_,run_underlying ht,Builtin.lenOf,sizeOf,typeInfo,hq,hi,J,M]
    split at h
    ·rename_i hz
     simp only [Option.some.injEq,Prod.mk.injEq] at h
     obtain ⟨rfl,rfl,rfl⟩:=h
     have hkx:∃ base' k' sc,x.aC ρ ι=.slice base' k' sc∧k'=q.toNat:=by
      obtain ⟨_,_,base,C,hc,_⟩:=lK (ι:=ι) hH hm hszp hx
      exact ⟨base,_,C,hc,by rw [aF]⟩
     obtain ⟨base',k',sc,hxc,hk'⟩:=hkx
     have hkd:∃ base k dc,(SV.s (.slc b (.lit o) (.lit nn) cap)).aC ρ ι=.slice base k dc∧k=nn.toNat:=by
      obtain ⟨base,C,hc,_⟩:=aId (ρ:=ρ) (ι:=ι) b (.lit o) (.lit nn) cap
      exact ⟨base,_,C,hc,by rw [aF]⟩
     obtain ⟨base,k,dc,hdc,hk⟩:=hkd
     have hmin:Nat.min k' k=0:=by
      show min k' k=0
      rw [hk,hk',Nat.min_comm];exact hz
     refine ⟨goInt 0,w,?_,ι,?_,hf,hm⟩
     ·rw [hdc,hxc]
      have:=one base k dc base' k' sc [] w (by
       rw [hmin]
       cases base' with
       | none=>exact run_firstCells_none ..
       | some ad=>exact run_firstCells_some w sz 0 ad _ _ [] (by simp) (fun j v h=>by simp at h)) (by cases base <;> simp [storeCells])
      rw [hmin] at this
      exact this
     ·simp [SV.aC,S.aC,aF,goInt]
    ·rename_i hz
     split at h
     ·rename_i B l hB hl
      split at h
      ·rename_i hc
       obtain ⟨hwr,hd,ho,hsz,hpl⟩:=hc
       split at h
       ·rename_i l1 l2 J M
        simp only [Option.some.injEq,Prod.mk.injEq] at h
        obtain ⟨rfl,rfl,rfl⟩:=h
        obtain ⟨b0,hLlen,base',C,hxc,hcell⟩:=lK (ι:=ι) hH hm hsz hx
        rw [aF] at b0 hLlen hxc hcell
        obtain ⟨t1,t2⟩:=eJ (ρ:=ρ) (ι:=ι) _ _ _ hl
        obtain ⟨u1,u2⟩:=eJ (ρ:=ρ) (ι:=ι) _ _ _ J
        obtain ⟨d1,d2⟩:=dP (ρ:=ρ) (ι:=ι) _ _ _ M
        have hll:(cellsOf ρ ι l).length=min nn.toNat q.toNat*sz:=by rw [t1,List.length_take];omega
        have hpos:0<min nn.toNat q.toNat:=by omega
        obtain ⟨ad,rfl,hcl⟩:=hcell (by omega)
        obtain ⟨w',hst,hm'⟩:=hm.write (P:=P) hB hd hwr o.toNat (cellsOf ρ ι l) (l1++l++l2) (iS hpl) (by rw [hll];exact Nat.mul_pos hpos hsz) (by rw [hll];exact d2) (by
         rw [cH,cH,u1,d1,hll])
        obtain ⟨base,C',hdc,hbase⟩:=aIe hm hB hd (.lit o) (.lit nn) cap
        rw [aF] at hdc hbase
        have hb:=hbase (by omega)
        subst hb
        refine ⟨goInt (Nat.min q.toNat nn.toNat),w',?_,ι,?_,hf,hm'⟩
        ·rw [hxc,show (SV.s (.slc b (.lit o) (.lit nn) cap)).aC ρ ι=_ from hdc]
         refine one _ _ _ _ _ _ (cellsOf ρ ι l) w' ?_ ?_
         ·refine run_firstCells_some w sz _ ad _ _ _ (by rw [hll,Nat.min_comm]) (fun j v hj=>hcl j v ?_)
          rw [t1,List.getElem?_take] at hj
          split at hj
          ·exact hj
          ·cases hj
         ·rw [show addr ρ ι b (.lit o)=⟨ι b,o.toNat,none⟩ by simp [addr,aF]]
          exact hst
        ·simp only [SV.aC,S.aC,aF,goInt]
         rw [Nat.min_comm]
       ·cases h
      ·cases h
     ·cases h
   ·cases h
theorem aDr {t e:TypeId} (ht:P.underlying t=some (.slice e)) {sz:Nat} (hs:dA P e=some sz) (base:Option Addr) (len cap:Nat) (lo hi:Option Value) (l h z:Int) (k3:IntKind) (hlo:(lo=none∧l=0)∨∃ k,lo=some (.int k l)) (hhi:∃ k,hi=some (.int k h)) (N:0≤l) (J:l≤h) (M:h≤z) (U:z≤cap) (w:World) :
 (Instr.sliceAt t (.slice base len cap) lo hi (some (.int k3 z))).run P w=.ok (.slice (if z.toNat=l.toNat then base else base.map (·.add (l.toNat*sz))) (h.toNat-l.toNat) (z.toNat-l.toNat)) w:=by
 have hz:=bG (w:=w) hs
 have eh:(h.toNat:Int)=h:=Int.toNat_of_nonneg (by omega)
 have ez:(z.toNat:Int)=z:=Int.toNat_of_nonneg (by omega)
 obtain ⟨k',rfl⟩:=hhi
 rcases hlo with ⟨rfl,rfl⟩ | ⟨k,rfl⟩
 ·simp [Instr.sliceAt,run_underlying ht,Instr.slice,Instr.sliceBounds,iO,hz,M,U,ez,(by omega:0≤h),(by omega:0≤z)]
 ·simp [Instr.sliceAt,run_underlying ht,Instr.slice,Instr.sliceBounds,iO,hz,N,J,M,U,eh,ez,(by omega:0≤h),(by omega:0≤z)]
theorem aST (hm:aK ρ β ι m w) {b:Nat} {B:Blk} (hB:m[b]? = some B) (hd:B.dead=false) {L:Nat} (hL:(cellsOf ρ ι B.aH).length=L) {sz:Nat} (hsz:0<sz) (o O:Int) (cap:Cap) (h:zR B L sz O.toNat cap=true) :
 ∃ C,(S.slc b (.lit o) (.lit O) cap).aC ρ ι=.slice (some ⟨ι b,o.toNat,none⟩) O.toNat C∧O.toNat≤C∧(∀ c,cap=.kn (.lit c)→C=c.toNat)∧(∀ k,cap=.op (.lit k)→0≤k∧ι.nil b=false∧C=ι.cap b-k.toNat):=by
 cases cap with
 | kn e =>
   cases e with
   | lit c =>
     simp only [zR,decide_eq_true_eq] at h
     refine ⟨c.toNat,by simp only [S.aC,addr,aF],by omega,fun c' hc=>?_,fun k hk=>by cases hk⟩
     simp only [Cap.kn.injEq,E.lit.injEq] at hc;rw [hc]
   | _=>simp [zR] at h
 | op e =>
   cases e with
   | lit k =>
     simp only [zR,decide_eq_true_eq] at h
     obtain ⟨hk,hg,hLp,hle⟩:=h
     have hn:ι.nil b=false:=by
      cases hh:ι.nil b with
      | false=>rfl
      | true=>rw [(hm.nils b B hB hd hh).2] at hL;simp at hL;omega
     obtain ⟨fz,rest,J,M,U,h4⟩:=hm.blk b B hB hd hn
     have h5:=(U sz hg).1
     rw [List.length_append,hL] at h5
     have h6:(k.toNat+O.toNat)*sz≤ι.cap b*sz:=by omega
     have h7:=Nat.le_of_mul_le_mul_right h6 hsz
     refine ⟨ι.cap b-k.toNat,by simp only [S.aC,addr,aF,hn,Bool.false_eq_true,false_and,if_false],by omega,(fun c hc=>by cases hc),fun k' hk'=>?_⟩
     simp only [Cap.op.injEq,E.lit.injEq] at hk';subst hk'
     exact ⟨hk,hn,rfl⟩
   | _=>simp [zR] at h
 | tl o k z=>simp [zR] at h
theorem bAY (hm:aK ρ β ι m w) (hf:aR ρ ι n fr a) {t:TypeId} {x:SV} {lo hi mx:Option SV} {nd:List E} {v:SV} {m':Mem} (h:aUU P m t x lo hi mx=some (nd,v,m')) :
 ∃ r w',(Instr.sliceAt t (x.aC ρ ι) (lo.map (SV.aC ρ ι)) (hi.map (SV.aC ρ ι)) (mx.map (SV.aC ρ ι))).run P w=.ok r w'∧dW ρ β ι n fr m m' a v r w':=by
 unfold aUU at h
 split at h
 ·cases h
 ·rename_i e ht
  split at h
  ·cases h
  ·rename_i sz hsz
   split at h
   ·rename_i b o ln cap
    split at h
    ·rename_i l hh B hl hhi hB
     split at h
     ·rename_i L hL
      split at h
      ·rename_i hc
       obtain ⟨hd,ho,a9,hlh,hhn,hszp,hrf⟩:=hc
       obtain ⟨C,hconc,hC,hkn,hop⟩:=aST hm hB hd (eQ hL) hszp o ln cap hrf
       have V:(o+l*sz).toNat=o.toNat+l.toNat*sz:=by
        obtain ⟨p,rfl⟩:=Int.eq_ofNat_of_zero_le ho
        obtain ⟨q,rfl⟩:=Int.eq_ofNat_of_zero_le a9
        simp only [Int.toNat_natCast]
        exact_mod_cast Int.toNat_natCast (p+q*sz)
       split at h
       ·split at h
        ·rename_i hln
         have hr:=dM (aU ht) hsz (some ⟨ι b,o.toNat,none⟩) ln.toNat C _ _ l hh (gM (ρ:=ρ) (ι:=ι) hl) (by
          rcases gM (ρ:=ρ) (ι:=ι) hhi with ⟨J,M⟩ | J
          ·exact .inl ⟨J,by omega⟩
          ·exact .inr J) a9 hlh (by omega) w
         have haddr:(if C=l.toNat then some (⟨ι b,o.toNat,none⟩:Addr) else (some (⟨ι b,o.toNat,none⟩:Addr)).map (·.add (l.toNat*sz)))=some ⟨ι b,(o+l*sz).toNat,none⟩:=by
          by_cases hcl:C=l.toNat
          ·rcases hln with h9 | h9
           ·rw [if_pos hcl,V,h9];simp
           ·omega
          ·rw [if_neg hcl,Option.map_some,Addr.add_lit,V]
         rw [haddr] at hr
         split at h
         ·rename_i c
          simp only [Option.some.injEq,Prod.mk.injEq] at h
          obtain ⟨rfl,rfl,rfl⟩:=h
          have hCc:=hkn c rfl
          refine ⟨_,w,by rw [show SV.aC ρ ι (.s (.slc b (.lit o) (.lit ln) (.kn (.lit c))))=_ from hconc];exact hr,ι,?_,hf,hm⟩
          simp only [SV.aC,S.aC,addr,aF,Value.slice.injEq,true_and]
          omega
         ·rename_i k
          simp only [Option.some.injEq,Prod.mk.injEq] at h
          obtain ⟨rfl,rfl,rfl⟩:=h
          obtain ⟨hk,hnil,hCc⟩:=hop k rfl
          refine ⟨_,w,by rw [show SV.aC ρ ι (.s (.slc b (.lit o) (.lit ln) (.op (.lit k))))=_ from hconc];exact hr,ι,?_,hf,hm⟩
          simp only [SV.aC,S.aC,addr,hnil,Bool.false_eq_true,false_and,if_false,aF,Value.slice.injEq,true_and]
          omega
         ·cases h
        ·have hr:=dM (aU ht) hsz (some ⟨ι b,o.toNat,none⟩) ln.toNat C _ _ l hh (gM (ρ:=ρ) (ι:=ι) hl) (by
          rcases gM (ρ:=ρ) (ι:=ι) hhi with ⟨J,M⟩ | J
          ·exact .inl ⟨J,by omega⟩
          ·exact .inr J) a9 hlh (by omega) w
         split at h
         ·rename_i c
          split at h
          ·rename_i hlc
           simp only [Option.some.injEq,Prod.mk.injEq] at h
           obtain ⟨rfl,rfl,rfl⟩:=h
           have hCc:=hkn c rfl
           rw [if_pos (by omega)] at hr
           refine ⟨_,w,by rw [show SV.aC ρ ι (.s (.slc b (.lit o) (.lit ln) (.kn (.lit c))))=_ from hconc];exact hr,ι,?_,hf,hm⟩
           simp only [SV.aC,S.aC,addr,aF,Value.slice.injEq,true_and]
           omega
          ·cases h
         ·cases h
       ·rename_i vm
        split at h
        ·rename_i z hzv
         split at h
         ·rename_i hzc
          obtain ⟨hhs,hz1,c4,f5⟩:=hzc
          simp only [Option.some.injEq,Prod.mk.injEq] at h
          obtain ⟨rfl,rfl,rfl⟩:=h
          obtain ⟨k3,e6⟩:=jA (ρ:=ρ) (ι:=ι) hzv
          have hhi':∃ k,hi.map (SV.aC ρ ι)=some (.int k hh)∨hi=none:=by
           cases hi with
           | none=>exact ⟨.i64,.inr rfl⟩
           | some u=>obtain ⟨k,hk⟩:=jA (ρ:=ρ) (ι:=ι) hhi;exact ⟨k,.inl (by rw [Option.map_some,hk])⟩
          obtain ⟨k2,b9⟩:=hhi'
          rcases b9 with b9 | b9
          ·have hr:=aDr (aU ht) hsz (some ⟨ι b,o.toNat,none⟩) ln.toNat C _ _ l hh z k3 (gM (ρ:=ρ) (ι:=ι) hl) ⟨k2,b9⟩ a9 hlh hz1 (by omega) w
           have haddr:(if z.toNat=l.toNat then some (⟨ι b,o.toNat,none⟩:Addr) else (some (⟨ι b,o.toNat,none⟩:Addr)).map (·.add (l.toNat*sz)))=some ⟨ι b,(o+l*sz).toNat,none⟩:=by
            by_cases hcl:z.toNat=l.toNat
            ·rcases f5 with h9 | h9
             ·rw [if_pos hcl,V,h9];simp
             ·omega
            ·rw [if_neg hcl,Option.map_some,Addr.add_lit,V]
           rw [haddr] at hr
           refine ⟨_,w,by rw [show SV.aC ρ ι (.s (.slc b (.lit o) (.lit ln) cap))=_ from hconc,Option.map_some,e6];exact hr,ι,?_,hf,hm⟩
           simp only [SV.aC,S.aC,addr,aF,Value.slice.injEq,true_and]
           omega
          ·subst b9;cases hhs
         ·cases h
        ·cases h
      ·cases h
     ·cases h
    ·cases h
   ·cases h
theorem bAZ (hm:aK ρ β ι m w) (hf:aR ρ ι n fr a) {t:TypeId} {x:SV} {lo hi mx:Option SV} {nd:List E} {v:SV} {m':Mem} (h:aUV P m t x lo hi mx=some (nd,v,m')) :
 ∃ r w',(Instr.sliceAt t (x.aC ρ ι) (lo.map (SV.aC ρ ι)) (hi.map (SV.aC ρ ι)) (mx.map (SV.aC ρ ι))).run P w=.ok r w'∧dW ρ β ι n fr m m' a v r w':=by
 unfold aUV at h
 split at h
 ·cases h
 ·rename_i e ht
  split at h
  ·cases h
  ·rename_i sz hsz
   split at h
   ·rename_i b o ln k
    split at h
    ·rename_i l hh B hl hhi hB
     split at h
     ·rename_i L hL
      split at h
      ·rename_i hc
       obtain ⟨hd,ho,X,f4,hln,hszp,hrf⟩:=hc
       have X:=X.symm;have f4:=f4.symm
       subst X;subst f4
       simp only [Option.some.injEq,Prod.mk.injEq] at h
       obtain ⟨rfl,rfl,rfl⟩:=h
       obtain ⟨C,hconc,hC,hkn,hop⟩:=aST hm hB hd (eQ hL) hszp o ln (.op (.lit k)) hrf
       obtain ⟨hk,hnil,hCc⟩:=hop k rfl
       have V:(o+ln*sz).toNat=o.toNat+ln.toNat*sz:=by
        obtain ⟨p,rfl⟩:=Int.eq_ofNat_of_zero_le ho
        obtain ⟨q,rfl⟩:=Int.eq_ofNat_of_zero_le (Int.le_of_lt hln)
        simp only [Int.toNat_natCast]
        exact_mod_cast Int.toNat_natCast (p+q*sz)
       have hr:=dM (aU ht) hsz (some ⟨ι b,o.toNat,none⟩) ln.toNat C _ _ ln ln (gM (ρ:=ρ) (ι:=ι) hl) (by
        rcases gM (ρ:=ρ) (ι:=ι) hhi with ⟨J,M⟩ | J
        ·exact .inl ⟨J,by omega⟩
        ·exact .inr J) (by omega) (by omega) (by omega) w
       refine ⟨_,w,by rw [show SV.aC ρ ι (.s (.slc b (.lit o) (.lit ln) (.op (.lit k))))=_ from hconc];exact hr,ι,?_,hf,hm⟩
       have hcc:ι.cap b-(k+ln).toNat=C-ln.toNat:=by omega
       by_cases hcl:C=ln.toNat
       ·have J:ι.cap b=(k+ln).toNat:=by omega
        have hv:SV.aC ρ ι (.s (.slc b (.lit (o+ln*sz)) (.lit 0) (.tl (.lit o) (.lit (k+ln)) false)))=.slice (some (addr ρ ι b (.lit o))) 0 (ι.cap b-(k+ln).toNat):=by
         simp only [SV.aC,S.aC,aF,J,Bool.false_eq_true,if_false];rfl
        rw [hv,if_pos hcl,hcc,Nat.sub_self]
        simp only [addr,aF]
       ·have J:¬ ι.cap b=(k+ln).toNat:=by omega
        have hv:SV.aC ρ ι (.s (.slc b (.lit (o+ln*sz)) (.lit 0) (.tl (.lit o) (.lit (k+ln)) false)))=.slice (some (addr ρ ι b (.lit (o+ln*sz)))) 0 (ι.cap b-(k+ln).toNat):=by
         simp only [SV.aC,S.aC,aF,J,false_and,Bool.false_eq_true,if_false];rfl
        rw [hv,if_neg hcl,hcc,Nat.sub_self]
        simp only [addr,aF,Addr.add_lit,Option.map_some,V]
      ·cases h
     ·cases h
    ·cases h
   ·rename_i b off o k
    split at h
    ·rename_i u v hl hhi
     split at h
     ·rename_i hz
      simp only [Option.some.injEq,Prod.mk.injEq] at h
      obtain ⟨rfl,rfl,rfl⟩:=h
      obtain ⟨k3,e6⟩:=jA (ρ:=ρ) (ι:=ι) hz
      have hhi':∃ k,(some u:Option SV).map (SV.aC ρ ι)=some (.int k 0):=by
       obtain ⟨k,hk⟩:=jA (ρ:=ρ) (ι:=ι) (show zY u=some 0 from hhi);exact ⟨k,by rw [Option.map_some,hk]⟩
      have hr:=aDr (aU ht) hsz (some (if ι.cap b=(k.i ρ).toNat∧((E.lit 0).i ρ).toNat=0 then addr ρ ι b o else addr ρ ι b off)) ((E.lit 0).i ρ).toNat (ι.cap b-(k.i ρ).toNat) _ _ 0 0 0 k3 (gM (ρ:=ρ) (ι:=ι) hl) hhi' (Int.le_refl _) (Int.le_refl _) (Int.le_refl _) (by omega) w
      refine ⟨_,w,by rw [Option.map_some (a:=v),e6];exact hr,ι,?_,hf,hm⟩
      simp [SV.aC,S.aC,aF]
     ·cases h
    ·cases h
   ·cases h
theorem vM {d:E} {x:Option SV} {z:E} (h:aZY d x=some z):(x.map (SV.aC ρ ι)=none∧z=d)∨∃ k,x.map (SV.aC ρ ι)=some (.int k (z.i ρ)):=by
 cases x with
 | none=>simp only [aZY,Option.some.injEq] at h;exact .inl ⟨rfl,h.symm⟩
 | some v =>
   unfold aZY at h
   split at h
   ·rename_i N;cases N
   ·rename_i k e N
    simp only [Option.some.injEq] at N h
    subst N;subst h
    exact .inr ⟨k,rfl⟩
   ·cases h
theorem bAW (hH:H.ok ρ) (hm:aK ρ β ι m w) (hf:aR ρ ι n fr a) {t:TypeId} {x:SV} {lo hi:Option SV} {nd:List E} {v:SV} {m':Mem} (h:aUS P H m t x lo hi=some (nd,v,m')) (hn:bD ρ nd) :
 ∃ r w',(Instr.sliceAt t (x.aC ρ ι) (lo.map (SV.aC ρ ι)) (hi.map (SV.aC ρ ι)) none).run P w=.ok r w'∧dW ρ β ι n fr m m' a v r w':=by
 unfold aUS at h
 split at h
 ·cases h
 ·rename_i e ht
  split at h
  ·cases h
  ·rename_i sz hsz
   split at h
   ·rename_i b off len cap
    split at h
    ·rename_i l hh B hl hhi hB
     split at h
     ·rename_i hc
      obtain ⟨hd,ho,hcap⟩:=hc
      have ho:=aJ hH ho
      split at h
      ·rename_i hop
       simp only [Option.some.injEq,Prod.mk.injEq] at h
       obtain ⟨rfl,rfl,rfl⟩:=h
       have q1:=hn _ (.head _)
       have q2:=hn _ (.tail _ (.head _))
       have q3:=hn _ (.tail _ (.tail _ (.head _)))
       have q4:=hn _ (.tail _ (.tail _ (.tail _ (.head _))))
       rw [bM hH,aF,decide_eq_true_eq] at q1
       rw [bM hH,decide_eq_true_eq] at q2 q3
       rw [jW,bM hH,dR hH,aF,Bool.or_eq_true,decide_eq_true_eq,decide_eq_true_eq] at q4
       have V:((mkAdd off (mkMul l (.lit sz))).i ρ).toNat=(off.i ρ).toNat+(l.i ρ).toNat*sz:=by
        rw [aM,dD,aF]
        obtain ⟨p,hp⟩:=Int.eq_ofNat_of_zero_le ho
        obtain ⟨q,hq⟩:=Int.eq_ofNat_of_zero_le q1
        rw [hp,hq]
        simp only [Int.toNat_natCast]
        exact_mod_cast Int.toNat_natCast (p+q*sz)
       have fin:∀ C:Nat,(S.slc b off len cap).aC ρ ι=.slice (some (addr ρ ι b off)) (len.i ρ).toNat C→(len.i ρ).toNat≤C →
        ∃ r,(Instr.sliceAt t ((SV.s (.slc b off len cap)).aC ρ ι) (lo.map (SV.aC ρ ι)) (hi.map (SV.aC ρ ι)) none).run P w=.ok r w∧r=.slice (some (addr ρ ι b (mkAdd off (mkMul l (.lit sz))))) ((hh.i ρ).toNat-(l.i ρ).toNat) (C-(l.i ρ).toNat):=by
        intro C hcc hC
        have hr:=dM (aU ht) hsz (some (addr ρ ι b off)) (len.i ρ).toNat C _ _ (l.i ρ) (hh.i ρ) (by
         rcases vM (ρ:=ρ) (ι:=ι) hl with ⟨g1,g2⟩ | g
         ·exact .inl ⟨g1,by rw [g2,aF]⟩
         ·exact .inr g) (by
         rcases vM (ρ:=ρ) (ι:=ι) hhi with ⟨g1,g2⟩ | g
         ·exact .inl ⟨g1,by rw [g2];omega⟩
         ·exact .inr g) q1 q2 (by omega) w
        refine ⟨_,by rw [show (SV.s (.slc b off len cap)).aC ρ ι=_ from hcc];exact hr,?_⟩
        have haddr:(if C=(l.i ρ).toNat then some (addr ρ ι b off) else (some (addr ρ ι b off)).map (·.add ((l.i ρ).toNat*sz)))=some (addr ρ ι b (mkAdd off (mkMul l (.lit sz)))):=by
         simp only [addr,V]
         by_cases hcl:C=(l.i ρ).toNat
         ·have:l.i ρ=0:=by omega
          rw [if_pos hcl,this];simp
         ·rw [if_neg hcl,Option.map_some,Addr.add_lit]
        rw [haddr]
       have elen:((aDH H (bBj hh l)).i ρ).toNat=(hh.i ρ).toNat-(l.i ρ).toNat:=by rw [aCC hH,bFN];omega
       cases cap with
       | tl o k z=>simp [bCm] at hcap
       | kn c =>
         have hcl:=nL hH hcap
         obtain ⟨r,J,M⟩:=fin (c.i ρ).toNat rfl (by omega)
         refine ⟨r,w,J,ι,?_,hf,hm⟩
         rw [M]
         simp only [SV.aC,S.aC,elen,fD,Value.slice.injEq,true_and]
         omega
       | op k =>
         simp only [bCm,Bool.and_eq_true,decide_eq_true_eq] at hcap
         obtain ⟨⟨hg,rfl⟩,hcap⟩:=hcap
         split at hcap
         ·rename_i q hq
          simp only [Bool.and_eq_true] at hcap
          have hle:=aCB hH hcap.1
          have X:=aJ hH hcap.2
          obtain ⟨b0,hql⟩:=iC (ι:=ι) hH hq
          rw [Nat.mul_one] at hql
          have hnil:ι.nil b=false:=by
           cases hnl:ι.nil b with
           | false=>rfl
           | true=>rw [(hm.nils b B hB hd hnl).2] at hql;simp at hql;omega
          obtain ⟨fz,rest,_,_,k3,_⟩:=hm.blk b B hB hd hnil
          have k3:=(k3 1 hg).1
          rw [List.length_append,hql] at k3
          have hconc:(S.slc b off len (.op off)).aC ρ ι=.slice (some (addr ρ ι b off)) (len.i ρ).toNat (ι.cap b-(off.i ρ).toNat):=by
           simp only [S.aC,hnil,Bool.false_eq_true,false_and,if_false]
          obtain ⟨r,J,M⟩:=fin _ hconc (by omega)
          refine ⟨r,w,J,ι,?_,hf,hm⟩
          rw [M]
          simp only [SV.aC,S.aC,hnil,Bool.false_eq_true,false_and,if_false,elen,aM,Value.slice.injEq,true_and]
          omega
         ·cases hcap
      ·rename_i hop
       simp only [Option.some.injEq,Prod.mk.injEq] at h
       obtain ⟨rfl,rfl,rfl⟩:=h
       have q1:=hn _ (.head _)
       have q2:=hn _ (.tail _ (.head _))
       have q3:=hn _ (.tail _ (.tail _ (.head _)))
       rw [bM hH,aF,decide_eq_true_eq] at q1
       rw [bM hH,decide_eq_true_eq] at q2 q3
       have V:((mkAdd off (mkMul l (.lit sz))).i ρ).toNat=(off.i ρ).toNat+(l.i ρ).toNat*sz:=by
        rw [aM,dD,aF]
        obtain ⟨p,hp⟩:=Int.eq_ofNat_of_zero_le ho
        obtain ⟨q,hq⟩:=Int.eq_ofNat_of_zero_le q1
        rw [hp,hq]
        simp only [Int.toNat_natCast]
        exact_mod_cast Int.toNat_natCast (p+q*sz)
       have elen:((aDH H (bBj hh l)).i ρ).toNat=(hh.i ρ).toNat-(l.i ρ).toNat:=by rw [aCC hH,bFN];omega
       have ek:((mkAdd off l).i ρ).toNat=(off.i ρ).toNat+(l.i ρ).toNat:=by rw [aM];omega
       cases cap with
       | tl o k z=>simp [bCm] at hcap
       | kn c=>exact absurd (Or.inr rfl) hop
       | op k =>
         simp only [bCm,Bool.and_eq_true,decide_eq_true_eq] at hcap
         obtain ⟨⟨hg,rfl⟩,hcap⟩:=hcap
         split at hcap
         ·rename_i q hq
          simp only [Bool.and_eq_true] at hcap
          have hle:=aCB hH hcap.1
          have X:=aJ hH hcap.2
          obtain ⟨b0,hql⟩:=iC (ι:=ι) hH hq
          rw [Nat.mul_one] at hql
          have hnil:ι.nil b=false:=by
           cases hnl:ι.nil b with
           | false=>rfl
           | true=>rw [(hm.nils b B hB hd hnl).2] at hql;simp at hql;omega
          obtain ⟨fz,rest,_,_,k3,_⟩:=hm.blk b B hB hd hnil
          have k3:=(k3 1 hg).1
          rw [List.length_append,hql] at k3
          have hconc:(S.slc b off len (.op off)).aC ρ ι=.slice (some (addr ρ ι b off)) (len.i ρ).toNat (ι.cap b-(off.i ρ).toNat):=by
           simp only [S.aC,hnil,Bool.false_eq_true,false_and,if_false]
          have hr:=dM (aU ht) hsz (some (addr ρ ι b off)) (len.i ρ).toNat (ι.cap b-(off.i ρ).toNat) _ _ (l.i ρ) (hh.i ρ) (by
           rcases vM (ρ:=ρ) (ι:=ι) hl with ⟨g1,g2⟩ | g
           ·exact .inl ⟨g1,by rw [g2,aF]⟩
           ·exact .inr g) (by
           rcases vM (ρ:=ρ) (ι:=ι) hhi with ⟨g1,g2⟩ | g
           ·exact .inl ⟨g1,by rw [g2];omega⟩
           ·exact .inr g) q1 q2 (by omega) w
          refine ⟨_,w,by rw [show (SV.s (.slc b off len (.op off))).aC ρ ι=_ from hconc];exact hr,ι,?_,hf,hm⟩
          by_cases hcl:ι.cap b-(off.i ρ).toNat=(l.i ρ).toNat
          ·have J:ι.cap b=(off.i ρ).toNat+(l.i ρ).toNat∧(hh.i ρ).toNat-(l.i ρ).toNat=0:=by omega
           simp only [SV.aC,S.aC,elen,ek,Bool.false_eq_true,if_false]
           rw [if_pos hcl,if_pos J]
           congr 1;omega
          ·have J:¬ (ι.cap b=(off.i ρ).toNat+(l.i ρ).toNat∧(hh.i ρ).toNat-(l.i ρ).toNat=0):=by omega
           simp only [SV.aC,S.aC,elen,ek,Bool.false_eq_true,if_false]
           rw [if_neg hcl,if_neg J,Option.map_some]
           simp only [addr,Addr.add_lit,V]
           congr 1;omega
         ·cases hcap
     ·cases h
    ·cases h
   ·cases h
theorem aYN:∀ {l:List S} {zs:List Int},bDM l=some zs→l.map (S.aC ρ ι)=zs.map fun z=>Value.int .u8 z
 | [],zs,h=>by simp only [bDM,Option.some.injEq] at h;subst h;rfl
 | x::l,zs,h=>by
   unfold bDM at h
   split at h
   ·rename_i N;cases N
   ·rename_i z l' N
    simp only [List.cons.injEq] at N
    obtain ⟨rfl,rfl⟩:=N
    split at h
    ·simp only [Option.map_eq_some_iff] at h
     obtain ⟨zs',hz,rfl⟩:=h
     rw [List.map_cons,List.map_cons,aYN hz]
     simp [S.aC,aF]
    ·cases h
   ·cases h
theorem aSF:∀ (ns:List Int) (s:ByteArray),ns.foldl (fun r n=>r.push (UInt8.ofNat n.toNat)) s=⟨s.data++(ns.map fun n=>UInt8.ofNat n.toNat).toArray⟩
 | [],s=>by simp
 | n::ns,s=>by
   rw [List.foldl_cons,aSF ns]
   congr 1
   rw [List.map_cons]
   show (s.data.push _)++_=_
   apply Array.ext'
   simp
theorem bBh (hH:H.ok ρ) (hm:aK ρ β ι m w) {x:SV} {L:List Seg} {q:E} (h:aVa H m x=some (L,q)) :
 0≤q.i ρ∧(cellsOf ρ ι L).length=(q.i ρ).toNat*1∧∃ base C,x.aC ρ ι=.slice base (q.i ρ).toNat C∧(0<(q.i ρ).toNat→∃ ad,base=some ad∧∀ j v,(cellsOf ρ ι L)[j]? = some v→w.cell? (ad.add j)=some v):=by
 unfold aVa at h
 split at h
 ·rename_i r hr
  cases h
  exact lK hH hm Nat.one_pos hr
 ·split at h
  ·rename_i b off len cap _hr
   split at h
   ·rename_i B hB
    split at h
    ·cases h
    ·rename_i hd
     simp only [Bool.not_eq_true] at hd
     split at h
     ·rename_i ho
      have ho:=aJ hH ho
      simp only [Option.map_eq_some_iff,Prod.mk.injEq] at h
      obtain ⟨l,J,rfl,rfl⟩:=h
      obtain ⟨base,C,hc,hbase⟩:=aIe hm hB hd off len cap
      obtain ⟨c0,c1,c2⟩:=oA (ι:=ι) hH off len _ _ _ J (by simpa using ho)
      simp only [Int.natCast_zero,Int.sub_zero] at c1 c2
      refine ⟨c0,by rw [c2];simp;omega,base,C,hc,fun hp=>⟨_,hbase hp,?_⟩⟩
      refine nQ hm hB hd off _ fun j v hj=>?_
      rw [c2,List.getElem?_take] at hj
      split at hj
      ·rw [List.getElem?_drop] at hj;exact hj
      ·cases hj
     ·cases h
   ·cases h
  ·cases h
theorem bIf (hH:H.ok ρ) (e:E):(bEM H e).i ρ=e.i ρ:=by
 unfold bEM
 split
 ·rw [gB hH,dI]
 ·rfl
theorem aYu:∀ {l:List S} {es:List E},bCW l=some es→l.map (S.aC ρ ι)=(es.map (·.i ρ)).map fun z=>Value.int .u8 z
 | [],zs,h=>by simp only [bCW,Option.some.injEq] at h;subst h;rfl
 | x::l,zs,h=>by
   unfold bCW at h
   split at h
   ·rename_i N;cases N
   ·rename_i z l' N
    simp only [List.cons.injEq] at N
    obtain ⟨rfl,rfl⟩:=N
    simp only [Option.map_eq_some_iff] at h
    obtain ⟨l2,M,rfl⟩:=h
    simp only [List.map_cons,aYu M,S.aC]
   ·cases h
theorem bIM (hH:H.ok ρ) (hm:aK ρ β ι m w) (hf:aR ρ ι n fr a) {src dst:TypeId} {x:SV} {nd:List E} {v:SV} {m':Mem} (h:bPq P H m src dst x=some (nd,v,m')) :
 ∃ r w',(convert src dst (x.aC ρ ι)).run P w=.ok r w'∧dW ρ β ι n fr m m' a v r w':=by
 unfold bPq at h
 split at h
 ·rename_i e hdst hsrc
  have hsrc:=aU hsrc
  split at h
  ·rename_i c3
   have c3:P.underlying e=some (.int .u8):=by
    unfold bAk at c3;split at c3
    ·assumption
    ·cases c3
   split at h
   ·rename_i L q hx
    split at h
    ·rename_i hq
     split at h
     ·rename_i l hl
      have main:∀ (zs:List Int) (r:S),l.map (S.aC ρ ι)=(zs.map fun z=>Value.int .u8 z)→r.aC ρ ι=.string ⟨(zs.map fun n=>UInt8.ofNat n.toNat).toArray⟩→∃ r' w',(convert src dst (x.aC ρ ι)).run P w=.ok r' w'∧dW ρ β ι n fr m m a (.s r) r' w':=by
       intro zs rs hzs hrs
       obtain ⟨b0,hlen,base,C,hxc,hcell⟩:=bBh (ι:=ι) hH hm hx
       rw [aF] at b0 hlen hxc hcell
       obtain ⟨ad,rfl,hcl⟩:=hcell (by omega)
       have hcells:cellsOf ρ ι L=zs.map fun z=>Value.int .u8 z:=by rw [eK hl,hzs]
       have hzl:zs.length=q.toNat:=by
        have:=congrArg List.length hcells
        rw [List.length_map] at this
        omega
       have hld:=run_loadCells_list (P:=P) w ad (zs.map (Value.int .u8)) (fun j z hj=>hcl j z (by rw [hcells];exact hj))
       rw [List.length_map,hzl] at hld
       have hr:=run_bytesToString (P:=P) w ad q.toNat C zs hld
       rw [aSF] at hr
       have hemp:ByteArray.empty.data++(zs.map fun n=>UInt8.ofNat n.toNat).toArray=(zs.map fun n=>UInt8.ofNat n.toNat).toArray:=by
        rw [show ByteArray.empty.data=#[] from rfl,Array.empty_append]
       rw [hemp] at hr
       refine ⟨.string ⟨(zs.map fun n=>UInt8.ofNat n.toNat).toArray⟩,w,?_,ι,?_,hf,hm⟩
       ·rw [hxc]
        unfold convert
        rw [Sem.run_bind,run_underlying hsrc,Result.andThen_ok,Sem.run_bind,run_underlying hdst,Result.andThen_ok]
        simp only [Sem.run_bind,run_underlying c3,Result.andThen_ok]
        exact hr
       ·exact hrs.symm
      split at h
      ·rename_i zs hzs
       simp only [Option.some.injEq,Prod.mk.injEq] at h
       obtain ⟨rfl,rfl,rfl⟩:=h
       exact main zs _ (aYN hzs) rfl
      ·split at h
       ·rename_i es hes
        simp only [Option.some.injEq,Prod.mk.injEq] at h
        obtain ⟨rfl,rfl,rfl⟩:=h
        exact main (es.map (·.i ρ)) _ (aYu hes) (by simp only [S.aC,List.map_map,Function.comp_def,bIf hH])
       ·cases h
     ·cases h
    ·cases h
   ·cases h
  ·cases h
 ·cases h
theorem aIs (hH:H.ok ρ) (hm:aK ρ β ι m w) (hf:aR ρ ι n fr a) {t t' ty:TypeId} {s x:SV} {nd:List E} {v:SV} {m':Mem} (h:aAV P H fr m t t' s x=some (nd,v,m')) :
 ∃ r w',(Builtin.append_ #[t,t'] ty #[s.aC ρ ι,x.aC ρ ι]).run P w=.ok r w'∧dW ρ β ι n fr m m' a v r w':=by
 unfold aAV at h
 split at h
 ·rename_i e q kx nn ht ht'
  split at h
  ·rename_i by_ k hzi hz0
   obtain ⟨i,z,hi,hz,Z,rfl,hzs,hsz⟩:=jI hzi
   split at h
   ·rename_i hc
    obtain ⟨hby,ha,hb,hfm⟩:=hc
    simp only [jL,Bool.and_eq_true] at hfm
    have ha:=aJ hH ha
    have hb:=bJ hH hb
    simp only [Option.some.injEq,Prod.mk.injEq] at h
    obtain ⟨rfl,rfl,rfl⟩:=h
    have c4:=oU (ρ:=ρ) (ι:=ι) (w:=w) hz0
    have f5:(zeroValue e).run P w=.ok z w:=by simp [zeroValue,hi,hz,typeInfo]
    rw [f5] at c4
    injection c4 with c4 _
    have hrun:=oP (P:=P) (ty:=ty) (aU ht) ht' hi hz (by rw [Z];exact hsz) kx (nn.i ρ) (by omega) hb hby w
    have hcells:Builtin.zeroCells z.cells (nn.i ρ).toNat=(cellsOf ρ ι [.run k nn (.tab []) 0]).toArray:=by
     rw [vK,c4]
     apply Array.ext'
     apply List.ext_getElem?
     intro j
     simp only [Builtin.zeroCells,SV.aC,S.aC,aF,Value.cells,Array.toList_map,Array.toList_range,List.getElem?_map,List.getElem?_replicate]
     by_cases hj:j<(nn.i ρ).toNat
     ·rw [if_pos hj];simp [Nat.mod_one,hj]
     ·rw [if_neg hj];simp [hj]
    rw [hcells] at hrun
    refine ⟨_,_,by simpa only [SV.aC,S.aC] using hrun,cV ι m.length w.heap.size (grownCap w (nn.i ρ).toNat 0 e) false,(jB (e:=e) _).symm,hf.congr (cS _ _ _ _ _) hfm.1,?_⟩
    have:=iQ (c:=0) (e:=e) (aH:=[.run k nn (.tab []) 0]) hm hfm.2 (show z.cells.size=i.size by rw [Z];exact hzs) rfl (show (nn.i ρ).toNat≤67108864 by omega) (by rw [vK,List.length_replicate,Z,Nat.mul_one])
    rw [Z] at this
    exact this
   ·cases h
  ·cases h
 ·cases h
theorem bBb (hH:H.ok ρ) (hm:aK ρ β ι m w) (hf:aR ρ ι n fr a) {t:TypeId} {x:SV} {lo hi:Option SV} {nd:List E} {v:SV} {m':Mem} (h:aUX P H m t x lo hi=some (nd,v,m')) :
 ∃ r w',(Instr.sliceAt t (x.aC ρ ι) (lo.map (SV.aC ρ ι)) (hi.map (SV.aC ρ ι)) ((none:Option SV).map (SV.aC ρ ι))).run P w=.ok r w'∧dW ρ β ι n fr m m' a v r w':=by
 unfold aUX at h
 split at h
 ·cases h
 ·rename_i e ht
  split at h
  ·cases h
  ·rename_i sz hsz
   split at h
   ·rename_i b nn
    split at h
    ·rename_i u B hl hB hhi
     split at h
     ·rename_i k' n' A o hs
      split at h
      ·rename_i hc
       obtain ⟨hd,hwr,ha,hnn,_,hg⟩:=hc
       have hnn:=hnn.symm
       subst hnn
       have ha:=aJ hH ha
       simp only [Option.some.injEq,Prod.mk.injEq] at h
       obtain ⟨rfl,rfl,rfl⟩:=h
       have hlen:(cellsOf ρ ι B.aH).length=(nn.i ρ).toNat:=by rw [hs,rT]
       have hnil:ι.nil b=false:=by
        cases hh:ι.nil b with
        | false=>rfl
        | true=>rw [(hm.nils b B hB hd hh).2] at hlen;simp at hlen;omega
       obtain ⟨fz,rest,J,M,U,h4⟩:=hm.blk b B hB hd hnil
       have hfz:=M hwr
       have hhi':∃ k,(some u:Option SV).map (SV.aC ρ ι)=some (.int k 0):=by
        obtain ⟨k,hk⟩:=jA (ρ:=ρ) (ι:=ι) (show zY u=some 0 from hhi);exact ⟨k,by rw [Option.map_some,hk]⟩
       have hconc:SV.aC ρ ι (.s (.slc b (.lit 0) nn (.op (.lit 0))))=.slice (some (addr ρ ι b (.lit 0))) (nn.i ρ).toNat (ι.cap b):=by
        simp only [SV.aC,S.aC,hnil,Bool.false_eq_true,false_and,if_false,aF];rfl
       have hr:=dM (aU ht) hsz (some (addr ρ ι b (.lit 0))) (nn.i ρ).toNat (ι.cap b) _ _ 0 0 (gM (ρ:=ρ) (ι:=ι) hl) (.inr hhi') (Int.le_refl _) (Int.le_refl _) (by omega) w
       refine ⟨_,w,by rw [hconc];exact hr,ι,?_,hf,?_⟩
       ·simp [SV.aC,S.aC,hnil,aF]
        intro _
        simp [addr,Addr.add,aF]
       ·have hset:=hm.cN hB hd hnil [] (cellsOf ρ ι B.aH++rest) hfz (fun sz' hs'=>by
         rw [lF,List.nil_append];exact U sz' hs') (fun hgn=>by rw [hgn] at hg;cases hg)
        rw [lF,List.nil_append,kM J] at hset
        exact hset
      ·cases h
     ·cases h
    ·cases h
   ·cases h
theorem bAX (hH:H.ok ρ) (hm:aK ρ β ι m w) (hf:aR ρ ι n fr a) {t:TypeId} {x:SV} {lo hi:Option SV} {nd:List E} {v:SV} {m':Mem} (h:aUT P H m t x lo hi=some (nd,v,m')) (hn:bD ρ nd) :
 ∃ r w',(Instr.sliceAt t (x.aC ρ ι) (lo.map (SV.aC ρ ι)) (hi.map (SV.aC ρ ι)) ((none:Option SV).map (SV.aC ρ ι))).run P w=.ok r w'∧dW ρ β ι n fr m m' a v r w':=by
 unfold aUT at h
 split at h
 ·cases h
 ·rename_i e ht
  split at h
  ·cases h
  ·rename_i sz hsz
   split at h
   ·rename_i b nn
    split at h
    ·rename_i u hh B hl hB hhi
     split at h
     ·rename_i n' A o hs
      split at h
      ·rename_i hc
       obtain ⟨hd,hwr,ha,hnn,hg⟩:=hc
       subst hnn
       have ha:=aJ hH ha
       simp only [Option.some.injEq,Prod.mk.injEq] at h
       obtain ⟨rfl,rfl,rfl⟩:=h
       have q1:=hn _ (.head _)
       have q2:=hn _ (.tail _ (.head _))
       rw [bM hH,aF,decide_eq_true_eq] at q1
       rw [bM hH,decide_eq_true_eq] at q2
       have hlen:(cellsOf ρ ι B.aH).length=(n'.i ρ).toNat:=by rw [hs,rT]
       have hnil:ι.nil b=false:=by
        cases hh:ι.nil b with
        | false=>rfl
        | true=>rw [(hm.nils b B hB hd hh).2] at hlen;simp at hlen;omega
       obtain ⟨fz,rest,J,M,U,h4⟩:=hm.blk b B hB hd hnil
       have hfz:=M hwr
       have hconc:SV.aC ρ ι (.s (.slc b (.lit 0) n' (.op (.lit 0))))=.slice (some (addr ρ ι b (.lit 0))) (n'.i ρ).toNat (ι.cap b):=by
        simp only [SV.aC,S.aC,hnil,Bool.false_eq_true,false_and,if_false,aF];rfl
       have hcl:(hh.i ρ).toNat≤(n'.i ρ).toNat:=by omega
       have hr:=dM (aU ht) hsz (some (addr ρ ι b (.lit 0))) (n'.i ρ).toNat (ι.cap b) _ _ 0 (hh.i ρ) (gM (ρ:=ρ) (ι:=ι) hl) (by
        rcases vM (ρ:=ρ) (ι:=ι) hhi with ⟨g1,g2⟩ | g
        ·exact .inl ⟨g1,by rw [g2];omega⟩
        ·exact .inr g) (Int.le_refl _) q1 (by
        have h5:=(U 1 hg).1
        rw [List.length_append,hlen] at h5
        omega) w
       have eL:cellsOf ρ ι B.aH=cellsOf ρ ι [.run .i64 hh A o]++(cellsOf ρ ι B.aH).drop (hh.i ρ).toNat:=by
        rw [hs]
        apply List.ext_getElem?
        intro j
        have one:∀ z:E,(cellsOf ρ ι [.run .i64 z A o])[j]? = if j<(z.i ρ).toNat then some (.int .i64 (A.a ρ (o+j))) else none:=by
         intro z
         rw [aG,lF,List.append_nil,Seg.cells,List.getElem?_map]
         split
         ·rename_i hj;rw [List.getElem?_range hj];rfl
         ·rename_i hj;rw [List.getElem?_eq_none (by simpa using hj)];rfl
        rw [List.getElem?_append,rT]
        by_cases hj:j<(hh.i ρ).toNat
        ·rw [if_pos hj,one,one,if_pos hj,if_pos (by omega)]
        ·rw [if_neg hj,List.getElem?_drop]
         congr 1;omega
       refine ⟨_,w,by rw [hconc];exact hr,ι,?_,hf,?_⟩
       ·simp only [SV.aC,S.aC,hnil,Bool.false_eq_true,false_and,if_false,aF,Int.toNat_zero,Nat.sub_zero,Nat.zero_mul]
        congr 1
        split
        ·rfl
        ·simp [addr,Addr.add,aF]
       ·have hset:=hm.cN hB hd hnil [.run .i64 hh A o] ((cellsOf ρ ι B.aH).drop (hh.i ρ).toNat++rest) hfz (fun sz' hs'=>by
         rw [← List.append_assoc,← eL];exact U sz' hs') (fun hgn=>by rw [hgn] at hg;cases hg)
        rw [← List.append_assoc,← eL,kM J] at hset
        exact hset
      ·cases h
     ·cases h
    ·cases h
   ·cases h
theorem aZM {k:IntKind}:∀ {L:List Seg} {A p A':E},bBF k A p L=some A'→0≤p.i ρ →
 ∃ vs:List Int,cellsOf ρ ι L=vs.map (Value.int k)∧∀ j,A'.a ρ j=if (p.i ρ).toNat≤j then (vs[j-(p.i ρ).toNat]?).getD (A.a ρ j) else A.a ρ j
 | [],A,p,A',h,hp=>by
   simp only [bBF,Option.some.injEq] at h;subst h
   exact ⟨[],rfl,fun j=>by simp⟩
 | .one (.int k' x)::r,A,p,A',h,hp=>by
   simp only [bBF] at h
   split at h
   ·rename_i hk;subst hk
    have hp1:((mkAdd p (.lit 1)).i ρ).toNat=(p.i ρ).toNat+1:=by rw [aM,aF];omega
    obtain ⟨vs,J,M⟩:=aZM h (by rw [aM,aF];omega)
    refine ⟨x.i ρ::vs,by rw [aG,J];rfl,fun j=>?_⟩
    rw [M j,hp1]
    simp only [kD]
    by_cases hj:(p.i ρ).toNat≤j
    ·rw [if_pos hj]
     by_cases b4:j=(p.i ρ).toNat
     ·subst b4
      rw [if_neg (by omega),if_pos rfl];simp
     ·rw [if_pos (by omega),if_neg b4]
      obtain ⟨q,hq⟩:∃ q,j-(p.i ρ).toNat=q+1:=⟨j-(p.i ρ).toNat-1,by omega⟩
      rw [hq,List.getElem?_cons_succ,show j-((p.i ρ).toNat+1)=q by omega]
    ·rw [if_neg hj,if_neg (by omega),if_neg (by omega)]
   ·cases h
 | .one .nil::r,_,_,_,h,_ | .one (.bool _)::r,_,_,_,h,_ | .one (.ptr _ _)::r,_,_,_,h,_ | .one (.slc _ _ _ _)::r,_,_,_,h,_ | .one (.xslc _ _ _ _)::r,_,_,_,h,_ | .one (.xptr _ _ _ _)::r,_,_,_,h,_
 | .one .nilIface::r,_,_,_,h,_ | .one .nilSlc::r,_,_,_,h,_ | .one (.str _)::r,_,_,_,h,_ | .one (.fn _ _)::r,_,_,_,h,_ | .one .nilFn::r,_,_,_,h,_ | .one (.val _)::r,_,_,_,h,_ | .one (.ifc _ _ _)::r,_,_,_,h,_ | .one (.strE _)::r,_,_,_,h,_ | .one (.xtl _ _ _ _)::r,_,_,_,h,_ | .one .undef::r,_,_,_,h,_
 | .run _ _ _ _::r,_,_,_,h,_ | .rows _ _ _::r,_,_,_,h,_=>by simp [bBF] at h
theorem bCs (hH:H.ok ρ) (hm:aK ρ β ι m w) (hf:aR ρ ι n fr a) {t t' ty:TypeId} {d x:SV} {nd:List E} {v:SV} {m':Mem} (h:bCr P H m t d x=some (nd,v,m')) (hn:bD ρ nd) :
 ∃ r w',(Builtin.copy_ #[t,t'] ty #[d.aC ρ ι,x.aC ρ ι]).run P w=.ok r w'∧dW ρ β ι n fr m m' a v r w':=by
 unfold bCr at h
 split at h
 ·cases h
 ·rename_i e ht
  have ht:=aU ht
  split at h
  ·rename_i b off len cap L q hs hx
   have hs':=aDs hs
   cases hq:P.info? e with
   | none=>simp [hq] at hs'
   | some i =>
   have hi:i.size=1:=by simpa [hq] using hs'
   split at h
   ·rename_i B hB
    split at h
    ·rename_i k nn A o hsg
     split at h
     ·rename_i A' hA
      split at h
      ·rename_i hc
       obtain ⟨b0,hwr,hd,hle,hpl⟩:=hc
       simp only [Option.some.injEq,Prod.mk.injEq] at h
       obtain ⟨rfl,rfl,rfl⟩:=h
       have O:=hn (mkLe H (.lit 0) off) (by simp)
       have n1:=hn (mkLe H (.lit q) len) (by simp)
       rw [bM hH,aF] at O n1
       have O:0≤off.i ρ:=by simpa using O
       have n1:q≤len.i ρ:=by simpa using n1
       have hle:=aCB hH hle
       obtain ⟨_,hLlen,base',C,hxc,hcell⟩:=lK (ι:=ι) hH hm Nat.one_pos hx
       rw [aF] at hLlen hxc hcell
       rw [Nat.mul_one] at hLlen
       obtain ⟨ad,rfl,hcl⟩:=hcell (by omega)
       have hBl:(cellsOf ρ ι B.aH).length=(nn.i ρ).toNat:=by rw [hsg,rT]
       have hp:0≤(mkAdd off (.lit o)).i ρ:=by rw [aM,aF];omega
       have hpt:((mkAdd off (.lit o)).i ρ).toNat=(off.i ρ).toNat+o:=by rw [aM,aF];omega
       obtain ⟨vs,hvs,hA2⟩:=aZM (ρ:=ρ) (ι:=ι) hA hp
       have hvl:vs.length=q.toNat:=by rw [← hLlen,hvs,List.length_map]
       obtain ⟨w',hst,hm'⟩:=hm.write (P:=P) hB hd hwr (off.i ρ).toNat (cellsOf ρ ι L) [.run k nn A' o] (iS hpl) (by rw [hLlen];omega) (by rw [hBl,hLlen];omega) (by
        rw [hsg,hvs]
        apply List.ext_getElem?
        intro j
        have one:∀ B':E,(cellsOf ρ ι [.run k nn B' o])[j]? = if j<(nn.i ρ).toNat then some (.int k (B'.a ρ (o+j))) else none:=by
         intro B'
         rw [aG,lF,List.append_nil,Seg.cells,List.getElem?_map]
         split
         ·rename_i hj;rw [List.getElem?_range hj];rfl
         ·rename_i hj;rw [List.getElem?_eq_none (by simpa using hj)];rfl
        rw [one A']
        have hlA:(cellsOf ρ ι [.run k nn A o]).length=(nn.i ρ).toNat:=rT
        rw [List.getElem?_append,List.length_append,List.length_take,hlA,List.length_map,hvl,Nat.min_eq_left (by omega)]
        rw [List.getElem?_append,List.length_take,hlA,Nat.min_eq_left (by omega),List.getElem?_take,List.getElem?_drop,List.getElem?_map]
        rw [hA2,hpt]
        by_cases J:j<(off.i ρ).toNat
        ·rw [if_pos (show j<(nn.i ρ).toNat by omega),if_pos (show j<(off.i ρ).toNat+q.toNat by omega),if_pos J,if_pos J,if_neg (by omega),one A,if_pos (by omega)]
        ·by_cases M:j<(off.i ρ).toNat+q.toNat
         ·rw [if_pos (show j<(nn.i ρ).toNat by omega),if_pos M,if_neg J,if_pos (by omega)]
          rw [show o+j-((off.i ρ).toNat+o)=j-(off.i ρ).toNat by omega,List.getElem?_eq_getElem (by omega)]
          rfl
         ·rw [if_neg M]
          have V:(off.i ρ).toNat+q.toNat+(j-((off.i ρ).toNat+q.toNat))=j:=by omega
          rw [V,one A]
          split
          ·rw [if_pos (by omega),List.getElem?_eq_none (by omega)];rfl
          ·rfl)
       obtain ⟨base,C',hdc,hbase⟩:=aIe hm hB hd off len cap
       have hb:=hbase (by omega)
       subst hb
       refine ⟨goInt (Nat.min q.toNat (len.i ρ).toNat),w',?_,ι,?_,hf,hm'⟩
       ·rw [hxc,show (SV.s (.slc b off len cap)).aC ρ ι=_ from hdc]
        have hfc:(Builtin.firstCells 1 (Nat.min q.toNat (len.i ρ).toNat) (.slice (some ad) q.toNat C)).run P w=.ok (cellsOf ρ ι L).toArray w:=by
         refine run_firstCells_some w 1 _ ad _ _ _ (by rw [hLlen,Nat.mul_one];exact (Nat.min_eq_left (by omega)).symm) (fun j v hj=>hcl j v hj)
        simp [Builtin.copy_,run_underlying ht,Builtin.lenOf,sizeOf,typeInfo,hq,hi,hfc,addr,hst]
       ·have hmin:Nat.min q.toNat (len.i ρ).toNat=q.toNat:=Nat.min_eq_left (by omega)
        rw [hmin]
        simp [SV.aC,S.aC,aF,goInt];omega
      ·cases h
     ·cases h
    ·cases h
   ·cases h
  ·cases h
theorem aTb (hH:H.ok ρ) (hm:aK ρ β ι m w) (hf:aR ρ ι n fr a) {t:TypeId} {u:SV} {lo hi mx:Option SV} {nd:List E} {v:SV} {m':Mem} (h:aDt P H m t u lo hi mx=some (nd,v,m')) (hn:bD ρ nd) :
 ∃ r w',(Instr.sliceAt t (u.aC ρ ι) (lo.map (SV.aC ρ ι)) (hi.map (SV.aC ρ ι)) (mx.map (SV.aC ρ ι))).run P w=.ok r w'∧dW ρ β ι n fr m m' a v r w':=by
 unfold aDt at h
 split at h
 ·rename_i r' hr'
  simp only [Option.some.injEq] at h;subst h
  split at hr'
  ·rename_i hcn
   have:mx=none:=by simpa using hcn
   subst this
   exact bAX hH hm hf hr' hn
  ·cases hr'
 split at h
 ·rename_i r' hr'
  simp only [Option.some.injEq] at h;subst h
  exact bAY hm hf hr'
 ·split at h
  ·rename_i hr'
   simp only [Option.some.injEq] at h;subst h
   exact bAZ hm hf hr'
  ·split at h
   ·rename_i hcn
    have:mx=none:=by simpa using hcn
    subst this
    split at h
    ·rename_i hr'
     simp only [Option.some.injEq] at h;subst h
     exact bBb hH hm hf hr'
    ·exact bAW hH hm hf h hn
   ·cases h
theorem bIZ (hH:H.ok ρ) (hm:aK ρ β ι m w) (hf:aR ρ ι n fr a) {o:Oper} {nd:List E} {v:SV} {m':Mem} (h:bQG P H fr m o.op=some (nd,v,m')) (hn:bD ρ nd) :
 ∃ x w',(execOp a.eval o).run P w=.ok (.value x) w'∧dW ρ β ι n fr m m' a v x w':=by
 have hG:eM ρ []:=fun e he=>by cases he
 unfold bQG at h
 split at h
 ·rename_i t u x ha
  unfold oW at ha
  split at ha
  ·rename_i c ho
   obtain ⟨callee,args,argTypes⟩:=c
   split at ha
   ·rename_i s x' t1 t2 hcal har hat
    simp only at hcal har hat
    obtain rfl:args=#[s,x']:=Array.ext' har
    obtain rfl:argTypes=#[t1,t2]:=Array.ext' hat
    subst hcal
    split at ha
    ·rename_i htt;subst htt
     split at ha
     ·rename_i u' v' hu hv
      simp only [Option.some.injEq,Prod.mk.injEq] at ha
      obtain ⟨rfl,rfl,rfl⟩:=ha
      obtain ⟨r,w',hr,haf⟩:∃ r w',(Builtin.append_ #[t1,t1] o.type #[u'.aC ρ ι,v'.aC ρ ι]).run P w=.ok r w'∧dW ρ β ι n fr m m' a v r w':=by
       split at h
       ·rename_i hr'
        simp only [Option.some.injEq] at h;subst h
        exact aTx hH hm hf hr'
       ·exact aTz hH hm hf h
      refine ⟨r,w',?_,haf⟩
      unfold execOp
      simp only [ho,resolve,invoke,builtin,Sem.run_bind,Sem.run_pure,Result.andThen_ok,List.map_toArray,List.map_cons,List.map_nil,aQ hf hG hu,aQ hf hG hv,hr]
     ·cases ha
    ·cases ha
   ·cases ha
  ·cases ha
 ·split at h
  rotate_left
  ·split at h
   ·rename_i t t' u x ha
    unfold mW at ha
    split at ha
    ·rename_i c ho
     obtain ⟨callee,args,argTypes⟩:=c
     split at ha
     ·rename_i s x' t1 t2 hcal har hat
      simp only at hcal har hat
      obtain rfl:args=#[s,x']:=Array.ext' har
      obtain rfl:argTypes=#[t1,t2]:=Array.ext' hat
      subst hcal
      split at ha
      ·rename_i u' v' hu hv
       simp only [Option.some.injEq,Prod.mk.injEq] at ha
       obtain ⟨rfl,rfl,rfl,rfl⟩:=ha
       obtain ⟨r,w',hr,haf⟩:=aIs (ty:=o.type) hH hm hf h
       refine ⟨r,w',?_,haf⟩
       unfold execOp
       simp only [ho,resolve,invoke,builtin,Sem.run_bind,Sem.run_pure,Result.andThen_ok,List.map_toArray,List.map_cons,List.map_nil,aQ hf hG hu,aQ hf hG hv,hr]
      ·cases ha
     ·cases ha
    ·cases ha
   ·split at h
    ·rename_i t x lo hi mx ho
     split at h
     ·rename_i u lo' hi' mx' hu hl hh hmx
      have V:=oK hf hl
      have e2:=oK hf hh
      have e3:=oK hf hmx
      obtain ⟨r,w',hr,haf⟩:=aTb hH hm hf h hn
      rw [bAu hH] at hr
      refine ⟨r,w',?_,haf⟩
      simp only [execOp,ho,aQ hf hG hu,V,e2,e3]
      rw [Sem.run_bind,hr];rfl
     ·cases h
    ·rename_i src dst x ho
     split at h
     ·rename_i u hu
      obtain ⟨r,w',hr,haf⟩:=bIM hH hm hf h
      refine ⟨r,w',?_,haf⟩
      simp only [execOp,ho,aQ hf hG hu]
      rw [Sem.run_bind,hr];rfl
     ·cases h
    ·cases h
  ·rename_i t u x ha
   unfold aID at ha
   split at ha
   ·rename_i c ho
    obtain ⟨callee,args,argTypes⟩:=c
    split at ha
    ·rename_i s x' t1 t2 hcal har hat
     simp only at hcal har hat
     obtain rfl:args=#[s,x']:=Array.ext' har
     obtain rfl:argTypes=#[t1,t2]:=Array.ext' hat
     subst hcal
     split at ha
     ·rename_i u' v' hu hv
      simp only [Option.some.injEq,Prod.mk.injEq] at ha
      obtain ⟨rfl,rfl,rfl⟩:=ha
      obtain ⟨r,w',hr,haf⟩:∃ r w',(Builtin.copy_ #[t1,t2] o.type #[u'.aC ρ ι,v'.aC ρ ι]).run P w=.ok r w'∧dW ρ β ι n fr m m' a v r w':=by
       split at h
       ·rename_i hr'
        simp only [Option.some.injEq] at h;subst h
        exact bCu hH hm hf hr'
       ·exact bCs hH hm hf h hn
      refine ⟨r,w',?_,haf⟩
      unfold execOp
      simp only [ho,resolve,invoke,builtin,Sem.run_bind,Sem.run_pure,Result.andThen_ok,List.map_toArray,List.map_cons,List.map_nil,aQ hf hG hu,aQ hf hG hv,hr]
     ·cases ha
    ·cases ha
   ·cases ha
theorem bJa (hH:H.ok ρ) (hm:aK ρ β ι m w) (hf:aR ρ ι n fr a) {o:Oper} {nd:List E} {v:SV} {m':Mem} (h:bQH P H fr m o.op=some (nd,v,m')) (hn:bD ρ nd) :
 ∃ x w',((execOp a.eval o).run P w=.ok (.value x) w'∨(execOp a.eval o).run P w=.ok .skip w'∧x=Go.undef)∧dW ρ β ι n fr m m' a v x w':=by
 unfold bQH at h
 split at h
 ·rename_i r hr
  simp only [Option.some.injEq] at h;subst h
  exact bQI hH hm hf hr hn
 ·obtain ⟨x,w',J,M⟩:=bIZ hH hm hf h hn
  exact ⟨x,w',.inl J,M⟩
end
def pk:Nat:=4096
def aDd (x:S):SV:=.tup [(false,[.one (.val pk)]),(false,[.one x])]
def gX:SV→Option S
 | .tup [(false,[.one (.val n)]),(false,[.one (.ifc t k e)])]=>cond (Nat.beq n pk) (some (.ifc t k e)) none
 | _=>none
def dL (v:SV):Bool:=(gX v).isSome
def aUv (v:Value):PanicEntry:={ v,recovered:=false }
def fA (ρ:Env) (ι:Loc) (v:SV):Ending:=match gX v with
 | some x=>.panicked [aUv (x.aC ρ ι)]
 | none=>.returned (v.aC ρ ι)
theorem pT {v:SV} {x:S} (h:gX v=some x):(∃ t k e,x=.ifc t k e)∧v=aDd x:=by
 unfold gX at h
 split at h
 ·rename_i n t k e
  cases hb:Nat.beq n pk with
  | false=>rw [hb] at h;cases h
  | true =>
    rw [hb] at h
    simp only [cond_true,Option.some.injEq] at h
    obtain rfl:=Nat.eq_of_beq_eq_true hb
    subst h;exact ⟨⟨t,k,e,rfl⟩,rfl⟩
 ·cases h
theorem yP (t:TypeId) (k:IntKind) (e:E):gX (aDd (.ifc t k e))=some (.ifc t k e):=rfl
theorem aW {ρ:Env} {ι:Loc} {v:SV} (h:dL v=false):fA ρ ι v=.returned (v.aC ρ ι):=by
 unfold fA dL at *
 cases hp:gX v with
 | none=>rfl
 | some x=>rw [hp] at h;cases h
theorem gS {ρ:Env} {ι:Loc} {v:SV} {x:S} (h:gX v=some x):fA ρ ι v=.panicked [aUv (x.aC ρ ι)]:=by
 unfold fA;rw [h]
abbrev Ctx:=FuncId→Hyp→List SV→Mem→Option (List E × SV × Option Mem)
structure cA (P:Program) (I:Interp) (Γ:Ctx):Prop where
 ok:∀ f H l m nd v om,Γ f H l m=some (nd,v,om)→∀ (ρ:Env) (β:dN) (ι:Loc) (w:World),ρ.I=I→H.ok ρ→bD ρ nd→aK ρ β ι m w →
  Calls P f (l.map (SV.aC ρ ι)).toArray w fun e w'=>match om with
   | none=>e=fA ρ ι v∧aK ρ β ι m w'
   | some m'=>∃ ι',Loc.bV m.length ι ι'∧e=fA ρ ι' v∧aK ρ β ι' m' w'
def aUr (P:Program) (f:FuncId):Bool:=match P.funcs[f]? with | some fn=>!(fn.name == "runtime.NumGoroutine")&&fn.body.isSome | none=>false
def uA (P:Program) (G:List E) (fr:Fr):Op→Option (FuncId × List SV)
 | .call ⟨.value x,args,_⟩=>match dB G fr x,qE G fr args.toList with
   | some (.s (.fn f iH)),some l=>if aUr P f then some (f,l++iH.map fun p=>.s (.ptr p.1 p.2)) else none
   | _,_=>none
 | _=>none
def zG (P:Program) (Γ:Ctx) (quiet:Bool) (H:Hyp) (G:List E) (fr:Fr) (m:Mem) (o:Op):Option (List E × SV × Option Mem) :=
 match qop P H G fr m o with
 | some (nd,v)=>some (nd,v,none)
 | none=>match uA P G fr o with
   | some (f,l)=>match Γ f H l m with
     | some (nd,v,none)=>if dL v then none else some (nd,v,none)
     | some (nd,v,some m')=>if quiet then none else if dL v then none else if fr.all (fun f=>f.x.sc m.length) then some (nd,v,some m') else none
     | none=>none
   | none=>if quiet then none else match bQH P H fr m o with
     | some (nd,v,m')=>some (nd,v,some m')
     | none=>none
inductive GS where
 | go (G:List E) | now (G:List E) | skip | bad
def guardOf (ops:Array Oper) (fr:Fr) (o:Oper):GS :=
 match o.guard with
 | none=>.go []
 | some (j,want)=>match (ops[j]?).bind (·.dst) with
   | none=>.bad
   | some t=>match look fr t with
     | some (g,.s (.bool (.blit b)))=>if b=want then .go g else .skip
     | some (g,.s (.bool e))=>.go ((if want then e else mkNot e)::g)
     | some (_,.s .undef)=>.skip
     | _=>.bad
def kQ (H:Hyp) (ops:Array Oper) (fr:Fr) (o:Oper):GS:=match guardOf ops fr o with
 | .go G=>if G.any (fun g=>decide (fQ H g=.blit false)) then .skip else if G.all (fun g=>decide (fQ H g=.blit true)) then .now G else .go G
 | .now _=>.bad
 | x=>x
def put (n:Nat) (fr:Fr) (dst:Option Tmp) (g:List E) (v:SV):Option Fr :=
 match dst with
 | none=>some fr
 | some t=>if t<n then some (⟨t,g,v⟩::fr) else none
def imp (G:List E) (e:E):E:=G.foldr (fun g r=>mkOr (mkNot g) r) e
def zC (l:List E) (H:Hyp):Hyp:=l.foldl (fun H e=>jJ true e H) H
def outN (l:List E) (H:Hyp) (fr:Fr) (om:Option Mem) (m:Mem):List E × Hyp × Fr × Mem:=match l with
 | []=>(match om with
   | none=>([],H,fr,m)
   | some m'=>([],H,fr,m'))
 | e::l=>(match om with
   | none=>(e::l,zC (e::l) H,fr,m)
   | some m'=>(e::l,zC (e::l) H,fr,m'))
theorem aAD (l:List E) (H:Hyp) (fr:Fr) (om:Option Mem) (m:Mem):outN l H fr om m=(l,zC l H,fr,om.getD m):=by
 cases l <;> cases om <;> rfl
def eU (P:Program) (Γ:Ctx) (quiet:Bool) (n:Nat) (ops:Array Oper) (o:Oper) (H:Hyp) (fr:Fr) (m:Mem):Option (List E × Hyp × Fr × Mem) :=
 match kQ H ops fr o with
 | .bad=>none
 | .skip=>(put n fr o.dst [] .undef).map fun fr'=>([],H,fr',m)
 | .now _=>match zG P Γ quiet H [] fr m o.op with
   | some (nd,v,om)=>(put n fr o.dst [] v).map fun fr'=>outN (aUo H nd) H fr' om m
   | none=>none
 | .go G=>match zG P Γ true (zC G H) G fr m o.op with
   | some (nd,v,_)=>(put n fr o.dst G v).map fun fr'=>(lZ (nd.map (imp G)),H,fr',m)
   | none=>none
def oO (P:Program) (Γ:Ctx) (quiet:Bool) (n:Nat) (ops:Array Oper):List Oper→Hyp→Fr→Mem→Option (List E × Hyp × Fr × Mem)
 | [],H,fr,m=>some ([],H,fr,m)
 | o::l,H,fr,m=>match eU P Γ quiet n ops o H fr m with
   | some (nd,H',fr',m')=>match oO P Γ quiet n ops l H' fr' m' with
     | some (nd',r)=>some (nd++nd',r)
     | none=>none
   | none=>none
section
variable {ρ:Env} {ι:Loc} {H:Hyp} {P:Program} {Γ:Ctx} {w:World} {β:dN} {m:Mem} {fr:Fr} {n:Nat} {a:Act} {G:List E} {ops:Array Oper}
theorem lS:∀ (l:List E) (H:Hyp),H.ok ρ→bD ρ l→(zC l H).ok ρ
 | [],_,hH,_=>hH
 | e::l,H,hH,h=>lS l _ (dF e true H hH (h e (.head _))) (fun x hx=>h x (.tail _ hx))
theorem bCU:∀ (G:List E) (e:E),(imp G e).b ρ=true→eM ρ G→e.b ρ=true
 | [],e,h,_=>h
 | g::G,e,h,hG=>by
   simp only [imp,List.foldr_cons,jW,bR,hG g (.head _),Bool.not_true,Bool.false_or] at h
   exact bCU G e h (fun x hx=>hG x (.tail _ hx))
theorem sH (hf:aR ρ ι n fr a) (hG:eM ρ G) {o:Oper} {f:FuncId} {l:List SV} (h:uA P G fr o.op=some (f,l)) :
 (execOp a.eval o).run P w=.ok (.enter f (l.map (SV.aC ρ ι)).toArray) w:=by
 unfold uA at h
 split at h
 ·rename_i x args ts ho
  split at h
  ·rename_i f' iH l' hx hl
   split at h
   ·rename_i hok
    simp only [Option.some.injEq,Prod.mk.injEq] at h
    obtain ⟨rfl,rfl⟩:=h
    have V:args.map a.eval=(l'.map (SV.aC ρ ι)).toArray:=by rw [← kK hf hG hl,← Array.toList_map]
    unfold aUr at hok
    split at hok
    ·rename_i fn hfn
     simp only [Bool.and_eq_true,Bool.not_eq_true'] at hok
     have hb:fn.body.isNone=false:=by
      cases hbb:fn.body <;> simp_all
     have hc:∀ vs:Array Value,(callFunc f' vs).run P w=.ok (.enter f' vs) w:=by
      intro vs
      unfold callFunc
      rw [Sem.run_bind,run_program,Result.andThen_ok]
      simp only [hfn,hok.1,hb]
      rfl
     simp [execOp,ho,resolve,aQ hf hG hx,SV.aC,S.aC,Deferred.ofValue,invoke,V,hc,Function.comp_def]
    ·cases hok
   ·cases h
  ·cases h
 ·cases h
theorem upon_value {o:Oper} {K:Act→World→Prop} {Q:Exit→Act→World→Prop} {v:Value} {w':World}
 (h:(execOp a.eval o).run P w=.ok (.value v) w') (hK:K (a.put o.dst v) w'):o.wp P a w K Q:=by
 unfold Oper.wp;rw [h];exact hK
theorem bCE {I:Interp} (hΓ:cA P I Γ) (hI:ρ.I=I) (hH:H.ok ρ) (hm:aK ρ β ι m w) (hf:aR ρ ι n fr a) {quiet:Bool} {o:Oper} {nd:List E} {v:SV} {om:Option Mem}
 (h:zG P Γ quiet H [] fr m o.op=some (nd,v,om)) (hn:bD ρ nd) {K:Act→World→Prop} {Q:Exit→Act→World→Prop}
 (hK:∀ ι' w',aR ρ ι' n fr a→aK ρ β ι' (om.getD m) w'→K (a.put o.dst (v.aC ρ ι')) w'):o.wp P a w K Q:=by
 have hG:eM ρ []:=fun e he=>by cases he
 unfold zG at h
 split at h
 ·rename_i nd' v' hq
  simp only [Option.some.injEq,Prod.mk.injEq] at h
  obtain ⟨rfl,rfl,rfl⟩:=h
  exact upon_value (aHV hH hm hf hG hq hn) (hK ι w hf hm)
 ·split at h
  ·rename_i f l hc
   have hcall:=sH (w:=w) hf hG hc
   unfold Oper.wp
   rw [hcall]
   show Calls P f _ w _
   split at h
   ·rename_i nd' v' hg
    split at h
    ·cases h
    rename_i hpn
    simp only [Bool.not_eq_true] at hpn
    simp only [Option.some.injEq,Prod.mk.injEq] at h
    obtain ⟨rfl,rfl,rfl⟩:=h
    refine (hΓ.ok _ _ _ _ _ _ _ hg ρ β ι w hI hH hn hm).mono fun e w' hr=>?_
    obtain ⟨he,hm'⟩:=hr
    rw [aW hpn] at he;subst he
    exact hK ι w' hf hm'
   ·rename_i nd' v' m' hg
    split at h
    ·cases h
    ·split at h
     ·cases h
     rename_i hpn
     simp only [Bool.not_eq_true] at hpn
     split at h
     ·rename_i hs
      simp only [Option.some.injEq,Prod.mk.injEq] at h
      obtain ⟨rfl,rfl,rfl⟩:=h
      refine (hΓ.ok _ _ _ _ _ _ _ hg ρ β ι w hI hH hn hm).mono fun e w' hr=>?_
      obtain ⟨ι',hι,he,hm'⟩:=hr
      rw [aW hpn] at he;subst he
      exact hK ι' w' (hf.congr hι hs) hm'
     ·cases h
   ·cases h
  ·split at h
   ·cases h
   ·split at h
    ·rename_i nd' v' m' hw
     simp only [Option.some.injEq,Prod.mk.injEq] at h
     obtain ⟨rfl,rfl,rfl⟩:=h
     obtain ⟨x,w',J,ι',rfl,U,h4⟩:=bJa hH hm hf hw hn
     unfold Oper.wp
     rcases J with J | ⟨J,hx⟩
     ·rw [J];exact hK ι' w' U h4
     ·rw [J]
      show K (a.put o.dst Go.undef) w'
      rw [← hx];exact hK ι' w' U h4
    ·cases h
theorem qU {I:Interp} (hΓ:cA P I Γ) (hI:ρ.I=I) (hH:H.ok ρ) (hf:aR ρ ι n fr a) (hG:eM ρ G) {o:Oper} {nd:List E} {v:SV} {om:Option Mem}
 (h:zG P Γ true H G fr m o.op=some (nd,v,om)) (hn:bD ρ nd) :
 om=none∧∀ w,aK ρ β ι m w→o.quietAt P a (fun w'=>aK ρ β ι m w') w (v.aC ρ ι):=by
 unfold zG at h
 split at h
 ·rename_i nd' v' hq
  simp only [Option.some.injEq,Prod.mk.injEq] at h
  obtain ⟨rfl,rfl,rfl⟩:=h
  refine ⟨rfl,fun w hm=>?_⟩
  unfold Oper.quietAt
  rw [aHV hH hm hf hG hq hn]
  exact ⟨rfl,rfl⟩
 ·split at h
  ·rename_i f l hc
   split at h
   ·rename_i nd' v' hg
    split at h
    ·cases h
    rename_i hpn
    simp only [Bool.not_eq_true] at hpn
    simp only [Option.some.injEq,Prod.mk.injEq] at h
    obtain ⟨rfl,rfl,rfl⟩:=h
    refine ⟨rfl,fun w hm=>?_⟩
    unfold Oper.quietAt
    rw [sH (w:=w) hf hG hc]
    have hq:=hΓ.ok _ _ _ _ _ _ _ hg ρ β ι w hI hH hn hm
    simp only [aW hpn] at hq
    exact ⟨rfl,hq⟩
   ·simp at h
   ·cases h
  ·simp at h
theorem iU (hf:aR ρ ι n fr a) {o:Oper} (h:guardOf ops fr o=.go G) :
 (eM ρ G→Region.wanted o (yielded ops a.tmps)=true)∧(¬ eM ρ G→Region.wanted o (yielded ops a.tmps)=false):=by
 unfold guardOf at h
 unfold Region.wanted
 split at h
 ·rename_i hg
  simp only [GS.go.injEq] at h;subst h
  rw [hg]
  exact ⟨fun _=>rfl,fun h=>absurd (fun e he=>by cases he) h⟩
 ·rename_i j want hg
  rw [hg]
  split at h
  ·cases h
  ·rename_i t ht
   have key:∀ g x,look fr t=some (g,x)→(eM ρ g→yielded ops a.tmps j=(match x.aC ρ ι with | .bool b=>some b | _=>none))∧(¬ eM ρ g→yielded ops a.tmps j=none):=by
    intro g x hl
    constructor
    ·intro hg'
     have:=hf.yes _ _ _ hl hg'
     unfold yielded
     rw [ht]
     simp only [Option.bind_some,this]
     cases x.aC ρ ι <;> rfl
    ·intro hg'
     have:=hf.no _ _ _ hl hg'
     unfold yielded
     rw [ht]
     simp only [Option.bind_some,this,Go.undef]
   split at h
   ·rename_i g b hl
    split at h
    ·rename_i hb
     simp only [GS.go.injEq] at h;subst h;subst hb
     have k:=key _ _ hl
     exact ⟨fun hg'=>by simp [k.1 hg',SV.aC,S.aC,aP],fun hg'=>by simp [k.2 hg']⟩
    ·cases h
   ·rename_i g e _ hl
    simp only [GS.go.injEq] at h;subst h
    have k:=key _ _ hl
    have hw:(if want then e else mkNot e).b ρ=true↔e.b ρ=want:=by
     cases want <;> simp [bR]
    refine ⟨fun hg'=>?_,fun hg'=>?_⟩
    ·have J:=hw.1 (hg' _ (.head _))
     have M:eM ρ g:=fun x hx=>hg' x (.tail _ hx)
     simp [k.1 M,SV.aC,S.aC,J]
    ·by_cases M:eM ρ g
     ·have J:¬ e.b ρ=want:=fun he=>hg' (fun x hx=>by cases hx with | head=>exact hw.2 he | tail _ hx=>exact M x hx)
      simp [k.1 M,SV.aC,S.aC,J]
     ·simp [k.2 M]
   ·cases h
   ·cases h
theorem aTo (hf:aR ρ ι n fr a) {o:Oper} (h:guardOf ops fr o=.skip):Region.wanted o (yielded ops a.tmps)=false:=by
 unfold guardOf at h
 unfold Region.wanted
 split at h
 ·cases h
 ·rename_i j want hg
  rw [hg]
  split at h
  ·cases h
  ·rename_i t ht
   have key:∀ g x,look fr t=some (g,x)→yielded ops a.tmps j=(match x.aC ρ ι with | .bool b=>some b | _=>none)∨yielded ops a.tmps j=none:=by
    intro g x hl
    by_cases hg':eM ρ g
    ·left
     have:=hf.yes _ _ _ hl hg'
     unfold yielded
     rw [ht]
     simp only [Option.bind_some,this]
     cases x.aC ρ ι <;> rfl
    ·right
     have:=hf.no _ _ _ hl hg'
     unfold yielded
     rw [ht]
     simp only [Option.bind_some,this,Go.undef]
   split at h
   ·rename_i g b hl
    split at h
    ·cases h
    ·rename_i hb
     rcases key _ _ hl with k | k
     ·simp [k,SV.aC,S.aC,aP,hb]
     ·simp [k]
   ·cases h
   ·rename_i g hl
    rcases key _ _ hl with k | k
    ·simp [k,SV.aC,S.aC,Go.undef]
    ·simp [k]
   ·cases h
theorem xZ {o:Oper} (h:kQ H ops fr o=.go G):guardOf ops fr o=.go G:=by
 unfold kQ at h
 split at h
 ·rename_i G' hg
  split at h
  ·cases h
  ·split at h
   ·cases h
   ·rw [hg];exact h
 ·cases h
 ·rename_i hg _
  exact absurd h (hg _)
theorem kG (hH:H.ok ρ) (hf:aR ρ ι n fr a) {o:Oper} (h:kQ H ops fr o=.skip):Region.wanted o (yielded ops a.tmps)=false:=by
 unfold kQ at h
 split at h
 ·rename_i G' hg
  split at h
  ·rename_i hc
   refine (iU hf hg).2 fun hG=>?_
   obtain ⟨g,e0,hg2⟩:=List.any_eq_true.1 hc
   simp only [decide_eq_true_eq] at hg2
   have J:=jP hH g
   rw [hg2,aP,hG g e0] at J
   cases J
  ·split at h <;> cases h
 ·cases h
 ·exact aTo hf h
theorem jR (hH:H.ok ρ) (hf:aR ρ ι n fr a) {o:Oper} (h:kQ H ops fr o=.now G):eM ρ G∧Region.wanted o (yielded ops a.tmps)=true:=by
 unfold kQ at h
 split at h
 ·rename_i G' hg
  split at h
  ·cases h
  ·split at h
   ·rename_i hc
    simp only [GS.now.injEq] at h;subst h
    have hG:eM ρ G':=fun g e0=>by
     have:=List.all_eq_true.1 hc g e0
     simp only [decide_eq_true_eq] at this
     have J:=jP hH g
     rw [this,aP] at J
     exact J.symm
    exact ⟨hG,(iU hf hg).1 hG⟩
   ·cases h
 ·cases h
 ·rename_i x hx hg
  exact absurd h (hg _)
theorem gY (hf:aR ρ ι n fr a) {dst:Option Tmp} {g:List E} {v:SV} {fr':Fr} (h:put n fr dst g v=some fr') {x:Value} (hy:eM ρ g→x=v.aC ρ ι) (hn:¬ eM ρ g→x=Go.undef) :
 aR ρ ι n fr' (a.put dst x):=by
 unfold put at h
 split at h
 ·simp only [Option.some.injEq] at h;subst h;exact hf
 ·split at h
  ·rename_i ht
   simp only [Option.some.injEq] at h;subst h
   exact hf.put ht hy hn
  ·cases h
theorem gO {G:List E} {nd:List E} (h:bD ρ (nd.map (imp G))) (hG:eM ρ G):bD ρ nd:=fun e he =>
 bCU G e (h _ (List.mem_map.2 ⟨e,he,rfl⟩)) hG
theorem lQ {I:Interp} (hΓ:cA P I Γ) (hI:ρ.I=I) {quiet:Bool} {o:Oper} {nd:List E} {H':Hyp} {fr':Fr} {m':Mem}
 (h:eU P Γ quiet n ops o H fr m=some (nd,H',fr',m')) (hH:H.ok ρ) (hn:bD ρ nd) (hm:aK ρ β ι m w) (hf:aR ρ ι n fr a) {K:Act→World→Prop} {Q:Exit→Act→World→Prop}
 (hK:∀ ι' a' w',H'.ok ρ→aR ρ ι' n fr' a'→aK ρ β ι' m' w'→K a' w') :
 if Region.wanted o (yielded ops a.tmps) then o.wp P a w K Q else K (a.put o.dst Go.undef) w:=by
 unfold eU at h
 try simp only [aAD] at h
 split at h
 ·cases h
 ·rename_i hg
  simp only [Option.map_eq_some_iff,Prod.mk.injEq] at h
  obtain ⟨Y,hp,rfl,rfl,rfl,rfl⟩:=h
  rw [if_neg (by rw [kG hH hf hg];simp)]
  exact hK ι _ w hH (gY hf hp (fun _=>rfl) (fun hx=>absurd (fun e he=>by cases he) hx)) hm
 ·rename_i G hg
  obtain ⟨hG,hw⟩:=jR hH hf hg
  split at h
  ·rename_i nd' v om he
   simp only [Option.map_eq_some_iff,Prod.mk.injEq] at h
   obtain ⟨Y,hp,rfl,rfl,rfl,rfl⟩:=h
   rw [if_pos hw]
   refine bCE hΓ hI hH hm hf he (yL hH hn) fun ι' w' hf' hm'=>?_
   exact hK ι' _ w' (lS _ _ hH hn) (gY hf' hp (fun _=>rfl) (fun hx=>absurd (fun e he=>by cases he) hx)) hm'
  ·cases h
 ·rename_i G hg
  replace hg:=xZ hg
  split at h
  ·rename_i nd' v om he
   simp only [Option.map_eq_some_iff,Prod.mk.injEq] at h
   obtain ⟨Y,hp,rfl,rfl,rfl,rfl⟩:=h
   by_cases hG:eM ρ G
   ·rw [if_pos ((iU hf hg).1 hG)]
    have hq:=qU (β:=β) hΓ hI (lS _ _ hH hG) hf hG he (gO (fE hn) hG)
    refine Oper.wp_of_quiet (C:=fun w'=>aK ρ β ι m w') (K:=fun a'=>a'=a.put o.dst (v.aC ρ ι)) hm (fun a' w' hm' ha=>?_) ⟨_,hq.2,rfl⟩
    subst ha
    exact hK ι _ w' hH (gY hf hp (fun _=>rfl) (fun hx=>absurd hG hx)) hm'
   ·rw [if_neg (by rw [(iU hf hg).2 hG];simp)]
    exact hK ι _ w hH (gY hf hp (fun hx=>absurd hx hG) (fun _=>rfl)) hm
  ·cases h
theorem aIa {I:Interp} (hΓ:cA P I Γ) (hI:ρ.I=I) {quiet:Bool}:∀ (l:List Oper) {H H':Hyp} {nd:List E} {fr fr':Fr} {m m':Mem} {ι:Loc} {a:Act} {w:World} {Q:Exit→Act→World→Prop},
 oO P Γ quiet n ops l H fr m=some (nd,H',fr',m')→H.ok ρ→bD ρ nd→aK ρ β ι m w→aR ρ ι n fr a →
 (∀ ι' a' w',H'.ok ρ→aR ρ ι' n fr' a'→aK ρ β ι' m' w'→Q .normal a' w')→wpList P ops Q l a w
 | [],H,H',nd,fr,fr',m,m',ι,a,w,Q,h,hH,hn,hm,hf,hQ=>by
   simp only [oO,Option.some.injEq,Prod.mk.injEq] at h
   obtain ⟨rfl,rfl,rfl,rfl⟩:=h
   exact hQ ι a w hH hf hm
 | o::l,H,H',nd,fr,fr',m,m',ι,a,w,Q,h,hH,hn,hm,hf,hQ=>by
   simp only [oO] at h
   split at h
   ·rename_i b5 H1 b3 m1 J
    split at h
    ·rename_i b6 r M
     simp only [Option.some.injEq,Prod.mk.injEq] at h
     obtain ⟨rfl,rfl⟩:=h
     have hn':=bZ hn
     refine wpList_step fun K hK=>?_
     exact lQ hΓ hI J hH hn'.1 hm hf fun ι' a' w' hH' hf' hm'=>hK _ _ (aIa hΓ hI l M hH' hn'.2 hm' hf' hQ)
    ·cases h
   ·cases h
theorem aTQ {o:Op} {nd:List E} {v:SV} {om:Option Mem} (h:zG P Γ true H G fr m o=some (nd,v,om)):om=none:=by
 unfold zG at h
 split at h
 ·simp only [Option.some.injEq,Prod.mk.injEq] at h;exact h.2.2.symm
 ·split at h
  ·split at h
   ·split at h
    ·cases h
    ·simp only [Option.some.injEq,Prod.mk.injEq] at h;exact h.2.2.symm
   ·simp at h
   ·cases h
  ·simp at h
theorem aCW {o:Oper} {nd:List E} {H':Hyp} {fr':Fr} {m':Mem} (h:eU P Γ true n ops o H fr m=some (nd,H',fr',m')):m'=m:=by
 unfold eU at h
 try simp only [aAD] at h
 split at h
 ·cases h
 ·simp only [Option.map_eq_some_iff,Prod.mk.injEq] at h
  obtain ⟨_,_,_,_,_,rfl⟩:=h;rfl
 ·split at h
  ·rename_i nd' v om he
   simp only [Option.map_eq_some_iff,Prod.mk.injEq] at h
   obtain ⟨_,_,_,_,_,rfl⟩:=h
   rw [aTQ he];rfl
  ·cases h
 ·split at h
  ·simp only [Option.map_eq_some_iff,Prod.mk.injEq] at h
   obtain ⟨_,_,_,_,_,rfl⟩:=h;rfl
  ·cases h
theorem aDn:∀ (l:List Oper) {H H':Hyp} {nd:List E} {fr fr':Fr} {m m':Mem},oO P Γ true n ops l H fr m=some (nd,H',fr',m')→m'=m
 | [],H,H',nd,fr,fr',m,m',h=>by
   simp only [oO,Option.some.injEq,Prod.mk.injEq] at h;exact h.2.2.2.symm
 | o::l,H,H',nd,fr,fr',m,m',h=>by
   simp only [oO] at h
   split at h
   ·rename_i b5 H1 b3 m1 J
    split at h
    ·rename_i b6 r M
     simp only [Option.some.injEq,Prod.mk.injEq] at h
     obtain ⟨rfl,rfl⟩:=h
     rw [aDn l M,aCW J]
    ·cases h
   ·cases h
theorem aHQ {I:Interp} (hΓ:cA P I Γ) (hI:ρ.I=I) {o:Oper} {nd:List E} {H':Hyp} {fr':Fr} {m':Mem}
 (h:eU P Γ true n ops o H fr m=some (nd,H',fr',m')) (hH:H.ok ρ) (hn:bD ρ nd) (hf:aR ρ ι n fr a) {K:Act→Prop}
 (hK:∀ a',H'.ok ρ→aR ρ ι n fr' a'→K a') :
 if Region.wanted o (yielded ops a.tmps) then o.quiet P a (fun w=>aK ρ β ι m w) K else K (a.put o.dst Go.undef):=by
 unfold eU at h
 try simp only [aAD] at h
 split at h
 ·cases h
 ·rename_i hg
  simp only [Option.map_eq_some_iff,Prod.mk.injEq] at h
  obtain ⟨Y,hp,rfl,rfl,rfl,rfl⟩:=h
  rw [if_neg (by rw [kG hH hf hg];simp)]
  exact hK _ hH (gY hf hp (fun _=>rfl) (fun hx=>absurd (fun e he=>by cases he) hx))
 ·rename_i G hg
  obtain ⟨hG,hw⟩:=jR hH hf hg
  split at h
  ·rename_i nd' v om he
   simp only [Option.map_eq_some_iff,Prod.mk.injEq] at h
   obtain ⟨Y,hp,rfl,rfl,rfl,rfl⟩:=h
   have hq:=qU (β:=β) hΓ hI hH hf (fun e he=>by cases he) he (yL hH hn)
   rw [if_pos hw]
   exact ⟨_,hq.2,hK _ (lS _ _ hH hn) (gY hf hp (fun _=>rfl) (fun hx=>absurd (fun e he=>by cases he) hx))⟩
  ·cases h
 ·rename_i G hg
  replace hg:=xZ hg
  split at h
  ·rename_i nd' v om he
   simp only [Option.map_eq_some_iff,Prod.mk.injEq] at h
   obtain ⟨Y,hp,rfl,rfl,rfl,rfl⟩:=h
   by_cases hG:eM ρ G
   ·rw [if_pos ((iU hf hg).1 hG)]
    have hq:=qU (β:=β) hΓ hI (lS _ _ hH hG) hf hG he (gO (fE hn) hG)
    exact ⟨_,hq.2,hK _ hH (gY hf hp (fun _=>rfl) (fun hx=>absurd hG hx))⟩
   ·rw [if_neg (by rw [(iU hf hg).2 hG];simp)]
    exact hK _ hH (gY hf hp (fun hx=>absurd hx hG) (fun _=>rfl))
  ·cases h
theorem vF {I:Interp} (hΓ:cA P I Γ) (hI:ρ.I=I):∀ (l:List Oper) {H H':Hyp} {nd:List E} {fr fr':Fr} {m m':Mem} {a:Act} {Q:Act→Prop},
 oO P Γ true n ops l H fr m=some (nd,H',fr',m')→H.ok ρ→bD ρ nd→aR ρ ι n fr a →
 (∀ a',H'.ok ρ→aR ρ ι n fr' a'→Q a')→wpQuiet P ops (fun w=>aK ρ β ι m w) Q l a
 | [],H,H',nd,fr,fr',m,m',a,Q,h,hH,hn,hf,hQ=>by
   simp only [oO,Option.some.injEq,Prod.mk.injEq] at h
   obtain ⟨rfl,rfl,rfl,rfl⟩:=h
   exact hQ a hH hf
 | o::l,H,H',nd,fr,fr',m,m',a,Q,h,hH,hn,hf,hQ=>by
   simp only [oO] at h
   split at h
   ·rename_i b5 H1 b3 m1 J
    split at h
    ·rename_i b6 r M
     simp only [Option.some.injEq,Prod.mk.injEq] at h
     obtain ⟨rfl,rfl⟩:=h
     have hn':=bZ hn
     have a7:m1=m:=aCW J
     subst a7
     refine wpQuiet_step fun K hK=>?_
     exact aHQ (β:=β) hΓ hI J hH hn'.1 hf fun a' hH' hf'=>hK _ (vF hΓ hI l M hH' hn'.2 hf' hQ)
    ·cases h
   ·cases h
end
section
variable {P:Program} {ops:Array Oper} {Q:Exit→Act→World→Prop} {md:Region.Mode} {C C':World→Prop}
def fT (P:Program) (md:Region.Mode) (ops:Array Oper) (Q:Exit→Act→World→Prop) (C:Array Bool→World→Prop):Nat→Array Bool→Act→World→Prop
 | 0,listed,a,w=>C listed w∧Region.ready md ops listed=[]∧Q .normal a w
 | fuel+1,listed,a,w=>C listed w∧(Region.ready md ops listed=[]→Q .normal a w) ∧
   ∀ i ∈ Region.ready md ops listed,wpOp P ops Q i (fT P md ops Q C fuel (listed.setIfInBounds i true)) a w
theorem fT.mono {K K':Array Bool→World→Prop} {x:Nat} (hC:∀ S w,S.getD x false=true→K S w→K' S w):∀ (fuel:Nat) (listed:Array Bool) (a:Act) (w:World),listed.getD x false=true→fT P md ops Q K fuel listed a w→fT P md ops Q K' fuel listed a w
 | 0,_,_,_,hx,h=>⟨hC _ _ hx h.1,h.2⟩
 | fuel+1,_,_,_,hx,h=>⟨hC _ _ hx h.1,h.2.1,fun i hi=>wpOp_mono (fun a w=>fT.mono hC fuel _ a w (getD_set_true hx)) (h.2.2 i hi)⟩
theorem fT.any {K:Array Bool→World→Prop}:∀ (fuel:Nat) (listed:Array Bool) (a:Act) (w:World),fT P md ops Q K fuel listed a w→wpAny P md ops Q fuel listed a w
 | 0,_,_,_,h=>h.2
 | fuel+1,_,_,_,h=>⟨h.2.1,fun i hi=>wpOp_mono (fun a w=>fT.any fuel _ a w) (h.2.2 i hi)⟩
def hO (P:Program) (ops:Array Oper) (C:World→Prop) (o:Oper) (v:Value) (a:Act):Prop :=
 (Region.wanted o (yielded ops a.tmps)=true∧∀ w,C w→(execOp a.eval o).run P w=.ok (.value v) w)∨(Region.wanted o (yielded ops a.tmps)=false∧v=Go.undef)
theorem hO.wpOp {i:Nat} {o:Oper} {v:Value} {a:Act} (hi:ops[i]? = some o) (hy:hO P ops C o v a) {K:Act→World→Prop} {w:World} (hC:C w) (h:K (a.put o.dst v) w):wpOp P ops Q i K a w:=by
 unfold Go.wpOp
 simp only [hi]
 rcases hy with ⟨hw,hv⟩ | ⟨hw,rfl⟩
 ·simp only [hw,if_true,Oper.wp,hv w hC,Oper.upon];exact .inl h
 ·simp only [hw,Bool.false_eq_true,if_false];exact h
theorem hO.of_same {o:Oper} {v:Value} {a a':Act} (hy:hO P ops C o v a) (he:execOp a'.eval o=execOp a.eval o)
 (hw:Region.wanted o (yielded ops a'.tmps)=Region.wanted o (yielded ops a.tmps)):hO P ops C o v a':=by
 unfold hO at *
 rw [he,hw]
 exact hy
theorem bBH {j:Nat} {oi oj:Oper} {v:Value} (hj:ops[j]? = some oj) (hap:oi.apart ops oj=true)
 (hsi:∀ cs b,oi.op ≠ .select cs b) (hsj:∀ cs b,oj.op ≠ .select cs b)
 (hQ:∀ c a w,¬ Q (.panic c) a w) {K:Act→World→Prop} {a:Act} {w:World}
 (hy:hO P ops C oi v a) (h:wpOp P ops Q j K (a.put oi.dst v) w) :
 wpOp P ops Q j (fun a' w'=>hO P ops C oi v a'∧K (a'.put oi.dst v) w') a w:=by
 obtain ⟨J,M,U⟩:=Oper.apart_spec hap
 have keep:∀ (a:Act),hO P ops C oi v a→∀ u,hO P ops C oi v (a.put oj.dst u):=fun a hy u =>
  hy.of_same (execOp_put oi hsi a oj.dst u U) (wanted_put oi a oj.dst u U)
 have keepD:∀ d,hO P ops C oi v { a with defers:=d::a.defers }:=fun d=>hy.of_same rfl rfl
 unfold wpOp at *
 simp only [hj] at *
 rw [wanted_put oj a oi.dst v J] at h
 split
 ·rename_i hw
  simp only [hw,if_true] at h
  rcases h with h | ⟨hasks,hlets⟩
  case inr=>exact .inr ⟨by unfold Oper.asks at *;rw [execOp_put oj hsj a oi.dst v J] at hasks;exact hasks,hlets⟩
  refine .inl ?_
  unfold Oper.wp at *
  rw [execOp_put oj hsj a oi.dst v J] at h
  generalize (execOp a.eval oj).run P w=r at *
  cases r with
  | ok n w' =>
    cases n <;> simp only [Oper.upon] at h ⊢
    case value u=>exact ⟨keep a hy u,by rw [← Act.put_comm a v u M];exact h⟩
    case skip=>exact ⟨keep a hy _,by rw [← Act.put_comm a v Go.undef M];exact h⟩
    case defer d =>
     refine ⟨keep _ (keepD d) _,?_⟩
     rw [← Act.put_comm _ v Go.undef M,← Act.put_defers]
     exact h
    case enter f args =>
     refine Calls.mono h fun e w'' he=>?_
     cases e with
     | returned u=>exact ⟨keep a hy u,by rw [← Act.put_comm a v u M];exact he⟩
     | panicked c=>exact (hQ _ _ _ he).elim
     | outgrown=>exact he
    case row row args=>exact Rows.mono h fun u w'' he=>⟨keep a hy u,by rw [← Act.put_comm a v u M];exact he⟩
  | halt x w' =>
    cases x <;> simp only [Oper.upon] at h ⊢
    case panic u=>exact (hQ _ _ _ h).elim
 ·rename_i hw
  simp only [hw] at h
  exact ⟨keep a hy _,by rw [← Act.put_comm a v Go.undef M];exact h⟩
def desc (md:Region.Mode) (ops:Array Oper) (listed:Array Bool) (i:Nat):List Nat :=
 (List.range ops.size).foldl (fun T t=>match ops[t]? with
   | some o=>if !listed.getD t true&&o.after.toList.any (fun e=>Region.binds md e&&(decide (e.on=i)||T.contains e.on)) then t::T else T
   | none=>T) []
theorem aYk {listed:Array Bool} {i:Nat}:∀ t ∈ desc md ops listed i,listed.getD t true=false∧∃ o,ops[t]? = some o∧∃ e ∈ o.after,Region.binds md e=true∧(e.on=i∨e.on ∈ desc md ops listed i):=by
 unfold desc
 generalize List.range ops.size=l
 have key:∀ (l:List Nat) (T:List Nat),(∀ t ∈ T,listed.getD t true=false∧∃ o,ops[t]? = some o∧∃ e ∈ o.after,Region.binds md e=true∧(e.on=i∨e.on ∈ T)) →
  ∀ t ∈ l.foldl (fun T t=>match ops[t]? with
   | some o=>if !listed.getD t true&&o.after.toList.any (fun e=>Region.binds md e&&(decide (e.on=i)||T.contains e.on)) then t::T else T
   | none=>T) T,listed.getD t true=false∧∃ o,ops[t]? = some o∧∃ e ∈ o.after,Region.binds md e=true∧(e.on=i∨e.on ∈ l.foldl (fun T t=>match ops[t]? with
   | some o=>if !listed.getD t true&&o.after.toList.any (fun e=>Region.binds md e&&(decide (e.on=i)||T.contains e.on)) then t::T else T
   | none=>T) T):=by
  intro l
  induction l with
  | nil=>intro T h;exact h
  | cons x l ih =>
    intro T h
    rw [List.foldl_cons]
    refine ih _ ?_
    split
    ·rename_i o ho
     split
     ·rename_i hc
      simp only [Bool.and_eq_true,Bool.not_eq_true',List.any_eq_true,Bool.or_eq_true,decide_eq_true_eq,List.contains_iff_mem] at hc
      obtain ⟨N,e,he,hb,hd⟩:=hc
      intro t ht
      rcases List.mem_cons.1 ht with rfl | ht
      ·exact ⟨N,o,ho,e,by simpa using he,hb,hd.imp id (List.mem_cons_of_mem _)⟩
      ·obtain ⟨k1,o',k2,e',k3,k4,k5⟩:=h t ht
       exact ⟨k1,o',k2,e',k3,k4,k5.imp id (List.mem_cons_of_mem _)⟩
     ·exact h
    ·exact h
 exact key l [] (fun t ht=>by cases ht)
theorem wZ {K:Array Bool→World→Prop} {i:Nat} {oi:Oper} {v:Value} (hi:ops[i]? = some oi) (hsel:∀ (j:Nat) (o:Oper) cs b,ops[j]? = some o→o.op ≠ .select cs b)
 (hQ:∀ c a w,¬ Q (.panic c) a w) {T:List Nat} (hT:∀ t ∈ T,∃ o,ops[t]? = some o∧∃ e ∈ o.after,Region.binds md e=true∧(e.on=i∨e.on ∈ T))
 (hC:∀ S w,(∀ t ∈ T,S.getD t true=false)→K S w→C w) (hK:∀ S w,K (S.setIfInBounds i true) w→K S w) :
 ∀ (fuel:Nat) (listed:Array Bool) (a:Act) (w:World),
  (∀ j oj,ops[j]? = some oj→j ≠ i→listed.getD j true=false→(∀ e ∈ oj.after,Region.binds md e=true→e.on ≠ i)→oi.apart ops oj=true) →
  (∀ t ∈ T,listed.getD t true=false) →
  i ∈ Region.ready md ops listed→hO P ops C oi v a →
  fT P md ops Q K fuel (listed.setIfInBounds i true) (a.put oi.dst v) w→fT P md ops Q K (fuel+1) listed a w:=by
 have out:∀ {listed:Array Bool} {n:Nat},listed.getD n true=false→listed.getD n false=true→False:=fun {listed n} N J=>by
  rcases Nat.lt_or_ge n listed.size with h' | h'
  ·simp [h'] at N J;rw [N] at J;cases J
  ·simp [Array.getElem?_eq_none h'] at J
 intro fuel
 induction fuel with
 | zero =>
   intro listed a w _ hdis hr hy H
   refine ⟨hK _ _ H.1,fun h=>(by rw [h] at hr;cases hr),fun j hj=>?_⟩
   by_cases hji:j=i
   ·subst hji;exact hy.wpOp hi (hC _ _ hdis (hK _ _ H.1)) H
   ·have:=ready_mono hj hji
    rw [H.2.1] at this
    cases this
 | succ fuel ih =>
   intro listed a w hfree hdis hr hy H
   refine ⟨hK _ _ H.1,fun h=>(by rw [h] at hr;cases hr),fun j hj=>?_⟩
   by_cases hji:j=i
   ·subst hji;exact hy.wpOp hi (hC _ _ hdis (hK _ _ H.1)) H
   ·have J:=H.2.2 j (ready_mono hj hji)
    obtain ⟨hjun,oj,hoj,hall⟩:=mem_ready.1 hj
    have hnot:∀ e ∈ oj.after,Region.binds md e=true→e.on ≠ i:=fun e he hb heq=>by
     have J:=hall e he hb
     rw [heq] at J
     exact out (mem_ready.1 hr).1 J
    have hjT:j ∉ T:=fun hjT=>by
     obtain ⟨o',ho',e,he,hb,hd⟩:=hT j hjT
     rw [hoj,Option.some.injEq] at ho';subst ho'
     have J:=hall e he hb
     rcases hd with hd | hd
     ·exact hnot e he hb hd
     ·exact out (hdis _ hd) J
    have M:=bBH hoj (hfree j oj hoj hji hjun hnot) (fun cs b=>hsel i oi cs b hi) (fun cs b=>hsel j oj cs b hoj) hQ hy J
    have hfree':∀ k ok,ops[k]? = some ok→k ≠ i→(listed.setIfInBounds j true).getD k true=false →
     (∀ e ∈ ok.after,Region.binds md e=true→e.on ≠ i)→oi.apart ops ok=true:=fun k ok hk hki hun hno=>by
     refine hfree k ok hk hki ?_ hno
     by_cases hjk:j=k
     ·subst hjk;exact hjun
     ·rw [getD_set_ne true hjk] at hun;exact hun
    have hdis':∀ t ∈ T,(listed.setIfInBounds j true).getD t true=false:=fun t ht=>by
     rw [getD_set_ne true (show j ≠ t from fun h=>hjT (by rw [h];exact ht))];exact hdis t ht
    refine wpOp_mono (fun a' w' U=>ih (listed.setIfInBounds j true) a' w' hfree' hdis' (ready_mono hr (Ne.symm hji)) U.1 ?_) M
    rw [Array.setIfInBounds_comm _ _ hji]
    exact U.2
theorem aTs {K:Array Bool→World→Prop} {i fuel:Nat} {listed:Array Bool} {a:Act} {w:World} (hr:Region.ready md ops listed=[i]) (hC:K listed w)
 (h:wpOp P ops Q i (fT P md ops Q K fuel (listed.setIfInBounds i true)) a w):fT P md ops Q K (fuel+1) listed a w :=
 by
  refine ⟨hC,fun N=>?_,fun j hj=>?_⟩
  ·rw [hr] at N;cases N
  ·rw [hr,List.mem_singleton] at hj;subst hj;exact h
theorem aTr {K:Array Bool→World→Prop} {listed:Array Bool} {a:Act} {w:World} (hr:Region.ready md ops listed=[]) (hC:K listed w) (h:Q .normal a w):∀ fuel,fT P md ops Q K fuel listed a w
 | 0=>⟨hC,hr,h⟩
 | _+1=>⟨hC,fun _=>h,by rw [hr];simp⟩
end
def kill (D:List Nat) (m:Mem):Mem:=m.zipIdx.map fun p=>if D.contains p.2 then { p.1 with dead:=true } else p.1
def stays (D D':List Nat) (m m':Mem):Bool:=decide (m.length≤m'.length)&&(List.range m.length).all fun i=>D.contains i||(!D'.contains i&&decide (m[i]? = m'[i]?))
def outE (l:List E) (H:Hyp) (fr:Fr):List E × Hyp × Fr:=match l with
 | []=>([],H,fr)
 | e::l=>(e::l,zC (e::l) H,fr)
theorem aZd (l:List E) (H:Hyp) (fr:Fr):outE l H fr=(l,zC l H,fr):=by cases l <;> rfl
def early (P:Program) (n:Nat) (ops:Array Oper) (o:Oper) (H:Hyp) (fr:Fr) (m:Mem):Option (List E × Hyp × Fr) :=
 match kQ H ops fr o with
 | .bad=>none
 | .skip=>(put n fr o.dst [] .undef).map fun fr'=>([],H,fr')
 | .now _=>match qop P H [] fr m o.op with
   | some (nd,v)=>(put n fr o.dst [] v).map fun fr'=>outE (aUo H nd) H fr'
   | none=>none
 | .go G=>match qop P (zC G H) G fr m o.op with
   | some (nd,v)=>(put n fr o.dst G v).map fun fr'=>(lZ (nd.map (imp G)),H,fr')
   | none=>none
def aTT (ops:Array Oper) (listed:Array Bool) (i:Nat):Option Nat→Bool
 | none=>true
 | some x=>(desc .any ops listed i).contains x
def fZ (P:Program) (n:Nat) (ops:Array Oper) (D:List Nat) (g:Option Nat) (listed:Array Bool) (H:Hyp) (fr:Fr) (m:Mem):List Nat→Option (Nat × List E × Hyp × Fr)
 | []=>none
 | i::l=>match ops[i]? with
   | some o=>if Region.free .any ops listed i&&decide (g ≠ some i) then match early P n ops o H fr (kill D m) with
      | some r=>some (i,r)
      | none=>if aTT ops listed i g then match early P n ops o H fr m with
         | some r=>some (i,r)
         | none=>fZ P n ops D g listed H fr m l
        else fZ P n ops D g listed H fr m l
     else fZ P n ops D g listed H fr m l
   | none=>none
def aUK (π:List Nat):S→S
 | .ptr b o=>.ptr (π.getD b 0) o
 | .slc b o l c=>.slc (π.getD b 0) o l c
 | .fn f l=>.fn f (l.map fun p=>(π.getD p.1 0,p.2))
 | x=>x
def mI (π:List Nat):Seg→Seg
 | .one x=>.one (aUK π x)
 | x=>x
def lJ (π:List Nat):SV→SV
 | .s x=>.s (aUK π x)
 | .agg l=>.agg (l.map (mI π))
 | .tup l=>.tup (l.map fun p=>(p.1,p.2.map (mI π)))
 | .junk=>.junk
def bKH (π:List Nat) (fr fr':Fr):Bool:=fr'.all fun f=>match look fr' f.t with
 | some (g',y')=>(match look fr f.t with
   | some (g,y)=>decide (g=g')&&decide (y=lJ π y')
   | none=>false)
 | none=>true
def tD (π:List Nat) (m:Mem):Mem→List Nat→Bool
 | [],[]=>true
 | B::l,p::r=>(match m[p]? with | some C=>B.dead||(!C.dead&&decide (B.ty=C.ty)&&(!B.wr||C.wr)&&decide (B.grow=C.grow)&&decide (C.aH=B.aH.map (mI π))) | none=>false)&&tD π m l r
 | _,_=>false
def aHY (K:Nat) (π:List Nat) (m m':Mem):Bool :=
 decide π.Nodup&&decide (π.take K=List.range K)&&π.all (fun b=>decide (b<m.length))&&decide (K≤m'.length)&&tD π m m' π
def bKG:S→List Nat
 | .ptr b _=>[b]
 | .slc b _ _ _=>[b]
 | .fn _ iH=>iH.map (·.1)
 | _=>[]
def tC:Seg→List Nat
 | .one x=>bKG x
 | _=>[]
def aGy:SV→List Nat
 | .s x=>bKG x
 | .agg l=>l.flatMap tC
 | .tup l=>l.flatMap fun p=>p.2.flatMap tC
 | .junk=>[]
def aUu (P:List (Nat × Nat)):List Nat→List Nat→List (Nat × Nat)
 | b'::r',b::r=>aUu (if P.any (fun p=>p.1 == b') then P else (b',b)::P) r' r
 | _,_=>P
def aDb (m m':Mem) (P:List (Nat × Nat)):List (Nat × Nat):=P.foldl (fun Q p=>match m'[p.1]?,m[p.2]? with
 | some B',some B=>if B'.dead then Q else aUu Q (B'.aH.flatMap tC) (B.aH.flatMap tC)
 | _,_=>Q) P
def aYr (K:Nat) (fr:Fr) (m:Mem) (fr':Fr) (m':Mem):List Nat :=
 let P1:=fr'.foldl (fun P f=>match look fr' f.t,look fr f.t with
  | some (_,y'),some (_,y)=>aUu P (aGy y') (aGy y)
  | _,_=>P) ((List.range K).map fun i=>(i,i))
 let P2:=aDb m m' (aDb m m' (aDb m m' P1))
 (List.range m'.length).foldl (fun π b'=>π++[match P2.find? (fun p=>p.1 == b') with
   | some p=>p.2
   | none=>match (List.range m.length).find? (fun b=>!π.contains b&&!(P2.any fun p=>p.2 == b)&&(match m'[b']?,m[b]? with | some B',some B=>B'.dead||(decide (B'.ty=B.ty)&&decide (B'.aH=B.aH)) | _,_=>false)) with
     | some b=>b
     | none=>0]) []
def aYo (K:Nat) (fr:Fr) (m:Mem) (fr':Fr) (m':Mem):Bool :=
 decide (m.length=m'.length)&&aHY K (aYr K fr m fr' m') m m'&&bKH (aYr K fr m fr' m') fr fr'
def bES (fr fr':Fr):Bool:=fr'.all fun f=>decide (look fr f.t=look fr' f.t)
def sameAs (K:Nat) (fr:Fr) (m:Mem) (fr':Fr) (m':Mem):Bool:=(bES fr fr'&&decide (m=m'))||aYo K fr m fr' m'
def lW (K:Nat) (step:Nat→Option (List E × Hyp × Fr × Mem)):List Nat→Option (List E × Fr × Mem)
 | []=>none
 | [i]=>match step i with
   | some (nd,_,fr,m)=>some (nd,fr,m)
   | none=>none
 | i::l=>match step i with
   | some (nd,_,fr,m)=>match lW K step l with
     | some (nd',fr',m')=>if sameAs K fr m fr' m' then some (nd++nd',fr',m') else none
     | none=>none
   | none=>none
def bJl (m m':Mem):List Nat:=(List.range m.length).filter fun i=>decide (m[i]? ≠ m'[i]?)
def bFV (P:Program) (Γ:Ctx) (n:Nat) (ops:Array Oper):List Oper→Hyp→Fr→Mem→List Nat
 | [],_,_,_=>[]
 | o::l,H,fr,m=>match eU P Γ false n ops o H fr m with
   | some (_,H',fr',m')=>bJl m m'++bFV P Γ n ops l H' fr' m'
   | none=>[]
def bFX (ops:Array Oper) (listed:Array Bool):List Oper:=(ops.toList.zipIdx.filter fun p=>!listed.getD p.2 true).map (·.1)
def aIw (P:Program) (Γ:Ctx) (n:Nat) (ops:Array Oper) (nx:Option (List Nat)→Array Bool→Hyp→Fr→Mem→List Nat) (D:List Nat) (L:List Nat) (listed:Array Bool) (H:Hyp) (fr:Fr) (m:Mem) (more:List Nat→List Nat→Array Bool→Hyp→Fr→Mem→Option (List E × Hyp × Fr × Mem)) (i:Nat):Option (List E × Hyp × Fr × Mem) :=
 match ops[i]? with
 | some o=>match eU P Γ false n ops o H fr m with
   | some (nd,H',fr',m') =>
     if stays D (nx none (listed.setIfInBounds i true) H' fr' m') m m'&&(decide (L.head? = some i)||stays [] [] m m')&&m.all (fun B=>B.aH.all (Seg.sc m.length)) then
      match more (nx none (listed.setIfInBounds i true) H' fr' m') (L.erase i) (listed.setIfInBounds i true) H' fr' m' with
      | some (nd',q)=>some (nd++nd',q)
      | none=>none
     else none
   | none=>none
 | none=>none
def pE (P:Program) (Γ:Ctx) (n:Nat) (ops:Array Oper) (nx:Option (List Nat)→Array Bool→Hyp→Fr→Mem→List Nat):List Nat→Nat→List Nat→Array Bool→Hyp→Fr→Mem→Option (List E × Hyp × Fr × Mem)
 | _,0,_,listed,H,fr,m=>match Region.ready .any ops listed with
   | []=>some ([],H,fr,m)
   | _=>none
 | D,k+1,L,listed,H,fr,m =>
   let rd:=Region.ready .any ops listed
   match rd with
   | []=>some ([],H,fr,m)
   | _=>match fZ P n ops D L.head? listed H fr m rd with
     | some (i,nd,H',fr')=>match pE P Γ n ops nx D k L (listed.setIfInBounds i true) H' fr' m with
       | some (nd',q)=>some (nd++nd',q)
       | none=>none
     | none=>match rd,L with
       | [i],x::L'=>if i=x then match ops[i]? with
         | some o=>match eU P Γ false n ops o H fr m with
           | some (nd,H',fr',m')=>if stays D (nx (some D) (listed.setIfInBounds i true) H' fr' m') m m'&&m.all (fun B=>B.aH.all (Seg.sc m.length)) then match pE P Γ n ops nx (nx (some D) (listed.setIfInBounds i true) H' fr' m') k L' (listed.setIfInBounds i true) H' fr' m' with
              | some (nd',q)=>some (nd++nd',q)
              | none=>none
             else none
           | none=>none
         | none=>none
         else none
       | _,x::L'=>match lW m.length (aIw P Γ n ops nx D (x::L') listed H fr m (fun D' L'' S H' fr' m'=>pE P Γ n ops nx D' k L'' S H' fr' m')) rd with
         | some (nd,fr',m')=>some (nd,H,fr',m')
         | none=>none
       | _,_=>none
def bKq (P:Program) (Γ:Ctx) (n:Nat) (ops:Array Oper):Nat→List Oper→Hyp→Fr→Mem→List Nat
 | _,[],_,_,_=>[]
 | i,o::l,H,fr,m=>match early P n ops o H fr m with
   | some (_,H',fr')=>bKq P Γ n ops (i+1) l H' fr' m
   | none=>match eU P Γ false n ops o H fr m with
     | some (_,H',fr',m')=>i::bKq P Γ n ops (i+1) l H' fr' m'
     | none=>[]
def scan (P:Program) (Γ:Ctx) (n:Nat) (ops:Array Oper):Nat→List Oper→Hyp→Fr→Mem→List Nat × List Nat
 | _,[],_,_,_=>([],[])
 | i,o::l,H,fr,m=>match early P n ops o H fr m with
   | some (_,H',fr')=>scan P Γ n ops (i+1) l H' fr' m
   | none=>match eU P Γ false n ops o H fr m with
     | some (_,H',fr',m')=>match scan P Γ n ops (i+1) l H' fr' m' with
       | (L,D)=>(i::L,bJl m m'++D)
     | none=>([],[])
def aTW:Op→Bool
 | .store .. | .alloc .. | .box .. | .buildSlice .. | .makeSlice ..=>true
 | .call ⟨.builtin .len,_,_⟩ | .call ⟨.builtin .max,_,_⟩ | .call ⟨.builtin .min,_,_⟩ | .call ⟨.builtin .cap,_,_⟩=>false
 | .call _=>true
 | _=>false
def bGY (P:Program) (Γ:Ctx) (n:Nat) (ops:Array Oper) (H:Hyp) (fr:Fr) (m:Mem):Option (List E × Hyp × Fr × Mem) :=
 match scan P Γ n ops 0 ops.toList H fr m with
 | (L,D)=>pE P Γ n ops (fun o S H' fr' m'=>match o with | some D=>D | none=>bFV P Γ n ops (bFX ops S) H' fr' m') D ops.size L (Array.replicate ops.size false) H fr m
theorem sG (S i:Nat):Nat.beq (Nat.land S (Nat.shiftLeft 1 i)) 0=!S.testBit i:=by
 have h:S &&& (1 <<< i)=if S.testBit i then 1 <<< i else 0:=by
  apply Nat.eq_of_testBit_eq
  intro j
  rw [Nat.testBit_and]
  by_cases hj:j=i
  ·subst hj
   cases hS:S.testBit j <;> simp
  ·have J:(1 <<< i).testBit j=false:=by rw [Nat.one_shiftLeft,Nat.testBit_two_pow];simp;omega
   rw [J]
   split <;> simp [J]
 show Nat.beq (S &&& (1 <<< i)) 0=_
 rw [h]
 cases hS:S.testBit i with
 | false=>rfl
 | true =>
   simp only [if_true,Nat.one_shiftLeft,Bool.not_true]
   have:0<2 ^ i:=Nat.two_pow_pos i
   cases hb:Nat.beq (2 ^ i) 0 with
   | false=>rfl
   | true=>have:=Nat.eq_of_beq_eq_true hb;omega
theorem bDG (a b:Nat):Nat.beq (Nat.land a b) 0=true↔∀ j,¬ (a.testBit j=true∧b.testBit j=true):=by
 constructor
 ·intro h j hj
  have J:a &&& b=0:=Nat.eq_of_beq_eq_true h
  have M:(a &&& b).testBit j=true:=by rw [Nat.testBit_and,hj.1,hj.2];rfl
  rw [J] at M;simp at M
 ·intro h
  have J:a &&& b=0:=by
   apply Nat.eq_of_testBit_eq
   intro j
   rw [Nat.testBit_and,Nat.zero_testBit]
   have:=h j
   cases ha:a.testBit j <;> cases hb:b.testBit j <;> simp_all
  show Nat.beq (a &&& b) 0=true
  rw [J];rfl
theorem bDH (a b:Nat):Nat.beq (Nat.land a b) a=true↔∀ j,a.testBit j=true→b.testBit j=true:=by
 constructor
 ·intro h j hj
  have J:a &&& b=a:=Nat.eq_of_beq_eq_true h
  rw [← J,Nat.testBit_and] at hj
  simp_all
 ·intro h
  have J:a &&& b=a:=by
   apply Nat.eq_of_testBit_eq
   intro j
   rw [Nat.testBit_and]
   have:=h j
   cases ha:a.testBit j <;> simp_all
  show Nat.beq (a &&& b) a=true
  rw [J];exact Nat.beq_refl a
theorem fH (i j:Nat):(Nat.shiftLeft 1 i).testBit j=decide (j=i):=by
 show (1 <<< i).testBit j=_
 rw [Nat.one_shiftLeft,Nat.testBit_two_pow]
 by_cases h:i=j <;> simp [h,eq_comm]
theorem hM (a b j:Nat):(Nat.lor a b).testBit j=(a.testBit j||b.testBit j):=Nat.testBit_or a b j
def aGU (e:Edge):Bool:=match e.ground with
 | .textOnly _=>false
 | .gcOnly _=>false
 | _=>true
theorem aEr (e:Edge):Region.binds .any e=aGU e:=by
 unfold Region.binds aGU
 cases e.ground <;> rfl
def qC:List Edge→Nat
 | []=>0
 | e::l=>cond (aGU e) (Nat.lor (Nat.shiftLeft 1 e.on) (qC l)) (qC l)
theorem lO:∀ (l:List Edge) (j:Nat),(qC l).testBit j=true↔∃ e ∈ l,Region.binds .any e=true∧e.on=j
 | [],j=>by simp [qC]
 | e::l,j=>by
   have ih:=lO l j
   unfold qC
   cases hb:aGU e with
   | false =>
     rw [cond_false,ih]
     simp [aEr,hb]
   | true =>
     rw [cond_true,hM,Bool.or_eq_true,ih,fH,decide_eq_true_eq]
     simp only [List.mem_cons,exists_eq_or_imp,aEr,hb,true_and]
     constructor
     ·rintro (rfl | h)
      ·exact .inl rfl
      ·exact .inr h
     ·rintro (h | h)
      ·exact .inl h.symm
      ·exact .inr h
def aCX:List Operand→Nat
 | []=>0
 | .tmp t::l=>Nat.lor (Nat.shiftLeft 1 t) (aCX l)
 | _::l=>aCX l
theorem yO:∀ (l:List Operand) (j:Nat),(aCX l).testBit j=true↔j ∈ (l.filterMap fun | .tmp t=>some t | _=>none)
 | [],j=>by simp [aCX]
 | x::l,j=>by
   have ih:=yO l j
   cases x <;> simp only [aCX,List.filterMap_cons] <;> try exact ih
   rw [hM,Bool.or_eq_true,ih,fH,decide_eq_true_eq,List.mem_cons]
def uC:Option Tmp→Nat
 | none=>0
 | some t=>Nat.shiftLeft 1 t
theorem aCo (d:Option Tmp) (j:Nat):(uC d).testBit j=true↔d=some j:=by
 cases d with
 | none=>simp [uC]
 | some t=>rw [uC,fH,decide_eq_true_eq,Option.some.injEq,eq_comm]
def uK (ops:Array Oper) (o:Oper):Nat:=match o.guard with
 | none=>aCX o.op.operands.toList
 | some (g,_)=>Nat.lor (aCX o.op.operands.toList) (uC ((ops[g]?).bind (·.dst)))
theorem aCG (ops:Array Oper) (o:Oper) (j:Nat):(uK ops o).testBit j=true↔j ∈ o.looksAt ops:=by
 unfold uK Oper.looksAt
 cases o.guard with
 | none=>rw [yO,List.append_nil];exact Iff.rfl
 | some p =>
   obtain ⟨g,b⟩:=p
   simp only [hM,Bool.or_eq_true,yO,aCo,List.mem_append,Option.mem_toList,Option.mem_def]
   exact Iff.rfl
structure RM where
 i:Nat
 o:Oper
 bit:Nat
 deps:Nat
 dbit:Nat
 looks:Nat
def aSR (ops:Array Oper) (i:Nat) (o:Oper):RM:=⟨i,o,Nat.shiftLeft 1 i,qC o.after.toList,uC o.dst,uK ops o⟩
def rQ (ops:Array Oper):Nat→List Oper→List RM
 | _,[]=>[]
 | i,o::l=>aSR ops i o::rQ ops (Nat.add i 1) l
def bP (ops:Array Oper):List RM:=rQ ops 0 ops.toList
theorem aGA (ops:Array Oper):∀ (l:List Oper) (i j:Nat),(rQ ops i l)[j]? = (l[j]?).map (aSR ops (i+j))
 | [],i,j=>by simp [rQ]
 | o::l,i,0=>by simp [rQ]
 | o::l,i,j+1=>by
   show (rQ ops (i+1) l)[j]? = _
   rw [aGA ops l (i+1) j,List.getElem?_cons_succ,Nat.add_assoc,Nat.add_comm 1 j]
theorem wP (ops:Array Oper) (j:Nat):(bP ops)[j]? = (ops[j]?).map (aSR ops j):=by
 rw [bP,aGA,Nat.zero_add,Array.getElem?_toList]
theorem yS (ops:Array Oper):(bP ops).length=ops.size:=by
 have key:∀ (l:List Oper) (i:Nat),(rQ ops i l).length=l.length:=by
  intro l
  induction l with
  | nil=>intro i;rfl
  | cons o l ih=>intro i;simp [rQ,ih]
 rw [bP,key,Array.length_toList]
theorem iB {ops:Array Oper} {x:RM} (h:x ∈ bP ops):ops[x.i]? = some x.o∧x=aSR ops x.i x.o:=by
 obtain ⟨j,hj⟩:=List.getElem?_of_mem h
 rw [wP,Option.map_eq_some_iff] at hj
 obtain ⟨o,ho,rfl⟩:=hj
 exact ⟨ho,rfl⟩
theorem yT (ops:Array Oper):(bP ops).map RM.i=List.range ops.size:=by
 apply List.ext_getElem?
 intro j
 rw [List.getElem?_map,wP]
 by_cases h:j<ops.size
 ·rw [Array.getElem?_eq_getElem h,List.getElem?_range h];rfl
 ·rw [Array.getElem?_eq_none (by omega),List.getElem?_eq_none (by simp;omega)];rfl
def oV (ops:Array Oper) (S:Nat) (listed:Array Bool):Prop:=listed.size=ops.size∧∀ j,S.testBit j=listed.getD j false
theorem oV.zero (ops:Array Oper):oV ops 0 (Array.replicate ops.size false):=⟨by simp,fun j=>by simp [Array.getD_eq_getD_getElem?,Array.getElem?_replicate];split <;> rfl⟩
theorem oV.at {ops:Array Oper} {S:Nat} {listed:Array Bool} (h:oV ops S listed) {j:Nat} (hj:j<ops.size):listed.getD j true=S.testBit j:=by
 rw [h.2 j]
 have:j<listed.size:=by rw [h.1];exact hj
 simp [this]
theorem oV.step {ops:Array Oper} {S:Nat} {listed:Array Bool} (h:oV ops S listed) {i:Nat} (hi:i<ops.size):oV ops (Nat.lor S (Nat.shiftLeft 1 i)) (listed.setIfInBounds i true):=by
 refine ⟨by simp [h.1],fun j=>?_⟩
 rw [hM,fH,h.2 j]
 by_cases hj:j=i
 ·subst hj
  have:j<listed.size:=by rw [h.1];exact hi
  simp [this]
 ·rw [getD_set_ne false (fun e=>hj e.symm)]
  simp [hj]
def kU:List RM→Nat→List RM
 | [],_=>[]
 | q::l,S=>cond (Nat.beq (Nat.land S q.bit) 0) (cond (Nat.beq (Nat.land q.deps S) q.deps) (q::kU l S) (kU l S)) (kU l S)
theorem mG:∀ (l:List RM) (S:Nat) (x:RM),x ∈ kU l S→x ∈ l
 | [],_,_,h=>by cases h
 | q::l,S,x,h=>by
   unfold kU at h
   cases J:Nat.beq (Nat.land S q.bit) 0 <;> cases M:Nat.beq (Nat.land q.deps S) q.deps <;> simp only [J,M,cond_true,cond_false] at h
   ·exact .tail _ (mG l S x h)
   ·exact .tail _ (mG l S x h)
   ·exact .tail _ (mG l S x h)
   ·rcases List.mem_cons.1 h with rfl | h
    ·exact .head _
    ·exact .tail _ (mG l S x h)
theorem aYj {ops:Array Oper} {S:Nat} {listed:Array Bool} (h:oV ops S listed) (o:Oper) :
 Nat.beq (Nat.land (qC o.after.toList) S) (qC o.after.toList)=o.after.all (fun e=>!Region.binds .any e||listed.getD e.on false):=by
 rw [Bool.eq_iff_iff,bDH,← Array.all_toList,List.all_eq_true]
 constructor
 ·intro J e he
  cases hb:Region.binds .any e with
  | false=>rfl
  | true =>
    have:=J e.on ((lO _ _).2 ⟨e,he,hb,rfl⟩)
    rw [h.2] at this
    simp [this]
 ·intro J j hj
  obtain ⟨e,he,hb,rfl⟩:=(lO _ _).1 hj
  have:=J e he
  rw [hb] at this
  rw [h.2];simpa using this
theorem aGx {ops:Array Oper} {S:Nat} {listed:Array Bool} (h:oV ops S listed):(kU (bP ops) S).map RM.i=Region.ready .any ops listed:=by
 unfold Region.ready
 rw [← yT]
 have key:∀ l:List RM,(∀ x ∈ l,x ∈ bP ops)→(kU l S).map RM.i=(l.map RM.i).filter fun i=>!listed.getD i true&&((ops[i]?).map (·.after.all fun e=>!Region.binds .any e||listed.getD e.on false)).getD false:=by
  intro l
  induction l with
  | nil=>intro _;rfl
  | cons q l ih =>
    intro hl
    obtain ⟨J,M⟩:=iB (hl q (.head _))
    have ih':=ih fun x hx=>hl x (.tail _ hx)
    have hlt:q.i<ops.size:=(Array.getElem?_eq_some_iff.1 J).1
    have V:Nat.beq (Nat.land S q.bit) 0=!listed.getD q.i true:=by
     have hb:q.bit=Nat.shiftLeft 1 q.i:=by rw [M];rfl
     rw [hb,h.at hlt];exact sG S q.i
    have e2:Nat.beq (Nat.land q.deps S) q.deps=((ops[q.i]?).map (·.after.all fun e=>!Region.binds .any e||listed.getD e.on false)).getD false:=by
     have hb:q.deps=qC q.o.after.toList:=by rw [M];rfl
     rw [J,hb];exact aYj h q.o
    unfold kU
    rw [List.map_cons,List.filter_cons,V,e2]
    cases hA:(!listed.getD q.i true) <;> cases hB:((ops[q.i]?).map (·.after.all fun e=>!Region.binds .any e||listed.getD e.on false)).getD false <;> simp [ih']
 exact key _ fun x hx=>hx
def RM.aGM (x y:RM):Bool:=cond (Nat.beq (Nat.land x.dbit (Nat.lor y.looks y.dbit)) 0) (Nat.beq (Nat.land y.dbit x.looks) 0) false
theorem aZX (ops:Array Oper) (i j:Nat) (a b:Oper):(aSR ops i a).aGM (aSR ops j b)=a.apart ops b:=by
 unfold RM.aGM Oper.apart aSR
 have V:Nat.beq (Nat.land (uC a.dst) (Nat.lor (uK ops b) (uC b.dst))) 0=(match a.dst with | some d=>!(b.looksAt ops).contains d&&b.dst != some d | none=>true):=by
  rw [Bool.eq_iff_iff,bDG]
  cases hd:a.dst with
  | none=>simp [uC]
  | some d =>
    simp only [uC,fH,hM,decide_eq_true_eq,Bool.or_eq_true,aCG]
    simp only [Bool.and_eq_true,Bool.not_eq_true',List.contains_eq_mem,decide_eq_false_iff_not,bne_iff_ne]
    constructor
    ·intro h
     exact ⟨fun hm=>h d ⟨rfl,.inl hm⟩,fun hm=>h d ⟨rfl,.inr ((aCo _ _).2 hm)⟩⟩
    ·rintro ⟨J,M⟩ j ⟨rfl,h | h⟩
     ·exact J h
     ·exact M ((aCo _ _).1 h)
 have e2:Nat.beq (Nat.land (uC b.dst) (uK ops a)) 0=(match b.dst with | some d=>!(a.looksAt ops).contains d | none=>true):=by
  rw [Bool.eq_iff_iff,bDG]
  cases hd:b.dst with
  | none=>simp [uC]
  | some d =>
    simp only [uC,fH,decide_eq_true_eq,aCG,Bool.not_eq_true',List.contains_eq_mem,decide_eq_false_iff_not]
    constructor
    ·intro h hm;exact h d ⟨rfl,hm⟩
    ·rintro h j ⟨rfl,hm⟩;exact h hm
 have e3:∀ A B:Bool,cond A B false=(A&&B):=by decide
 show cond (Nat.beq (Nat.land (uC a.dst) (Nat.lor (uK ops b) (uC b.dst))) 0) (Nat.beq (Nat.land (uC b.dst) (uK ops a)) 0) false=_
 rw [V,e2,e3]
 rfl
def qW:List RM→Nat→RM→Bool
 | [],_,_=>true
 | q::l,S,x=>cond (Nat.beq (Nat.land S q.bit) 0) (cond (Nat.beq q.i x.i) (qW l S x) (cond (Nat.beq (Nat.land q.deps x.bit) 0) (cond (x.aGM q) (qW l S x) false) (qW l S x))) (qW l S x)
theorem aSe {ops:Array Oper} {S:Nat} {listed:Array Bool} (h:oV ops S listed) {x:RM} (hx:x ∈ bP ops):qW (bP ops) S x=Region.free .any ops listed x.i:=by
 obtain ⟨hx1,hx2⟩:=iB hx
 unfold Region.free
 simp only [hx1]
 rw [← yT]
 have key:∀ l:List RM,(∀ y ∈ l,y ∈ bP ops)→qW l S x=(l.map RM.i).all fun j=>j == x.i||listed.getD j true||match ops[j]? with
  | some oj=>oj.after.any (fun e=>Region.binds .any e&&e.on == x.i)||x.o.apart ops oj
  | none=>true:=by
  intro l
  induction l with
  | nil=>intro _;rfl
  | cons q l ih =>
    intro hl
    obtain ⟨J,M⟩:=iB (hl q (.head _))
    have ih':=ih fun y hy=>hl y (.tail _ hy)
    have hlt:q.i<ops.size:=(Array.getElem?_eq_some_iff.1 J).1
    have V:Nat.beq (Nat.land S q.bit) 0=!listed.getD q.i true:=by
     have hb:q.bit=Nat.shiftLeft 1 q.i:=by rw [M];rfl
     rw [hb,h.at hlt];exact sG S q.i
    have e2:Nat.beq (Nat.land q.deps x.bit) 0=!(q.o.after.any fun e=>Region.binds .any e&&e.on == x.i):=by
     have hb:q.deps=qC q.o.after.toList:=by rw [M];rfl
     have hb2:x.bit=Nat.shiftLeft 1 x.i:=by rw [hx2];rfl
     rw [hb,hb2,sG,Bool.not_inj_iff,Bool.eq_iff_iff,lO,← Array.any_toList,List.any_eq_true]
     simp
    have e3:x.aGM q=x.o.apart ops q.o:=by
     have:=aZX ops x.i q.i x.o q.o
     rwa [← M,← hx2] at this
    have e4:Nat.beq q.i x.i=(q.i == x.i):=by rw [Bool.eq_iff_iff];simp
    unfold qW
    rw [List.map_cons,List.all_cons,← ih',J,V,e2,e3,e4]
    simp only
    generalize listed.getD q.i true=a1
    generalize (q.i == x.i)=a2
    generalize (q.o.after.any fun e=>Region.binds .any e&&e.on == x.i)=a3
    generalize x.o.apart ops q.o=a4
    cases a1 <;> cases a2 <;> cases a3 <;> cases a4 <;> simp
 exact key _ fun y hy=>hy
def aFV:List RM→Nat→Nat→Nat
 | [],_,T=>T
 | q::l,S,T=>aFV l S (cond (Nat.beq (Nat.land S q.bit) 0) (cond (Nat.beq (Nat.land q.deps T) 0) T (Nat.lor T q.bit)) T)
theorem bCz {ops:Array Oper} {S:Nat} {listed:Array Bool} (h:oV ops S listed) (i:Nat) (x:Nat) (hx:x ≠ i) :
 (aFV (bP ops) S (Nat.shiftLeft 1 i)).testBit x=(desc .any ops listed i).contains x:=by
 unfold desc
 rw [← yT]
 have key:∀ (l:List RM) (T:Nat) (L:List Nat),(∀ y ∈ l,y ∈ bP ops)→(∀ j,T.testBit j=true↔j=i∨j ∈ L)→∀ j,(aFV l S T).testBit j=true↔j=i∨j ∈ (l.map RM.i).foldl (fun T t=>match ops[t]? with
  | some o=>if !listed.getD t true&&o.after.toList.any (fun e=>Region.binds .any e&&(decide (e.on=i)||T.contains e.on)) then t::T else T
  | none=>T) L:=by
  intro l
  induction l with
  | nil=>intro T L _ hT j;exact hT j
  | cons q l ih =>
    intro T L hl hT j
    obtain ⟨J,M⟩:=iB (hl q (.head _))
    have hlt:q.i<ops.size:=(Array.getElem?_eq_some_iff.1 J).1
    have hb:q.bit=Nat.shiftLeft 1 q.i:=by rw [M];rfl
    have hd:q.deps=qC q.o.after.toList:=by rw [M];rfl
    have V:Nat.beq (Nat.land S q.bit) 0=!listed.getD q.i true:=by
     rw [hb,h.at hlt];exact sG S q.i
    have e2:Nat.beq (Nat.land q.deps T) 0=!(q.o.after.toList.any (fun e=>Region.binds .any e&&(decide (e.on=i)||L.contains e.on))):=by
     rw [hd,Bool.eq_iff_iff,bDG,Bool.not_eq_true',← Bool.not_eq_true,List.any_eq_true]
     constructor
     ·rintro hj ⟨e,he,hc⟩
      simp only [Bool.and_eq_true,Bool.or_eq_true,decide_eq_true_eq,List.contains_eq_mem] at hc
      exact hj e.on ⟨(lO _ _).2 ⟨e,he,hc.1,rfl⟩,(hT _).2 hc.2⟩
     ·rintro hj j ⟨U,h4⟩
      obtain ⟨e,he,hc,rfl⟩:=(lO _ _).1 U
      refine hj ⟨e,he,?_⟩
      simp only [Bool.and_eq_true,Bool.or_eq_true,decide_eq_true_eq,List.contains_eq_mem]
      exact ⟨hc,(hT _).1 h4⟩
    unfold aFV
    rw [List.map_cons,List.foldl_cons]
    refine ih _ _ (fun y hy=>hl y (.tail _ hy)) ?_ j
    intro j
    rw [J,V,e2]
    simp only
    generalize listed.getD q.i true=a1
    generalize (q.o.after.toList.any (fun e=>Region.binds .any e&&(decide (e.on=i)||L.contains e.on)))=a2
    cases a1 <;> cases a2 <;> simp only [Bool.not_true,Bool.not_false,cond_true,cond_false,Bool.and_true,Bool.and_false,Bool.false_eq_true,if_true,if_false]
    all_goals first
     | exact hT j
     | (rw [hM,Bool.or_eq_true,hT j,hb,fH,decide_eq_true_eq,List.mem_cons]
        constructor
        ·rintro ((h | h) | h)
         ·exact .inl h
         ·exact .inr (.inr h)
         ·exact .inr (.inl h)
        ·rintro (h | h | h)
         ·exact .inl (.inl h)
         ·exact .inr h
         ·exact .inl (.inr h))
 have:=key (bP ops) (Nat.shiftLeft 1 i) [] (fun y hy=>hy) (fun j=>by rw [fH];simp) x
 rw [Bool.eq_iff_iff,this,List.contains_iff_mem]
 constructor
 ·rintro (h | h)
  ·exact absurd h hx
  ·exact h
 ·exact .inr
def aGd:Nat→Mem→Mem
 | 0,m=>m
 | _+1,[]=>[]
 | k+1,B::m=>{ B with dead:=true }::aGd k m
def tU:Nat→Mem→Mem
 | _,[]=>[]
 | 0,B::m=>{ B with dead:=true }::tU 0 m
 | k+1,B::m=>B::tU k m
theorem aCz:∀ (m:Mem) (k i:Nat),(tU k m)[i]? = (m[i]?).map fun B=>if k≤i then { B with dead:=true } else B
 | [],k,i=>by cases k <;> simp [tU]
 | B::m,0,0=>by simp [tU]
 | B::m,0,i+1=>by simpa [tU] using aCz m 0 i
 | B::m,k+1,0=>by simp [tU]
 | B::m,k+1,i+1=>by simpa [tU] using aCz m k i
def Dq (q:Bool) (k:Nat) (m:Mem):List Nat:=cond q ((List.range m.length).filter fun i=>Nat.ble k i) (List.range k)
theorem kI {k i:Nat} {m:Mem}:i ∈ Dq true k m↔i<m.length∧k≤i:=by
 simp [Dq,Nat.ble_eq]
theorem bDE (k:Nat) (m:Mem):tU k m=kill (Dq true k m) m:=by
 apply List.ext_getElem?
 intro i
 rw [aCz]
 unfold kill
 rw [List.getElem?_map,List.getElem?_zipIdx]
 cases h:m[i]? with
 | none=>rfl
 | some B =>
   have hi:=(List.getElem?_eq_some_iff.1 h).1
   simp only [Option.map_some,Nat.zero_add]
   by_cases hk:k≤i
   ·have:(Dq true k m).contains i=true:=by rw [List.contains_eq_mem,decide_eq_true_eq];exact kI.2 ⟨hi,hk⟩
    rw [if_pos hk,this];rfl
   ·have:(Dq true k m).contains i=false:=by rw [List.contains_eq_mem,decide_eq_false_iff_not];exact fun h=>hk (kI.1 h).2
    rw [if_neg hk,this];rfl
def bKp (q:Bool) (k:Nat) (m:Mem):Mem:=cond q (tU k m) (aGd k m)
theorem bDD (k:Nat) (m:Mem):aGd k m=kill (List.range k) m:=by
 have key:∀ (m:Mem) (k i:Nat),aGd k m=(m.zipIdx i).map fun p=>if (List.range (i+k)).contains p.2 then { p.1 with dead:=true } else p.1:=by
  intro m
  induction m with
  | nil=>intro k i;cases k <;> rfl
  | cons B m ih =>
    intro k i
    cases k with
    | zero =>
      unfold aGd
      refine Eq.trans (List.zipIdx_map_fst i (B::m)).symm (List.map_congr_left fun p hp=>?_)
      have:=List.le_snd_of_mem_zipIdx hp
      have:¬ p.2<i:=by omega
      simp [this]
    | succ k =>
      rw [aGd,List.zipIdx_cons,List.map_cons,ih k (i+1)]
      have:i<i+(k+1):=by omega
      simp only [List.contains_eq_mem,List.mem_range,this,decide_true,if_true]
      congr 1
      refine List.map_congr_left fun p _=>?_
      rw [show i+1+k=i+(k+1) by omega]
 have:=key m k 0
 rw [Nat.zero_add] at this
 exact this
def zQ:Mem→Mem→Bool
 | [],_=>true
 | _::_,[]=>false
 | B::l,C::l'=>cond (decide (B=C)) (zQ l l') false
def bCG {α:Type} (k:Nat) (f:Nat→α):α:=match k with
 | 0=>f 0
 | n+1=>f (Nat.succ n)
theorem bAh {α:Type} (k:Nat) (f:Nat→α):bCG k f=f k:=by cases k <;> rfl
def scF (m:Mem):Bool:=bCG m.length fun k=>m.all (fun B=>B.aH.all (Seg.sc k))
theorem bEW (m:Mem):scF m=m.all (fun B=>B.aH.all (Seg.sc m.length)):=bAh _ _
def aIj (k:Nat) (m m':Mem):Bool:=cond (Nat.ble m.length m'.length) (cond (Nat.ble m.length k) true (zQ (m.drop k) (m'.drop k))) false
theorem wM:∀ m m':Mem,zQ m m'=true↔∀ i,i<m.length→m[i]? = m'[i]?
 | [],m'=>by simp [zQ]
 | B::l,[]=>by
   simp only [zQ,Bool.false_eq_true,false_iff]
   intro h
   have:=h 0 (by simp)
   simp at this
 | B::l,C::l'=>by
   have ih:=wM l l'
   unfold zQ
   constructor
   ·intro h i hi
    cases hc:decide (B=C) with
    | false=>rw [hc] at h;cases h
    | true =>
      rw [hc] at h
      simp only [decide_eq_true_eq] at hc;subst hc
      cases i with
      | zero=>rfl
      | succ i=>simpa using ih.1 h i (by simpa using hi)
   ·intro h
    have N:=h 0 (by simp)
    simp only [List.getElem?_cons_zero,Option.some.injEq] at N;subst N
    simp only [decide_true,cond_true]
    exact ih.2 fun i hi=>by simpa using h (i+1) (by simpa using hi)
theorem tI (D D':List Nat) (m m':Mem):stays D D' m m'=true↔m.length≤m'.length∧∀ i,i<m.length→i ∈ D∨(i ∉ D'∧m[i]? = m'[i]?):=by
 unfold stays
 simp only [Bool.and_eq_true,decide_eq_true_eq,List.all_eq_true,List.mem_range,Bool.or_eq_true,Bool.not_eq_true',List.contains_eq_mem,decide_eq_false_iff_not]
theorem bBf (k:Nat) (m m':Mem):aIj k m m'=stays (List.range k) (List.range k) m m':=by
 rw [Bool.eq_iff_iff,tI]
 unfold aIj
 cases J:Nat.ble m.length m'.length with
 | false =>
   have:¬ m.length≤m'.length:=fun h=>by rw [Nat.ble_eq_true_of_le h] at J;cases J
   simp [this]
 | true =>
   have h1':=Nat.le_of_ble_eq_true J
   cases M:Nat.ble m.length k with
   | true =>
     have h2':=Nat.le_of_ble_eq_true M
     simp only [cond_true,List.mem_range,true_iff]
     exact ⟨h1',fun i hi=>.inl (by omega)⟩
   | false =>
     have h2':¬ m.length≤k:=fun h=>by rw [Nat.ble_eq_true_of_le h] at M;cases M
     simp only [cond_true,cond_false,List.mem_range]
     rw [wM]
     constructor
     ·intro h
      refine ⟨h1',fun i hi=>?_⟩
      by_cases hk:i<k
      ·exact .inl hk
      ·refine .inr ⟨hk,?_⟩
       have:=h (i-k) (by rw [List.length_drop];omega)
       rw [List.getElem?_drop,List.getElem?_drop,show k+(i-k)=i by omega] at this
       exact this
     ·rintro ⟨_,h⟩ i hi
      rw [List.length_drop] at hi
      rw [List.getElem?_drop,List.getElem?_drop]
      rcases h (k+i) (by omega) with h | h
      ·omega
      ·exact h.2
def aIk (k:Nat) (m m':Mem):Bool:=cond (Nat.ble m.length m'.length) (Nat.ble m.length k) false
theorem bBg (k:Nat) (m m':Mem):aIk k m m'=stays (List.range k) (List.range m'.length) m m':=by
 rw [Bool.eq_iff_iff,tI]
 unfold aIk
 cases J:Nat.ble m.length m'.length with
 | false =>
   have:¬ m.length≤m'.length:=fun h=>by rw [Nat.ble_eq_true_of_le h] at J;cases J
   simp [this]
 | true =>
   have h1':=Nat.le_of_ble_eq_true J
   simp only [cond_true,List.mem_range,Nat.ble_eq]
   constructor
   ·intro h;exact ⟨h1',fun i hi=>.inl (by omega)⟩
   ·rintro ⟨_,h⟩
    by_cases hk:m.length≤k
    ·exact hk
    ·rcases h k (by omega) with h | h
     ·omega
     ·omega
def aUZ (m m':Mem):Bool:=cond (Nat.ble m.length m'.length) (zQ m m') false
theorem bBe (m m':Mem):aUZ m m'=stays [] [] m m':=by
 rw [Bool.eq_iff_iff,tI]
 unfold aUZ
 cases J:Nat.ble m.length m'.length with
 | false =>
   have:¬ m.length≤m'.length:=fun h=>by rw [Nat.ble_eq_true_of_le h] at J;cases J
   simp [this]
 | true =>
   have h1':=Nat.le_of_ble_eq_true J
   simp only [cond_true,wM]
   simp [h1']
def yX (k:Nat) (m m':Mem):Bool:=cond (Nat.ble m.length m'.length) (zQ (m.take k) m') false
theorem aGE (k:Nat) (m m':Mem):yX k m m'=stays (Dq true k m) (Dq true k m') m m':=by
 rw [Bool.eq_iff_iff,tI]
 unfold yX
 cases J:Nat.ble m.length m'.length with
 | false =>
   simp only [cond_false,Bool.false_eq_true,false_iff]
   intro h
   have:=h.1
   rw [← Nat.ble_eq,J] at this;cases this
 | true =>
   rw [Nat.ble_eq] at J
   simp only [cond_true,wM,List.length_take]
   constructor
   ·intro h
    refine ⟨J,fun i hi=>?_⟩
    by_cases hk:k≤i
    ·exact .inl (kI.2 ⟨hi,hk⟩)
    ·refine .inr ⟨fun h=>hk (kI.1 h).2,?_⟩
     have:=h i (by omega)
     rw [List.getElem?_take,if_pos (by omega)] at this
     exact this
   ·rintro ⟨_,h⟩ i hi
    rw [List.getElem?_take,if_pos (by omega)]
    rcases h i (by omega) with h | h
    ·have:=(kI.1 h).2;omega
    ·exact h.2
def isG (g:Option Nat) (i:Nat):Bool:=match g with
 | none=>false
 | some j=>Nat.beq j i
theorem bCY (g:Option Nat) (i:Nat):isG g i=!decide (g ≠ some i):=by
 cases g with
 | none=>simp [isG]
 | some j=>simp only [isG,ne_eq,Option.some.injEq];rw [Bool.eq_iff_iff];simp
def bCI (mt:List RM) (S:Nat) (bit:Nat):Option Nat→Bool
 | none=>true
 | some x=>Nat.beq (Nat.land (Nat.shiftRight (aFV mt S bit) x) 1) 1
theorem bBD (n x:Nat):Nat.beq (Nat.land (Nat.shiftRight n x) 1) 1=n.testBit x:=by
 show Nat.beq ((n >>> x) &&& 1) 1=_
 rw [Nat.testBit_eq_decide_div_mod_eq,Nat.shiftRight_eq_div_pow,Nat.and_one_is_mod,Bool.eq_iff_iff]
 simp
def dQ (q:Bool) (P:Program) (n:Nat) (ops:Array Oper) (mt:List RM) (k:Nat) (g:Option Nat) (S:Nat) (H:Hyp) (fr:Fr) (m:Mem):List RM→Option (RM × List E × Hyp × Fr)
 | []=>none
 | x::l=>cond (qW mt S x) (cond (isG g x.i) (dQ q P n ops mt k g S H fr m l) (match early P n ops x.o H fr (bKp q k m) with
    | some r=>some (x,r)
    | none=>cond (bCI mt S x.bit g) (match early P n ops x.o H fr m with
       | some r=>some (x,r)
       | none=>dQ q P n ops mt k g S H fr m l) (dQ q P n ops mt k g S H fr m l))) (dQ q P n ops mt k g S H fr m l)
theorem qV {q:Bool} {P:Program} {n:Nat} {ops:Array Oper} {S:Nat} {listed:Array Bool} (h:oV ops S listed) (k:Nat) (g:Option Nat) (H:Hyp) (fr:Fr) (m:Mem):∀ (l:List RM),(∀ x ∈ l,x ∈ bP ops) →
 fZ P n ops (Dq q k m) g listed H fr m (l.map RM.i)=(dQ q P n ops (bP ops) k g S H fr m l).map (fun r=>(r.1.i,r.2))
 | [],_=>rfl
 | x::l,hl=>by
   have ih:=qV (q:=q) (P:=P) (n:=n) h k g H fr m l (fun y hy=>hl y (.tail _ hy))
   obtain ⟨J,M⟩:=iB (hl x (.head _))
   have hb:x.bit=Nat.shiftLeft 1 x.i:=by rw [M];rfl
   rw [List.map_cons]
   unfold fZ dQ
   have hkq:bKp q k m=kill (Dq q k m) m:=by
    cases q with
    | false=>exact bDD k m
    | true=>exact bDE k m
   rw [J,aSe h (hl x (.head _)),bCY,hkq]
   simp only
   cases hf:Region.free .any ops listed x.i with
   | false=>simp only [Bool.false_and,Bool.false_eq_true,if_false,cond_false];exact ih
   | true =>
     by_cases hg:g=some x.i
     ·simp only [hg,ne_eq,not_true,decide_false,Bool.and_false,Bool.false_eq_true,if_false,Bool.not_false,cond_true]
      rw [← hg];exact ih
     ·have hg':decide (g ≠ some x.i)=true:=decide_eq_true hg
      have e:bCI (bP ops) S x.bit g=aTT ops listed x.i g:=by
       cases g with
       | none=>rfl
       | some y =>
         have hy:y ≠ x.i:=fun e=>hg (by rw [e])
         show Nat.beq (Nat.land (Nat.shiftRight (aFV (bP ops) S x.bit) y) 1) 1=(desc .any ops listed x.i).contains y
         rw [bBD,hb,bCz h x.i y hy]
      rw [hg',e]
      simp only [Bool.and_true,if_true,Bool.not_true,cond_true,cond_false]
      cases early P n ops x.o H fr (kill (Dq q k m) m) with
      | some r=>rfl
      | none =>
        simp only
        cases aTT ops listed x.i g with
        | false=>simp only [Bool.false_eq_true,if_false,cond_false];exact ih
        | true =>
          simp only [if_true,cond_true]
          cases early P n ops x.o H fr m with
          | some r=>rfl
          | none=>exact ih
abbrev DR:=Option (List E × Hyp × Fr × Mem)
def aGW (q:Bool) (P:Program) (Γ:Ctx) (n:Nat) (ops:Array Oper) (k:Nat) (L:List Nat) (S:Nat) (H:Hyp) (fr:Fr) (m:Mem) (more:Nat→List Nat→Nat→Hyp→Fr→Mem→DR) (x:RM):DR :=
 match eU P Γ false n ops x.o H fr m with
  | some (nd,H',fr',m') =>
    cond (cond (cond q (yX k m m') (aIk k m m')) (cond (isG L.head? x.i||aUZ m m') (scF m) false) false)
     (match more (cond q k m'.length) (L.erase x.i) (Nat.lor S x.bit) H' fr' m' with
     | some (nd',r)=>some (nd++nd',r)
     | none=>none) none
  | none=>none
def zM (K:Nat) (step:RM→DR):List RM→Option (List E × Fr × Mem)
 | []=>none
 | [i]=>match step i with
   | some (nd,_,fr,m)=>some (nd,fr,m)
   | none=>none
 | i::l=>match step i with
   | some (nd,_,fr,m)=>match zM K step l with
     | some (nd',fr',m')=>if sameAs K fr m fr' m' then some (nd++nd',fr',m') else none
     | none=>none
   | none=>none
def qS (q:Bool) (P:Program) (Γ:Ctx) (n:Nat) (ops:Array Oper) (mt:List RM):Nat→Nat→List Nat→Nat→Hyp→Fr→Mem→DR
 | _,0,_,S,H,fr,m=>match kU mt S with
   | []=>some ([],H,fr,m)
   | _=>none
 | k,u+1,L,S,H,fr,m =>
   match kU mt S with
   | []=>some ([],H,fr,m)
   | y::rd'=>match dQ q P n ops mt k L.head? S H fr m (y::rd') with
     | some (x,nd,H',fr')=>match qS q P Γ n ops mt k u L (Nat.lor S x.bit) H' fr' m with
       | some (nd',r)=>some (nd++nd',r)
       | none=>none
     | none=>match rd',L with
       | [],z::L'=>cond (Nat.beq y.i z) (match eU P Γ false n ops y.o H fr m with
           | some (nd,H',fr',m')=>cond (cond (cond q (yX k m m') (aIj k m m')) (scF m) false) (match qS q P Γ n ops mt k u L' (Nat.lor S y.bit) H' fr' m' with
              | some (nd',r)=>some (nd++nd',r)
              | none=>none) none
           | none=>none) none
       | _::_,z::L'=>match zM m.length (aGW q P Γ n ops k (z::L') S H fr m (fun k' L'' S H' fr' m'=>qS q P Γ n ops mt k' u L'' S H' fr' m')) (y::rd') with
         | some (nd,fr',m')=>some (nd,H,fr',m')
         | none=>none
       | _,_=>none
theorem aSk {K:Nat} {f:Nat→DR} {g:RM→DR}:∀ l:List RM,(∀ x ∈ l,f x.i=g x)→lW K f (l.map RM.i)=zM K g l
 | [],_=>rfl
 | [x],h=>by
   show lW K f [x.i]=zM K g [x]
   unfold lW zM
   rw [h x (.head _)]
   cases g x <;> rfl
 | x::y::l,h=>by
   have ih:=aSk (K:=K) (y::l) (fun z hz=>h z (.tail _ hz))
   rw [List.map_cons] at ih ⊢
   show lW K f (x.i::y.i::l.map RM.i)=_
   unfold lW zM
   rw [h x (.head _),ih]
   cases g x with
   | none=>rfl
   | some r =>
     simp only
     all_goals (cases zM K g (y::l) <;> rfl)
theorem aRZ {q:Bool} {K:Nat} {P:Program} {Γ:Ctx} {n:Nat} {ops:Array Oper}:∀ (u k:Nat) (L:List Nat) (S:Nat) (listed:Array Bool) (H:Hyp) (fr:Fr) (m:Mem),(q=true→k=K)→oV ops S listed →
 pE P Γ n ops (fun o _ _ _ m'=>cond q (Dq true K m') (o.getD (List.range m'.length))) (Dq q k m) u L listed H fr m=qS q P Γ n ops (bP ops) k u L S H fr m:=by
 intro u
 induction u with
 | zero =>
   intro k L S listed H fr m hq h
   unfold pE qS
   rw [← aGx h]
   cases kU (bP ops) S <;> rfl
 | succ u ih =>
   intro k L S listed H fr m hq h
   unfold pE qS
   rw [← aGx h]
   have hmem:=mG (bP ops) S
   cases hr:kU (bP ops) S with
   | nil=>rfl
   | cons y rd' =>
     rw [hr] at hmem
     have st:∀ x,x ∈ y::rd'→oV ops (Nat.lor S x.bit) (listed.setIfInBounds x.i true):=fun x hx=>by
      obtain ⟨J,M⟩:=iB (hmem x hx)
      have hb:x.bit=Nat.shiftLeft 1 x.i:=by rw [M];rfl
      rw [hb];exact h.step (Array.getElem?_eq_some_iff.1 J).1
     have hfe:=qV (q:=q) (P:=P) (n:=n) h k L.head? H fr m (y::rd') hmem
     have hfm:∀ (l:List RM) (g:Option Nat) x r,dQ q P n ops (bP ops) k g S H fr m l=some (x,r)→x ∈ l:=by
      intro l g
      induction l with
      | nil=>intro x r hx;cases hx
      | cons z l ihl =>
        intro x r hx
        have rec_:dQ q P n ops (bP ops) k g S H fr m l=some (x,r)→x ∈ z::l:=fun h=>.tail _ (ihl x r h)
        unfold dQ at hx
        cases J:qW (bP ops) S z with
        | false=>rw [J] at hx;exact rec_ hx
        | true =>
          cases M:isG g z.i with
          | true=>rw [J,M] at hx;exact rec_ hx
          | false =>
            rw [J,M] at hx
            simp only [cond_true,cond_false] at hx
            split at hx
            ·simp only [Option.some.injEq,Prod.mk.injEq] at hx;obtain ⟨rfl,_⟩:=hx;exact .head _
            ·cases U:bCI (bP ops) S z.bit g with
             | false=>rw [U] at hx;exact rec_ hx
             | true =>
               rw [U] at hx
               simp only [cond_true] at hx
               split at hx
               ·simp only [Option.some.injEq,Prod.mk.injEq] at hx;obtain ⟨rfl,_⟩:=hx;exact .head _
               ·exact rec_ hx
     rw [List.map_cons] at hfe
     simp only [List.map_cons]
     rw [hfe]
     cases hfx:dQ q P n ops (bP ops) k L.head? S H fr m (y::rd') with
     | some r =>
       obtain ⟨x,nd,H',fr'⟩:=r
       simp only [Option.map_some]
       rw [ih k L _ _ H' fr' m hq (st x (hfm _ _ _ _ hfx))]
       generalize qS q P Γ n ops (bP ops) k u L (Nat.lor S x.bit) H' fr' m=z
       rcases z with _ | ⟨_,_⟩ <;> rfl
     | none =>
       simp only [Option.map_none]
       obtain ⟨J,M⟩:=iB (hmem y (.head _))
       cases rd' with
       | nil =>
         cases L with
         | nil=>rfl
         | cons z L' =>
           simp only [List.map_nil]
           by_cases hz:y.i=z
           ·have hb:Nat.beq y.i z=true:=by rw [hz];exact Nat.beq_refl z
            rw [if_pos hz,J,hb]
            simp only [cond_true]
            cases eU P Γ false n ops y.o H fr m with
            | none=>rfl
            | some r =>
              obtain ⟨nd,H',fr',m'⟩:=r
              simp only
              have eD:cond q (Dq true K m') ((some (Dq q k m)).getD (List.range m'.length))=Dq q k m':=by
               cases q with
               | false=>rfl
               | true=>rw [hq rfl];rfl
              have eS:cond q (yX k m m') (aIj k m m')=stays (Dq q k m) (Dq q k m') m m':=by
               cases q with
               | false=>exact bBf k m m'
               | true=>exact aGE k m m'
              rw [eD,eS,bEW,ih k L' _ _ H' fr' m' hq (st y (.head _))]
              cases stays (Dq q k m) (Dq q k m') m m' <;> cases m.all (fun B=>B.aH.all (Seg.sc m.length)) <;> rfl
           ·have hb:Nat.beq y.i z=false:=by
             cases hbb:Nat.beq y.i z with
             | false=>rfl
             | true=>exact absurd (Nat.eq_of_beq_eq_true hbb) hz
            rw [if_neg hz,hb];rfl
       | cons y2 rd2 =>
         cases L with
         | nil=>rfl
         | cons z L' =>
           simp only [List.map_cons]
           have hj:=aSk (K:=m.length) (f:=aIw P Γ n ops (fun o _ _ _ m'=>cond q (Dq true K m') (o.getD (List.range m'.length))) (Dq q k m) (z::L') listed H fr m (fun D' L'' S H' fr' m'=>pE P Γ n ops (fun o _ _ _ m'=>cond q (Dq true K m') (o.getD (List.range m'.length))) D' u L'' S H' fr' m'))
            (g:=aGW q P Γ n ops k (z::L') S H fr m (fun k' L'' S H' fr' m'=>qS q P Γ n ops (bP ops) k' u L'' S H' fr' m')) (y::y2::rd2) (fun x hx=>by
              obtain ⟨U,h4⟩:=iB (hmem x hx)
              unfold aIw aGW
              rw [U]
              simp only
              cases eU P Γ false n ops x.o H fr m with
              | none=>rfl
              | some r =>
                obtain ⟨nd,H',fr',m'⟩:=r
                simp only
                have eD:cond q (Dq true K m') ((none:Option (List Nat)).getD (List.range m'.length))=Dq q (cond q k m'.length) m':=by
                 cases q with
                 | false=>rfl
                 | true=>rw [hq rfl];rfl
                have eN:cond q (yX k m m') (aIk k m m')=stays (Dq q k m) (Dq q (cond q k m'.length) m') m m':=by
                 cases q with
                 | false=>exact bBg k m m'
                 | true=>exact aGE k m m'
                rw [eD,ih _ _ _ _ H' fr' m' (fun h=>by rw [h];exact hq h) (st x hx),eN,bBe,bEW,bCY]
                have e:(!decide ((z::L').head? ≠ some x.i))=decide ((z::L').head? = some x.i):=by
                 by_cases hh:(z::L').head? = some x.i <;> simp [hh]
                rw [e]
                cases stays (Dq q k m) (Dq q (cond q k m'.length) m') m m' <;> cases (decide ((z::L').head? = some x.i)||stays [] [] m m') <;> cases m.all (fun B=>B.aH.all (Seg.sc m.length)) <;> rfl)
           rw [List.map_cons,List.map_cons] at hj
           rw [hj]
           all_goals (generalize zM m.length (aGW q P Γ n ops k (z::L') S H fr m fun k' L'' S H' fr' m'=>qS q P Γ n ops (bP ops) k' u L'' S H' fr' m') (y::y2::rd2)=z;cases z <;> rfl)
def aGe (mt:List RM):List RM→Nat→Bool
 | [],_=>true
 | x::l,S=>cond (Nat.beq (Nat.land x.deps S) x.deps) (cond (qW mt S x) (aGe mt l (Nat.lor S x.bit)) false) false
def rH:List RM→Bool
 | []=>true
 | x::l=>match x.o.op with
   | .select ..=>false
   | _=>rH l
theorem sY {ops:Array Oper} (h:rH (bP ops)=true):Region.noSelect ops=true:=by
 unfold Region.noSelect
 rw [Array.all_eq_true_iff_forall_mem]
 intro o ho
 obtain ⟨i,hi,rfl⟩:=Array.mem_iff_getElem.1 ho
 have hm:aSR ops i ops[i] ∈ bP ops:=by
  refine List.mem_of_getElem? (i:=i) ?_
  rw [wP,Array.getElem?_eq_getElem hi];rfl
 have key:∀ l:List RM,rH l=true→∀ x ∈ l,(match x.o.op with | .select ..=>false | _=>true)=true:=by
  intro l
  induction l with
  | nil=>intro _ x hx;cases hx
  | cons y l ih =>
    intro h x hx
    unfold rH at h
    split at h
    ·cases h
    ·rename_i hns
     rcases List.mem_cons.1 hx with rfl | hx
     ·split
      ·rename_i c d hs;exact absurd hs (hns c d)
      ·rfl
     ·exact ih h x hx
 exact key _ h _ hm
theorem bDL {ops:Array Oper} (hn:rH (bP ops)=true) (h:aGe (bP ops) (bP ops) 0=true):Region.lexB .any ops=true:=by
 unfold Region.lexB
 rw [sY hn,Bool.true_and]
 have full:∀ (listed:Array Bool) (S:Nat),oV ops S listed→(∀ j,j<ops.size→S.testBit j=true)→(Region.ready .any ops listed).isEmpty=true:=by
  intro listed S hS hf
  rw [List.isEmpty_iff,List.eq_nil_iff_forall_not_mem]
  intro j hj
  have hj':j<ops.size:=by
   unfold Region.ready at hj
   exact List.mem_range.1 (List.mem_filter.1 hj).1
  have:=(mem_ready.1 hj).1
  rw [hS.at hj',hf j hj'] at this
  cases this
 have key:∀ (u k S:Nat) (listed:Array Bool),k+u=ops.size→oV ops S listed→(∀ j,S.testBit j=decide (j<k))→aGe (bP ops) ((bP ops).drop k) S=true→Region.lexFrom .any ops u k listed=true:=by
  intro u
  induction u with
  | zero =>
    intro k S listed hk hS hb _
    unfold Region.lexFrom
    exact full listed S hS fun j hj=>by rw [hb j];exact decide_eq_true (by omega)
  | succ u ih =>
    intro k S listed hk hS hb hl
    have hlt:k<(bP ops).length:=by rw [yS];omega
    rw [List.drop_eq_getElem_cons hlt] at hl
    have hx:(bP ops)[k] ∈ bP ops:=List.getElem_mem hlt
    have hki:(bP ops)[k].i=k:=by
     have:=wP ops k
     rw [List.getElem?_eq_getElem hlt,Array.getElem?_eq_getElem (by rw [yS] at hlt;exact hlt),Option.map_some,Option.some.injEq] at this
     rw [this];rfl
    generalize (bP ops)[k]=x at hl hx hki
    obtain ⟨J,M⟩:=iB hx
    have hbit:x.bit=Nat.shiftLeft 1 x.i:=by rw [M];rfl
    have hd:x.deps=qC x.o.after.toList:=by rw [M];rfl
    unfold aGe at hl
    cases V:Nat.beq (Nat.land x.deps S) x.deps with
    | false=>rw [V] at hl;cases hl
    | true =>
      cases e2:qW (bP ops) S x with
      | false=>rw [V,e2] at hl;cases hl
      | true =>
        rw [V,e2] at hl
        simp only [cond_true] at hl
        have hks:k<ops.size:=by rw [yS] at hlt;exact hlt
        unfold Region.lexFrom
        rw [aSe hS hx,hki] at e2
        have e3:(Region.ready .any ops listed).contains k=true:=by
         rw [List.contains_iff_mem]
         unfold Region.ready
         refine List.mem_filter.2 ⟨List.mem_range.2 hks,?_⟩
         rw [hki] at J
         rw [hS.at hks,hb k,J]
         have e4:=aYj hS x.o
         rw [← hd,V] at e4
         simp only [Nat.lt_irrefl,decide_false,Bool.not_false,Bool.true_and,Option.map_some,Option.getD_some]
         exact e4.symm
        rw [e3,e2]
        simp only [Bool.true_and]
        refine ih (k+1) _ _ (by omega) (hS.step hks) (fun j=>?_) ?_
        ·rw [hM,fH,hb j]
         by_cases hjk:j=k
         ·subst hjk;simp
         ·have:(j<k+1)↔j<k:=by omega
          simp [hjk,this]
        ·rw [hbit,hki] at hl;exact hl
 refine key ops.size 0 0 _ (by omega) (oV.zero ops) (fun j=>by simp) ?_
 exact h
def bNM:Op→Bool
 | .call _=>true
 | _=>false
def aGg (mt:List RM):Bool:=match mt.filter (fun x=>aTW x.o.op) with
 | []=>true
 | [_]=>false
 | l=>l.all (fun x=>bNM x.o.op)
def aYQ (P:Program) (Γ:Ctx) (n:Nat) (ops:Array Oper) (mt:List RM) (H:Hyp) (fr:Fr) (m:Mem):DR:=qS false P Γ n ops mt m.length ops.size ((mt.filter (fun x=>aTW x.o.op)).map RM.i) 0 H fr m
def bHj (P:Program):Op→Bool
 | .convert s _ _=>(jG P s).isSome
 | o=>aTW o
def aYX (P:Program) (Γ:Ctx) (n:Nat) (ops:Array Oper) (mt:List RM) (H:Hyp) (fr:Fr) (m:Mem):DR:=qS true P Γ n ops mt m.length ops.size ((mt.filter (fun x=>bHj P x.o.op)).map RM.i) 0 H fr m
def aHW (P:Program) (Γ:Ctx) (n:Nat) (ops:Array Oper) (mt:List RM) (H:Hyp) (fr:Fr) (m:Mem):DR:=cond (rH mt) (cond (aGe mt mt 0) (oO P Γ true n ops ops.toList H fr m) none) none
def orD (x y:DR):DR:=match x with
 | some r=>some r
 | none=>y
def mH (P:Program) (Γ:Ctx) (n:Nat) (ops:Array Oper) (draw:Bool) (H:Hyp) (fr:Fr) (m:Mem):DR :=
 cond draw
  (cond (rH (bP ops))
    (cond (aGg (bP ops))
      (orD (aHW P Γ n ops (bP ops) H fr m) (orD (aYQ P Γ n ops (bP ops) H fr m) (orD (aYX P Γ n ops (bP ops) H fr m) (bGY P Γ n ops H fr m))))
      (orD (aYQ P Γ n ops (bP ops) H fr m) (orD (aHW P Γ n ops (bP ops) H fr m) (orD (aYX P Γ n ops (bP ops) H fr m) (bGY P Γ n ops H fr m)))))
    none)
  (oO P Γ false n ops ops.toList H fr m)
theorem oL {x y:DR} {r} (h:orD x y=some r):x=some r∨y=some r:=by
 unfold orD at h
 split at h
 ·exact .inl h
 ·exact .inr h
theorem pV {P:Program} {Γ:Ctx} {n:Nat} {ops:Array Oper} {H:Hyp} {fr:Fr} {m:Mem} {r:List E × Hyp × Fr × Mem} (h:mH P Γ n ops true H fr m=some r) :
 (Region.lexB .any ops=true∧oO P Γ true n ops ops.toList H fr m=some r)∨(Region.noSelect ops=true∧∃ nx D L,pE P Γ n ops nx D ops.size L (Array.replicate ops.size false) H fr m=some r):=by
 unfold mH at h
 simp only [cond_true] at h
 cases hs:rH (bP ops) with
 | false=>rw [hs] at h;cases h
 | true =>
   rw [hs] at h
   simp only [cond_true] at h
   have hq:aHW P Γ n ops (bP ops) H fr m=some r→(Region.lexB .any ops=true∧oO P Γ true n ops ops.toList H fr m=some r)∨(Region.noSelect ops=true∧∃ nx D L,pE P Γ n ops nx D ops.size L (Array.replicate ops.size false) H fr m=some r):=fun h=>by
    unfold aHW at h
    rw [hs] at h
    cases hl:aGe (bP ops) (bP ops) 0 with
    | false=>rw [hl] at h;cases h
    | true=>rw [hl] at h;exact .inl ⟨bDL hs hl,h⟩
   have hl:aYQ P Γ n ops (bP ops) H fr m=some r→(Region.lexB .any ops=true∧oO P Γ true n ops ops.toList H fr m=some r)∨(Region.noSelect ops=true∧∃ nx D L,pE P Γ n ops nx D ops.size L (Array.replicate ops.size false) H fr m=some r):=fun h=>by
    unfold aYQ at h
    rw [← aRZ (K:=0) _ _ _ _ _ H fr m (fun h=>by cases h) (oV.zero ops)] at h
    exact .inr ⟨sY hs,_,_,_,h⟩
   have hn:aYX P Γ n ops (bP ops) H fr m=some r→(Region.lexB .any ops=true∧oO P Γ true n ops ops.toList H fr m=some r)∨(Region.noSelect ops=true∧∃ nx D L,pE P Γ n ops nx D ops.size L (Array.replicate ops.size false) H fr m=some r):=fun h=>by
    unfold aYX at h
    rw [← aRZ _ _ _ _ _ H fr m (fun _=>rfl) (oV.zero ops)] at h
    exact .inr ⟨sY hs,_,_,_,h⟩
   have hf:bGY P Γ n ops H fr m=some r→(Region.lexB .any ops=true∧oO P Γ true n ops ops.toList H fr m=some r)∨(Region.noSelect ops=true∧∃ nx D L,pE P Γ n ops nx D ops.size L (Array.replicate ops.size false) H fr m=some r):=fun h=>by
    unfold bGY at h
    exact .inr ⟨sY hs,_,_,_,h⟩
   cases hm:aGg (bP ops) with
   | true =>
     rw [hm] at h
     rcases oL h with h | h
     ·exact hq h
     ·rcases oL h with h | h
      ·exact hl h
      ·rcases oL h with h | h
       ·exact hn h
       ·exact hf h
   | false =>
     rw [hm] at h
     rcases oL h with h | h
     ·exact hl h
     ·rcases oL h with h | h
      ·exact hq h
      ·rcases oL h with h | h
       ·exact hn h
       ·exact hf h
section
variable {ρ:Env} {ι ι':Loc} {H:Hyp} {P:Program} {Γ:Ctx} {w:World} {β:dN} {m m':Mem} {fr:Fr} {n:Nat} {a:Act} {G:List E} {ops:Array Oper}
theorem aHH {D:List Nat} {i:Nat} {B:Blk} (h:(kill D m)[i]? = some B):∃ C,m[i]? = some C∧((D.contains i=true∧B={ C with dead:=true })∨(D.contains i=false∧B=C)):=by
 unfold kill at h
 rw [List.getElem?_map,List.getElem?_zipIdx] at h
 cases hm:m[i]? with
 | none=>rw [hm] at h;cases h
 | some C =>
   rw [hm] at h
   simp only [Option.map_some,Nat.zero_add,Option.some.injEq] at h
   refine ⟨C,rfl,?_⟩
   split at h
   ·rename_i hc;exact .inl ⟨hc,h.symm⟩
   ·rename_i hc;exact .inr ⟨by simpa using hc,h.symm⟩
theorem fR (D:List Nat) (m:Mem):(kill D m).length=m.length:=by simp [kill]
theorem aK.kill (hm:aK ρ β ι m w) (D:List Nat):aK ρ β ι (kill D m) w:=by
 have at_:∀ {i:Nat} {B:Blk},(Sx.kill D m)[i]? = some B→B.dead=false→m[i]? = some B:=by
  intro i B hB hd
  obtain ⟨C,hC,⟨_,rfl⟩ | ⟨_,rfl⟩⟩:=aHH hB
  ·cases hd
  ·exact hC
 exact ⟨fun i j B C hB hC hBd hCd=>hm.inj i j B C (at_ hB hBd) (at_ hC hCd) hBd hCd,fun i B hB hd=>hm.blk i B (at_ hB hd) hd,fun i B hB hd=>hm.nils i B (at_ hB hd) hd,hm.agr,by rw [fR];exact hm.len,by rw [fR];exact hm.new,hm.size,
  by rw [fR];exact hm.old,hm.os,hm.tape,hm.output,hm.xt,by rw [fR];exact hm.xd⟩
theorem wU {D D':List Nat} (hs:stays D D' m m'=true) (hsc:m.all (fun B=>B.aH.all (Seg.sc m.length))=true) (hag:Loc.bV m.length ι ι') (hk:β.k≤m.length) (h:aK ρ β ι' (kill D' m') w):aK ρ β ι (kill D m) w:=by
 simp only [stays,Bool.and_eq_true,decide_eq_true_eq,List.all_eq_true,List.mem_range,Bool.or_eq_true,Bool.not_eq_true'] at hs
 obtain ⟨hlen,hs⟩:=hs
 have lt:∀ {i:Nat} {B:Blk},(kill D m)[i]? = some B→i<m.length:=fun {i B} hB=>by
  obtain ⟨C,hC,_⟩:=aHH hB;exact (List.getElem?_eq_some_iff.1 hC).1
 have at_:∀ {i:Nat} {B:Blk},(kill D m)[i]? = some B→B.dead=false→(kill D' m')[i]? = some B∧cellsOf ρ ι' B.aH=cellsOf ρ ι B.aH:=by
  intro i B hB hd
  have hi:=lt hB
  obtain ⟨C,hC,⟨_,rfl⟩ | ⟨hn,rfl⟩⟩:=aHH hB
  ·cases hd
  ·have J:=hs i hi
   rw [hn] at J
   simp only [Bool.false_eq_true,false_or] at J
   refine ⟨?_,(bK hag (List.all_eq_true.1 hsc _ (List.mem_of_getElem? hC))).symm⟩
   unfold kill
   rw [List.getElem?_map,List.getElem?_zipIdx,← J.2,hC]
   simp only [Option.map_some,Nat.zero_add,J.1,Bool.false_eq_true,if_false]
 refine ⟨fun i j B C hB hC hBd hCd hBn hCn he=>?_,fun i B hB hd hn=>?_,fun i B hB hd hn=>?_,(hag.mono hk).trans h.agr,by rw [fR];exact hk,fun i J M=>?_,h.size,fun b hb hi=>?_,h.os,h.tape,h.output,h.xt,fun i j q nn c hv N k hk'=>?_⟩
 ·have V:=hag i (lt hB);have e2:=hag j (lt hC)
  exact h.inj i j B C (at_ hB hBd).1 (at_ hC hCd).1 hBd hCd (by rw [← V.2.2];exact hBn) (by rw [← e2.2.2];exact hCn) (by rw [← V.1,← e2.1];exact he)
 ·have V:=hag i (lt hB)
  obtain ⟨fz,rest,k1,k2,k3,k4⟩:=h.blk i B (at_ hB hd).1 hd (by rw [← V.2.2];exact hn)
  rw [(at_ hB hd).2,← V.1] at k1
  rw [(at_ hB hd).2,← V.2.1] at k3
  exact ⟨fz,rest,k1,k2,k3,k4⟩
 ·have V:=hag i (lt hB)
  rw [← (at_ hB hd).2];exact h.nils i B (at_ hB hd).1 hd (by rw [← V.2.2];exact hn)
 ·rw [fR] at M
  rw [(hag i M).1]
  rcases h.new i J (by rw [fR];omega) with hn | ⟨j,hj,hn⟩
  ·exact .inl hn
  ·exact .inr ⟨j,hj,by rw [hn];exact (hag j (by omega)).1.symm⟩
 ·refine h.old b hb fun i hi'=>?_
  rw [fR] at hi'
  by_cases hc:i<m.length
  ·rw [← (hag i hc).1];exact hi i (by rw [fR];exact hc)
  ·rcases h.new i (by omega) (by rw [fR];exact hi') with hn | ⟨j,hj,hn⟩
   ·omega
   ·rw [hn,← (hag j (by omega)).1];exact hi j (by rw [fR];omega)
 ·rw [fR] at hk'
  rw [(hag k hk').1];exact h.xd i j q nn c hv N k (by rw [fR];omega)
theorem aSb (hH:H.ok ρ) (hf:aR ρ ι n fr a) {o:Oper} {nd:List E} {H':Hyp} {fr':Fr} (h:early P n ops o H fr m=some (nd,H',fr')) (hn:bD ρ nd) :
 ∃ v,hO P ops (fun w=>aK ρ β ι m w) o v a∧H'.ok ρ∧aR ρ ι n fr' (a.put o.dst v):=by
 unfold early at h
 try simp only [aZd] at h
 split at h
 ·cases h
 ·rename_i hg
  simp only [Option.map_eq_some_iff,Prod.mk.injEq] at h
  obtain ⟨Y,hp,rfl,rfl,rfl⟩:=h
  exact ⟨_,.inr ⟨kG hH hf hg,rfl⟩,hH,gY hf hp (fun _=>rfl) (fun hx=>absurd (fun e he=>by cases he) hx)⟩
 ·rename_i G hg
  obtain ⟨hG,hw⟩:=jR hH hf hg
  split at h
  ·rename_i nd' v he
   simp only [Option.map_eq_some_iff,Prod.mk.injEq] at h
   obtain ⟨Y,hp,rfl,rfl,rfl⟩:=h
   exact ⟨v.aC ρ ι,.inl ⟨hw,fun w hm=>aHV hH hm hf (fun e he=>by cases he) he (yL hH hn)⟩,lS _ _ hH hn,gY hf hp (fun _=>rfl) (fun hx=>absurd (fun e he=>by cases he) hx)⟩
  ·cases h
 ·rename_i G hg
  replace hg:=xZ hg
  split at h
  ·rename_i nd' v he
   simp only [Option.map_eq_some_iff,Prod.mk.injEq] at h
   obtain ⟨Y,hp,rfl,rfl,rfl⟩:=h
   by_cases hG:eM ρ G
   ·exact ⟨v.aC ρ ι,.inl ⟨(iU hf hg).1 hG,fun w hm=>aHV (lS _ _ hH hG) hm hf hG he (gO (fE hn) hG)⟩,hH,gY hf hp (fun _=>rfl) (fun hx=>absurd hG hx)⟩
   ·exact ⟨Go.undef,.inr ⟨(iU hf hg).2 hG,rfl⟩,hH,gY hf hp (fun hx=>absurd hx hG) (fun _=>rfl)⟩
  ·cases h
def cls (ρ:Env) (β:dN) (ι:Loc) (D:List Nat) (m:Mem) (g:Option Nat) (S:Array Bool) (w:World):Prop :=
 match g with
 | none=>aK ρ β ι m w
 | some x=>if S.getD x false=true then aK ρ β ι (kill D m) w else aK ρ β ι m w
theorem aAg {D:List Nat} (hm:aK ρ β ι m w) (g:Option Nat) (S:Array Bool):cls ρ β ι D m g S w:=by
 unfold cls
 split
 ·exact hm
 ·split
  ·exact hm.kill D
  ·exact hm
theorem aBd {D:List Nat} {g:Option Nat} {S:Array Bool} (h:cls ρ β ι D m g S w):aK ρ β ι (kill D m) w:=by
 unfold cls at h
 split at h
 ·exact h.kill D
 ·split at h
  ·exact h
  ·exact h.kill D
theorem aVB {D:List Nat} {g:Option Nat} {i:Nat} (hg:g ≠ some i) {S:Array Bool} (h:cls ρ β ι D m g (S.setIfInBounds i true) w):cls ρ β ι D m g S w:=by
 unfold cls at *
 split at h
 ·exact h
 ·rename_i x
  rw [getD_set_ne false (show i ≠ x from fun h=>hg (by rw [h]))] at h
  exact h
theorem gT {D:List Nat} {g:Option Nat} {listed:Array Bool} {i:Nat} {r:List E × Hyp × Fr}:∀ {l:List Nat},fZ P n ops D g listed H fr m l=some (i,r)→i ∈ l∧g ≠ some i∧∃ o,ops[i]? = some o∧Region.free .any ops listed i=true ∧
 (early P n ops o H fr (kill D m)=some r∨(early P n ops o H fr m=some r∧∀ x,g=some x→x ∈ desc .any ops listed i))
 | [],h=>by simp [fZ] at h
 | j::l,h=>by
   unfold fZ at h
   split at h
   ·rename_i o ho
    split at h
    ·rename_i hfr
     rw [Bool.and_eq_true,decide_eq_true_eq] at hfr
     split at h
     ·rename_i q hq
      simp only [Option.some.injEq,Prod.mk.injEq] at h
      obtain ⟨rfl,rfl⟩:=h
      exact ⟨.head _,hfr.2,o,ho,hfr.1,.inl hq⟩
     ·split at h
      ·rename_i hx
       split at h
       ·rename_i q hq
        simp only [Option.some.injEq,Prod.mk.injEq] at h
        obtain ⟨rfl,rfl⟩:=h
        refine ⟨.head _,hfr.2,o,ho,hfr.1,.inr ⟨hq,fun x hgx=>?_⟩⟩
        subst hgx
        exact List.contains_iff_mem.1 hx
       ·obtain ⟨J,M⟩:=gT h;exact ⟨.tail _ J,M⟩
      ·obtain ⟨J,M⟩:=gT h;exact ⟨.tail _ J,M⟩
    ·obtain ⟨J,M⟩:=gT h;exact ⟨.tail _ J,M⟩
   ·cases h
theorem aSm (m:Mem):kill [] m=m:=by
 unfold kill
 apply List.ext_getElem?
 intro i
 rw [List.getElem?_map,List.getElem?_zipIdx]
 cases m[i]? <;> simp
theorem aHJ:∀ {fr:Fr} {t:Nat} {g:List E} {x:SV},look fr t=some (g,x)→∃ f ∈ fr,f.t=t
 | [],_,_,_,h=>by simp [gF] at h
 | f::l,t,g,x,h=>by
   rw [dU] at h
   split at h
   ·rename_i he;exact ⟨f,.head _,he⟩
   ·obtain ⟨f',J,M⟩:=aHJ h;exact ⟨f',.tail _ J,M⟩
theorem bAV {fr fr':Fr} (h:bES fr fr'=true) (hf:aR ρ ι n fr a):aR ρ ι n fr' a:=by
 have key:∀ t g x,look fr' t=some (g,x)→look fr t=some (g,x):=fun t g x hl=>by
  obtain ⟨f,J,rfl⟩:=aHJ hl
  have:=List.all_eq_true.1 h f J
  rw [decide_eq_true_eq] at this
  rw [this,hl]
 exact ⟨hf.size,hf.defers,fun t g x hl=>hf.yes t g x (key t g x hl),fun t g x hl=>hf.no t g x (key t g x hl)⟩
def piv (π:List Nat) (ι:Loc):Loc:=⟨fun b=>ι.pos (π.getD b 0),fun b=>ι.cap (π.getD b 0),fun b=>ι.nil (π.getD b 0)⟩
theorem bN {π:List Nat} {ι:Loc} {b c:Nat} (h:π[b]? = some c):(piv π ι).cap b=ι.cap c∧(piv π ι).nil b=ι.nil c:=by
 simp [piv,List.getD_eq_getElem?_getD,h]
theorem dE {π:List Nat} {ι:Loc} {b c:Nat} (h:π[b]? = some c):piv π ι b=ι c:=by simp [piv,List.getD_eq_getElem?_getD,h]
theorem aZn {π:List Nat}:∀ x:S,(aUK π x).aC ρ ι=x.aC ρ (piv π ι)
 | .ptr b o=>rfl
 | .slc b o l (.kn c)=>rfl
 | .slc b o l (.op c)=>rfl
 | .slc b o l (.tl _ _ _)=>by simp only [aUK,S.aC];rfl
 | .fn f l=>by
   simp only [aUK,S.aC,List.map_map]
   rfl
 | .int _ _ | .bool _ | .nil | .xslc _ _ _ _ | .xptr _ _ _ _ | .nilIface | .nilSlc | .str _ | .nilFn | .val _ | .ifc _ _ _ | .strE _ | .xtl _ _ _ _ | .undef=>rfl
theorem bAO {π:List Nat}:∀ x:Seg,(mI π x).cells ρ ι=x.cells ρ (piv π ι)
 | .one x=>by simp only [mI,Seg.cells,aZn]
 | .run _ _ _ _=>rfl
 | .rows _ _ _=>rfl
theorem jZ {π:List Nat}:∀ l:List Seg,cellsOf ρ ι (l.map (mI π))=cellsOf ρ (piv π ι) l
 | []=>rfl
 | x::l=>by rw [List.map_cons,aG,aG,bAO,jZ l]
theorem aAE {π:List Nat}:∀ x:SV,(lJ π x).aC ρ ι=x.aC ρ (piv π ι)
 | .s x=>aZn x
 | .agg l=>by simp only [lJ,SV.aC,jZ]
 | .tup l=>by simp only [lJ,SV.aC,List.map_map,Function.comp_def,jZ]
 | .junk=>rfl
theorem bEK {π:List Nat} {fr fr':Fr} (h:bKH π fr fr'=true) (hf:aR ρ ι n fr a):aR ρ (piv π ι) n fr' a:=by
 have key:∀ t g x,look fr' t=some (g,x)→∃ y,look fr t=some (g,y)∧y.aC ρ ι=x.aC ρ (piv π ι):=fun t g x hl=>by
  obtain ⟨f,J,rfl⟩:=aHJ hl
  have M:=List.all_eq_true.1 h f J
  rw [hl] at M
  simp only at M
  split at M
  ·rename_i g' y hy
   simp only [Bool.and_eq_true,decide_eq_true_eq] at M
   obtain ⟨rfl,rfl⟩:=M
   exact ⟨_,hy,aAE x⟩
  ·cases M
 refine ⟨hf.size,hf.defers,fun t g x hl hg=>?_,fun t g x hl hg=>?_⟩
 ·obtain ⟨y,J,M⟩:=key t g x hl
  rw [hf.yes t g y J hg,M]
 ·obtain ⟨y,J,M⟩:=key t g x hl
  exact hf.no t g y J hg
theorem aDk {π:List Nat} {m:Mem}:∀ {l:Mem} {r:List Nat},tD π m l r=true→l.length=r.length∧∀ (i:Nat) (B:Blk),l[i]? = some B→∃ (p:Nat) (C:Blk),r[i]? = some p∧m[p]? = some C∧(B.dead=false→C.dead=false∧B.ty=C.ty∧(B.wr=true→C.wr=true)∧B.grow=C.grow∧cellsOf ρ (piv π ι) B.aH=cellsOf ρ ι C.aH)
 | [],[],_=>⟨rfl,fun i B h=>by simp at h⟩
 | B::l,p::r,h=>by
   simp only [tD,Bool.and_eq_true] at h
   obtain ⟨J,M⟩:=aDk h.2
   refine ⟨by simp [J],fun i D hD=>?_⟩
   cases i with
   | zero =>
     simp only [List.getElem?_cons_zero,Option.some.injEq] at hD;subst hD
     have U:=h.1
     split at U
     ·rename_i C hC
      refine ⟨p,C,rfl,hC,fun hd=>?_⟩
      rw [hd,Bool.false_or] at U
      simp only [Bool.and_eq_true,decide_eq_true_eq,Bool.or_eq_true,Bool.not_eq_true'] at U
      obtain ⟨⟨⟨⟨a1,a2⟩,a3⟩,a4⟩,a5⟩:=U
      exact ⟨a1,a2,fun hw=>by rcases a3 with h | h;(rw [hw] at h;cases h);exact h,a4,by rw [a5,jZ]⟩
     ·cases U
   | succ i=>simpa using M i D (by simpa using hD)
 | [],_::_,h=>by simp [tD] at h
 | _::_,[],h=>by simp [tD] at h
theorem aGz {K:Nat} {π:List Nat} {m head:Mem} (hK:β.k≤K) (h:aHY K π m head=true) (hm:aK ρ β ι m w):aK ρ β (piv π ι) head w:=by
 simp only [aHY,Bool.and_eq_true,decide_eq_true_eq] at h
 obtain ⟨⟨⟨⟨hnd,hid⟩,hlt⟩,hKh⟩,hb⟩:=h
 obtain ⟨hlen,hblk⟩:=aDk (ρ:=ρ) (ι:=ι) hb
 have hlt:∀ b ∈ π,b<m.length:=fun b hb=>by simpa using List.all_eq_true.1 hlt b hb
 have at_:∀ i,i<head.length→∃ p,π[i]? = some p∧p<m.length:=fun i hi=>by
  have hi':i<π.length:=by omega
  exact ⟨π[i],List.getElem?_eq_getElem hi',hlt _ (List.getElem_mem hi')⟩
 have id_:∀ i,i<K→π[i]? = some i:=fun i hi=>by
  have:=congrArg (fun l=>l[i]?) hid
  simp only [List.getElem?_take,if_pos hi,List.getElem?_range hi] at this
  exact this
 have back:∀ i j p,π[i]? = some p→π[j]? = some p→i=j:=fun i j p hi hj=>by
  have hi':=(List.getElem?_eq_some_iff.1 hi)
  have hj':=(List.getElem?_eq_some_iff.1 hj)
  exact (List.getElem_inj hnd).1 (hi'.2.trans hj'.2.symm)
 refine ⟨fun i j B D hB hD hBd hDd hBn hDn he=>?_,fun i B hB hBd hBn=>?_,fun i B hB hBd hBn=>?_,fun i hi=>?_,by omega,fun i J M=>?_,hm.size,fun b hb hi=>?_,hm.os,hm.tape,hm.output,hm.xt,fun i j a n c hv N k hk=>?_⟩
 ·obtain ⟨p,C,hp,hC,J⟩:=hblk i B hB
  obtain ⟨q,F,hq,hF,M⟩:=hblk j D hD
  rw [dE hp,dE hq] at he
  rw [(bN hp).2] at hBn
  rw [(bN hq).2] at hDn
  have:=hm.inj _ _ C F hC hF (J hBd).1 (M hDd).1 hBn hDn he
  subst this
  exact back i j p hp hq
 ·obtain ⟨p,C,hp,hC,J⟩:=hblk i B hB
  obtain ⟨hCd,ht,hw,hg,hc⟩:=J hBd
  rw [(bN hp).2] at hBn
  obtain ⟨fz,rest,k1,k2,k3,k4⟩:=hm.blk p C hC hCd hBn
  rw [(bN hp).1,dE hp,hc,ht,hg]
  exact ⟨fz,rest,k1,fun h=>k2 (hw h),k3,k4⟩
 ·obtain ⟨p,C,hp,hC,J⟩:=hblk i B hB
  obtain ⟨hCd,ht,hw,hg,hc⟩:=J hBd
  rw [(bN hp).2] at hBn
  rw [hg,hc];exact hm.nils p C hC hCd hBn
 ·have:=id_ i (by omega)
  rw [dE this,(bN this).1,(bN this).2];exact hm.agr i hi
 ·obtain ⟨p,hp,hp'⟩:=at_ i M
  rw [dE hp]
  rcases hm.new p (by
   by_cases hc:p<K
   ·have:=back i p p hp (id_ p hc)
    omega
   ·omega) hp' with hn | ⟨j,hj,hn⟩
  ·exact .inl hn
  ·exact .inr ⟨j,hj,by rw [dE (id_ j (by omega))];exact hn⟩
 ·refine hm.old b hb fun i hi' he=>?_
  by_cases hc:i ∈ π
  ·obtain ⟨j,hj,hj'⟩:=List.getElem_of_mem hc
   exact hi j (by omega) (by rw [dE (List.getElem?_eq_some_iff.2 ⟨hj,hj'⟩)];exact he)
  ·by_cases hk:i<β.k
   ·exact hc (List.mem_of_getElem? (id_ i (by omega)))
   ·rcases hm.new i (by omega) hi' with hn | ⟨j,hj,hn⟩
    ·omega
    ·exact hi j (by omega) (by rw [dE (id_ j (by omega)),← hn];exact he)
 ·obtain ⟨p,hp,hp'⟩:=at_ k hk
  rw [dE hp];exact hm.xd i j a n c hv N p hp'
def bBM (K:Nat) (fr:Fr) (m:Mem) (fr':Fr) (m':Mem):Prop:=∀ {ρ:Env} {β:dN} {ι:Loc} {n:Nat} {a:Act} {w:World},β.k≤K→aR ρ ι n fr a→aK ρ β ι m w→∃ ι',aR ρ ι' n fr' a∧aK ρ β ι' m' w
theorem bAU {K:Nat} {fr fr':Fr} {m m':Mem} (h:sameAs K fr m fr' m'=true):bBM K fr m fr' m':=by
 intro ρ β ι n a w hK hf hm
 unfold sameAs at h
 rw [Bool.or_eq_true] at h
 rcases h with h | h
 ·simp only [Bool.and_eq_true,decide_eq_true_eq] at h
  obtain ⟨h,rfl⟩:=h
  exact ⟨ι,bAV h hf,hm⟩
 ·simp only [aYo,Bool.and_eq_true] at h
  exact ⟨piv _ ι,bEK h.2 hf,aGz hK h.1.2 hm⟩
theorem aSj {K:Nat} {step:Nat→Option (List E × Hyp × Fr × Mem)}:∀ {l:List Nat} {nd:List E} {fr:Fr} {m:Mem},lW K step l=some (nd,fr,m)→∀ i ∈ l,∃ ndi Hi fri mi,step i=some (ndi,Hi,fri,mi)∧(∀ e ∈ ndi,e ∈ nd)∧bBM K fri mi fr m
 | [],_,_,_,h,_,hi=>by cases hi
 | [j],nd,fr,m,h,i,hi=>by
   simp only [List.mem_singleton] at hi;subst hi
   unfold lW at h
   split at h
   ·rename_i nd' H' fr' m' hs
    simp only [Option.some.injEq,Prod.mk.injEq] at h
    obtain ⟨rfl,rfl,rfl⟩:=h
    exact ⟨_,_,_,_,hs,fun e he=>he,fun _ hf hm=>⟨_,hf,hm⟩⟩
   ·cases h
 | j::k::l,nd,fr,m,h,i,hi=>by
   unfold lW at h
   split at h
   ·rename_i b5 H1 b3 m1 hs
    split at h
    ·rename_i b6 Y m2 hj
     split at h
     ·rename_i hc
      simp only [Option.some.injEq,Prod.mk.injEq] at h
      obtain ⟨rfl,rfl,rfl⟩:=h
      rcases List.mem_cons.1 hi with rfl | hi
      ·exact ⟨_,_,_,_,hs,fun e he=>List.mem_append_left _ he,bAU hc⟩
      ·obtain ⟨ndi,Hi,fri,mi,J,M,U⟩:=aSj hj i hi
       exact ⟨ndi,Hi,fri,mi,J,fun e he=>List.mem_append_right _ (M e he),U⟩
     ·cases h
    ·cases h
   ·cases h
theorem aYl {nx:Option (List Nat)→Array Bool→Hyp→Fr→Mem→List Nat} {I:Interp} (hΓ:cA P I Γ) (hI:ρ.I=I) (hsel:Region.noSelect ops=true) {Q:Exit→Act→World→Prop} (hQ:∀ c a w,¬ Q (.panic c) a w) :
 ∀ (k:Nat) {D L:List Nat} {listed:Array Bool} {H H':Hyp} {nd:List E} {fr fr':Fr} {m m':Mem} {ι:Loc} {a:Act} {w:World},pE P Γ n ops nx D k L listed H fr m=some (nd,H',fr',m') →
  H.ok ρ→bD ρ nd→aK ρ β ι m w→aR ρ ι n fr a→(∀ ι' a' w',H'.ok ρ→aR ρ ι' n fr' a'→aK ρ β ι' m' w'→Q .normal a' w') →
  fT P .any ops Q (cls ρ β ι D m L.head?) k listed a w:=by
 intro k
 induction k with
 | zero =>
   intro D L listed H H' nd fr fr' m m' ι a w h hH hn hm hf hK
   unfold pE at h
   split at h
   ·rename_i hr
    simp only [Option.some.injEq,Prod.mk.injEq] at h
    obtain ⟨rfl,rfl,rfl,rfl⟩:=h
    exact ⟨aAg hm _ _,hr,hK _ _ _ hH hf hm⟩
   ·cases h
 | succ k ih =>
   intro D L listed H H' nd fr fr' m m' ι a w h hH hn hm hf hK
   unfold pE at h
   simp only at h
   split at h
   ·rename_i hr
    simp only [Option.some.injEq,Prod.mk.injEq] at h
    obtain ⟨rfl,rfl,rfl,rfl⟩:=h
    exact aTr hr (aAg hm _ _) (hK _ _ _ hH hf hm) _
   ·split at h
    ·rename_i i b5 H1 b3 he
     split at h
     ·rename_i b6 q hd
      simp only [Option.some.injEq,Prod.mk.injEq] at h
      obtain ⟨rfl,rfl⟩:=h
      obtain ⟨hmem,hgi,o,ho,hfree,hea⟩:=gT he
      rcases hea with hea | ⟨hea,hx⟩
      ·obtain ⟨v,hy,d8,hf1⟩:=aSb (β:=β) hH hf hea (bZ hn).1
       exact wZ (K:=cls ρ β ι D m L.head?) (T:=[]) ho (Region.noSelect_spec hsel) hQ (fun t ht=>by cases ht) (fun S w _ hw=>aBd hw) (fun S w hw=>aVB hgi hw)
        k listed a w (Region.free_spec ho hfree) (fun t ht=>by cases ht) hmem hy (ih hd d8 (bZ hn).2 hm hf1 hK)
      ·obtain ⟨v,hy,d8,hf1⟩:=aSb (β:=β) hH hf hea (bZ hn).1
       refine wZ (K:=cls ρ β ι D m L.head?) (T:=desc .any ops listed i) ho (Region.noSelect_spec hsel) hQ (fun t ht=>(aYk t ht).2) (fun S w hS hw=>?_) (fun S w hw=>aVB hgi hw)
        k listed a w (Region.free_spec ho hfree) (fun t ht=>(aYk t ht).1) hmem hy (ih hd d8 (bZ hn).2 hm hf1 hK)
       unfold cls at hw
       split at hw
       ·exact hw
       ·rename_i x hgx
        have N:=hS x (hx x hgx)
        split at hw
        ·rename_i J
         rcases Nat.lt_or_ge x S.size with h' | h'
         ·simp [h'] at N J;rw [N] at J;cases J
         ·simp [Array.getElem?_eq_none h'] at J
        ·exact hw
     ·cases h
    ·split at h
     ·rename_i i x L' hr _
      split at h
      ·rename_i hix
       subst hix
       split at h
       ·rename_i o ho
        split at h
        ·rename_i b5 H1 b3 m1 J
         split at h
         ·rename_i hst
          simp only [Bool.and_eq_true] at hst
          split at h
          ·rename_i b6 q hd
           simp only [Option.some.injEq,Prod.mk.injEq] at h
           obtain ⟨rfl,rfl⟩:=h
           have hin:listed.getD i true=false:=(mem_ready.1 (by rw [hr];exact .head _:i ∈ Region.ready .any ops listed)).1
           have hlt:(listed.setIfInBounds i true).getD i false=true:=by
            rcases Nat.lt_or_ge i listed.size with h' | h'
            ·simp [h']
            ·simp [Array.getElem?_eq_none h'] at hin
           refine aTs hr (aAg hm _ _) ?_
           have hop:=lQ (β:=⟨w,m.length,ι⟩) (Q:=Q) hΓ hI J hH (bZ hn).1 hm.now hf
            (K:=fT P .any ops Q (cls ρ β ι D m (some i)) k (listed.setIfInBounds i true))
            (fun ι' a' w' hH' hf' hm'=>by
              have hag:Loc.bV m.length ι' ι:=hm'.agr
              have hs:=hm.since hm'
              refine fT.mono (x:=i) (fun S w2 hS M=>?_) _ _ _ _ hlt (ih hd hH' (bZ hn).2 hs hf' hK)
              unfold cls
              simp only [hS,if_true]
              exact wU hst.1 hst.2 hag.symm hm.len (aBd M))
           unfold wpOp
           simp only [ho]
           split
           ·rename_i hw;rw [if_pos hw] at hop;exact .inl hop
           ·rename_i hw;rw [if_neg hw] at hop;exact hop
          ·cases h
         ·cases h
        ·cases h
       ·cases h
      ·cases h
     ·rename_i x L' _ _
      split at h
      ·rename_i b5 b3 m1 hj
       simp only [Option.some.injEq,Prod.mk.injEq] at h
       obtain ⟨rfl,rfl,rfl,rfl⟩:=h
       refine ⟨aAg hm _ _,fun N=>?_,fun i hi=>?_⟩
       ·rw [N] at hj;simp [lW] at hj
       obtain ⟨ndi,Hi,fri,mi,hs,hsub,hfri⟩:=aSj hj i hi
       have hni:bD ρ ndi:=fun e he=>hn e (hsub e he)
       unfold aIw at hs
       split at hs
       ·rename_i o ho
        split at hs
        ·rename_i b6 H2 Y m2 J
         split at hs
         ·rename_i hst
          simp only [Bool.and_eq_true] at hst
          split at hs
          ·rename_i nd3 q hd
           simp only [Option.some.injEq,Prod.mk.injEq] at hs
           obtain ⟨rfl,rfl⟩:=hs
           have hin:listed.getD i true=false:=(mem_ready.1 hi).1
           have hlt:(listed.setIfInBounds i true).getD i false=true:=by
            rcases Nat.lt_or_ge i listed.size with h' | h'
            ·simp [h']
            ·simp [Array.getElem?_eq_none h'] at hin
           have hop:=lQ (β:=⟨w,m.length,ι⟩) (Q:=Q) hΓ hI J hH (bZ hni).1 hm.now hf
            (K:=fT P .any ops Q (cls ρ β ι D m (some x)) k (listed.setIfInBounds i true))
            (fun ι' a' w' hH' hf' hm'=>by
              have hag:Loc.bV m.length ι' ι:=hm'.agr
              have hs:=hm.since hm'
              refine fT.mono (x:=i) (fun S w2 hS M=>?_) _ _ _ _ hlt (ih hd hH' (bZ hni).2 hs hf' (fun ι2 a2 w2 _ hf2 hm2=>(by
               obtain ⟨ι3,hf3,hm3⟩:=hfri hm.len hf2 hm2
               exact hK ι3 a2 w2 hH hf3 hm3)))
              have W:=hst.1.1
              by_cases hix:i=x
              ·subst hix
               unfold cls
               simp only [hS,if_true]
               exact wU W hst.2 hag.symm hm.len (aBd M)
              ·have h4:=hst.1.2
               rw [Bool.or_eq_true,decide_eq_true_eq] at h4
               replace h4:=h4.resolve_left (by simp;exact fun h=>hix h.symm)
               rw [show ((x::L').erase i).head? = some x by rw [List.erase_cons_tail (by simp;exact fun h=>hix h.symm)];rfl] at M
               unfold cls at *
               simp only at M ⊢
               split
               ·rename_i hSx
                rw [if_pos hSx] at M
                exact wU W hst.2 hag.symm hm.len M
               ·rename_i hSx
                rw [if_neg hSx] at M
                have h5:=wU (D:=[]) (D':=[]) (m:=m) (m':=m2) h4 hst.2 hag.symm hm.len (by rw [aSm];exact M)
                rw [aSm] at h5
                exact h5)
           unfold wpOp
           simp only [ho]
           split
           ·rename_i hw;rw [if_pos hw] at hop;exact .inl hop
           ·rename_i hw;rw [if_neg hw] at hop;exact hop
          ·cases hs
         ·cases hs
        ·cases hs
       ·cases hs
      ·cases h
     ·cases h
theorem bAi {I:Interp} (hΓ:cA P I Γ) (hI:ρ.I=I) (hP:P.follows .mixedOrders=true) {id:Nat} {draw:Bool} {R:Act→World→Prop}
 {nd:List E} {H':Hyp} {fr':Fr} {m':Mem} (hr:mH P Γ n ops draw H fr m=some (nd,H',fr',m')) (hn:bD ρ nd) (hH:H.ok ρ) (hf:aR ρ ι n fr a) (hm:aK ρ β ι m w)
 (hk:∀ ι' a' w',H'.ok ρ→aR ρ ι' n fr' a'→aK ρ β ι' m' w'→R a' w'):(Code.region id ops draw).wp P (fun e a' w'=>e=.normal∧R a' w') a w:=by
 cases draw with
 | false =>
   exact wp_region_list (aIa hΓ hI ops.toList hr hH hn hm hf fun ι' a' w' hH' hf' hm'=>⟨rfl,hk _ _ _ hH' hf' hm'⟩)
 | true =>
   rcases pV hr with ⟨hB,hq⟩ | ⟨hsel,nx,D,L,hr⟩
   ·have hmem:=aDn _ hq
    subst hmem
    refine wp_region_quiet (C:=fun w=>aK ρ β ι m' w) hP hB (hm.drew _) ?_
    exact vF hΓ hI ops.toList hq hH hn hf fun a' hH' hf'=>fun w' hm'=>⟨rfl,hk _ _ _ hH' hf' hm'⟩
   ·exact wp_region_any hP (fT.any _ _ _ _ (aYl (Q:=fun e a' w'=>e=.normal∧R a' w') hΓ hI hsel (fun c a w hh=>by cases hh.1) ops.size hr hH hn (hm.drew _) hf fun ι' a' w' hH' hf' hm'=>⟨rfl,hk _ _ _ hH' hf' hm'⟩))
end
end Go.Sx
