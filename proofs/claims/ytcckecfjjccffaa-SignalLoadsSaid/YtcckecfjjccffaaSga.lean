/- Contracts of the signal chip: flags, sums, differences; conditions. No condition. -/
import Derived.Test.YtcckecfjjccffaaSxC
import Derived.Test.YtcckecfjjccffaaProg
namespace Go.Proofs.Ytcckecfjjccffaa
open Go.Sx Go.ChangeShapes Go.WideShapes Go.ChangeAt Go.RowKit
set_option linter.unusedVariables false
set_option linter.unusedSimpArgs false
set_option maxRecDepth 100000
noncomputable def SG:Ctx:=aHE Try.prog [] (ctx []) 3000 40 12
noncomputable def SGh:aV:=aCv Try.prog [] (ctx []) 3000 40 12
theorem vL (xs:Nat→Nat→Ext):cA Try.prog (Iv xs) SG:=nC (kP (fun p hp=>by cases hp)) (by kernel_rfl) 3000 40 12
theorem sgm:(∀ (ρ:Env) (n:Nat),E.i ρ (.v n)=ρ.i.getD n 0)∧(∀ (ρ:Env) (n:Nat),E.b ρ (.bv n)=ρ.b.getD n false)∧(∀ (ρ:Env) (z:Int),E.i ρ (.lit z)=z)∧(∀ (ρ:Env) (z:Bool),E.b ρ (.blit z)=z)∧(∀ (ρ:Env) (a b:E),E.i ρ (.add a b)=E.i ρ a+E.i ρ b)∧(∀ (ρ:Env) (a b:E),E.i ρ (.sub a b)=E.i ρ a-E.i ρ b)∧(∀ (ρ:Env) (a b:E),E.i ρ (.mul a b)=E.i ρ a*E.i ρ b)∧(∀ (ρ:Env) (a b:E),E.i ρ (.div a b)=E.i ρ a / E.i ρ b)∧(∀ (ρ:Env) (a b:E),E.i ρ (.mod a b)=E.i ρ a%E.i ρ b)∧(∀ (ρ:Env) (k:IntKind) (a:E),E.i ρ (.wrap k a)=k.wrap (E.i ρ a))∧(∀ (ρ:Env) (o:BinOp) (k:IntKind) (a b:E),E.i ρ (.bits o k a b)=aN o k (E.i ρ a) (E.i ρ b))∧(∀ (ρ:Env) (c a b:E),E.i ρ (.ite c a b)=if E.b ρ c=true then E.i ρ a else E.i ρ b)∧(∀ (ρ:Env) (c a b:E),E.b ρ (.ite c a b)=if E.b ρ c=true then E.b ρ a else E.b ρ b)∧(∀ (ρ:Env) (a b:E),E.i ρ (.sel a b)=E.a ρ a (E.i ρ b).toNat)∧(∀ (ρ:Env) (a b:E),E.b ρ (.lt a b)=decide (E.i ρ a<E.i ρ b))∧(∀ (ρ:Env) (a b:E),E.b ρ (.le a b)=decide (E.i ρ a≤E.i ρ b))∧(∀ (ρ:Env) (a b:E),E.b ρ (.eq a b)=decide (E.i ρ a=E.i ρ b))∧(∀ (ρ:Env) (a b:E),E.b ρ (.or a b)=(E.b ρ a||E.b ρ b))∧(∀ (ρ:Env) (a b:E),E.b ρ (.and a b)=(E.b ρ a&&E.b ρ b))∧(∀ (ρ:Env) (a:E),E.b ρ (.not a)=!(E.b ρ a))∧(∀ (ρ:Env) (a b:E),E.b ρ (.iff a b)=(E.b ρ a == E.b ρ b))∧(∀ (ρ:Env) (n:Nat),E.a ρ (.av n)=ρ.a.getD n (fun _=>0))∧(∀ (ρ:Env) (l:List Int) (j:Nat),E.a ρ (.tab l) j=l.getD j 0)∧(∀ (ρ:Env) (a i x:E) (j:Nat),E.a ρ (.upd a i x) j=if j=(E.i ρ i).toNat then E.i ρ x else E.a ρ a j):=by
 refine ⟨?_,?_,?_,?_,?_,?_,?_,?_,?_,?_,?_,?_,?_,?_,?_,?_,?_,?_,?_,?_,?_,?_,?_,?_⟩ <;> intros <;> first | rfl | exact aT _ _ _ _ | exact cR _ _ _ _ | simp [cC]
theorem sgn:(∀ p q:Bool,((p||q)=true)=(p=true∨q=true))∧(∀ p q:Bool,((p&&q)=true)=(p=true∧q=true))∧(∀ p:Bool,((!p)=true)=(p=false))∧(∀ p:Bool,((!p)=false)=(p=true))∧(∀ p q:Bool,((p||q)=false)=(p=false∧q=false))∧(∀ p q:Bool,((p&&q)=false)=(p=false∨q=false))∧(∀ (p:Prop) [Decidable p],(decide p=true)=p)∧(∀ (p:Prop) [Decidable p],(decide p=false)=¬ p)∧(∀ p q:Bool,((p == q)=true)=(p=true↔q=true))∧(∀ p q:Bool,((p == q)=false)=¬ (p=true↔q=true)):=by
 refine ⟨?_,?_,?_,?_,?_,?_,?_,?_,?_,?_⟩ <;> intros <;> first | (simp;done) | (rename_i p q;cases p <;> cases q <;> simp)
theorem xorS (q p:Int) (hq:0≤q∧q≤65535) (hp:0≤p∧p≤65535):(0≤aN .xor .u16 q p∧aN .xor .u16 q p≤65535)∧(32768≤aN .xor .u16 q p↔¬ (32768≤q↔32768≤p)):=by
 obtain ⟨n,rfl⟩:=Int.eq_ofNat_of_zero_le hq.1
 obtain ⟨m,rfl⟩:=Int.eq_ofNat_of_zero_le hp.1
 have h:=Go.Sx.bits_nat (k:=.u16) (by decide) (n:=n) (m:=m) (by omega) (by omega)
 have e:aN .xor .u16 (Int.ofNat n) (Int.ofNat m)=((n ^^^ m:Nat):Int):=h.2.2
 rw [show ((n:Nat):Int)=Int.ofNat n from rfl,show ((m:Nat):Int)=Int.ofNat m from rfl,e]
 have l:n ^^^ m<2 ^ 16:=Nat.xor_lt_two_pow (by omega) (by omega)
 have t:(n ^^^ m).testBit 15=(n.testBit 15 ^^ m.testBit 15):=Nat.testBit_xor ..
 have b:∀ x:Nat,x<65536→(x.testBit 15=decide (32768≤x)):=fun x hx=>by
  rw [Nat.testBit_eq_decide_div_mod_eq]
  congr 1
  apply propext
  omega
 rw [b n (by omega),b m (by omega),b _ (by omega)] at t
 refine ⟨⟨by omega,by omega⟩,?_⟩
 have t2:(32768≤n ^^^ m)↔¬ (32768≤n↔32768≤m):=by
  by_cases d:32768≤n <;> by_cases g:32768≤m <;> simp [d,g] at t ⊢ <;> exact t
 clear t b e h
 generalize n ^^^ m=x at l t2 ⊢
 simp only [Int.ofNat_eq_natCast]
 omega
theorem bGe (x:Int) (h:0≤x∧x≤63):aN .xor .u8 x 32=if x≤31 then x+32 else x-32:=by
 obtain ⟨n,rfl⟩:=Int.eq_ofNat_of_zero_le h.1
 have key:∀ n:_root_.Fin 64,aN .xor .u8 (n.val:Int) 32=if (n.val:Int)≤31 then (n.val:Int)+32 else (n.val:Int)-32:=by decide
 exact key ⟨n,by omega⟩
theorem wrap16 (x:Int) (h:0≤x∧x≤65535):IntKind.wrap .i16 x=if x≤32767 then x else x + -65536:=by
 show (if (true&&decide (x%65536 ≥ 32768))=true then x%65536-65536 else x%65536)=_
 rw [Int.emod_eq_of_lt h.1 (by omega)]
 by_cases hx:x≤32767
 ·rw [if_pos hx,if_neg (by simp;omega)]
 ·rw [if_neg hx,if_pos (by simp;omega)];omega
theorem tfloor (p n:Int) (hn:0<n):(if p.tmod n ≤ -1 then p.tdiv n + -1 else p.tdiv n)=p / n:=by
 have d:=Int.tdiv_eq_ediv (a:=p) (b:=n)
 have g:=Int.tmod_eq_emod (a:=p) (b:=n)
 have B:=Int.emod_nonneg p (show n ≠ 0 by omega)
 have h4:=Int.emod_lt_of_pos p hn
 have h5:n.sign=1:=Int.sign_eq_one_of_pos hn
 have h6:(n.natAbs:Int)=n:=by omega
 rw [d,g]
 by_cases hp:0≤p∨n ∣ p
 ·rw [if_pos hp,if_pos hp]
  rw [if_neg (by omega)];omega
 ·rw [if_neg hp,if_neg hp,h5,h6]
  rw [if_pos (by omega)];omega
theorem tmod_again (p n:Int):p.tmod n%n=p%n:=by
 have h:=Int.tmod_add_mul_tdiv p n
 conv=>rhs;rw [← h]
 rw [Int.add_mul_emod_self_left]
theorem hold1 (b:Int) (hb:b ∈ [1,2,4,8,16,(32:Int)]) (f:Int) (hf:0≤f∧f≤63) (m:Int) (hm:0≤m∧m≤1):((!decide (aN .and .u8 f b=0)) == !decide (m=0))=decide ((IntKind.wrap .i64 (f.tdiv b)).tmod 2=m):=by
 obtain ⟨n,rfl⟩:=Int.eq_ofNat_of_zero_le hf.1
 have k:∀ n:_root_.Fin 64,∀ m:_root_.Fin 2,((!decide (aN .and .u8 (n.val:Int) b=0)) == !decide ((m.val:Int)=0))=decide ((IntKind.wrap .i64 ((n.val:Int).tdiv b)).tmod 2=(m.val:Int)):=by
  simp only [List.mem_cons,List.not_mem_nil,or_false] at hb
  rcases hb with rfl | rfl | rfl | rfl | rfl | rfl <;> decide
 have:=k ⟨n,by omega⟩
 rcases (show m=0∨m=1 by omega) with rfl | rfl
 ·exact this 0
 ·exact this 1
def fa0:E:=.le (.v 2) (.lit 32767)
def fa1:E:=.ite fa0 (.lit 0) (.lit 1)
def fa2:E:=.le (.v 0) (.lit 31)
def fa3:E:=.le (.lit 32768) (.v 2)
def fa4:E:=.div (.v 0) (.lit 2)
def fa5:E:=.mod fa4 (.lit 2)
def fa6:E:=.eq fa5 (.lit 0)
def fa7:E:=.not fa6
def fa8:E:=.ite fa2 fa3 fa7
def fa9:E:=.ite fa8 (.lit 2) (.lit 0)
def fa10:E:=.add fa1 fa9
def fa11:E:=.ite (.bv 0) (.lit 4) (.lit 0)
def fa12:E:=.add fa10 fa11
def fa13:E:=.eq (.v 2) (.lit 0)
def fa14:E:=.ite fa13 (.lit 8) (.lit 0)
def fa15:E:=.add fa12 fa14
def fa16:E:=.ite (.bv 1) (.lit 16) (.lit 0)
def fa17:E:=.add fa15 fa16
def fa18:E:=.le (.lit 32) (.v 0)
def fa19:E:=.ite (.bv 1) fa2 fa18
def fa20:E:=.ite fa19 (.lit 32) (.lit 0)
def bNf:E:=.add fa17 fa20
def gaH:Hyp:=⟨[(.v 0,(0,63)),(.v 1,(4,9)),(.v 2,(0,65535))],[],[],[],[],[]⟩
def gaL:List SV:=[.s (.int .u8 (.v 0)),.s (.int .u8 (.v 1)),.agg [.one (.int .u16 (.v 2)),.one (.bool (.bv 0)),.one (.bool (.bv 1))]]
def gaS:Go.Sx.Spec:=aCI (fK 3 2 0 gaL []) gaH gaL [] [] (.s (.int .u8 bNf))
def ga0:E:=.le (.v 2) (.lit 32767)
def ga1:E:=.div (.v 0) (.lit 32)
def ga2:E:=.mul ga1 (.lit 32)
def ga3:E:=.div (.v 0) (.lit 2)
def ga4:E:=.mod ga3 (.lit 2)
def ga5:E:=.mul ga4 (.lit 2)
def ga6:E:=.add ga2 ga5
def ga7:E:=.le ga6 (.lit 31)
def ga8:E:=.add ga2 (.lit 2)
def ga9:E:=.ite ga0 ga2 ga8
def ga10:E:=.ite ga7 ga9 ga6
def ga11:E:=.div ga10 (.lit 2)
def bNk:E:=.mul ga11 (.lit 2)
def ga13:E:=.add bNk (.lit 1)
def bGZ:E:=.ite ga0 bNk ga13
def ga15:E:=.div bGZ (.lit 16)
def ga16:E:=.mul ga15 (.lit 16)
def ga17:E:=.mod bGZ (.lit 8)
def ga18:E:=.add ga16 ga17
def ga19:E:=.eq (.v 2) (.lit 0)
def bNl:E:=.ite ga19 (.lit 8) (.lit 0)
def ga21:E:=.add ga18 bNl
def ga22:E:=.div ga21 (.lit 8)
def ga23:E:=.mul ga22 (.lit 8)
def ga24:E:=.add bGZ bNl
def ga25:E:=.mod ga24 (.lit 4)
def ga26:E:=.add ga23 ga25
def ga27:E:=.ite (.bv 0) (.lit 4) (.lit 0)
def bNm:E:=.add ga26 ga27
def ga29:E:=.div bNm (.lit 32)
def ga30:E:=.mul ga29 (.lit 32)
def ga31:E:=.mod bNm (.lit 16)
def ga32:E:=.add ga30 ga31
def ga33:E:=.ite (.bv 1) (.lit 16) (.lit 0)
def bNn:E:=.add ga32 ga33
def ga35:E:=.bits .xor .u8 bNn (.lit 32)
def bNo:E:=.ite (.bv 1) ga35 bNn
theorem garun:enter Try.prog SG SGh 3000 40 74 gaH gaL []=some ([],.s (.int .u8 bNo),none):=by kernel_rfl
set_option maxHeartbeats 4000000 in
theorem gaeq (xs:Nat→Nat→Ext) (ρ:Env) (hI:ρ.I=Iv xs) (hz:eF ρ 3 2 0) (hH:gaH.ok ρ) (hn:bD ρ []):bD ρ []∧VEq ρ ρ (.s (.int .u8 bNo)) (.s (.int .u8 bNf))∧aEc ρ none none:=by
 refine ⟨hn,?_,trivial⟩
 have r:=hH.e (.v 0,(0,63)) (by simp [gaH])
 have u:=hH.e (.v 1,(4,9)) (by simp [gaH])
 have w:=hH.e (.v 2,(0,65535)) (by simp [gaH])
 simp only [inR,i_v] at r u w
 simp only [VEq,SEq]
 refine ⟨trivial,?_⟩
 generalize y:ρ.b.getD 0 false=D at *
 generalize A:ρ.b.getD 1 false=F at *
 cases D <;> cases F
 all_goals
  simp only [ga0,ga1,ga2,ga3,ga4,ga5,ga6,ga7,ga8,ga9,ga10,ga11,bNk,ga13,bGZ,ga15,ga16,ga17,ga18,ga19,bNl,ga21,ga22,ga23,ga24,ga25,ga26,ga27,bNm,ga29,ga30,ga31,ga32,ga33,bNn,ga35,bNo,fa0,fa1,fa2,fa3,fa4,fa5,fa6,fa7,fa8,fa9,fa10,fa11,fa12,fa13,fa14,fa15,fa16,fa17,fa18,fa19,fa20,bNf,sgm,sgn,y,A]
  simp only [Bool.false_eq_true,if_true,if_false,true_and,and_true,false_and,and_false,not_true,not_false_iff,true_or,or_true,false_or,or_false]
  generalize ρ.i.getD 0 0=x at *
  generalize ρ.i.getD 2 0=v at *
  rcases (show v=0∨(1≤v∧v≤32767)∨32768≤v by omega) with d | d | d
  all_goals rcases (show x≤31∨32≤x by omega) with g | g
  all_goals rcases (show x / 2%2=0∨x / 2%2=1 by omega) with B | B
  all_goals simp (disch:=omega) only [if_pos,if_neg]
  all_goals (try simp only [sgn])
  all_goals (try simp (disch:=omega) only [if_pos,if_neg])
  all_goals first
   | omega
   | (rw [bGe _ (by omega)];(try simp (disch:=omega) only [if_pos,if_neg]);omega)
theorem gaok (xs:Nat→Nat→Ext):aX Try.prog (Iv xs) 74 gaS:=rG (fB (qT (fI.of (bS (vL xs) (by kernel_rfl) 3000 40)) garun rfl rfl (gaeq xs)) (dT _ _ _ _ _ _))
def fb0:E:=.le (.v 2) (.lit 32767)
def fb1:E:=.ite fb0 (.lit 0) (.lit 1)
def fb2:E:=.le (.v 0) (.lit 31)
def fb3:E:=.le (.lit 32768) (.v 2)
def fb4:E:=.div (.v 0) (.lit 2)
def fb5:E:=.mod fb4 (.lit 2)
def fb6:E:=.eq fb5 (.lit 0)
def fb7:E:=.not fb6
def fb8:E:=.ite fb2 fb3 fb7
def fb9:E:=.ite fb8 (.lit 2) (.lit 0)
def fb10:E:=.add fb1 fb9
def fb11:E:=.ite (.bv 0) (.lit 4) (.lit 0)
def fb12:E:=.add fb10 fb11
def fb13:E:=.eq (.v 2) (.lit 0)
def fb14:E:=.ite fb13 (.lit 8) (.lit 0)
def bNg:E:=.add fb12 fb14
def gbH:Hyp:=⟨[(.v 0,(0,63)),(.v 1,(1,3)),(.v 2,(0,65535))],[],[],[],[],[]⟩
def gbL:List SV:=[.s (.int .u8 (.v 0)),.s (.int .u8 (.v 1)),.agg [.one (.int .u16 (.v 2)),.one (.bool (.bv 0)),.one (.bool (.bv 1))]]
def gbS:Go.Sx.Spec:=aCI (fK 3 2 0 gbL []) gbH gbL [] [] (.s (.int .u8 bNg))
def gb0:E:=.le (.v 2) (.lit 32767)
def gb1:E:=.div (.v 0) (.lit 32)
def gb2:E:=.mul gb1 (.lit 32)
def gb3:E:=.div (.v 0) (.lit 2)
def gb4:E:=.mod gb3 (.lit 2)
def gb5:E:=.mul gb4 (.lit 2)
def gb6:E:=.add gb2 gb5
def gb7:E:=.le gb6 (.lit 31)
def gb8:E:=.add gb2 (.lit 2)
def gb9:E:=.ite gb0 gb2 gb8
def gb10:E:=.ite gb7 gb9 gb6
def gb11:E:=.div gb10 (.lit 2)
def bNp:E:=.mul gb11 (.lit 2)
def gb13:E:=.add bNp (.lit 1)
def bHa:E:=.ite gb0 bNp gb13
def gb15:E:=.div bHa (.lit 16)
def gb16:E:=.mul gb15 (.lit 16)
def gb17:E:=.mod bHa (.lit 8)
def gb18:E:=.add gb16 gb17
def gb19:E:=.eq (.v 2) (.lit 0)
def bNq:E:=.ite gb19 (.lit 8) (.lit 0)
def gb21:E:=.add gb18 bNq
def gb22:E:=.div gb21 (.lit 8)
def gb23:E:=.mul gb22 (.lit 8)
def gb24:E:=.add bHa bNq
def gb25:E:=.mod gb24 (.lit 4)
def gb26:E:=.add gb23 gb25
def gb27:E:=.ite (.bv 0) (.lit 4) (.lit 0)
def bNr:E:=.add gb26 gb27
def gb29:E:=.div bNr (.lit 64)
def gb30:E:=.mul gb29 (.lit 64)
def gb31:E:=.mod bNr (.lit 16)
def bNs:E:=.add gb30 gb31
theorem gbrun:enter Try.prog SG SGh 3000 40 74 gbH gbL []=some ([],.s (.int .u8 bNs),none):=by kernel_rfl
set_option maxHeartbeats 4000000 in
theorem gbeq (xs:Nat→Nat→Ext) (ρ:Env) (hI:ρ.I=Iv xs) (hz:eF ρ 3 2 0) (hH:gbH.ok ρ) (hn:bD ρ []):bD ρ []∧VEq ρ ρ (.s (.int .u8 bNs)) (.s (.int .u8 bNg))∧aEc ρ none none:=by
 refine ⟨hn,?_,trivial⟩
 have r:=hH.e (.v 0,(0,63)) (by simp [gbH])
 have u:=hH.e (.v 1,(1,3)) (by simp [gbH])
 have w:=hH.e (.v 2,(0,65535)) (by simp [gbH])
 simp only [inR,i_v] at r u w
 simp only [VEq,SEq]
 refine ⟨trivial,?_⟩
 generalize y:ρ.b.getD 0 false=D at *
 generalize A:ρ.b.getD 1 false=F at *
 cases D <;> cases F
 all_goals
  simp only [gb0,gb1,gb2,gb3,gb4,gb5,gb6,gb7,gb8,gb9,gb10,gb11,bNp,gb13,bHa,gb15,gb16,gb17,gb18,gb19,bNq,gb21,gb22,gb23,gb24,gb25,gb26,gb27,bNr,gb29,gb30,gb31,bNs,fb0,fb1,fb2,fb3,fb4,fb5,fb6,fb7,fb8,fb9,fb10,fb11,fb12,fb13,fb14,bNg,sgm,sgn,y,A]
  simp only [Bool.false_eq_true,if_true,if_false,true_and,and_true,false_and,and_false,not_true,not_false_iff,true_or,or_true,false_or,or_false]
  generalize ρ.i.getD 0 0=x at *
  generalize ρ.i.getD 2 0=v at *
  rcases (show v=0∨(1≤v∧v≤32767)∨32768≤v by omega) with d | d | d
  all_goals rcases (show x≤31∨32≤x by omega) with g | g
  all_goals rcases (show x / 2%2=0∨x / 2%2=1 by omega) with B | B
  all_goals simp (disch:=omega) only [if_pos,if_neg]
  all_goals (try simp only [sgn])
  all_goals (try simp (disch:=omega) only [if_pos,if_neg])
  all_goals first
   | omega
   | (rw [bGe _ (by omega)];(try simp (disch:=omega) only [if_pos,if_neg]);omega)
theorem gbok (xs:Nat→Nat→Ext):aX Try.prog (Iv xs) 74 gbS:=rG (fB (qT (fI.of (bS (vL xs) (by kernel_rfl) 3000 40)) gbrun rfl rfl (gbeq xs)) (dT _ _ _ _ _ _))
def fc0:E:=.le (.v 2) (.lit 32767)
def fc1:E:=.ite fc0 (.lit 0) (.lit 1)
def fc2:E:=.le (.v 0) (.lit 31)
def fc3:E:=.le (.lit 32768) (.v 2)
def fc4:E:=.div (.v 0) (.lit 2)
def fc5:E:=.mod fc4 (.lit 2)
def fc6:E:=.eq fc5 (.lit 0)
def fc7:E:=.not fc6
def fc8:E:=.ite fc2 fc3 fc7
def fc9:E:=.ite fc8 (.lit 2) (.lit 0)
def fc10:E:=.add fc1 fc9
def fc11:E:=.ite (.bv 0) (.lit 4) (.lit 0)
def fc12:E:=.add fc10 fc11
def fc13:E:=.eq (.v 2) (.lit 0)
def fc14:E:=.ite fc13 (.lit 8) (.lit 0)
def bNh:E:=.add fc12 fc14
def gcH:Hyp:=⟨[(.v 0,(0,63)),(.v 1,(10,15)),(.v 2,(0,65535))],[],[],[],[],[]⟩
def gcL:List SV:=[.s (.int .u8 (.v 0)),.s (.int .u8 (.v 1)),.agg [.one (.int .u16 (.v 2)),.one (.bool (.bv 0)),.one (.bool (.bv 1))]]
def gcS:Go.Sx.Spec:=aCI (fK 3 2 0 gcL []) gcH gcL [] [] (.s (.int .u8 bNh))
def gc0:E:=.le (.v 2) (.lit 32767)
def gc1:E:=.div (.v 0) (.lit 32)
def gc2:E:=.mul gc1 (.lit 32)
def gc3:E:=.div (.v 0) (.lit 2)
def gc4:E:=.mod gc3 (.lit 2)
def gc5:E:=.mul gc4 (.lit 2)
def gc6:E:=.add gc2 gc5
def gc7:E:=.le gc6 (.lit 31)
def gc8:E:=.add gc2 (.lit 2)
def gc9:E:=.ite gc0 gc2 gc8
def gc10:E:=.ite gc7 gc9 gc6
def gc11:E:=.div gc10 (.lit 2)
def bNt:E:=.mul gc11 (.lit 2)
def gc13:E:=.add bNt (.lit 1)
def bHb:E:=.ite gc0 bNt gc13
def gc15:E:=.div bHb (.lit 16)
def gc16:E:=.mul gc15 (.lit 16)
def gc17:E:=.mod bHb (.lit 8)
def gc18:E:=.add gc16 gc17
def gc19:E:=.eq (.v 2) (.lit 0)
def bNu:E:=.ite gc19 (.lit 8) (.lit 0)
def gc21:E:=.add gc18 bNu
def gc22:E:=.div gc21 (.lit 8)
def gc23:E:=.mul gc22 (.lit 8)
def gc24:E:=.add bHb bNu
def gc25:E:=.mod gc24 (.lit 4)
def gc26:E:=.add gc23 gc25
def gc27:E:=.ite (.bv 0) (.lit 4) (.lit 0)
def bNv:E:=.add gc26 gc27
def gc29:E:=.div bNv (.lit 64)
def gc30:E:=.mul gc29 (.lit 64)
def gc31:E:=.mod bNv (.lit 16)
def bNw:E:=.add gc30 gc31
theorem gcrun:enter Try.prog SG SGh 3000 40 74 gcH gcL []=some ([],.s (.int .u8 bNw),none):=by kernel_rfl
set_option maxHeartbeats 4000000 in
theorem gceq (xs:Nat→Nat→Ext) (ρ:Env) (hI:ρ.I=Iv xs) (hz:eF ρ 3 2 0) (hH:gcH.ok ρ) (hn:bD ρ []):bD ρ []∧VEq ρ ρ (.s (.int .u8 bNw)) (.s (.int .u8 bNh))∧aEc ρ none none:=by
 refine ⟨hn,?_,trivial⟩
 have r:=hH.e (.v 0,(0,63)) (by simp [gcH])
 have u:=hH.e (.v 1,(10,15)) (by simp [gcH])
 have w:=hH.e (.v 2,(0,65535)) (by simp [gcH])
 simp only [inR,i_v] at r u w
 simp only [VEq,SEq]
 refine ⟨trivial,?_⟩
 generalize y:ρ.b.getD 0 false=D at *
 generalize A:ρ.b.getD 1 false=F at *
 cases D <;> cases F
 all_goals
  simp only [gc0,gc1,gc2,gc3,gc4,gc5,gc6,gc7,gc8,gc9,gc10,gc11,bNt,gc13,bHb,gc15,gc16,gc17,gc18,gc19,bNu,gc21,gc22,gc23,gc24,gc25,gc26,gc27,bNv,gc29,gc30,gc31,bNw,fc0,fc1,fc2,fc3,fc4,fc5,fc6,fc7,fc8,fc9,fc10,fc11,fc12,fc13,fc14,bNh,sgm,sgn,y,A]
  simp only [Bool.false_eq_true,if_true,if_false,true_and,and_true,false_and,and_false,not_true,not_false_iff,true_or,or_true,false_or,or_false]
  generalize ρ.i.getD 0 0=x at *
  generalize ρ.i.getD 2 0=v at *
  rcases (show v=0∨(1≤v∧v≤32767)∨32768≤v by omega) with d | d | d
  all_goals rcases (show x≤31∨32≤x by omega) with g | g
  all_goals rcases (show x / 2%2=0∨x / 2%2=1 by omega) with B | B
  all_goals simp (disch:=omega) only [if_pos,if_neg]
  all_goals (try simp only [sgn])
  all_goals (try simp (disch:=omega) only [if_pos,if_neg])
  all_goals first
   | omega
   | (rw [bGe _ (by omega)];(try simp (disch:=omega) only [if_pos,if_neg]);omega)
theorem gcok (xs:Nat→Nat→Ext):aX Try.prog (Iv xs) 74 gcS:=rG (fB (qT (fI.of (bS (vL xs) (by kernel_rfl) 3000 40)) gcrun rfl rfl (gceq xs)) (dT _ _ _ _ _ _))
def sa0:E:=.add (.v 0) (.v 1)
def sa1:E:=.add sa0 (.v 2)
def sa2:E:=.mod sa1 (.lit 65536)
def sa3:E:=.le (.lit 65536) sa1
def sa4:E:=.le (.v 0) (.lit 32767)
def sa5:E:=.add (.v 0) (.lit (-65536))
def sa6:E:=.ite sa4 (.v 0) sa5
def sa7:E:=.le (.v 1) (.lit 32767)
def sa8:E:=.add (.v 1) (.lit (-65536))
def sa9:E:=.ite sa7 (.v 1) sa8
def bOX:E:=.add sa6 sa9
def sa11:E:=.le (.lit 32768) bOX
def sa12:E:=.le bOX (.lit (-32769))
def bOY:E:=.or sa11 sa12
def saH:Hyp:=⟨[(.v 0,(0,65535)),(.v 1,(0,65535)),(.v 2,(0,1))],[],[],[],[],[]⟩
def saL:List SV:=[.s (.int .u16 (.v 0)),.s (.int .u16 (.v 1)),.s (.int .u16 (.v 2))]
def saS:Go.Sx.Spec:=aCI (fK 3 0 0 saL []) saH saL [] [] (.agg [.one (.int .u16 sa2),.one (.bool sa3),.one (.bool bOY)])
def bOZ:E:=.add (.v 0) (.v 1)
def bPa:E:=.add bOZ (.v 2)
def bPb:E:=.mod bPa (.lit 65536)
def bPc:E:=.le (.lit 65536) bPa
def sax4:E:=.bits .xor .u16 (.v 0) (.v 1)
def sax5:E:=.sub (.lit 65535) sax4
def sax6:E:=.le sax5 (.lit 32767)
def sax7:E:=.le (.lit 32768) (.v 0)
def sax8:E:=.div bOZ (.lit 32768)
def sax9:E:=.mod sax8 (.lit 2)
def bKJ:E:=.eq sax9 (.lit 0)
def bKK:E:=.not bKJ
def bKL:E:=.iff sax7 bKK
def bKM:E:=.or sax6 bKL
def bKN:E:=.ite bKM (.lit 0) (.lit 32768)
def bKO:E:=.eq bKN (.lit 0)
def bET:E:=.not bKO
theorem sarun:enter Try.prog SG SGh 3000 40 103 saH saL []=some ([],.agg [.one (.int .u16 bPb),.one (.bool bPc),.one (.bool bET)],none):=by kernel_rfl
set_option maxHeartbeats 4000000 in
theorem saeq (xs:Nat→Nat→Ext) (ρ:Env) (hI:ρ.I=Iv xs) (hz:eF ρ 3 0 0) (hH:saH.ok ρ) (hn:bD ρ []):bD ρ []∧VEq ρ ρ (.agg [.one (.int .u16 bPb),.one (.bool bPc),.one (.bool bET)]) (.agg [.one (.int .u16 sa2),.one (.bool sa3),.one (.bool bOY)])∧aEc ρ none none:=by
 refine ⟨hn,?_,trivial⟩
 have r:=hH.e (.v 0,(0,65535)) (by simp [saH])
 have u:=hH.e (.v 1,(0,65535)) (by simp [saH])
 have w:=hH.e (.v 2,(0,1)) (by simp [saH])
 simp only [inR,i_v] at r u w
 simp only [VEq,nI,aAP,SEq]
 have hx:=xorS (ρ.i.getD 0 0) (ρ.i.getD 1 0) r u
 refine ⟨⟨trivial,?_⟩,?_,?_,trivial⟩
 all_goals try simp only [bOZ,bPa,bPb,bPc,sax4,sax5,sax6,sax7,sax8,sax9,bKJ,bKK,bKL,bKM,bKN,bKO,bET,sa0,sa1,sa2,sa3,sa4,sa5,sa6,sa7,sa8,sa9,bOX,sa11,sa12,bOY,sgm,sgn]
 all_goals
  (try rw [Bool.eq_iff_iff])
  (try simp only [sgn])
  generalize ρ.i.getD 0 0=q at *
  generalize ρ.i.getD 1 0=p at *
  generalize ρ.i.getD 2 0=c at *
  generalize aN BinOp.xor IntKind.u16 q p=x at *
  rcases (show q≤32767∨32768≤q by omega) with d | d
  all_goals rcases (show p≤32767∨32768≤p by omega) with g | g
  all_goals first
   | omega
   | (have B:¬ (32768≤q)↔q≤32767:=by omega
      have h4:¬ (32768≤p)↔p≤32767:=by omega
      simp [d,g,show ¬ (32768≤q)↔q≤32767 by omega]
      omega)
theorem saok (xs:Nat→Nat→Ext):aX Try.prog (Iv xs) 103 saS:=rG (fB (qT (fI.of (bS (vL xs) (by kernel_rfl) 3000 40)) sarun rfl rfl (saeq xs)) (dT _ _ _ _ _ _))
def la0:E:=.sub (.v 0) (.v 1)
def la1:E:=.sub la0 (.v 2)
def la2:E:=.mod la1 (.lit 65536)
def la3:E:=.add (.v 1) (.v 2)
def la4:E:=.lt (.v 0) la3
def la5:E:=.le (.v 0) (.lit 32767)
def la6:E:=.add (.v 0) (.lit (-65536))
def la7:E:=.ite la5 (.v 0) la6
def la8:E:=.le (.v 1) (.lit 32767)
def la9:E:=.add (.v 1) (.lit (-65536))
def la10:E:=.ite la8 (.v 1) la9
def bNT:E:=.sub la7 la10
def la12:E:=.le (.lit 32768) bNT
def la13:E:=.le bNT (.lit (-32769))
def bNU:E:=.or la12 la13
def laH:Hyp:=⟨[(.v 0,(0,65535)),(.v 1,(0,65535)),(.v 2,(0,1))],[],[],[],[],[]⟩
def laL:List SV:=[.s (.int .u16 (.v 0)),.s (.int .u16 (.v 1)),.s (.int .u16 (.v 2))]
def laS:Go.Sx.Spec:=aCI (fK 3 0 0 laL []) laH laL [] [] (.agg [.one (.int .u16 la2),.one (.bool la4),.one (.bool bNU)])
def bNV:E:=.sub (.v 0) (.v 1)
def lax1:E:=.sub bNV (.v 2)
def bNW:E:=.mod lax1 (.lit 65536)
def lax3:E:=.add (.v 1) (.v 2)
def bNX:E:=.lt (.v 0) lax3
def bNY:E:=.le (.lit 32768) (.v 0)
def lax6:E:=.le (.lit 32768) (.v 1)
def lax7:E:=.iff bNY lax6
def lax8:E:=.div bNV (.lit 32768)
def lax9:E:=.mod lax8 (.lit 2)
def bKr:E:=.eq lax9 (.lit 0)
def bKs:E:=.not bKr
def bKt:E:=.iff bNY bKs
def bKu:E:=.or lax7 bKt
def bKv:E:=.ite bKu (.lit 0) (.lit 32768)
def bKw:E:=.eq bKv (.lit 0)
def bDJ:E:=.not bKw
theorem larun:enter Try.prog SG SGh 3000 40 101 laH laL []=some ([],.agg [.one (.int .u16 bNW),.one (.bool bNX),.one (.bool bDJ)],none):=by kernel_rfl
set_option maxHeartbeats 4000000 in
theorem laeq (xs:Nat→Nat→Ext) (ρ:Env) (hI:ρ.I=Iv xs) (hz:eF ρ 3 0 0) (hH:laH.ok ρ) (hn:bD ρ []):bD ρ []∧VEq ρ ρ (.agg [.one (.int .u16 bNW),.one (.bool bNX),.one (.bool bDJ)]) (.agg [.one (.int .u16 la2),.one (.bool la4),.one (.bool bNU)])∧aEc ρ none none:=by
 refine ⟨hn,?_,trivial⟩
 have r:=hH.e (.v 0,(0,65535)) (by simp [laH])
 have u:=hH.e (.v 1,(0,65535)) (by simp [laH])
 have w:=hH.e (.v 2,(0,1)) (by simp [laH])
 simp only [inR,i_v] at r u w
 simp only [VEq,nI,aAP,SEq]
 have hx:=xorS (ρ.i.getD 0 0) (ρ.i.getD 1 0) r u
 refine ⟨⟨trivial,?_⟩,?_,?_,trivial⟩
 all_goals try simp only [bNV,lax1,bNW,lax3,bNX,bNY,lax6,lax7,lax8,lax9,bKr,bKs,bKt,bKu,bKv,bKw,bDJ,la0,la1,la2,la3,la4,la5,la6,la7,la8,la9,la10,bNT,la12,la13,bNU,sgm,sgn]
 all_goals
  (try rw [Bool.eq_iff_iff])
  (try simp only [sgn])
  generalize ρ.i.getD 0 0=q at *
  generalize ρ.i.getD 1 0=p at *
  generalize ρ.i.getD 2 0=c at *
  generalize aN BinOp.xor IntKind.u16 q p=x at *
  rcases (show q≤32767∨32768≤q by omega) with d | d
  all_goals rcases (show p≤32767∨32768≤p by omega) with g | g
  all_goals first
   | omega
   | (have B:¬ (32768≤q)↔q≤32767:=by omega
      have h4:¬ (32768≤p)↔p≤32767:=by omega
      simp [d,g,show ¬ (32768≤q)↔q≤32767 by omega]
      omega)
theorem laok (xs:Nat→Nat→Ext):aX Try.prog (Iv xs) 101 laS:=rG (fB (qT (fI.of (bS (vL xs) (by kernel_rfl) 3000 40)) larun rfl rfl (laeq xs)) (dT _ _ _ _ _ _))
def hd0:E:=.eq (.v 16) (.lit 256)
def hd1:E:=.eq (.v 16) (.lit 320)
def hd2:E:=.ite hd0 hd0 hd1
def hd3:E:=.le (.v 16) (.lit 127)
def hd4:E:=.or hd2 hd3
def hd5:E:=.le (.lit 175) (.v 16)
def hd6:E:=.or hd4 hd5
def hd7:E:=.eq (.v 16) (.lit 176)
def hd8:E:=.or hd6 hd7
def hd9:E:=.eq (.v 16) (.lit 177)
def hd10:E:=.or hd8 hd9
def bNC:E:=.eq (.v 16) (.lit 178)
def hd12:E:=.or hd10 bNC
def bND:E:=.eq (.v 16) (.lit 179)
def hd14:E:=.or hd12 bND
def bNE:E:=.eq (.v 16) (.lit 188)
def hd16:E:=.or hd14 bNE
def bNF:E:=.eq (.v 16) (.lit 190)
def hd18:E:=.or hd16 bNF
def hd19:E:=.mod (.v 16) (.lit 2)
def bNG:E:=.eq hd19 (.lit 0)
def hd21:E:=.not bNG
def hd22:E:=.or hd18 hd21
def hd23:E:=.div (.v 16) (.lit 8)
def hd24:E:=.add hd23 (.lit (-16))
def bNH:E:=.sel (.tab [4,8,16,32,1,2]) hd24
def hd26:E:=.eq bNH (.lit 0)
def hd27:E:=.not hd26
def hd28:E:=.or hd22 hd27
def bNI:E:=.mod (.v 5) (.lit 16)
def bNJ:E:=.eq bNI (.lit 0)
def hd31:E:=.not bNJ
def bNK:E:=.eq bNI (.lit 15)
def hd33:E:=.not bNK
def hd34:E:=.le (.v 12) (.lit 32767)
def hd35:E:=.le (.lit 32768) (.v 12)
def hd36:E:=.le (.v 16) (.lit 174)
def hd37:E:=.le (.lit 128) (.v 16)
def hd38:E:=.and hd36 hd37
def hd39:E:=.and hd38 bNG
def hd40:E:=.div (.v 16) (.lit 4)
def hd41:E:=.mod hd40 (.lit 2)
def hd42:E:=.eq hd41 (.lit 0)
def hd43:E:=.ite hd42 (.v 13) (.v 14)
def hd44:E:=.tdiv hd43 bNH
def hd45:E:=.wrap .i64 hd44
def hd46:E:=.tmod hd45 (.lit 2)
def hd47:E:=.div (.v 16) (.lit 2)
def hd48:E:=.mod hd47 (.lit 2)
def hd49:E:=.eq hd46 hd48
def hd50:E:=.and hd39 hd49
def hd51:E:=.or hd2 hd50
def hd52:E:=.ite bNF hd35 hd51
def hd53:E:=.ite bNE hd34 hd52
def hd54:E:=.ite bND hd33 hd53
def hd55:E:=.ite bNC bNK hd54
def hd56:E:=.ite hd9 hd31 hd55
def bCR:E:=.ite hd7 bNJ hd56
def hcH:Hyp:=⟨[(.v 0,(0,2047)),(.v 1,(0,65535)),(.v 2,(0,65535)),(.v 3,(0,65535)),(.v 4,(0,65535)),(.v 5,(0,255)),(.v 6,(0,1023)),(.v 7,(0,65535)),(.v 8,(0,65535)),(.v 9,(0,65535)),(.v 10,(0,65535)),(.v 11,(0,65535)),(.v 12,(0,65535)),(.v 13,(0,63)),(.v 14,(0,63)),(.v 15,(0,3)),(.v 16,(0,511))],[(0,(0,255)),(1,(0,2047)),(2,(0,65535))],[],[],[],[]⟩
def hcL:List SV:=[.s (.ptr 1 (.lit 0)),.s (.int .u16 (.v 16))]
def hcM:Mem:=[⟨5,[.run .u8 (.lit 8192) (.av 0) 0],true,some 1,false⟩,⟨81,[.one (.int .u16 (.v 0)),.one (.int .u16 (.v 1)),.one (.int .u16 (.v 2)),.one (.int .u16 (.v 3)),.one (.int .u16 (.v 4)),.one (.int .u16 (.v 5)),.one (.int .u16 (.v 6)),.one (.int .u16 (.v 7)),.one (.int .u16 (.v 8)),.one (.int .u16 (.v 9)),.one (.int .u16 (.v 10)),.one (.int .u16 (.v 11)),.one (.int .u16 (.v 12)),.one (.int .u8 (.v 13)),.one (.int .u8 (.v 14)),.one (.int .u8 (.v 15)),.run .u16 (.lit 4) (.av 1) 0,.run .u16 (.lit 256) (.av 2) 0,.one (.slc 0 (.lit 0) (.lit 8192) (.op (.lit 0)))],true,none,false⟩]
def hcO:Mem:=[⟨5,[.run .u8 (.lit 8192) (.av 0) 0],true,some 1,false⟩,⟨81,[.one (.int .u16 (.v 0)),.one (.int .u16 (.v 1)),.one (.int .u16 (.v 2)),.one (.int .u16 (.v 3)),.one (.int .u16 (.v 4)),.one (.int .u16 (.v 5)),.one (.int .u16 (.v 6)),.one (.int .u16 (.v 7)),.one (.int .u16 (.v 8)),.one (.int .u16 (.v 9)),.one (.int .u16 (.v 10)),.one (.int .u16 (.v 11)),.one (.int .u16 (.v 12)),.one (.int .u8 (.v 13)),.one (.int .u8 (.v 14)),.one (.int .u8 (.ite bCR (.ite (.eq (.v 16) (.lit 320)) (.mod (.add (.v 15) (.lit 1)) (.lit 4)) (.v 15)) (.v 15))),.run .u16 (.lit 4) (.upd (.av 1) (.v 15) (.ite bCR (.ite (.eq (.v 16) (.lit 320)) (.v 0) (.sel (.av 1) (.v 15))) (.sel (.av 1) (.v 15)))) 0,.run .u16 (.lit 256) (.av 2) 0,.one (.slc 0 (.lit 0) (.lit 8192) (.op (.lit 0)))],true,none,false⟩]
def hcS:Go.Sx.Spec:=fC (fK 17 0 3 hcL hcM) hcH hcL hcM [] (.s (.bool bCR)) (some hcO)
def bHd:E:=.eq (.v 16) (.lit 176)
def hcx1:E:=.eq (.v 16) (.lit 177)
def bNz:E:=.ite bHd bHd hcx1
def bNA:E:=.mod (.v 5) (.lit 16)
def hcx4:E:=.eq bNA (.lit 0)
def hcx5:E:=.iff hcx4 bHd
def bHe:E:=.eq (.v 16) (.lit 178)
def hcx7:E:=.eq (.v 16) (.lit 179)
def bNB:E:=.ite bHe bHe hcx7
def hcx9:E:=.eq bNA (.lit 15)
def bJq:E:=.iff hcx9 bHe
def bCL:E:=.eq (.v 16) (.lit 188)
def bCM:E:=.eq (.v 16) (.lit 190)
def bCN:E:=.ite bCL bCL bCM
def bJr:E:=.le (.lit 32768) (.v 12)
def bJs:E:=.iff bJr bCM
def bJt:E:=.eq (.v 16) (.lit 256)
def aYs:E:=.eq (.v 16) (.lit 320)
def bJu:E:=.or bJt aYs
def bJv:E:=.le (.v 16) (.lit 174)
def bJw:E:=.le (.lit 128) (.v 16)
def bJx:E:=.and bJv bJw
def bJy:E:=.mod (.v 16) (.lit 2)
def bJz:E:=.eq bJy (.lit 0)
def bJA:E:=.and bJx bJz
def bJB:E:=.div (.v 16) (.lit 4)
def bJC:E:=.mod bJB (.lit 2)
def bJD:E:=.eq bJC (.lit 0)
def bJE:E:=.ite bJD (.v 13) (.v 14)
def aGa:E:=.div (.v 16) (.lit 8)
def bJF:E:=.eq aGa (.lit 16)
def bJG:E:=.eq aGa (.lit 17)
def bJH:E:=.eq aGa (.lit 18)
def bJI:E:=.eq aGa (.lit 19)
def bJJ:E:=.eq aGa (.lit 20)
def bJK:E:=.ite bJJ (.lit 1) (.lit 2)
def bJL:E:=.ite bJI (.lit 32) bJK
def bJM:E:=.ite bJH (.lit 16) bJL
def bJN:E:=.ite bJG (.lit 8) bJM
def bJO:E:=.ite bJF (.lit 4) bJN
def bJP:E:=.bits .and .u8 bJE bJO
def bJQ:E:=.eq bJP (.lit 0)
def bJR:E:=.not bJQ
def bJS:E:=.div (.v 16) (.lit 2)
def bJT:E:=.mod bJS (.lit 2)
def bJU:E:=.eq bJT (.lit 0)
def bJV:E:=.not bJU
def bJW:E:=.iff bJR bJV
def bJX:E:=.and bJA bJW
def bJY:E:=.or bJu bJX
def bJZ:E:=.ite bCN bJs bJY
def bKa:E:=.ite bNB bJq bJZ
def bCO:E:=.ite bNz hcx5 bKa
def bKb:E:=.or bNz bNB
def bCP:E:=.or bKb bCN
def bKc:E:=.add (.v 15) (.lit 1)
def bKd:E:=.mod bKc (.lit 4)
def bKe:E:=.ite aYs bKd (.v 15)
def bKf:E:=.ite bCP (.v 15) bKe
def bCQ:E:=.sel (.av 1) (.v 15)
def bKg:E:=.ite aYs (.v 0) bCQ
def bKh:E:=.ite bCP bCQ bKg
def bKi:E:=.upd (.av 1) (.v 15) bKh
def hcX:Mem:=[⟨5,[.run .u8 (.lit 8192) (.av 0) 0],true,some 1,false⟩,⟨81,[.one (.int .u16 (.v 0)),.one (.int .u16 (.v 1)),.one (.int .u16 (.v 2)),.one (.int .u16 (.v 3)),.one (.int .u16 (.v 4)),.one (.int .u16 (.v 5)),.one (.int .u16 (.v 6)),.one (.int .u16 (.v 7)),.one (.int .u16 (.v 8)),.one (.int .u16 (.v 9)),.one (.int .u16 (.v 10)),.one (.int .u16 (.v 11)),.one (.int .u16 (.v 12)),.one (.int .u8 (.v 13)),.one (.int .u8 (.v 14)),.one (.int .u8 bKf),.run .u16 (.lit 4) bKi 0,.run .u16 (.lit 256) (.av 2) 0,.one (.slc 0 (.lit 0) (.lit 8192) (.op (.lit 0)))],true,none,false⟩]
theorem hcrun:enter Try.prog SG SGh 3000 40 35 hcH hcL hcM=some ([],.s (.bool bCO),some hcX):=by kernel_rfl
set_option maxHeartbeats 4000000 in
theorem hceq (xs:Nat→Nat→Ext) (ρ:Env) (hI:ρ.I=Iv xs) (hz:eF ρ 17 0 3) (hH:hcH.ok ρ) (hn:bD ρ []):bD ρ []∧VEq ρ ρ (.s (.bool bCO)) (.s (.bool bCR))∧aEc ρ (some hcX) (some hcO):=by
 have r:=hH.e (.v 0,(0,2047)) (by simp [hcH])
 have u:=hH.e (.v 1,(0,65535)) (by simp [hcH])
 have w:=hH.e (.v 2,(0,65535)) (by simp [hcH])
 have r3:=hH.e (.v 3,(0,65535)) (by simp [hcH])
 have r4:=hH.e (.v 4,(0,65535)) (by simp [hcH])
 have r5:=hH.e (.v 5,(0,255)) (by simp [hcH])
 have r6:=hH.e (.v 6,(0,1023)) (by simp [hcH])
 have r7:=hH.e (.v 7,(0,65535)) (by simp [hcH])
 have r8:=hH.e (.v 8,(0,65535)) (by simp [hcH])
 have r9:=hH.e (.v 9,(0,65535)) (by simp [hcH])
 have r10:=hH.e (.v 10,(0,65535)) (by simp [hcH])
 have r11:=hH.e (.v 11,(0,65535)) (by simp [hcH])
 have r12:=hH.e (.v 12,(0,65535)) (by simp [hcH])
 have r13:=hH.e (.v 13,(0,63)) (by simp [hcH])
 have r14:=hH.e (.v 14,(0,63)) (by simp [hcH])
 have r15:=hH.e (.v 15,(0,3)) (by simp [hcH])
 have r16:=hH.e (.v 16,(0,511)) (by simp [hcH])
 have R0:=fun j=>hH.a (0,(0,255)) (by simp [hcH]) j
 have R1:=fun j=>hH.a (1,(0,2047)) (by simp [hcH]) j
 have R2:=fun j=>hH.a (2,(0,65535)) (by simp [hcH]) j
 simp only [inR,i_v] at r u w r3 r4 r5 r6 r7 r8 r9 r10 r11 r12 r13 r14 r15 r16 R0 R1 R2
 refine ⟨hn,?_⟩
 simp only [VEq,SEq,aEc,mR,bBK,VEq,aEj,nI,aAP,SEq,hcX,hcO,Bool.false_eq_true,false_or,true_and,and_true,implies_true]
 simp only [bHd,hcx1,bNz,bNA,hcx4,hcx5,bHe,hcx7,bNB,hcx9,bJq,bCL,bCM,bCN,bJr,bJs,bJt,aYs,bJu,bJv,bJw,bJx,bJy,bJz,bJA,bJB,bJC,bJD,bJE,aGa,bJF,bJG,bJH,bJI,bJJ,bJK,bJL,bJM,bJN,bJO,bJP,bJQ,bJR,bJS,bJT,bJU,bJV,bJW,bJX,bJY,bJZ,bKa,bCO,bKb,bCP,bKc,bKd,bKe,bKf,bCQ,bKg,bKh,bKi,hd0,hd1,hd2,hd3,hd4,hd5,hd6,hd7,hd8,hd9,hd10,bNC,hd12,bND,hd14,bNE,hd16,bNF,hd18,hd19,bNG,hd21,hd22,hd23,hd24,bNH,hd26,hd27,hd28,bNI,bNJ,hd31,bNK,hd33,hd34,hd35,hd36,hd37,hd38,hd39,hd40,hd41,hd42,hd43,hd44,hd45,hd46,hd47,hd48,hd49,hd50,hd51,hd52,hd53,hd54,hd55,hd56,bCR,sgm,sgn,bX,bU]
 generalize ρ.i.getD 16 0=c at *
 generalize ρ.i.getD 15 0=n15 at *
 generalize ρ.i.getD 12 0=d12 at *
 generalize ρ.i.getD 5 0=d5 at *
 have hf:0≤(if c / 4%2=0 then ρ.i.getD 13 0 else ρ.i.getD 14 0)∧(if c / 4%2=0 then ρ.i.getD 13 0 else ρ.i.getD 14 0)≤63:=by split <;> omega
 generalize (if c / 4%2=0 then ρ.i.getD 13 0 else ρ.i.getD 14 0)=f at *
 generalize ρ.i.getD 0 0=p0 at *
 generalize ρ.a.getD 1 (fun x=>0)=a1 at *
 clear r u w r3 r4 r6 r7 r8 r9 r10 r11 r13 r14 R0 R1 R2 hz hI hH hn
 refine ⟨?_,?_,?_⟩
 ·by_cases k1:c=176
  ·subst k1;simp
  by_cases k2:c=177
  ·subst k2;simp
  by_cases G:c=178
  ·subst G;simp
  by_cases H:c=179
  ·subst H;simp
  by_cases J:c=188
  ·subst J;simp;rw [Bool.eq_iff_iff];simp;omega
  by_cases K:c=190
  ·subst K;simp
  by_cases L:c=256
  ·subst L;simp
  by_cases C:c=320
  ·subst C;simp
  simp only [if_neg k1,if_neg k2,if_neg G,if_neg H,if_neg J,if_neg K,if_neg L,decide_eq_false k1,decide_eq_false k2,decide_eq_false G,decide_eq_false H,decide_eq_false J,decide_eq_false K,decide_eq_false L,decide_eq_false C,Bool.false_eq_true,if_false,Bool.false_or,Bool.or_false]
  by_cases d:128≤c∧c≤174
  ·have hm:(if c / 8=16 then (4:Int) else if c / 8=17 then 8 else if c / 8=18 then 16 else if c / 8=19 then 32 else if c / 8=20 then 1 else 2)=[4,8,16,32,1,2].getD (c / 8 + -16).toNat 0∧[4,8,16,32,1,2].getD (c / 8 + -16).toNat 0 ∈ [1,2,4,8,16,(32:Int)]:=by
    rcases (show c / 8=16∨c / 8=17∨c / 8=18∨c / 8=19∨c / 8=20∨c / 8=21 by omega) with h | h | h | h | h | h <;> rw [h] <;> decide
   rw [hm.1]
   congr 1
   exact hold1 _ hm.2 f hf _ (by omega)
  ·have hz:(decide (c≤174)&&decide (128≤c))=false:=by simp;omega
   simp only [hz,Bool.false_and]
 ·by_cases C:c=320
  ·subst C;simp
  ·simp [C]
 ·by_cases C:c=320
  ·subst C;simp
  ·simp [C]
theorem hcok (xs:Nat→Nat→Ext):aX Try.prog (Iv xs) 35 hcS:=fB (qT (fI.of (bS (vL xs) (by kernel_rfl) 3000 40)) hcrun rfl rfl (hceq xs)) (dT _ _ _ _ _ _)
end Go.Proofs.Ytcckecfjjccffaa
