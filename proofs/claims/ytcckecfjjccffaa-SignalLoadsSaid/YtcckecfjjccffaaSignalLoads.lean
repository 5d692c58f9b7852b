/- The whole of the law SignalLoads, which returns true for every input. A body is taken, if it is a state, and refused if not, with the document's error; then all is as it was; what was taken is saved again with the same bytes. No condition. -/
import Derived.Test.YtcckecfjjccffaaSignalLoadsL0
import Derived.Test.YtcckecfjjccffaaSignalLoadsL1
import Derived.Test.YtcckecfjjccffaaSignalLoadsL2
import Derived.Test.YtcckecfjjccffaaSignalLoadsL3
import Derived.Test.YtcckecfjjccffaaSignalLoadsL4
namespace Go.Proofs.Ytcckecfjjccffaa.SignalLoads
open Go.Sx Go.ChangeShapes Go.WideShapes Go.ChangeAt Go.RowKit
set_option linter.unusedVariables false
set_option linter.unusedSimpArgs false
set_option maxRecDepth 100000
theorem calls (a:Ext) (f g:Ext) (d:Int) (rbP1:inR (dS .u8) d) (w:World) (h:iF a w [some .u8]) (k:iF f w [some .u32]) (l:iF g w [some .u16]) :
 Calls Try.prog 6 #[a.v,.agg #[f.v,g.v,.int .u8 d]] w fun r w'=>r=.returned (.bool true)∧Below w.heap.size w w':=by
 have hA:∀ j,0≤(aD a 1 0) j∧(aD a 1 0) j≤255:=cW h
 have q0:=hA 0
 have q1:=hA 1
 have q2:=hA 2
 have q3:=hA 3
 have q4:=hA 4
 have q38:=hA 38
 have q39:=hA 39
 have q40:=hA 40
 have q41:=hA 41
 have hn:0≤(a.n:Int):=Int.natCast_nonneg _
 have hn2:0≤(a.n:Int)∧(a.n:Int)≤9223372036854775807:=dC h
 rcases (show (1048577≤(a.n:Int))∨¬ (1048577≤(a.n:Int)) by omega) with c | c13
 ·exact eT a f g d rbP1 _ _ _ bLL w h k l (m1 (show 1048577≤(a.n:Int)∧(a.n:Int)≤9223372036854775807 by omega) m0) m0 rfl
 ·
   rcases (show ((a.n:Int)=0)∨¬ ((a.n:Int)=0) by omega) with c | c16
   ·exact bQO a f g d rbP1 (show (a.n:Int)=0 by omega) w h k l
   ·
     rcases (show ((a.n:Int)≤4)∨¬ ((a.n:Int)≤4) by omega) with c | c19
     ·exact eT a f g d rbP1 _ _ _ arun w h k l (m1 (show 1≤(a.n:Int)∧(a.n:Int)≤4 by omega) m0) m0 rfl
     ·
       rcases (show ((aD a 1 0) 0≤27)∨¬ ((aD a 1 0) 0≤27) by omega) with c | c22
       ·exact eT a f g d rbP1 _ _ _ t0run w h k l (m1 (show 5≤(a.n:Int)∧(a.n:Int)≤1048576 by omega) (m1 (show 0≤(aD a 1 0) 0∧(aD a 1 0) 0≤27 by omega) m0)) m0 rfl
       ·
         rcases (show (29≤(aD a 1 0) 0)∨¬ (29≤(aD a 1 0) 0) by omega) with c | c25
         ·exact eT a f g d rbP1 _ _ _ t1run w h k l (m1 (show 5≤(a.n:Int)∧(a.n:Int)≤1048576 by omega) (m1 (show 29≤(aD a 1 0) 0∧(aD a 1 0) 0≤255 by omega) m0)) m0 rfl
         ·
           rcases (show ((a.n:Int) + -5<(aD a 1 0) 4*16777216+(aD a 1 0) 3*65536+(aD a 1 0) 2*256+(aD a 1 0) 1)∨¬ ((a.n:Int) + -5<(aD a 1 0) 4*16777216+(aD a 1 0) 3*65536+(aD a 1 0) 2*256+(aD a 1 0) 1) by omega) with c | c28
           ·exact eT a f g d rbP1 _ _ _ lbrun w h k l (m1 (show 5≤(a.n:Int)∧(a.n:Int)≤1048576 by omega) (m1 (show 28≤(aD a 1 0) 0∧(aD a 1 0) 0≤28 by omega) m0)) (m1 (decide_eq_true (show (a.n:Int) + -5<(aD a 1 0) 4*16777216+(aD a 1 0) 3*65536+(aD a 1 0) 2*256+(aD a 1 0) 1 by omega)) m0) rfl
           ·
             rcases (show ((aD a 1 0) 4*16777216+(aD a 1 0) 3*65536+(aD a 1 0) 2*256+(aD a 1 0) 1≤1)∨¬ ((aD a 1 0) 4*16777216+(aD a 1 0) 3*65536+(aD a 1 0) 2*256+(aD a 1 0) 1≤1) by omega) with c | c31
             ·exact eT a f g d rbP1 _ _ _ w0run w h k l (m1 (show 5≤(a.n:Int)∧(a.n:Int)≤1048576 by omega) (m1 (show 28≤(aD a 1 0) 0∧(aD a 1 0) 0≤28 by omega) (m1 (show 0≤(aD a 1 0) 4*16777216+(aD a 1 0) 3*65536+(aD a 1 0) 2*256+(aD a 1 0) 1∧(aD a 1 0) 4*16777216+(aD a 1 0) 3*65536+(aD a 1 0) 2*256+(aD a 1 0) 1≤1 by omega) m0))) (m1 (decide_eq_false (show ¬ ((a.n:Int) + -5<(aD a 1 0) 4*16777216+(aD a 1 0) 3*65536+(aD a 1 0) 2*256+(aD a 1 0) 1) by omega)) m0) rfl
             ·
               rcases (show ((aD a 1 0) 4*16777216+(aD a 1 0) 3*65536+(aD a 1 0) 2*256+(aD a 1 0) 1≤3)∨¬ ((aD a 1 0) 4*16777216+(aD a 1 0) 3*65536+(aD a 1 0) 2*256+(aD a 1 0) 1≤3) by omega) with c | c34
               ·exact eT a f g d rbP1 _ _ _ w1run w h k l (m1 (show 7≤(a.n:Int)∧(a.n:Int)≤1048576 by omega) (m1 (show 28≤(aD a 1 0) 0∧(aD a 1 0) 0≤28 by omega) (m1 (show 2≤(aD a 1 0) 4*16777216+(aD a 1 0) 3*65536+(aD a 1 0) 2*256+(aD a 1 0) 1∧(aD a 1 0) 4*16777216+(aD a 1 0) 3*65536+(aD a 1 0) 2*256+(aD a 1 0) 1≤3 by omega) m0))) (m1 (decide_eq_false (show ¬ ((a.n:Int) + -5<(aD a 1 0) 4*16777216+(aD a 1 0) 3*65536+(aD a 1 0) 2*256+(aD a 1 0) 1) by omega)) m0) rfl
               ·
                 rcases (show ((aD a 1 0) 4*16777216+(aD a 1 0) 3*65536+(aD a 1 0) 2*256+(aD a 1 0) 1≤5)∨¬ ((aD a 1 0) 4*16777216+(aD a 1 0) 3*65536+(aD a 1 0) 2*256+(aD a 1 0) 1≤5) by omega) with c | c37
                 ·exact eT a f g d rbP1 _ _ _ w2run w h k l (m1 (show 9≤(a.n:Int)∧(a.n:Int)≤1048576 by omega) (m1 (show 28≤(aD a 1 0) 0∧(aD a 1 0) 0≤28 by omega) (m1 (show 4≤(aD a 1 0) 4*16777216+(aD a 1 0) 3*65536+(aD a 1 0) 2*256+(aD a 1 0) 1∧(aD a 1 0) 4*16777216+(aD a 1 0) 3*65536+(aD a 1 0) 2*256+(aD a 1 0) 1≤5 by omega) m0))) (m1 (decide_eq_false (show ¬ ((a.n:Int) + -5<(aD a 1 0) 4*16777216+(aD a 1 0) 3*65536+(aD a 1 0) 2*256+(aD a 1 0) 1) by omega)) m0) rfl
                 ·
                   rcases (show ((aD a 1 0) 4*16777216+(aD a 1 0) 3*65536+(aD a 1 0) 2*256+(aD a 1 0) 1≤7)∨¬ ((aD a 1 0) 4*16777216+(aD a 1 0) 3*65536+(aD a 1 0) 2*256+(aD a 1 0) 1≤7) by omega) with c | c40
                   ·exact eT a f g d rbP1 _ _ _ w3run w h k l (m1 (show 11≤(a.n:Int)∧(a.n:Int)≤1048576 by omega) (m1 (show 28≤(aD a 1 0) 0∧(aD a 1 0) 0≤28 by omega) (m1 (show 6≤(aD a 1 0) 4*16777216+(aD a 1 0) 3*65536+(aD a 1 0) 2*256+(aD a 1 0) 1∧(aD a 1 0) 4*16777216+(aD a 1 0) 3*65536+(aD a 1 0) 2*256+(aD a 1 0) 1≤7 by omega) m0))) (m1 (decide_eq_false (show ¬ ((a.n:Int) + -5<(aD a 1 0) 4*16777216+(aD a 1 0) 3*65536+(aD a 1 0) 2*256+(aD a 1 0) 1) by omega)) m0) rfl
                   ·
                     rcases (show ((aD a 1 0) 4*16777216+(aD a 1 0) 3*65536+(aD a 1 0) 2*256+(aD a 1 0) 1≤9)∨¬ ((aD a 1 0) 4*16777216+(aD a 1 0) 3*65536+(aD a 1 0) 2*256+(aD a 1 0) 1≤9) by omega) with c | c43
                     ·exact eT a f g d rbP1 _ _ _ w4run w h k l (m1 (show 13≤(a.n:Int)∧(a.n:Int)≤1048576 by omega) (m1 (show 28≤(aD a 1 0) 0∧(aD a 1 0) 0≤28 by omega) (m1 (show 8≤(aD a 1 0) 4*16777216+(aD a 1 0) 3*65536+(aD a 1 0) 2*256+(aD a 1 0) 1∧(aD a 1 0) 4*16777216+(aD a 1 0) 3*65536+(aD a 1 0) 2*256+(aD a 1 0) 1≤9 by omega) m0))) (m1 (decide_eq_false (show ¬ ((a.n:Int) + -5<(aD a 1 0) 4*16777216+(aD a 1 0) 3*65536+(aD a 1 0) 2*256+(aD a 1 0) 1) by omega)) m0) rfl
                     ·
                       rcases (show ((aD a 1 0) 4*16777216+(aD a 1 0) 3*65536+(aD a 1 0) 2*256+(aD a 1 0) 1≤11)∨¬ ((aD a 1 0) 4*16777216+(aD a 1 0) 3*65536+(aD a 1 0) 2*256+(aD a 1 0) 1≤11) by omega) with c | c46
                       ·exact eT a f g d rbP1 _ _ _ w5run w h k l (m1 (show 15≤(a.n:Int)∧(a.n:Int)≤1048576 by omega) (m1 (show 28≤(aD a 1 0) 0∧(aD a 1 0) 0≤28 by omega) (m1 (show 10≤(aD a 1 0) 4*16777216+(aD a 1 0) 3*65536+(aD a 1 0) 2*256+(aD a 1 0) 1∧(aD a 1 0) 4*16777216+(aD a 1 0) 3*65536+(aD a 1 0) 2*256+(aD a 1 0) 1≤11 by omega) m0))) (m1 (decide_eq_false (show ¬ ((a.n:Int) + -5<(aD a 1 0) 4*16777216+(aD a 1 0) 3*65536+(aD a 1 0) 2*256+(aD a 1 0) 1) by omega)) m0) rfl
                       ·
                         rcases (show ((aD a 1 0) 4*16777216+(aD a 1 0) 3*65536+(aD a 1 0) 2*256+(aD a 1 0) 1≤13)∨¬ ((aD a 1 0) 4*16777216+(aD a 1 0) 3*65536+(aD a 1 0) 2*256+(aD a 1 0) 1≤13) by omega) with c | c49
                         ·exact eT a f g d rbP1 _ _ _ w6run w h k l (m1 (show 17≤(a.n:Int)∧(a.n:Int)≤1048576 by omega) (m1 (show 28≤(aD a 1 0) 0∧(aD a 1 0) 0≤28 by omega) (m1 (show 12≤(aD a 1 0) 4*16777216+(aD a 1 0) 3*65536+(aD a 1 0) 2*256+(aD a 1 0) 1∧(aD a 1 0) 4*16777216+(aD a 1 0) 3*65536+(aD a 1 0) 2*256+(aD a 1 0) 1≤13 by omega) m0))) (m1 (decide_eq_false (show ¬ ((a.n:Int) + -5<(aD a 1 0) 4*16777216+(aD a 1 0) 3*65536+(aD a 1 0) 2*256+(aD a 1 0) 1) by omega)) m0) rfl
                         ·
                           rcases (show ((aD a 1 0) 4*16777216+(aD a 1 0) 3*65536+(aD a 1 0) 2*256+(aD a 1 0) 1≤15)∨¬ ((aD a 1 0) 4*16777216+(aD a 1 0) 3*65536+(aD a 1 0) 2*256+(aD a 1 0) 1≤15) by omega) with c | c52
                           ·exact eT a f g d rbP1 _ _ _ w7run w h k l (m1 (show 19≤(a.n:Int)∧(a.n:Int)≤1048576 by omega) (m1 (show 28≤(aD a 1 0) 0∧(aD a 1 0) 0≤28 by omega) (m1 (show 14≤(aD a 1 0) 4*16777216+(aD a 1 0) 3*65536+(aD a 1 0) 2*256+(aD a 1 0) 1∧(aD a 1 0) 4*16777216+(aD a 1 0) 3*65536+(aD a 1 0) 2*256+(aD a 1 0) 1≤15 by omega) m0))) (m1 (decide_eq_false (show ¬ ((a.n:Int) + -5<(aD a 1 0) 4*16777216+(aD a 1 0) 3*65536+(aD a 1 0) 2*256+(aD a 1 0) 1) by omega)) m0) rfl
                           ·
                             rcases (show ((aD a 1 0) 4*16777216+(aD a 1 0) 3*65536+(aD a 1 0) 2*256+(aD a 1 0) 1≤17)∨¬ ((aD a 1 0) 4*16777216+(aD a 1 0) 3*65536+(aD a 1 0) 2*256+(aD a 1 0) 1≤17) by omega) with c | c55
                             ·exact eT a f g d rbP1 _ _ _ w8run w h k l (m1 (show 21≤(a.n:Int)∧(a.n:Int)≤1048576 by omega) (m1 (show 28≤(aD a 1 0) 0∧(aD a 1 0) 0≤28 by omega) (m1 (show 16≤(aD a 1 0) 4*16777216+(aD a 1 0) 3*65536+(aD a 1 0) 2*256+(aD a 1 0) 1∧(aD a 1 0) 4*16777216+(aD a 1 0) 3*65536+(aD a 1 0) 2*256+(aD a 1 0) 1≤17 by omega) m0))) (m1 (decide_eq_false (show ¬ ((a.n:Int) + -5<(aD a 1 0) 4*16777216+(aD a 1 0) 3*65536+(aD a 1 0) 2*256+(aD a 1 0) 1) by omega)) m0) rfl
                             ·
                               rcases (show ((aD a 1 0) 4*16777216+(aD a 1 0) 3*65536+(aD a 1 0) 2*256+(aD a 1 0) 1≤19)∨¬ ((aD a 1 0) 4*16777216+(aD a 1 0) 3*65536+(aD a 1 0) 2*256+(aD a 1 0) 1≤19) by omega) with c | c58
                               ·exact eT a f g d rbP1 _ _ _ w9run w h k l (m1 (show 23≤(a.n:Int)∧(a.n:Int)≤1048576 by omega) (m1 (show 28≤(aD a 1 0) 0∧(aD a 1 0) 0≤28 by omega) (m1 (show 18≤(aD a 1 0) 4*16777216+(aD a 1 0) 3*65536+(aD a 1 0) 2*256+(aD a 1 0) 1∧(aD a 1 0) 4*16777216+(aD a 1 0) 3*65536+(aD a 1 0) 2*256+(aD a 1 0) 1≤19 by omega) m0))) (m1 (decide_eq_false (show ¬ ((a.n:Int) + -5<(aD a 1 0) 4*16777216+(aD a 1 0) 3*65536+(aD a 1 0) 2*256+(aD a 1 0) 1) by omega)) m0) rfl
                               ·
                                 rcases (show ((aD a 1 0) 4*16777216+(aD a 1 0) 3*65536+(aD a 1 0) 2*256+(aD a 1 0) 1≤21)∨¬ ((aD a 1 0) 4*16777216+(aD a 1 0) 3*65536+(aD a 1 0) 2*256+(aD a 1 0) 1≤21) by omega) with c | c61
                                 ·exact eT a f g d rbP1 _ _ _ bQC w h k l (m1 (show 25≤(a.n:Int)∧(a.n:Int)≤1048576 by omega) (m1 (show 28≤(aD a 1 0) 0∧(aD a 1 0) 0≤28 by omega) (m1 (show 20≤(aD a 1 0) 4*16777216+(aD a 1 0) 3*65536+(aD a 1 0) 2*256+(aD a 1 0) 1∧(aD a 1 0) 4*16777216+(aD a 1 0) 3*65536+(aD a 1 0) 2*256+(aD a 1 0) 1≤21 by omega) m0))) (m1 (decide_eq_false (show ¬ ((a.n:Int) + -5<(aD a 1 0) 4*16777216+(aD a 1 0) 3*65536+(aD a 1 0) 2*256+(aD a 1 0) 1) by omega)) m0) rfl
                                 ·
                                   rcases (show ((aD a 1 0) 4*16777216+(aD a 1 0) 3*65536+(aD a 1 0) 2*256+(aD a 1 0) 1=22)∨¬ ((aD a 1 0) 4*16777216+(aD a 1 0) 3*65536+(aD a 1 0) 2*256+(aD a 1 0) 1=22) by omega) with c | c64
                                   ·exact eT a f g d rbP1 _ _ _ y0run w h k l (m1 (show 27≤(a.n:Int)∧(a.n:Int)≤1048576 by omega) (m1 (show 28≤(aD a 1 0) 0∧(aD a 1 0) 0≤28 by omega) (m1 (show 22≤(aD a 1 0) 4*16777216+(aD a 1 0) 3*65536+(aD a 1 0) 2*256+(aD a 1 0) 1∧(aD a 1 0) 4*16777216+(aD a 1 0) 3*65536+(aD a 1 0) 2*256+(aD a 1 0) 1≤22 by omega) m0))) (m1 (decide_eq_false (show ¬ ((a.n:Int) + -5<(aD a 1 0) 4*16777216+(aD a 1 0) 3*65536+(aD a 1 0) 2*256+(aD a 1 0) 1) by omega)) m0) rfl
                                   ·
                                     rcases (show ((aD a 1 0) 4*16777216+(aD a 1 0) 3*65536+(aD a 1 0) 2*256+(aD a 1 0) 1=23)∨¬ ((aD a 1 0) 4*16777216+(aD a 1 0) 3*65536+(aD a 1 0) 2*256+(aD a 1 0) 1=23) by omega) with c | c67
                                     ·exact eT a f g d rbP1 _ _ _ y1run w h k l (m1 (show 28≤(a.n:Int)∧(a.n:Int)≤1048576 by omega) (m1 (show 28≤(aD a 1 0) 0∧(aD a 1 0) 0≤28 by omega) (m1 (show 23≤(aD a 1 0) 4*16777216+(aD a 1 0) 3*65536+(aD a 1 0) 2*256+(aD a 1 0) 1∧(aD a 1 0) 4*16777216+(aD a 1 0) 3*65536+(aD a 1 0) 2*256+(aD a 1 0) 1≤23 by omega) m0))) (m1 (decide_eq_false (show ¬ ((a.n:Int) + -5<(aD a 1 0) 4*16777216+(aD a 1 0) 3*65536+(aD a 1 0) 2*256+(aD a 1 0) 1) by omega)) m0) rfl
                                     ·
                                       rcases (show ((aD a 1 0) 4*16777216+(aD a 1 0) 3*65536+(aD a 1 0) 2*256+(aD a 1 0) 1=24)∨¬ ((aD a 1 0) 4*16777216+(aD a 1 0) 3*65536+(aD a 1 0) 2*256+(aD a 1 0) 1=24) by omega) with c | c70
                                       ·exact eT a f g d rbP1 _ _ _ y2run w h k l (m1 (show 29≤(a.n:Int)∧(a.n:Int)≤1048576 by omega) (m1 (show 28≤(aD a 1 0) 0∧(aD a 1 0) 0≤28 by omega) (m1 (show 24≤(aD a 1 0) 4*16777216+(aD a 1 0) 3*65536+(aD a 1 0) 2*256+(aD a 1 0) 1∧(aD a 1 0) 4*16777216+(aD a 1 0) 3*65536+(aD a 1 0) 2*256+(aD a 1 0) 1≤24 by omega) m0))) (m1 (decide_eq_false (show ¬ ((a.n:Int) + -5<(aD a 1 0) 4*16777216+(aD a 1 0) 3*65536+(aD a 1 0) 2*256+(aD a 1 0) 1) by omega)) m0) rfl
                                       ·
                                         rcases (show ((aD a 1 0) 4*16777216+(aD a 1 0) 3*65536+(aD a 1 0) 2*256+(aD a 1 0) 1≤26)∨¬ ((aD a 1 0) 4*16777216+(aD a 1 0) 3*65536+(aD a 1 0) 2*256+(aD a 1 0) 1≤26) by omega) with c | c73
                                         ·exact eT a f g d rbP1 _ _ _ s0run w h k l (m1 (show 30≤(a.n:Int)∧(a.n:Int)≤1048576 by omega) (m1 (show 28≤(aD a 1 0) 0∧(aD a 1 0) 0≤28 by omega) (m1 (show 25≤(aD a 1 0) 4*16777216+(aD a 1 0) 3*65536+(aD a 1 0) 2*256+(aD a 1 0) 1∧(aD a 1 0) 4*16777216+(aD a 1 0) 3*65536+(aD a 1 0) 2*256+(aD a 1 0) 1≤26 by omega) m0))) (m1 (decide_eq_false (show ¬ ((a.n:Int) + -5<(aD a 1 0) 4*16777216+(aD a 1 0) 3*65536+(aD a 1 0) 2*256+(aD a 1 0) 1) by omega)) m0) rfl
                                         ·
                                           rcases (show ((aD a 1 0) 4*16777216+(aD a 1 0) 3*65536+(aD a 1 0) 2*256+(aD a 1 0) 1≤28)∨¬ ((aD a 1 0) 4*16777216+(aD a 1 0) 3*65536+(aD a 1 0) 2*256+(aD a 1 0) 1≤28) by omega) with c | c76
                                           ·exact eT a f g d rbP1 _ _ _ s1run w h k l (m1 (show 32≤(a.n:Int)∧(a.n:Int)≤1048576 by omega) (m1 (show 28≤(aD a 1 0) 0∧(aD a 1 0) 0≤28 by omega) (m1 (show 27≤(aD a 1 0) 4*16777216+(aD a 1 0) 3*65536+(aD a 1 0) 2*256+(aD a 1 0) 1∧(aD a 1 0) 4*16777216+(aD a 1 0) 3*65536+(aD a 1 0) 2*256+(aD a 1 0) 1≤28 by omega) m0))) (m1 (decide_eq_false (show ¬ ((a.n:Int) + -5<(aD a 1 0) 4*16777216+(aD a 1 0) 3*65536+(aD a 1 0) 2*256+(aD a 1 0) 1) by omega)) m0) rfl
                                           ·
                                             rcases (show ((aD a 1 0) 4*16777216+(aD a 1 0) 3*65536+(aD a 1 0) 2*256+(aD a 1 0) 1≤30)∨¬ ((aD a 1 0) 4*16777216+(aD a 1 0) 3*65536+(aD a 1 0) 2*256+(aD a 1 0) 1≤30) by omega) with c | c79
                                             ·exact eT a f g d rbP1 _ _ _ s2run w h k l (m1 (show 34≤(a.n:Int)∧(a.n:Int)≤1048576 by omega) (m1 (show 28≤(aD a 1 0) 0∧(aD a 1 0) 0≤28 by omega) (m1 (show 29≤(aD a 1 0) 4*16777216+(aD a 1 0) 3*65536+(aD a 1 0) 2*256+(aD a 1 0) 1∧(aD a 1 0) 4*16777216+(aD a 1 0) 3*65536+(aD a 1 0) 2*256+(aD a 1 0) 1≤30 by omega) m0))) (m1 (decide_eq_false (show ¬ ((a.n:Int) + -5<(aD a 1 0) 4*16777216+(aD a 1 0) 3*65536+(aD a 1 0) 2*256+(aD a 1 0) 1) by omega)) m0) rfl
                                             ·
                                               rcases (show ((aD a 1 0) 4*16777216+(aD a 1 0) 3*65536+(aD a 1 0) 2*256+(aD a 1 0) 1≤32)∨¬ ((aD a 1 0) 4*16777216+(aD a 1 0) 3*65536+(aD a 1 0) 2*256+(aD a 1 0) 1≤32) by omega) with c | c82
                                               ·exact eT a f g d rbP1 _ _ _ s3run w h k l (m1 (show 36≤(a.n:Int)∧(a.n:Int)≤1048576 by omega) (m1 (show 28≤(aD a 1 0) 0∧(aD a 1 0) 0≤28 by omega) (m1 (show 31≤(aD a 1 0) 4*16777216+(aD a 1 0) 3*65536+(aD a 1 0) 2*256+(aD a 1 0) 1∧(aD a 1 0) 4*16777216+(aD a 1 0) 3*65536+(aD a 1 0) 2*256+(aD a 1 0) 1≤32 by omega) m0))) (m1 (decide_eq_false (show ¬ ((a.n:Int) + -5<(aD a 1 0) 4*16777216+(aD a 1 0) 3*65536+(aD a 1 0) 2*256+(aD a 1 0) 1) by omega)) m0) rfl
                                               ·
                                                 rcases (show ((aD a 1 0) 4*16777216+(aD a 1 0) 3*65536+(aD a 1 0) 2*256+(aD a 1 0) 1≤36)∨¬ ((aD a 1 0) 4*16777216+(aD a 1 0) 3*65536+(aD a 1 0) 2*256+(aD a 1 0) 1≤36) by omega) with c | c85
                                                 ·exact eT a f g d rbP1 _ _ _ bhrun w h k l (m1 (show 38≤(a.n:Int)∧(a.n:Int)≤1048576 by omega) (m1 (show 28≤(aD a 1 0) 0∧(aD a 1 0) 0≤28 by omega) (m1 (show 33≤(aD a 1 0) 4*16777216+(aD a 1 0) 3*65536+(aD a 1 0) 2*256+(aD a 1 0) 1∧(aD a 1 0) 4*16777216+(aD a 1 0) 3*65536+(aD a 1 0) 2*256+(aD a 1 0) 1≤36 by omega) m0))) (m1 (decide_eq_false (show ¬ ((a.n:Int) + -5<(aD a 1 0) 4*16777216+(aD a 1 0) 3*65536+(aD a 1 0) 2*256+(aD a 1 0) 1) by omega)) m0) rfl
                                                 ·
                                                   rcases (show (513≤(aD a 1 0) 41*16777216+(aD a 1 0) 40*65536+(aD a 1 0) 39*256+(aD a 1 0) 38)∨¬ (513≤(aD a 1 0) 41*16777216+(aD a 1 0) 40*65536+(aD a 1 0) 39*256+(aD a 1 0) 38) by omega) with c | c88
                                                   ·exact eT a f g d rbP1 _ _ _ m0run w h k l (m1 (show 42≤(a.n:Int)∧(a.n:Int)≤1048576 by omega) (m1 (show 28≤(aD a 1 0) 0∧(aD a 1 0) 0≤28 by omega) (m1 (show 37≤(aD a 1 0) 4*16777216+(aD a 1 0) 3*65536+(aD a 1 0) 2*256+(aD a 1 0) 1∧(aD a 1 0) 4*16777216+(aD a 1 0) 3*65536+(aD a 1 0) 2*256+(aD a 1 0) 1≤1048571 by omega) (m1 (show 513≤(aD a 1 0) 41*16777216+(aD a 1 0) 40*65536+(aD a 1 0) 39*256+(aD a 1 0) 38∧(aD a 1 0) 41*16777216+(aD a 1 0) 40*65536+(aD a 1 0) 39*256+(aD a 1 0) 38≤4294967295 by omega) m0)))) (m1 (decide_eq_false (show ¬ ((a.n:Int) + -5<(aD a 1 0) 4*16777216+(aD a 1 0) 3*65536+(aD a 1 0) 2*256+(aD a 1 0) 1) by omega)) m0) rfl
                                                   ·
                                                     rcases (show ((aD a 1 0) 4*16777216+(aD a 1 0) 3*65536+(aD a 1 0) 2*256+(aD a 1 0) 1 + -37<(aD a 1 0) 41*16777216+(aD a 1 0) 40*65536+(aD a 1 0) 39*256+(aD a 1 0) 38)∨¬ ((aD a 1 0) 4*16777216+(aD a 1 0) 3*65536+(aD a 1 0) 2*256+(aD a 1 0) 1 + -37<(aD a 1 0) 41*16777216+(aD a 1 0) 40*65536+(aD a 1 0) 39*256+(aD a 1 0) 38) by omega) with c | c91
                                                     ·exact eT a f g d rbP1 _ _ _ m1run w h k l (m1 (show 42≤(a.n:Int)∧(a.n:Int)≤1048576 by omega) (m1 (show 28≤(aD a 1 0) 0∧(aD a 1 0) 0≤28 by omega) (m1 (show 37≤(aD a 1 0) 4*16777216+(aD a 1 0) 3*65536+(aD a 1 0) 2*256+(aD a 1 0) 1∧(aD a 1 0) 4*16777216+(aD a 1 0) 3*65536+(aD a 1 0) 2*256+(aD a 1 0) 1≤1048571 by omega) (m1 (show 0≤(aD a 1 0) 41*16777216+(aD a 1 0) 40*65536+(aD a 1 0) 39*256+(aD a 1 0) 38∧(aD a 1 0) 41*16777216+(aD a 1 0) 40*65536+(aD a 1 0) 39*256+(aD a 1 0) 38≤512 by omega) m0)))) (m1 (decide_eq_false (show ¬ ((a.n:Int) + -5<(aD a 1 0) 4*16777216+(aD a 1 0) 3*65536+(aD a 1 0) 2*256+(aD a 1 0) 1) by omega)) (m1 (decide_eq_true (show (aD a 1 0) 4*16777216+(aD a 1 0) 3*65536+(aD a 1 0) 2*256+(aD a 1 0) 1 + -37<(aD a 1 0) 41*16777216+(aD a 1 0) 40*65536+(aD a 1 0) 39*256+(aD a 1 0) 38 by omega)) m0)) rfl
                                                     ·
                                                       rcases (show ((aD a 1 0) 41*16777216+(aD a 1 0) 40*65536+(aD a 1 0) 39*256+(aD a 1 0) 38=0∧(a.n:Int)=42)∨¬ ((aD a 1 0) 41*16777216+(aD a 1 0) 40*65536+(aD a 1 0) 39*256+(aD a 1 0) 38=0∧(a.n:Int)=42) by omega) with c | c94
                                                       ·exact bHu a f g d rbP1 (show (a.n:Int)=42 by omega) (show 28≤(aD a 1 0) 0∧(aD a 1 0) 0≤28 by omega) (show 37≤(aD a 1 0) 4*16777216+(aD a 1 0) 3*65536+(aD a 1 0) 2*256+(aD a 1 0) 1∧(aD a 1 0) 4*16777216+(aD a 1 0) 3*65536+(aD a 1 0) 2*256+(aD a 1 0) 1≤37 by omega) (show 0≤(aD a 1 0) 41*16777216+(aD a 1 0) 40*65536+(aD a 1 0) 39*256+(aD a 1 0) 38∧(aD a 1 0) 41*16777216+(aD a 1 0) 40*65536+(aD a 1 0) 39*256+(aD a 1 0) 38≤0 by omega) (show ¬ ((a.n:Int) + -5<(aD a 1 0) 4*16777216+(aD a 1 0) 3*65536+(aD a 1 0) 2*256+(aD a 1 0) 1) by omega) (show ¬ ((aD a 1 0) 4*16777216+(aD a 1 0) 3*65536+(aD a 1 0) 2*256+(aD a 1 0) 1 + -37<(aD a 1 0) 41*16777216+(aD a 1 0) 40*65536+(aD a 1 0) 39*256+(aD a 1 0) 38) by omega) w h k l
                                                       ·
                                                         rcases (show ((aD a 1 0) 41*16777216+(aD a 1 0) 40*65536+(aD a 1 0) 39*256+(aD a 1 0) 38=0)∨¬ ((aD a 1 0) 41*16777216+(aD a 1 0) 40*65536+(aD a 1 0) 39*256+(aD a 1 0) 38=0) by omega) with c | c97
                                                         ·exact eT a f g d rbP1 _ _ _ mzrun w h k l (m1 (show 43≤(a.n:Int)∧(a.n:Int)≤1048576 by omega) (m1 (show 28≤(aD a 1 0) 0∧(aD a 1 0) 0≤28 by omega) (m1 (show 37≤(aD a 1 0) 4*16777216+(aD a 1 0) 3*65536+(aD a 1 0) 2*256+(aD a 1 0) 1∧(aD a 1 0) 4*16777216+(aD a 1 0) 3*65536+(aD a 1 0) 2*256+(aD a 1 0) 1≤1048571 by omega) (m1 (show 0≤(aD a 1 0) 41*16777216+(aD a 1 0) 40*65536+(aD a 1 0) 39*256+(aD a 1 0) 38∧(aD a 1 0) 41*16777216+(aD a 1 0) 40*65536+(aD a 1 0) 39*256+(aD a 1 0) 38≤0 by omega) m0)))) (m1 (decide_eq_false (show ¬ ((a.n:Int) + -5<(aD a 1 0) 4*16777216+(aD a 1 0) 3*65536+(aD a 1 0) 2*256+(aD a 1 0) 1) by omega)) (m1 (decide_eq_false (show ¬ ((aD a 1 0) 4*16777216+(aD a 1 0) 3*65536+(aD a 1 0) 2*256+(aD a 1 0) 1 + -37<(aD a 1 0) 41*16777216+(aD a 1 0) 40*65536+(aD a 1 0) 39*256+(aD a 1 0) 38) by omega)) m0)) rfl
                                                         ·
                                                           rcases (show ((aD a 1 0) 41*16777216+(aD a 1 0) 40*65536+(aD a 1 0) 39*256+(aD a 1 0) 38≤511)∨¬ ((aD a 1 0) 41*16777216+(aD a 1 0) 40*65536+(aD a 1 0) 39*256+(aD a 1 0) 38≤511) by omega) with c | c100
                                                           ·exact eT a f g d rbP1 _ _ _ m2run w h k l (m1 (show 43≤(a.n:Int)∧(a.n:Int)≤1048576 by omega) (m1 (show 28≤(aD a 1 0) 0∧(aD a 1 0) 0≤28 by omega) (m1 (show 37≤(aD a 1 0) 4*16777216+(aD a 1 0) 3*65536+(aD a 1 0) 2*256+(aD a 1 0) 1∧(aD a 1 0) 4*16777216+(aD a 1 0) 3*65536+(aD a 1 0) 2*256+(aD a 1 0) 1≤1048571 by omega) (m1 (show 1≤(aD a 1 0) 41*16777216+(aD a 1 0) 40*65536+(aD a 1 0) 39*256+(aD a 1 0) 38∧(aD a 1 0) 41*16777216+(aD a 1 0) 40*65536+(aD a 1 0) 39*256+(aD a 1 0) 38≤511 by omega) m0)))) (m1 (decide_eq_false (show ¬ ((a.n:Int) + -5<(aD a 1 0) 4*16777216+(aD a 1 0) 3*65536+(aD a 1 0) 2*256+(aD a 1 0) 1) by omega)) (m1 (decide_eq_false (show ¬ ((aD a 1 0) 4*16777216+(aD a 1 0) 3*65536+(aD a 1 0) 2*256+(aD a 1 0) 1 + -37<(aD a 1 0) 41*16777216+(aD a 1 0) 40*65536+(aD a 1 0) 39*256+(aD a 1 0) 38) by omega)) (m1 (decide_eq_true (show (aD a 1 0) 41*16777216+(aD a 1 0) 40*65536+(aD a 1 0) 39*256+(aD a 1 0) 38+42≤(a.n:Int) by omega)) m0))) rfl
                                                           ·
                                                             rcases (show (550≤(aD a 1 0) 4*16777216+(aD a 1 0) 3*65536+(aD a 1 0) 2*256+(aD a 1 0) 1)∨¬ (550≤(aD a 1 0) 4*16777216+(aD a 1 0) 3*65536+(aD a 1 0) 2*256+(aD a 1 0) 1) by omega) with c | c103
                                                             ·exact eT a f g d rbP1 _ _ _ m3run w h k l (m1 (show 555≤(a.n:Int)∧(a.n:Int)≤1048576 by omega) (m1 (show 28≤(aD a 1 0) 0∧(aD a 1 0) 0≤28 by omega) (m1 (show 550≤(aD a 1 0) 4*16777216+(aD a 1 0) 3*65536+(aD a 1 0) 2*256+(aD a 1 0) 1∧(aD a 1 0) 4*16777216+(aD a 1 0) 3*65536+(aD a 1 0) 2*256+(aD a 1 0) 1≤1048571 by omega) (m1 (show 512≤(aD a 1 0) 41*16777216+(aD a 1 0) 40*65536+(aD a 1 0) 39*256+(aD a 1 0) 38∧(aD a 1 0) 41*16777216+(aD a 1 0) 40*65536+(aD a 1 0) 39*256+(aD a 1 0) 38≤512 by omega) m0)))) (m1 (decide_eq_false (show ¬ ((a.n:Int) + -5<(aD a 1 0) 4*16777216+(aD a 1 0) 3*65536+(aD a 1 0) 2*256+(aD a 1 0) 1) by omega)) m0) rfl
                                                             ·
                                                               have q5:=hA 5
                                                               have q6:=hA 6
                                                               have q7:=hA 7
                                                               have q8:=hA 8
                                                               have q9:=hA 9
                                                               have q10:=hA 10
                                                               have q11:=hA 11
                                                               have q12:=hA 12
                                                               have q13:=hA 13
                                                               have q14:=hA 14
                                                               have q15:=hA 15
                                                               have q16:=hA 16
                                                               have q17:=hA 17
                                                               have q18:=hA 18
                                                               have q19:=hA 19
                                                               have q20:=hA 20
                                                               have q21:=hA 21
                                                               have q22:=hA 22
                                                               have q23:=hA 23
                                                               have q24:=hA 24
                                                               have q25:=hA 25
                                                               have q26:=hA 26
                                                               have q27:=hA 27
                                                               have q28:=hA 28
                                                               have q29:=hA 29
                                                               have q30:=hA 30
                                                               have q31:=hA 31
                                                               have q32:=hA 32
                                                               have q33:=hA 33
                                                               have q34:=hA 34
                                                               have q35:=hA 35
                                                               have q36:=hA 36
                                                               have q37:=hA 37
                                                               have o0:∀ p ∈ oE0,inR p.2 (p.1.i (nK a f g d)):=(m1 (show 554≤(a.n:Int)∧(a.n:Int)≤1048576 by omega) (m1 (show 28≤(aD a 1 0) 0∧(aD a 1 0) 0≤28 by omega) (m1 (show 549≤(aD a 1 0) 4*16777216+(aD a 1 0) 3*65536+(aD a 1 0) 2*256+(aD a 1 0) 1∧(aD a 1 0) 4*16777216+(aD a 1 0) 3*65536+(aD a 1 0) 2*256+(aD a 1 0) 1≤549 by omega) (m1 (show 512≤(aD a 1 0) 41*16777216+(aD a 1 0) 40*65536+(aD a 1 0) 39*256+(aD a 1 0) 38∧(aD a 1 0) 41*16777216+(aD a 1 0) 40*65536+(aD a 1 0) 39*256+(aD a 1 0) 38≤512 by omega) m0))))
                                                               have ob:∀ p ∈ oB,p.1.b (nK a f g d)=p.2:=(m1 (decide_eq_false (show ¬ ((a.n:Int) + -5<(aD a 1 0) 4*16777216+(aD a 1 0) 3*65536+(aD a 1 0) 2*256+(aD a 1 0) 1) by omega)) m0)
                                                               rcases (show (4≤(aD a 1 0) 29∧(aD a 1 0) 29≤255)∨(0≤(aD a 1 0) 29∧(aD a 1 0) 29≤3) by omega) with c | k0
                                                               ·exact eT a f g d rbP1 _ _ _ xqrun w h k l (List.forall_mem_append.2 ⟨o0,m1 c m0⟩) ob rfl
                                                               ·
                                                                 have o1:∀ p ∈ oE1,inR p.2 (p.1.i (nK a f g d)):=List.forall_mem_append.2 ⟨o0,m1 k0 m0⟩
                                                                 rcases (show (64≤(aD a 1 0) 27∧(aD a 1 0) 27≤255)∨(0≤(aD a 1 0) 27∧(aD a 1 0) 27≤63) by omega) with c | k1
                                                                 ·exact eT a f g d rbP1 _ _ _ xfrun w h k l (List.forall_mem_append.2 ⟨o1,m1 c m0⟩) ob rfl
                                                                 ·
                                                                   have o2:∀ p ∈ oE2,inR p.2 (p.1.i (nK a f g d)):=List.forall_mem_append.2 ⟨o1,m1 k1 m0⟩
                                                                   rcases (show (64≤(aD a 1 0) 28∧(aD a 1 0) 28≤255)∨(0≤(aD a 1 0) 28∧(aD a 1 0) 28≤63) by omega) with c | k2
                                                                   ·exact eT a f g d rbP1 _ _ _ xgrun w h k l (List.forall_mem_append.2 ⟨o2,m1 c m0⟩) ob rfl
                                                                   ·
                                                                     have o3:∀ p ∈ oE3,inR p.2 (p.1.i (nK a f g d)):=List.forall_mem_append.2 ⟨o2,m1 k2 m0⟩
                                                                     rcases (show (256≤(aD a 1 0) 16*256+(aD a 1 0) 15∧(aD a 1 0) 16*256+(aD a 1 0) 15≤65535)∨(0≤(aD a 1 0) 16*256+(aD a 1 0) 15∧(aD a 1 0) 16*256+(aD a 1 0) 15≤255) by omega) with c | k3
                                                                     ·exact eT a f g d rbP1 _ _ _ xdrun w h k l (List.forall_mem_append.2 ⟨o3,m1 c m0⟩) ob rfl
                                                                     ·
                                                                       have o4:∀ p ∈ oE4,inR p.2 (p.1.i (nK a f g d)):=List.forall_mem_append.2 ⟨o3,m1 k3 m0⟩
                                                                       rcases (show (1024≤(aD a 1 0) 18*256+(aD a 1 0) 17∧(aD a 1 0) 18*256+(aD a 1 0) 17≤65535)∨(0≤(aD a 1 0) 18*256+(aD a 1 0) 17∧(aD a 1 0) 18*256+(aD a 1 0) 17≤1023) by omega) with c | k4
                                                                       ·exact eT a f g d rbP1 _ _ _ xrrun w h k l (List.forall_mem_append.2 ⟨o4,m1 c m0⟩) ob rfl
                                                                       ·
                                                                         have o5:∀ p ∈ oE5,inR p.2 (p.1.i (nK a f g d)):=List.forall_mem_append.2 ⟨o4,m1 k4 m0⟩
                                                                         rcases (show (2048≤(aD a 1 0) 6*256+(aD a 1 0) 5∧(aD a 1 0) 6*256+(aD a 1 0) 5≤65535)∨(0≤(aD a 1 0) 6*256+(aD a 1 0) 5∧(aD a 1 0) 6*256+(aD a 1 0) 5≤2047) by omega) with c | k5
                                                                         ·exact eT a f g d rbP1 _ _ _ xprun w h k l (List.forall_mem_append.2 ⟨o5,m1 c m0⟩) ob rfl
                                                                         ·
                                                                           have o6:∀ p ∈ oE6,inR p.2 (p.1.i (nK a f g d)):=List.forall_mem_append.2 ⟨o5,m1 k5 m0⟩
                                                                           rcases (show (2048≤(aD a 1 0) 31*256+(aD a 1 0) 30∧(aD a 1 0) 31*256+(aD a 1 0) 30≤65535)∨(0≤(aD a 1 0) 31*256+(aD a 1 0) 30∧(aD a 1 0) 31*256+(aD a 1 0) 30≤2047) by omega) with c | k6
                                                                           ·exact eT a f g d rbP1 _ _ _ bQK w h k l (List.forall_mem_append.2 ⟨o6,m1 c m0⟩) ob rfl
                                                                           ·
                                                                             have o7:∀ p ∈ oE7,inR p.2 (p.1.i (nK a f g d)):=List.forall_mem_append.2 ⟨o6,m1 k6 m0⟩
                                                                             rcases (show (2048≤(aD a 1 0) 33*256+(aD a 1 0) 32∧(aD a 1 0) 33*256+(aD a 1 0) 32≤65535)∨(0≤(aD a 1 0) 33*256+(aD a 1 0) 32∧(aD a 1 0) 33*256+(aD a 1 0) 32≤2047) by omega) with c | k7
                                                                             ·exact eT a f g d rbP1 _ _ _ bQL w h k l (List.forall_mem_append.2 ⟨o7,m1 c m0⟩) ob rfl
                                                                             ·
                                                                               have o8:∀ p ∈ oE8,inR p.2 (p.1.i (nK a f g d)):=List.forall_mem_append.2 ⟨o7,m1 k7 m0⟩
                                                                               rcases (show (2048≤(aD a 1 0) 35*256+(aD a 1 0) 34∧(aD a 1 0) 35*256+(aD a 1 0) 34≤65535)∨(0≤(aD a 1 0) 35*256+(aD a 1 0) 34∧(aD a 1 0) 35*256+(aD a 1 0) 34≤2047) by omega) with c | k8
                                                                               ·exact eT a f g d rbP1 _ _ _ bQM w h k l (List.forall_mem_append.2 ⟨o8,m1 c m0⟩) ob rfl
                                                                               ·
                                                                                 have o9:∀ p ∈ oE9,inR p.2 (p.1.i (nK a f g d)):=List.forall_mem_append.2 ⟨o8,m1 k8 m0⟩
                                                                                 rcases (show (2048≤(aD a 1 0) 37*256+(aD a 1 0) 36∧(aD a 1 0) 37*256+(aD a 1 0) 36≤65535)∨(0≤(aD a 1 0) 37*256+(aD a 1 0) 36∧(aD a 1 0) 37*256+(aD a 1 0) 36≤2047) by omega) with c | k9
                                                                                 ·exact eT a f g d rbP1 _ _ _ bQN w h k l (List.forall_mem_append.2 ⟨o9,m1 c m0⟩) ob rfl
                                                                                 ·
                                                                                   have o10:∀ p ∈ oE10,inR p.2 (p.1.i (nK a f g d)):=List.forall_mem_append.2 ⟨o9,m1 k9 m0⟩
                                                                                   exact eT a f g d rbP1 _ _ _ okrun w h k l o10 ob (okv _ _ _ _ _ _ _ _ hA (show 28≤(aD a 1 0) 0∧(aD a 1 0) 0≤28 by omega) (show 549≤(aD a 1 0) 4*16777216+(aD a 1 0) 3*65536+(aD a 1 0) 2*256+(aD a 1 0) 1∧(aD a 1 0) 4*16777216+(aD a 1 0) 3*65536+(aD a 1 0) 2*256+(aD a 1 0) 1≤549 by omega) (show 512≤(aD a 1 0) 41*16777216+(aD a 1 0) 40*65536+(aD a 1 0) 39*256+(aD a 1 0) 38∧(aD a 1 0) 41*16777216+(aD a 1 0) 40*65536+(aD a 1 0) 39*256+(aD a 1 0) 38≤512 by omega) k0 k1 k2 k3 k4 k5 k6 k7 k8 k9)
theorem own:ownKnob Try.prog.godebug=none:=by kernel_rfl
theorem lifted (os:Os) (started:os.Started) (H:Type) (enc:TypeId × Value→H) :
 ReturnsInHanded {} Try.checked os 6 .any (Rows.signalLoadsSpec.pre6 enc Try.prog Try.f6 Rows.signalLoadsRow.domain false) (Rows.signalLoadsSpec.post enc Try.prog Try.f6 false true false false):=by
 refine returnsInHanded_of_change (C:=Try.checked) own started (by kernel_rfl) Try.func6
  (ChangeSpec.witness6 (enc:=enc) (C:=Try.checked) false ⟨#[],#[.slice none 0 0,.agg #[.slice none 0 0,.slice none 0 0,.int .u8 0]],[]⟩ 8 (by kernel_rfl) (by kernel_rfl) (by kernel_rfl) (by kernel_rfl)) ?_
 intro W base args ds gs before hval0 hW hcnd _
 have hval:∀ (j:Nat) t v,Try.f6.params[j]? = some t→args[j]? = some v→Value.okWide Try.prog W .any base t v:=hval0
 have hW':=hW
 obtain ⟨p,q,hA0,hV,rfl,hfz,hnd⟩:=hW
 have hA1:DataW.TrodAll enc Try.prog W 0 (fun _=>true) true Try.f6.params.toList args.toList ds p:=hA0
 rw [Try.params6] at hA1 hval
 obtain ⟨v0,vs0,d0,ds0,p0,q0,hargs,rfl,rfl,h0,r0⟩:=trodAll_cons hA1
 obtain ⟨v1,vs1,d1,ds1,p1,q1,rfl,rfl,rfl,h1,r1⟩:=trodAll_cons r0
 obtain ⟨rfl,rfl,rfl⟩:=trodAll_nil r1
 obtain rfl:args=#[v0,v1]:=by cases args;simp_all
 obtain ⟨a,rfl,h⟩:=bEs [some .u8] 4 Try.underlying52 (by kernel_rfl) (by kernel_rfl) (by decide) (hval 0 52 v0 rfl rfl) h0
 obtain ⟨f,g,d,rfl,k,l,rbP1⟩:=bAv (k0:=some .u32) (k1:=some .u16) (k2:=.u8) 8 Try.underlying32 (by kernel_rfl) ⟨rfl,rfl⟩ Try.underlying25 Try.underlying30 ⟨by kernel_rfl,by kernel_rfl⟩ ⟨by kernel_rfl,by kernel_rfl⟩ ⟨by kernel_rfl,by kernel_rfl⟩ (by kernel_rfl) (hval 1 32 v1 rfl rfl) h1
 obtain ⟨rfl,rfl⟩:=trodVars_none hV
 refine (calls a f g d rbP1 W h k l).mono fun e W' ⟨he,hb⟩=>⟨_,he,?_⟩
 exact bDI (by kernel_rfl) (by kernel_rfl) rfl (by kernel_rfl) Try.underlying4 rfl hW' hb
theorem over:Rows.signalLoadsRow.holds Try.pinned (OpenSpec.ofChange Rows.signalLoadsSpec) :=
 OpenClaim.holds_of_wide 6 Try.f6 rfl rfl rfl rfl rfl rfl rfl ⟨rfl,rfl,rfl,rfl,rfl⟩ rfl rfl rfl rfl rfl (by kernel_rfl) Try.func6 (by kernel_rfl)
  (of_decide_eq_true (by kernel_rfl)) (by unfold Func.isWrapper;first | (rw [if_pos (by decide +kernel)];kernel_rfl) | (rw [if_neg (by decide +kernel)];exact ⟨rfl,rfl⟩))
  (fun os started H enc _=>lifted os started H enc)
theorem proved:Rows.SignalLoadsSaid:=over
#print axioms proved
end Go.Proofs.Ytcckecfjjccffaa.SignalLoads
