/- A part of the law BlendPlain, which returns true for every input. Without a region and a math bit the colour is that of the layer in front, or what lies behind. No condition. -/
import Derived.Test.YtgbncbclhdnbmaaBlendPlain0
namespace Go.Proofs.Ytgbncbclhdnbmaa.BlendPlain
open Go.Sx Go.ChangeShapes Go.WideShapes Go.ChangeAt Go.RowKit
set_option linter.unusedVariables false
set_option linter.unusedSimpArgs false
set_option maxRecDepth 100000
def e7_Hy : Hyp := ⟨[(.v 0, (-32768, 32767)), (.v 1, (-32768, 32767)), (.v 2, (0, 65535)), (.v 3, (0, 255)), (.v 4, (0, 255)), (.v 5, (0, 65535)), (.v 6, (0, 255)), (.v 7, (0, 255)), (.v 8, (0, 65535)), (.v 9, (0, 255)), (.v 10, (0, 255)), (.v 11, (0, 65535)), (.v 12, (0, 255)), (.v 13, (0, 255)), (.v 14, (0, 65535)), (.v 15, (0, 255)), (.v 16, (0, 255)), (.v 17, (0, 65535)), (.v 18, (0, 255)), (.v 19, (0, 65535)), ((.mod (.sel (.av 0) (.lit 5)) (.lit 8)), (7, 7))], [(0, (0, 255)), (1, (0, 65535)), (2, (0, 65535)), (3, (-32768, 32767))], [], [], [], []⟩
def e7_Ls : List SV := [.agg (pcSegs 0 0 0 Pc0), .agg (pcSegs 4 0 3 Pc1), .s (.int .i64 (.v 18)), .s (.int .u16 (.v 19))]
def e7_c0 : E := .sel (.av 0) (.lit 44)
def e7_c1 : E := .div e7_c0 (.lit 16)
def e7_c2 : E := .mod e7_c1 (.lit 2)
def e7_c3 : E := .eq e7_c2 (.lit 0)
def e7_c4 : E := .not (.bv 4)
def e7_c5 : E := .or e7_c3 e7_c4
def e7_c6 : E := .eq (.v 15) (.lit 3)
def e7_c7 : E := .not e7_c6
def e7_c8 : E := .or e7_c5 e7_c7
def e7_c9 : E := .sel (.av 0) (.lit 37)
def e7_c10 : E := .div e7_c9 (.lit 8)
def e7_c11 : E := .mod e7_c10 (.lit 2)
def e7_c12 : E := .mul e7_c11 (.lit 8)
def e7_c13 : E := .div e7_c9 (.lit 2)
def e7_c14 : E := .mod e7_c13 (.lit 2)
def e7_c15 : E := .mul e7_c14 (.lit 2)
def e7_c16 : E := .add e7_c12 e7_c15
def e7_c17 : E := .eq e7_c16 (.lit 2)
def e7_c18 : E := .sel (.av 0) (.lit 39)
def e7_c19 : E := .le (.v 18) e7_c18
def e7_c20 : E := .sel (.av 0) (.lit 38)
def e7_c21 : E := .le e7_c20 (.v 18)
def e7_c22 : E := .and e7_c19 e7_c21
def e7_c23 : E := .mod e7_c9 (.lit 2)
def e7_c24 : E := .eq e7_c23 (.lit 0)
def e7_c25 : E := .not e7_c24
def e7_c26 : E := .iff e7_c22 e7_c25
def e7_c27 : E := .not e7_c26
def e7_c28 : E := .eq e7_c16 (.lit 8)
def e7_c29 : E := .sel (.av 0) (.lit 41)
def e7_c30 : E := .le (.v 18) e7_c29
def e7_c31 : E := .sel (.av 0) (.lit 40)
def e7_c32 : E := .le e7_c31 (.v 18)
def e7_c33 : E := .and e7_c30 e7_c32
def e7_c34 : E := .div e7_c9 (.lit 4)
def e7_c35 : E := .mod e7_c34 (.lit 2)
def e7_c36 : E := .eq e7_c35 (.lit 0)
def e7_c37 : E := .not e7_c36
def e7_c38 : E := .iff e7_c33 e7_c37
def e7_c39 : E := .not e7_c38
def e7_c40 : E := .sel (.av 0) (.lit 43)
def e7_c41 : E := .mod e7_c40 (.lit 4)
def e7_c42 : E := .eq e7_c41 (.lit 0)
def e7_c43 : E := .or e7_c27 e7_c39
def e7_c44 : E := .eq e7_c41 (.lit 1)
def e7_c45 : E := .and e7_c27 e7_c39
def e7_c46 : E := .eq e7_c41 (.lit 2)
def e7_c47 : E := .iff e7_c27 e7_c39
def e7_c48 : E := .not e7_c47
def e7_c49 : E := .ite e7_c46 e7_c48 e7_c47
def e7_c50 : E := .ite e7_c44 e7_c45 e7_c49
def e7_c51 : E := .ite e7_c42 e7_c43 e7_c50
def e7_c52 : E := .ite e7_c28 e7_c39 e7_c51
def e7_c53 : E := .ite e7_c17 e7_c27 e7_c52
def e7_c54 : E := .eq e7_c16 (.lit 0)
def e7_c55 : E := .not e7_c54
def e7_c56 : E := .and e7_c53 e7_c55
def e7_c57 : E := .sel (.av 0) (.lit 46)
def e7_c58 : E := .div e7_c57 (.lit 16)
def e7_c59 : E := .mod e7_c58 (.lit 2)
def e7_c60 : E := .eq e7_c59 (.lit 0)
def e7_c61 : E := .not e7_c60
def e7_c62 : E := .and e7_c56 e7_c61
def e7_c63 : E := .or e7_c8 e7_c62
def e7_c64 : E := .eq (.v 15) (.lit 2)
def e7_c65 : E := .not e7_c64
def e7_c66 : E := .or e7_c5 e7_c65
def e7_c67 : E := .or e7_c66 e7_c62
def e7_c68 : E := .div e7_c0 (.lit 2)
def e7_c69 : E := .mod e7_c68 (.lit 2)
def e7_c70 : E := .eq e7_c69 (.lit 0)
def e7_c71 : E := .not (.bv 1)
def e7_c72 : E := .or e7_c70 e7_c71
def e7_c73 : E := .eq (.v 6) (.lit 1)
def e7_c74 : E := .not e7_c73
def e7_c75 : E := .or e7_c72 e7_c74
def e7_c76 : E := .sel (.av 0) (.lit 35)
def e7_c77 : E := .div e7_c76 (.lit 128)
def e7_c78 : E := .mul e7_c77 (.lit 8)
def e7_c79 : E := .div e7_c76 (.lit 32)
def e7_c80 : E := .mod e7_c79 (.lit 2)
def e7_c81 : E := .mul e7_c80 (.lit 2)
def e7_c82 : E := .add e7_c78 e7_c81
def e7_c83 : E := .eq e7_c82 (.lit 2)
def e7_c84 : E := .div e7_c76 (.lit 16)
def e7_c85 : E := .mod e7_c84 (.lit 2)
def e7_c86 : E := .eq e7_c85 (.lit 0)
def e7_c87 : E := .not e7_c86
def e7_c88 : E := .iff e7_c22 e7_c87
def e7_c89 : E := .not e7_c88
def e7_c90 : E := .eq e7_c82 (.lit 8)
def e7_c91 : E := .div e7_c76 (.lit 64)
def e7_c92 : E := .mod e7_c91 (.lit 2)
def e7_c93 : E := .eq e7_c92 (.lit 0)
def e7_c94 : E := .not e7_c93
def e7_c95 : E := .iff e7_c33 e7_c94
def e7_c96 : E := .not e7_c95
def e7_c97 : E := .sel (.av 0) (.lit 42)
def e7_c98 : E := .div e7_c97 (.lit 4)
def e7_c99 : E := .mod e7_c98 (.lit 4)
def e7_c100 : E := .eq e7_c99 (.lit 0)
def e7_c101 : E := .or e7_c89 e7_c96
def e7_c102 : E := .eq e7_c99 (.lit 1)
def e7_c103 : E := .and e7_c89 e7_c96
def e7_c104 : E := .eq e7_c99 (.lit 2)
def e7_c105 : E := .iff e7_c89 e7_c96
def e7_c106 : E := .not e7_c105
def e7_c107 : E := .ite e7_c104 e7_c106 e7_c105
def e7_c108 : E := .ite e7_c102 e7_c103 e7_c107
def e7_c109 : E := .ite e7_c100 e7_c101 e7_c108
def e7_c110 : E := .ite e7_c90 e7_c96 e7_c109
def e7_c111 : E := .ite e7_c83 e7_c89 e7_c110
def e7_c112 : E := .eq e7_c82 (.lit 0)
def e7_c113 : E := .not e7_c112
def e7_c114 : E := .and e7_c111 e7_c113
def e7_c115 : E := .div e7_c57 (.lit 2)
def e7_c116 : E := .mod e7_c115 (.lit 2)
def e7_c117 : E := .eq e7_c116 (.lit 0)
def e7_c118 : E := .not e7_c117
def e7_c119 : E := .and e7_c114 e7_c118
def e7_c120 : E := .or e7_c75 e7_c119
def e7_c121 : E := .eq (.v 15) (.lit 1)
def e7_c122 : E := .not e7_c121
def e7_c123 : E := .or e7_c5 e7_c122
def e7_c124 : E := .or e7_c123 e7_c62
def e7_c125 : E := .mod e7_c0 (.lit 2)
def e7_c126 : E := .eq e7_c125 (.lit 0)
def e7_c127 : E := .not (.bv 0)
def e7_c128 : E := .or e7_c126 e7_c127
def e7_c129 : E := .eq (.v 3) (.lit 0)
def e7_c130 : E := .not e7_c129
def e7_c131 : E := .or e7_c128 e7_c130
def e7_c132 : E := .div e7_c76 (.lit 8)
def e7_c133 : E := .mod e7_c132 (.lit 2)
def e7_c134 : E := .mul e7_c133 (.lit 8)
def e7_c135 : E := .div e7_c76 (.lit 2)
def e7_c136 : E := .mod e7_c135 (.lit 2)
def e7_c137 : E := .mul e7_c136 (.lit 2)
def e7_c138 : E := .add e7_c134 e7_c137
def e7_c139 : E := .eq e7_c138 (.lit 2)
def e7_c140 : E := .mod e7_c76 (.lit 2)
def e7_c141 : E := .eq e7_c140 (.lit 0)
def e7_c142 : E := .not e7_c141
def e7_c143 : E := .iff e7_c22 e7_c142
def e7_c144 : E := .not e7_c143
def e7_c145 : E := .eq e7_c138 (.lit 8)
def e7_c146 : E := .div e7_c76 (.lit 4)
def e7_c147 : E := .mod e7_c146 (.lit 2)
def e7_c148 : E := .eq e7_c147 (.lit 0)
def e7_c149 : E := .not e7_c148
def e7_c150 : E := .iff e7_c33 e7_c149
def e7_c151 : E := .not e7_c150
def e7_c152 : E := .mod e7_c97 (.lit 4)
def e7_c153 : E := .eq e7_c152 (.lit 0)
def e7_c154 : E := .or e7_c144 e7_c151
def e7_c155 : E := .eq e7_c152 (.lit 1)
def e7_c156 : E := .and e7_c144 e7_c151
def e7_c157 : E := .eq e7_c152 (.lit 2)
def e7_c158 : E := .iff e7_c144 e7_c151
def e7_c159 : E := .not e7_c158
def e7_c160 : E := .ite e7_c157 e7_c159 e7_c158
def e7_c161 : E := .ite e7_c155 e7_c156 e7_c160
def e7_c162 : E := .ite e7_c153 e7_c154 e7_c161
def e7_c163 : E := .ite e7_c145 e7_c151 e7_c162
def e7_c164 : E := .ite e7_c139 e7_c144 e7_c163
def e7_c165 : E := .eq e7_c138 (.lit 0)
def e7_c166 : E := .not e7_c165
def e7_c167 : E := .and e7_c164 e7_c166
def e7_c168 : E := .mod e7_c57 (.lit 2)
def e7_c169 : E := .eq e7_c168 (.lit 0)
def e7_c170 : E := .not e7_c169
def e7_c171 : E := .and e7_c167 e7_c170
def e7_c172 : E := .or e7_c131 e7_c171
def e7_c173 : E := .eq (.v 15) (.lit 0)
def e7_c174 : E := .not e7_c173
def e7_c175 : E := .or e7_c5 e7_c174
def e7_c176 : E := .or e7_c175 e7_c62
def e7_c177 : E := .eq (.v 6) (.lit 0)
def e7_c178 : E := .not e7_c177
def e7_c179 : E := .or e7_c72 e7_c178
def e7_c180 : E := .or e7_c179 e7_c119
def e7_p0Hy : Hyp := (addF true e7_c180 (addF true e7_c176 (addF true e7_c172 (addF true e7_c124 (addF true e7_c120 (addF true e7_c67 (addF true e7_c63 e7_Hy)))))))
theorem e7_p0run : enter Try.prog G Gh 6000 40 8 e7_p0Hy e7_Ls [] = some ([], .s (.bool (.blit true)), none) := by kernel_rfl
def e7_p1Hy : Hyp := (addF false e7_c180 (addF true e7_c176 (addF true e7_c172 (addF true e7_c124 (addF true e7_c120 (addF true e7_c67 (addF true e7_c63 e7_Hy)))))))
theorem e7_p1run : enter Try.prog G Gh 6000 40 8 e7_p1Hy e7_Ls [] = some ([], .s (.bool (.blit true)), none) := by kernel_rfl
def e7_p2Hy : Hyp := (addF false e7_c176 (addF true e7_c172 (addF true e7_c124 (addF true e7_c120 (addF true e7_c67 (addF true e7_c63 e7_Hy))))))
theorem e7_p2run : enter Try.prog G Gh 6000 40 8 e7_p2Hy e7_Ls [] = some ([], .s (.bool (.blit true)), none) := by kernel_rfl
def e7_p3Hy : Hyp := (addF false e7_c172 (addF true e7_c124 (addF true e7_c120 (addF true e7_c67 (addF true e7_c63 e7_Hy)))))
theorem e7_p3run : enter Try.prog G Gh 6000 40 8 e7_p3Hy e7_Ls [] = some ([], .s (.bool (.blit true)), none) := by kernel_rfl
def e7_p4Hy : Hyp := (addF false e7_c124 (addF true e7_c120 (addF true e7_c67 (addF true e7_c63 e7_Hy))))
theorem e7_p4run : enter Try.prog G Gh 6000 40 8 e7_p4Hy e7_Ls [] = some ([], .s (.bool (.blit true)), none) := by kernel_rfl
def e7_p5Hy : Hyp := (addF false e7_c120 (addF true e7_c67 (addF true e7_c63 e7_Hy)))
theorem e7_p5run : enter Try.prog G Gh 6000 40 8 e7_p5Hy e7_Ls [] = some ([], .s (.bool (.blit true)), none) := by kernel_rfl
def e7_p6Hy : Hyp := (addF false e7_c67 (addF true e7_c63 e7_Hy))
theorem e7_p6run : enter Try.prog G Gh 6000 40 8 e7_p6Hy e7_Ls [] = some ([], .s (.bool (.blit true)), none) := by kernel_rfl
def e7_p7Hy : Hyp := (addF false e7_c63 e7_Hy)
theorem e7_p7run : enter Try.prog G Gh 6000 40 8 e7_p7Hy e7_Ls [] = some ([], .s (.bool (.blit true)), none) := by kernel_rfl
theorem e7_calls (c0 : List Value) (l0 : c0.length = pcTotal Pc0) (f0 : PcFit c0 0 Pc0) (c1 : List Value) (l1 : c1.length = pcTotal Pc1) (f1 : PcFit c1 0 Pc1) (a2 : Int) (w2 : 0 ≤ a2 ∧ a2 ≤ 255) (a3 : Int) (w3 : (Lit.int .u16 a3).wf = true) (hex0 : (arrOf c0 0 64) 5 % 8 = 7) (w : World) :
    Calls Try.prog 8 #[.agg c0.toArray, .agg c1.toArray, .int .i64 a2, .int .u16 a3] w fun r w' => r = .returned (.bool true) ∧ Below w.heap.size w w' := by
  have hc0 : cellsOf (⟨[intV (c0.getD 78 Go.undef), intV (c0.getD 79 Go.undef), intV (c0.getD 80 Go.undef), intV (c1.getD 1 Go.undef), intV (c1.getD 2 Go.undef), intV (c1.getD 3 Go.undef), intV (c1.getD 5 Go.undef), intV (c1.getD 6 Go.undef), intV (c1.getD 7 Go.undef), intV (c1.getD 9 Go.undef), intV (c1.getD 10 Go.undef), intV (c1.getD 11 Go.undef), intV (c1.getD 13 Go.undef), intV (c1.getD 14 Go.undef), intV (c1.getD 15 Go.undef), intV (c1.getD 17 Go.undef), intV (c1.getD 18 Go.undef), intV (c1.getD 19 Go.undef), a2, a3], [boolV (c1.getD 0 Go.undef), boolV (c1.getD 4 Go.undef), boolV (c1.getD 8 Go.undef), boolV (c1.getD 12 Go.undef), boolV (c1.getD 16 Go.undef)], [arrOf c0 0 64, arrOf c0 64 4, arrOf c0 68 4, arrOf c0 72 6], [], Iv (fun _ _ => Ext.none)⟩ : Env) Loc.id (pcSegs 0 0 0 Pc0) = c0 := by
    rw [pc_cells Pc0 0 0 0 0 f0 (by intro j hj; rcases j with _ | _ | _ | _ | j <;> first | rfl | (simp [Pc0, pcA, pcB, pcI] at hj; omega)) (by intro j hj; simp [Pc0, pcA, pcB, pcI] at hj) (by intro j hj; rcases j with _ | _ | _ | j <;> first | rfl | (simp [Pc0, pcA, pcB, pcI] at hj; omega)), List.drop_zero, ← l0, List.take_length]
  have hc1 : cellsOf (⟨[intV (c0.getD 78 Go.undef), intV (c0.getD 79 Go.undef), intV (c0.getD 80 Go.undef), intV (c1.getD 1 Go.undef), intV (c1.getD 2 Go.undef), intV (c1.getD 3 Go.undef), intV (c1.getD 5 Go.undef), intV (c1.getD 6 Go.undef), intV (c1.getD 7 Go.undef), intV (c1.getD 9 Go.undef), intV (c1.getD 10 Go.undef), intV (c1.getD 11 Go.undef), intV (c1.getD 13 Go.undef), intV (c1.getD 14 Go.undef), intV (c1.getD 15 Go.undef), intV (c1.getD 17 Go.undef), intV (c1.getD 18 Go.undef), intV (c1.getD 19 Go.undef), a2, a3], [boolV (c1.getD 0 Go.undef), boolV (c1.getD 4 Go.undef), boolV (c1.getD 8 Go.undef), boolV (c1.getD 12 Go.undef), boolV (c1.getD 16 Go.undef)], [arrOf c0 0 64, arrOf c0 64 4, arrOf c0 68 4, arrOf c0 72 6], [], Iv (fun _ _ => Ext.none)⟩ : Env) Loc.id (pcSegs 4 0 3 Pc1) = c1 := by
    rw [pc_cells Pc1 0 4 0 3 f1 (by intro j hj; simp [Pc1, pcA, pcB, pcI] at hj) (by intro j hj; rcases j with _ | _ | _ | _ | _ | j <;> first | rfl | (simp [Pc1, pcA, pcB, pcI] at hj; omega)) (by intro j hj; rcases j with _ | _ | _ | _ | _ | _ | _ | _ | _ | _ | _ | _ | _ | _ | _ | j <;> first | rfl | (simp [Pc1, pcA, pcB, pcI] at hj; omega)), List.drop_zero, ← l1, List.take_length]
  have hargs : (e7_Ls.map (SV.conc (⟨[intV (c0.getD 78 Go.undef), intV (c0.getD 79 Go.undef), intV (c0.getD 80 Go.undef), intV (c1.getD 1 Go.undef), intV (c1.getD 2 Go.undef), intV (c1.getD 3 Go.undef), intV (c1.getD 5 Go.undef), intV (c1.getD 6 Go.undef), intV (c1.getD 7 Go.undef), intV (c1.getD 9 Go.undef), intV (c1.getD 10 Go.undef), intV (c1.getD 11 Go.undef), intV (c1.getD 13 Go.undef), intV (c1.getD 14 Go.undef), intV (c1.getD 15 Go.undef), intV (c1.getD 17 Go.undef), intV (c1.getD 18 Go.undef), intV (c1.getD 19 Go.undef), a2, a3], [boolV (c1.getD 0 Go.undef), boolV (c1.getD 4 Go.undef), boolV (c1.getD 8 Go.undef), boolV (c1.getD 12 Go.undef), boolV (c1.getD 16 Go.undef)], [arrOf c0 0 64, arrOf c0 64 4, arrOf c0 68 4, arrOf c0 72 6], [], Iv (fun _ _ => Ext.none)⟩ : Env) Loc.id)).toArray = #[.agg c0.toArray, .agg c1.toArray, .int .i64 a2, .int .u16 a3] := by
    refine congrArg List.toArray ?_
    exact (cons_eq (congrArg (fun l => Value.agg (List.toArray l)) hc0) (cons_eq (congrArg (fun l => Value.agg (List.toArray l)) hc1) (cons_eq rfl (cons_eq rfl rfl))))
  rw [← hargs]
  have hok : Hyp.ok e7_Hy (⟨[intV (c0.getD 78 Go.undef), intV (c0.getD 79 Go.undef), intV (c0.getD 80 Go.undef), intV (c1.getD 1 Go.undef), intV (c1.getD 2 Go.undef), intV (c1.getD 3 Go.undef), intV (c1.getD 5 Go.undef), intV (c1.getD 6 Go.undef), intV (c1.getD 7 Go.undef), intV (c1.getD 9 Go.undef), intV (c1.getD 10 Go.undef), intV (c1.getD 11 Go.undef), intV (c1.getD 13 Go.undef), intV (c1.getD 14 Go.undef), intV (c1.getD 15 Go.undef), intV (c1.getD 17 Go.undef), intV (c1.getD 18 Go.undef), intV (c1.getD 19 Go.undef), a2, a3], [boolV (c1.getD 0 Go.undef), boolV (c1.getD 4 Go.undef), boolV (c1.getD 8 Go.undef), boolV (c1.getD 12 Go.undef), boolV (c1.getD 16 Go.undef)], [arrOf c0 0 64, arrOf c0 64 4, arrOf c0 68 4, arrOf c0 72 6], [], Iv (fun _ _ => Ext.none)⟩ : Env) := by
    refine ⟨?_, ?_, ?_, by simp [e7_Hy], ?_, by simp [e7_Hy]⟩
    · simp [e7_Hy]
    · intro p hp
      simp only [e7_Hy, List.mem_cons, List.not_mem_nil, or_false] at hp
      rcases hp with rfl | rfl | rfl | rfl | rfl | rfl | rfl | rfl | rfl | rfl | rfl | rfl | rfl | rfl | rfl | rfl | rfl | rfl | rfl | rfl | rfl
      · exact num_rng (f0.tail.tail.tail.tail)
      · exact num_rng (f0.tail.tail.tail.tail.tail)
      · exact num_rng (f0.tail.tail.tail.tail.tail.tail)
      · exact num_rng (f1.tail)
      · exact num_rng (f1.tail.tail)
      · exact num_rng (f1.tail.tail.tail)
      · exact num_rng (f1.tail.tail.tail.tail.tail)
      · exact num_rng (f1.tail.tail.tail.tail.tail.tail)
      · exact num_rng (f1.tail.tail.tail.tail.tail.tail.tail)
      · exact num_rng (f1.tail.tail.tail.tail.tail.tail.tail.tail.tail)
      · exact num_rng (f1.tail.tail.tail.tail.tail.tail.tail.tail.tail.tail)
      · exact num_rng (f1.tail.tail.tail.tail.tail.tail.tail.tail.tail.tail.tail)
      · exact num_rng (f1.tail.tail.tail.tail.tail.tail.tail.tail.tail.tail.tail.tail.tail)
      · exact num_rng (f1.tail.tail.tail.tail.tail.tail.tail.tail.tail.tail.tail.tail.tail.tail)
      · exact num_rng (f1.tail.tail.tail.tail.tail.tail.tail.tail.tail.tail.tail.tail.tail.tail.tail)
      · exact num_rng (f1.tail.tail.tail.tail.tail.tail.tail.tail.tail.tail.tail.tail.tail.tail.tail.tail.tail)
      · exact num_rng (f1.tail.tail.tail.tail.tail.tail.tail.tail.tail.tail.tail.tail.tail.tail.tail.tail.tail.tail)
      · exact num_rng (f1.tail.tail.tail.tail.tail.tail.tail.tail.tail.tail.tail.tail.tail.tail.tail.tail.tail.tail.tail)
      · exact w2
      · exact bounds_u16 w3
      · exact (by have hx := hex0; first | exact ⟨Int.le_of_eq hx.symm, Int.le_of_eq hx⟩ | exact hx)
    · intro p hp
      simp only [e7_Hy, List.mem_cons, List.not_mem_nil, or_false] at hp
      rcases hp with rfl | rfl | rfl | rfl
      · exact arrOf_rng (f0)
      · exact arrOf_rng (f0.tail)
      · exact arrOf_rng (f0.tail.tail)
      · exact arrOf_rng (f0.tail.tail.tail)
    · simp [e7_Hy]
  cases h0 : E.b (⟨[intV (c0.getD 78 Go.undef), intV (c0.getD 79 Go.undef), intV (c0.getD 80 Go.undef), intV (c1.getD 1 Go.undef), intV (c1.getD 2 Go.undef), intV (c1.getD 3 Go.undef), intV (c1.getD 5 Go.undef), intV (c1.getD 6 Go.undef), intV (c1.getD 7 Go.undef), intV (c1.getD 9 Go.undef), intV (c1.getD 10 Go.undef), intV (c1.getD 11 Go.undef), intV (c1.getD 13 Go.undef), intV (c1.getD 14 Go.undef), intV (c1.getD 15 Go.undef), intV (c1.getD 17 Go.undef), intV (c1.getD 18 Go.undef), intV (c1.getD 19 Go.undef), a2, a3], [boolV (c1.getD 0 Go.undef), boolV (c1.getD 4 Go.undef), boolV (c1.getD 8 Go.undef), boolV (c1.getD 12 Go.undef), boolV (c1.getD 16 Go.undef)], [arrOf c0 0 64, arrOf c0 64 4, arrOf c0 68 4, arrOf c0 72 6], [], Iv (fun _ _ => Ext.none)⟩ : Env) e7_c63 with
  | false =>
    exact law_true (ρ := (⟨[intV (c0.getD 78 Go.undef), intV (c0.getD 79 Go.undef), intV (c0.getD 80 Go.undef), intV (c1.getD 1 Go.undef), intV (c1.getD 2 Go.undef), intV (c1.getD 3 Go.undef), intV (c1.getD 5 Go.undef), intV (c1.getD 6 Go.undef), intV (c1.getD 7 Go.undef), intV (c1.getD 9 Go.undef), intV (c1.getD 10 Go.undef), intV (c1.getD 11 Go.undef), intV (c1.getD 13 Go.undef), intV (c1.getD 14 Go.undef), intV (c1.getD 15 Go.undef), intV (c1.getD 17 Go.undef), intV (c1.getD 18 Go.undef), intV (c1.getD 19 Go.undef), a2, a3], [boolV (c1.getD 0 Go.undef), boolV (c1.getD 4 Go.undef), boolV (c1.getD 8 Go.undef), boolV (c1.getD 12 Go.undef), boolV (c1.getD 16 Go.undef)], [arrOf c0 0 64, arrOf c0 64 4, arrOf c0 68 4, arrOf c0 72 6], [], Iv (fun _ _ => Ext.none)⟩ : Env)) (G_ok _) (by kernel_rfl) e7_p7run rfl (addF_ok _ _ _ hok h0) (by intro e he; cases he) rfl w (fun i j => Ext.none_ok _)
  | true =>
    cases h1 : E.b (⟨[intV (c0.getD 78 Go.undef), intV (c0.getD 79 Go.undef), intV (c0.getD 80 Go.undef), intV (c1.getD 1 Go.undef), intV (c1.getD 2 Go.undef), intV (c1.getD 3 Go.undef), intV (c1.getD 5 Go.undef), intV (c1.getD 6 Go.undef), intV (c1.getD 7 Go.undef), intV (c1.getD 9 Go.undef), intV (c1.getD 10 Go.undef), intV (c1.getD 11 Go.undef), intV (c1.getD 13 Go.undef), intV (c1.getD 14 Go.undef), intV (c1.getD 15 Go.undef), intV (c1.getD 17 Go.undef), intV (c1.getD 18 Go.undef), intV (c1.getD 19 Go.undef), a2, a3], [boolV (c1.getD 0 Go.undef), boolV (c1.getD 4 Go.undef), boolV (c1.getD 8 Go.undef), boolV (c1.getD 12 Go.undef), boolV (c1.getD 16 Go.undef)], [arrOf c0 0 64, arrOf c0 64 4, arrOf c0 68 4, arrOf c0 72 6], [], Iv (fun _ _ => Ext.none)⟩ : Env) e7_c67 with
    | false =>
      exact law_true (ρ := (⟨[intV (c0.getD 78 Go.undef), intV (c0.getD 79 Go.undef), intV (c0.getD 80 Go.undef), intV (c1.getD 1 Go.undef), intV (c1.getD 2 Go.undef), intV (c1.getD 3 Go.undef), intV (c1.getD 5 Go.undef), intV (c1.getD 6 Go.undef), intV (c1.getD 7 Go.undef), intV (c1.getD 9 Go.undef), intV (c1.getD 10 Go.undef), intV (c1.getD 11 Go.undef), intV (c1.getD 13 Go.undef), intV (c1.getD 14 Go.undef), intV (c1.getD 15 Go.undef), intV (c1.getD 17 Go.undef), intV (c1.getD 18 Go.undef), intV (c1.getD 19 Go.undef), a2, a3], [boolV (c1.getD 0 Go.undef), boolV (c1.getD 4 Go.undef), boolV (c1.getD 8 Go.undef), boolV (c1.getD 12 Go.undef), boolV (c1.getD 16 Go.undef)], [arrOf c0 0 64, arrOf c0 64 4, arrOf c0 68 4, arrOf c0 72 6], [], Iv (fun _ _ => Ext.none)⟩ : Env)) (G_ok _) (by kernel_rfl) e7_p6run rfl (addF_ok _ _ _ (addF_ok _ _ _ hok h0) h1) (by intro e he; cases he) rfl w (fun i j => Ext.none_ok _)
    | true =>
      cases h2 : E.b (⟨[intV (c0.getD 78 Go.undef), intV (c0.getD 79 Go.undef), intV (c0.getD 80 Go.undef), intV (c1.getD 1 Go.undef), intV (c1.getD 2 Go.undef), intV (c1.getD 3 Go.undef), intV (c1.getD 5 Go.undef), intV (c1.getD 6 Go.undef), intV (c1.getD 7 Go.undef), intV (c1.getD 9 Go.undef), intV (c1.getD 10 Go.undef), intV (c1.getD 11 Go.undef), intV (c1.getD 13 Go.undef), intV (c1.getD 14 Go.undef), intV (c1.getD 15 Go.undef), intV (c1.getD 17 Go.undef), intV (c1.getD 18 Go.undef), intV (c1.getD 19 Go.undef), a2, a3], [boolV (c1.getD 0 Go.undef), boolV (c1.getD 4 Go.undef), boolV (c1.getD 8 Go.undef), boolV (c1.getD 12 Go.undef), boolV (c1.getD 16 Go.undef)], [arrOf c0 0 64, arrOf c0 64 4, arrOf c0 68 4, arrOf c0 72 6], [], Iv (fun _ _ => Ext.none)⟩ : Env) e7_c120 with
      | false =>
        exact law_true (ρ := (⟨[intV (c0.getD 78 Go.undef), intV (c0.getD 79 Go.undef), intV (c0.getD 80 Go.undef), intV (c1.getD 1 Go.undef), intV (c1.getD 2 Go.undef), intV (c1.getD 3 Go.undef), intV (c1.getD 5 Go.undef), intV (c1.getD 6 Go.undef), intV (c1.getD 7 Go.undef), intV (c1.getD 9 Go.undef), intV (c1.getD 10 Go.undef), intV (c1.getD 11 Go.undef), intV (c1.getD 13 Go.undef), intV (c1.getD 14 Go.undef), intV (c1.getD 15 Go.undef), intV (c1.getD 17 Go.undef), intV (c1.getD 18 Go.undef), intV (c1.getD 19 Go.undef), a2, a3], [boolV (c1.getD 0 Go.undef), boolV (c1.getD 4 Go.undef), boolV (c1.getD 8 Go.undef), boolV (c1.getD 12 Go.undef), boolV (c1.getD 16 Go.undef)], [arrOf c0 0 64, arrOf c0 64 4, arrOf c0 68 4, arrOf c0 72 6], [], Iv (fun _ _ => Ext.none)⟩ : Env)) (G_ok _) (by kernel_rfl) e7_p5run rfl (addF_ok _ _ _ (addF_ok _ _ _ (addF_ok _ _ _ hok h0) h1) h2) (by intro e he; cases he) rfl w (fun i j => Ext.none_ok _)
      | true =>
        cases h3 : E.b (⟨[intV (c0.getD 78 Go.undef), intV (c0.getD 79 Go.undef), intV (c0.getD 80 Go.undef), intV (c1.getD 1 Go.undef), intV (c1.getD 2 Go.undef), intV (c1.getD 3 Go.undef), intV (c1.getD 5 Go.undef), intV (c1.getD 6 Go.undef), intV (c1.getD 7 Go.undef), intV (c1.getD 9 Go.undef), intV (c1.getD 10 Go.undef), intV (c1.getD 11 Go.undef), intV (c1.getD 13 Go.undef), intV (c1.getD 14 Go.undef), intV (c1.getD 15 Go.undef), intV (c1.getD 17 Go.undef), intV (c1.getD 18 Go.undef), intV (c1.getD 19 Go.undef), a2, a3], [boolV (c1.getD 0 Go.undef), boolV (c1.getD 4 Go.undef), boolV (c1.getD 8 Go.undef), boolV (c1.getD 12 Go.undef), boolV (c1.getD 16 Go.undef)], [arrOf c0 0 64, arrOf c0 64 4, arrOf c0 68 4, arrOf c0 72 6], [], Iv (fun _ _ => Ext.none)⟩ : Env) e7_c124 with
        | false =>
          exact law_true (ρ := (⟨[intV (c0.getD 78 Go.undef), intV (c0.getD 79 Go.undef), intV (c0.getD 80 Go.undef), intV (c1.getD 1 Go.undef), intV (c1.getD 2 Go.undef), intV (c1.getD 3 Go.undef), intV (c1.getD 5 Go.undef), intV (c1.getD 6 Go.undef), intV (c1.getD 7 Go.undef), intV (c1.getD 9 Go.undef), intV (c1.getD 10 Go.undef), intV (c1.getD 11 Go.undef), intV (c1.getD 13 Go.undef), intV (c1.getD 14 Go.undef), intV (c1.getD 15 Go.undef), intV (c1.getD 17 Go.undef), intV (c1.getD 18 Go.undef), intV (c1.getD 19 Go.undef), a2, a3], [boolV (c1.getD 0 Go.undef), boolV (c1.getD 4 Go.undef), boolV (c1.getD 8 Go.undef), boolV (c1.getD 12 Go.undef), boolV (c1.getD 16 Go.undef)], [arrOf c0 0 64, arrOf c0 64 4, arrOf c0 68 4, arrOf c0 72 6], [], Iv (fun _ _ => Ext.none)⟩ : Env)) (G_ok _) (by kernel_rfl) e7_p4run rfl (addF_ok _ _ _ (addF_ok _ _ _ (addF_ok _ _ _ (addF_ok _ _ _ hok h0) h1) h2) h3) (by intro e he; cases he) rfl w (fun i j => Ext.none_ok _)
        | true =>
          cases h4 : E.b (⟨[intV (c0.getD 78 Go.undef), intV (c0.getD 79 Go.undef), intV (c0.getD 80 Go.undef), intV (c1.getD 1 Go.undef), intV (c1.getD 2 Go.undef), intV (c1.getD 3 Go.undef), intV (c1.getD 5 Go.undef), intV (c1.getD 6 Go.undef), intV (c1.getD 7 Go.undef), intV (c1.getD 9 Go.undef), intV (c1.getD 10 Go.undef), intV (c1.getD 11 Go.undef), intV (c1.getD 13 Go.undef), intV (c1.getD 14 Go.undef), intV (c1.getD 15 Go.undef), intV (c1.getD 17 Go.undef), intV (c1.getD 18 Go.undef), intV (c1.getD 19 Go.undef), a2, a3], [boolV (c1.getD 0 Go.undef), boolV (c1.getD 4 Go.undef), boolV (c1.getD 8 Go.undef), boolV (c1.getD 12 Go.undef), boolV (c1.getD 16 Go.undef)], [arrOf c0 0 64, arrOf c0 64 4, arrOf c0 68 4, arrOf c0 72 6], [], Iv (fun _ _ => Ext.none)⟩ : Env) e7_c172 with
          | false =>
            exact law_true (ρ := (⟨[intV (c0.getD 78 Go.undef), intV (c0.getD 79 Go.undef), intV (c0.getD 80 Go.undef), intV (c1.getD 1 Go.undef), intV (c1.getD 2 Go.undef), intV (c1.getD 3 Go.undef), intV (c1.getD 5 Go.undef), intV (c1.getD 6 Go.undef), intV (c1.getD 7 Go.undef), intV (c1.getD 9 Go.undef), intV (c1.getD 10 Go.undef), intV (c1.getD 11 Go.undef), intV (c1.getD 13 Go.undef), intV (c1.getD 14 Go.undef), intV (c1.getD 15 Go.undef), intV (c1.getD 17 Go.undef), intV (c1.getD 18 Go.undef), intV (c1.getD 19 Go.undef), a2, a3], [boolV (c1.getD 0 Go.undef), boolV (c1.getD 4 Go.undef), boolV (c1.getD 8 Go.undef), boolV (c1.getD 12 Go.undef), boolV (c1.getD 16 Go.undef)], [arrOf c0 0 64, arrOf c0 64 4, arrOf c0 68 4, arrOf c0 72 6], [], Iv (fun _ _ => Ext.none)⟩ : Env)) (G_ok _) (by kernel_rfl) e7_p3run rfl (addF_ok _ _ _ (addF_ok _ _ _ (addF_ok _ _ _ (addF_ok _ _ _ (addF_ok _ _ _ hok h0) h1) h2) h3) h4) (by intro e he; cases he) rfl w (fun i j => Ext.none_ok _)
          | true =>
            cases h5 : E.b (⟨[intV (c0.getD 78 Go.undef), intV (c0.getD 79 Go.undef), intV (c0.getD 80 Go.undef), intV (c1.getD 1 Go.undef), intV (c1.getD 2 Go.undef), intV (c1.getD 3 Go.undef), intV (c1.getD 5 Go.undef), intV (c1.getD 6 Go.undef), intV (c1.getD 7 Go.undef), intV (c1.getD 9 Go.undef), intV (c1.getD 10 Go.undef), intV (c1.getD 11 Go.undef), intV (c1.getD 13 Go.undef), intV (c1.getD 14 Go.undef), intV (c1.getD 15 Go.undef), intV (c1.getD 17 Go.undef), intV (c1.getD 18 Go.undef), intV (c1.getD 19 Go.undef), a2, a3], [boolV (c1.getD 0 Go.undef), boolV (c1.getD 4 Go.undef), boolV (c1.getD 8 Go.undef), boolV (c1.getD 12 Go.undef), boolV (c1.getD 16 Go.undef)], [arrOf c0 0 64, arrOf c0 64 4, arrOf c0 68 4, arrOf c0 72 6], [], Iv (fun _ _ => Ext.none)⟩ : Env) e7_c176 with
            | false =>
              exact law_true (ρ := (⟨[intV (c0.getD 78 Go.undef), intV (c0.getD 79 Go.undef), intV (c0.getD 80 Go.undef), intV (c1.getD 1 Go.undef), intV (c1.getD 2 Go.undef), intV (c1.getD 3 Go.undef), intV (c1.getD 5 Go.undef), intV (c1.getD 6 Go.undef), intV (c1.getD 7 Go.undef), intV (c1.getD 9 Go.undef), intV (c1.getD 10 Go.undef), intV (c1.getD 11 Go.undef), intV (c1.getD 13 Go.undef), intV (c1.getD 14 Go.undef), intV (c1.getD 15 Go.undef), intV (c1.getD 17 Go.undef), intV (c1.getD 18 Go.undef), intV (c1.getD 19 Go.undef), a2, a3], [boolV (c1.getD 0 Go.undef), boolV (c1.getD 4 Go.undef), boolV (c1.getD 8 Go.undef), boolV (c1.getD 12 Go.undef), boolV (c1.getD 16 Go.undef)], [arrOf c0 0 64, arrOf c0 64 4, arrOf c0 68 4, arrOf c0 72 6], [], Iv (fun _ _ => Ext.none)⟩ : Env)) (G_ok _) (by kernel_rfl) e7_p2run rfl (addF_ok _ _ _ (addF_ok _ _ _ (addF_ok _ _ _ (addF_ok _ _ _ (addF_ok _ _ _ (addF_ok _ _ _ hok h0) h1) h2) h3) h4) h5) (by intro e he; cases he) rfl w (fun i j => Ext.none_ok _)
            | true =>
              cases h6 : E.b (⟨[intV (c0.getD 78 Go.undef), intV (c0.getD 79 Go.undef), intV (c0.getD 80 Go.undef), intV (c1.getD 1 Go.undef), intV (c1.getD 2 Go.undef), intV (c1.getD 3 Go.undef), intV (c1.getD 5 Go.undef), intV (c1.getD 6 Go.undef), intV (c1.getD 7 Go.undef), intV (c1.getD 9 Go.undef), intV (c1.getD 10 Go.undef), intV (c1.getD 11 Go.undef), intV (c1.getD 13 Go.undef), intV (c1.getD 14 Go.undef), intV (c1.getD 15 Go.undef), intV (c1.getD 17 Go.undef), intV (c1.getD 18 Go.undef), intV (c1.getD 19 Go.undef), a2, a3], [boolV (c1.getD 0 Go.undef), boolV (c1.getD 4 Go.undef), boolV (c1.getD 8 Go.undef), boolV (c1.getD 12 Go.undef), boolV (c1.getD 16 Go.undef)], [arrOf c0 0 64, arrOf c0 64 4, arrOf c0 68 4, arrOf c0 72 6], [], Iv (fun _ _ => Ext.none)⟩ : Env) e7_c180 with
              | false =>
                exact law_true (ρ := (⟨[intV (c0.getD 78 Go.undef), intV (c0.getD 79 Go.undef), intV (c0.getD 80 Go.undef), intV (c1.getD 1 Go.undef), intV (c1.getD 2 Go.undef), intV (c1.getD 3 Go.undef), intV (c1.getD 5 Go.undef), intV (c1.getD 6 Go.undef), intV (c1.getD 7 Go.undef), intV (c1.getD 9 Go.undef), intV (c1.getD 10 Go.undef), intV (c1.getD 11 Go.undef), intV (c1.getD 13 Go.undef), intV (c1.getD 14 Go.undef), intV (c1.getD 15 Go.undef), intV (c1.getD 17 Go.undef), intV (c1.getD 18 Go.undef), intV (c1.getD 19 Go.undef), a2, a3], [boolV (c1.getD 0 Go.undef), boolV (c1.getD 4 Go.undef), boolV (c1.getD 8 Go.undef), boolV (c1.getD 12 Go.undef), boolV (c1.getD 16 Go.undef)], [arrOf c0 0 64, arrOf c0 64 4, arrOf c0 68 4, arrOf c0 72 6], [], Iv (fun _ _ => Ext.none)⟩ : Env)) (G_ok _) (by kernel_rfl) e7_p1run rfl (addF_ok _ _ _ (addF_ok _ _ _ (addF_ok _ _ _ (addF_ok _ _ _ (addF_ok _ _ _ (addF_ok _ _ _ (addF_ok _ _ _ hok h0) h1) h2) h3) h4) h5) h6) (by intro e he; cases he) rfl w (fun i j => Ext.none_ok _)
              | true =>
                exact law_true (ρ := (⟨[intV (c0.getD 78 Go.undef), intV (c0.getD 79 Go.undef), intV (c0.getD 80 Go.undef), intV (c1.getD 1 Go.undef), intV (c1.getD 2 Go.undef), intV (c1.getD 3 Go.undef), intV (c1.getD 5 Go.undef), intV (c1.getD 6 Go.undef), intV (c1.getD 7 Go.undef), intV (c1.getD 9 Go.undef), intV (c1.getD 10 Go.undef), intV (c1.getD 11 Go.undef), intV (c1.getD 13 Go.undef), intV (c1.getD 14 Go.undef), intV (c1.getD 15 Go.undef), intV (c1.getD 17 Go.undef), intV (c1.getD 18 Go.undef), intV (c1.getD 19 Go.undef), a2, a3], [boolV (c1.getD 0 Go.undef), boolV (c1.getD 4 Go.undef), boolV (c1.getD 8 Go.undef), boolV (c1.getD 12 Go.undef), boolV (c1.getD 16 Go.undef)], [arrOf c0 0 64, arrOf c0 64 4, arrOf c0 68 4, arrOf c0 72 6], [], Iv (fun _ _ => Ext.none)⟩ : Env)) (G_ok _) (by kernel_rfl) e7_p0run rfl (addF_ok _ _ _ (addF_ok _ _ _ (addF_ok _ _ _ (addF_ok _ _ _ (addF_ok _ _ _ (addF_ok _ _ _ (addF_ok _ _ _ hok h0) h1) h2) h3) h4) h5) h6) (by intro e he; cases he) rfl w (fun i j => Ext.none_ok _)
end Go.Proofs.Ytgbncbclhdnbmaa.BlendPlain
