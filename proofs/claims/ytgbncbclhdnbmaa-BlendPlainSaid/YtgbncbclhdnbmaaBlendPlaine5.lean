/- A part of the law BlendPlain, which returns true for every input. Without a region and a math bit the colour is that of the layer in front, or what lies behind. No condition. -/
import Derived.Test.YtgbncbclhdnbmaaBlendPlain0
namespace Go.Proofs.Ytgbncbclhdnbmaa.BlendPlain
open Go.Sx Go.ChangeShapes Go.WideShapes Go.ChangeAt Go.RowKit
set_option linter.unusedVariables false
set_option linter.unusedSimpArgs false
set_option maxRecDepth 100000
def e5_Hy : Hyp := ⟨[(.v 0, (-32768, 32767)), (.v 1, (-32768, 32767)), (.v 2, (0, 65535)), (.v 3, (0, 255)), (.v 4, (0, 255)), (.v 5, (0, 65535)), (.v 6, (0, 255)), (.v 7, (0, 255)), (.v 8, (0, 65535)), (.v 9, (0, 255)), (.v 10, (0, 255)), (.v 11, (0, 65535)), (.v 12, (0, 255)), (.v 13, (0, 255)), (.v 14, (0, 65535)), (.v 15, (0, 255)), (.v 16, (0, 255)), (.v 17, (0, 65535)), (.v 18, (0, 255)), (.v 19, (0, 65535)), ((.mod (.sel (.av 0) (.lit 5)) (.lit 8)), (5, 5))], [(0, (0, 255)), (1, (0, 65535)), (2, (0, 65535)), (3, (-32768, 32767))], [], [], [], []⟩
def e5_Ls : List SV := [.agg (pcSegs 0 0 0 Pc0), .agg (pcSegs 4 0 3 Pc1), .s (.int .i64 (.v 18)), .s (.int .u16 (.v 19))]
def e5_c0 : E := .sel (.av 0) (.lit 44)
def e5_c1 : E := .div e5_c0 (.lit 16)
def e5_c2 : E := .mod e5_c1 (.lit 2)
def e5_c3 : E := .eq e5_c2 (.lit 0)
def e5_c4 : E := .not (.bv 4)
def e5_c5 : E := .or e5_c3 e5_c4
def e5_c6 : E := .eq (.v 15) (.lit 3)
def e5_c7 : E := .not e5_c6
def e5_c8 : E := .or e5_c5 e5_c7
def e5_c9 : E := .sel (.av 0) (.lit 37)
def e5_c10 : E := .div e5_c9 (.lit 8)
def e5_c11 : E := .mod e5_c10 (.lit 2)
def e5_c12 : E := .mul e5_c11 (.lit 8)
def e5_c13 : E := .div e5_c9 (.lit 2)
def e5_c14 : E := .mod e5_c13 (.lit 2)
def e5_c15 : E := .mul e5_c14 (.lit 2)
def e5_c16 : E := .add e5_c12 e5_c15
def e5_c17 : E := .eq e5_c16 (.lit 2)
def e5_c18 : E := .sel (.av 0) (.lit 39)
def e5_c19 : E := .le (.v 18) e5_c18
def e5_c20 : E := .sel (.av 0) (.lit 38)
def e5_c21 : E := .le e5_c20 (.v 18)
def e5_c22 : E := .and e5_c19 e5_c21
def e5_c23 : E := .mod e5_c9 (.lit 2)
def e5_c24 : E := .eq e5_c23 (.lit 0)
def e5_c25 : E := .not e5_c24
def e5_c26 : E := .iff e5_c22 e5_c25
def e5_c27 : E := .not e5_c26
def e5_c28 : E := .eq e5_c16 (.lit 8)
def e5_c29 : E := .sel (.av 0) (.lit 41)
def e5_c30 : E := .le (.v 18) e5_c29
def e5_c31 : E := .sel (.av 0) (.lit 40)
def e5_c32 : E := .le e5_c31 (.v 18)
def e5_c33 : E := .and e5_c30 e5_c32
def e5_c34 : E := .div e5_c9 (.lit 4)
def e5_c35 : E := .mod e5_c34 (.lit 2)
def e5_c36 : E := .eq e5_c35 (.lit 0)
def e5_c37 : E := .not e5_c36
def e5_c38 : E := .iff e5_c33 e5_c37
def e5_c39 : E := .not e5_c38
def e5_c40 : E := .sel (.av 0) (.lit 43)
def e5_c41 : E := .mod e5_c40 (.lit 4)
def e5_c42 : E := .eq e5_c41 (.lit 0)
def e5_c43 : E := .or e5_c27 e5_c39
def e5_c44 : E := .eq e5_c41 (.lit 1)
def e5_c45 : E := .and e5_c27 e5_c39
def e5_c46 : E := .eq e5_c41 (.lit 2)
def e5_c47 : E := .iff e5_c27 e5_c39
def e5_c48 : E := .not e5_c47
def e5_c49 : E := .ite e5_c46 e5_c48 e5_c47
def e5_c50 : E := .ite e5_c44 e5_c45 e5_c49
def e5_c51 : E := .ite e5_c42 e5_c43 e5_c50
def e5_c52 : E := .ite e5_c28 e5_c39 e5_c51
def e5_c53 : E := .ite e5_c17 e5_c27 e5_c52
def e5_c54 : E := .eq e5_c16 (.lit 0)
def e5_c55 : E := .not e5_c54
def e5_c56 : E := .and e5_c53 e5_c55
def e5_c57 : E := .sel (.av 0) (.lit 46)
def e5_c58 : E := .div e5_c57 (.lit 16)
def e5_c59 : E := .mod e5_c58 (.lit 2)
def e5_c60 : E := .eq e5_c59 (.lit 0)
def e5_c61 : E := .not e5_c60
def e5_c62 : E := .and e5_c56 e5_c61
def e5_c63 : E := .or e5_c8 e5_c62
def e5_c64 : E := .mod e5_c0 (.lit 2)
def e5_c65 : E := .eq e5_c64 (.lit 0)
def e5_c66 : E := .not (.bv 0)
def e5_c67 : E := .or e5_c65 e5_c66
def e5_c68 : E := .eq (.v 3) (.lit 1)
def e5_c69 : E := .not e5_c68
def e5_c70 : E := .or e5_c67 e5_c69
def e5_c71 : E := .sel (.av 0) (.lit 35)
def e5_c72 : E := .div e5_c71 (.lit 8)
def e5_c73 : E := .mod e5_c72 (.lit 2)
def e5_c74 : E := .mul e5_c73 (.lit 8)
def e5_c75 : E := .div e5_c71 (.lit 2)
def e5_c76 : E := .mod e5_c75 (.lit 2)
def e5_c77 : E := .mul e5_c76 (.lit 2)
def e5_c78 : E := .add e5_c74 e5_c77
def e5_c79 : E := .eq e5_c78 (.lit 2)
def e5_c80 : E := .mod e5_c71 (.lit 2)
def e5_c81 : E := .eq e5_c80 (.lit 0)
def e5_c82 : E := .not e5_c81
def e5_c83 : E := .iff e5_c22 e5_c82
def e5_c84 : E := .not e5_c83
def e5_c85 : E := .eq e5_c78 (.lit 8)
def e5_c86 : E := .div e5_c71 (.lit 4)
def e5_c87 : E := .mod e5_c86 (.lit 2)
def e5_c88 : E := .eq e5_c87 (.lit 0)
def e5_c89 : E := .not e5_c88
def e5_c90 : E := .iff e5_c33 e5_c89
def e5_c91 : E := .not e5_c90
def e5_c92 : E := .sel (.av 0) (.lit 42)
def e5_c93 : E := .mod e5_c92 (.lit 4)
def e5_c94 : E := .eq e5_c93 (.lit 0)
def e5_c95 : E := .or e5_c84 e5_c91
def e5_c96 : E := .eq e5_c93 (.lit 1)
def e5_c97 : E := .and e5_c84 e5_c91
def e5_c98 : E := .eq e5_c93 (.lit 2)
def e5_c99 : E := .iff e5_c84 e5_c91
def e5_c100 : E := .not e5_c99
def e5_c101 : E := .ite e5_c98 e5_c100 e5_c99
def e5_c102 : E := .ite e5_c96 e5_c97 e5_c101
def e5_c103 : E := .ite e5_c94 e5_c95 e5_c102
def e5_c104 : E := .ite e5_c85 e5_c91 e5_c103
def e5_c105 : E := .ite e5_c79 e5_c84 e5_c104
def e5_c106 : E := .eq e5_c78 (.lit 0)
def e5_c107 : E := .not e5_c106
def e5_c108 : E := .and e5_c105 e5_c107
def e5_c109 : E := .mod e5_c57 (.lit 2)
def e5_c110 : E := .eq e5_c109 (.lit 0)
def e5_c111 : E := .not e5_c110
def e5_c112 : E := .and e5_c108 e5_c111
def e5_c113 : E := .or e5_c70 e5_c112
def e5_c114 : E := .eq (.v 15) (.lit 2)
def e5_c115 : E := .not e5_c114
def e5_c116 : E := .or e5_c5 e5_c115
def e5_c117 : E := .or e5_c116 e5_c62
def e5_c118 : E := .div e5_c0 (.lit 2)
def e5_c119 : E := .mod e5_c118 (.lit 2)
def e5_c120 : E := .eq e5_c119 (.lit 0)
def e5_c121 : E := .not (.bv 1)
def e5_c122 : E := .or e5_c120 e5_c121
def e5_c123 : E := .eq (.v 6) (.lit 1)
def e5_c124 : E := .not e5_c123
def e5_c125 : E := .or e5_c122 e5_c124
def e5_c126 : E := .div e5_c71 (.lit 128)
def e5_c127 : E := .mul e5_c126 (.lit 8)
def e5_c128 : E := .div e5_c71 (.lit 32)
def e5_c129 : E := .mod e5_c128 (.lit 2)
def e5_c130 : E := .mul e5_c129 (.lit 2)
def e5_c131 : E := .add e5_c127 e5_c130
def e5_c132 : E := .eq e5_c131 (.lit 2)
def e5_c133 : E := .div e5_c71 (.lit 16)
def e5_c134 : E := .mod e5_c133 (.lit 2)
def e5_c135 : E := .eq e5_c134 (.lit 0)
def e5_c136 : E := .not e5_c135
def e5_c137 : E := .iff e5_c22 e5_c136
def e5_c138 : E := .not e5_c137
def e5_c139 : E := .eq e5_c131 (.lit 8)
def e5_c140 : E := .div e5_c71 (.lit 64)
def e5_c141 : E := .mod e5_c140 (.lit 2)
def e5_c142 : E := .eq e5_c141 (.lit 0)
def e5_c143 : E := .not e5_c142
def e5_c144 : E := .iff e5_c33 e5_c143
def e5_c145 : E := .not e5_c144
def e5_c146 : E := .div e5_c92 (.lit 4)
def e5_c147 : E := .mod e5_c146 (.lit 4)
def e5_c148 : E := .eq e5_c147 (.lit 0)
def e5_c149 : E := .or e5_c138 e5_c145
def e5_c150 : E := .eq e5_c147 (.lit 1)
def e5_c151 : E := .and e5_c138 e5_c145
def e5_c152 : E := .eq e5_c147 (.lit 2)
def e5_c153 : E := .iff e5_c138 e5_c145
def e5_c154 : E := .not e5_c153
def e5_c155 : E := .ite e5_c152 e5_c154 e5_c153
def e5_c156 : E := .ite e5_c150 e5_c151 e5_c155
def e5_c157 : E := .ite e5_c148 e5_c149 e5_c156
def e5_c158 : E := .ite e5_c139 e5_c145 e5_c157
def e5_c159 : E := .ite e5_c132 e5_c138 e5_c158
def e5_c160 : E := .eq e5_c131 (.lit 0)
def e5_c161 : E := .not e5_c160
def e5_c162 : E := .and e5_c159 e5_c161
def e5_c163 : E := .div e5_c57 (.lit 2)
def e5_c164 : E := .mod e5_c163 (.lit 2)
def e5_c165 : E := .eq e5_c164 (.lit 0)
def e5_c166 : E := .not e5_c165
def e5_c167 : E := .and e5_c162 e5_c166
def e5_c168 : E := .or e5_c125 e5_c167
def e5_c169 : E := .eq (.v 15) (.lit 1)
def e5_c170 : E := .not e5_c169
def e5_c171 : E := .or e5_c5 e5_c170
def e5_c172 : E := .or e5_c171 e5_c62
def e5_c173 : E := .eq (.v 3) (.lit 0)
def e5_c174 : E := .not e5_c173
def e5_c175 : E := .or e5_c67 e5_c174
def e5_c176 : E := .or e5_c175 e5_c112
def e5_c177 : E := .eq (.v 15) (.lit 0)
def e5_c178 : E := .not e5_c177
def e5_c179 : E := .or e5_c5 e5_c178
def e5_c180 : E := .or e5_c179 e5_c62
def e5_c181 : E := .eq (.v 6) (.lit 0)
def e5_c182 : E := .not e5_c181
def e5_c183 : E := .or e5_c122 e5_c182
def e5_c184 : E := .or e5_c183 e5_c167
def e5_p0Hy : Hyp := (addF true e5_c184 (addF true e5_c180 (addF true e5_c176 (addF true e5_c172 (addF true e5_c168 (addF true e5_c117 (addF true e5_c113 (addF true e5_c63 e5_Hy))))))))
theorem e5_p0run : enter Try.prog G Gh 6000 40 8 e5_p0Hy e5_Ls [] = some ([], .s (.bool (.blit true)), none) := by kernel_rfl
def e5_p1Hy : Hyp := (addF false e5_c184 (addF true e5_c180 (addF true e5_c176 (addF true e5_c172 (addF true e5_c168 (addF true e5_c117 (addF true e5_c113 (addF true e5_c63 e5_Hy))))))))
theorem e5_p1run : enter Try.prog G Gh 6000 40 8 e5_p1Hy e5_Ls [] = some ([], .s (.bool (.blit true)), none) := by kernel_rfl
def e5_p2Hy : Hyp := (addF false e5_c180 (addF true e5_c176 (addF true e5_c172 (addF true e5_c168 (addF true e5_c117 (addF true e5_c113 (addF true e5_c63 e5_Hy)))))))
theorem e5_p2run : enter Try.prog G Gh 6000 40 8 e5_p2Hy e5_Ls [] = some ([], .s (.bool (.blit true)), none) := by kernel_rfl
def e5_p3Hy : Hyp := (addF false e5_c176 (addF true e5_c172 (addF true e5_c168 (addF true e5_c117 (addF true e5_c113 (addF true e5_c63 e5_Hy))))))
theorem e5_p3run : enter Try.prog G Gh 6000 40 8 e5_p3Hy e5_Ls [] = some ([], .s (.bool (.blit true)), none) := by kernel_rfl
def e5_p4Hy : Hyp := (addF false e5_c172 (addF true e5_c168 (addF true e5_c117 (addF true e5_c113 (addF true e5_c63 e5_Hy)))))
theorem e5_p4run : enter Try.prog G Gh 6000 40 8 e5_p4Hy e5_Ls [] = some ([], .s (.bool (.blit true)), none) := by kernel_rfl
def e5_p5Hy : Hyp := (addF false e5_c168 (addF true e5_c117 (addF true e5_c113 (addF true e5_c63 e5_Hy))))
theorem e5_p5run : enter Try.prog G Gh 6000 40 8 e5_p5Hy e5_Ls [] = some ([], .s (.bool (.blit true)), none) := by kernel_rfl
def e5_p6Hy : Hyp := (addF false e5_c117 (addF true e5_c113 (addF true e5_c63 e5_Hy)))
theorem e5_p6run : enter Try.prog G Gh 6000 40 8 e5_p6Hy e5_Ls [] = some ([], .s (.bool (.blit true)), none) := by kernel_rfl
def e5_p7Hy : Hyp := (addF false e5_c113 (addF true e5_c63 e5_Hy))
theorem e5_p7run : enter Try.prog G Gh 6000 40 8 e5_p7Hy e5_Ls [] = some ([], .s (.bool (.blit true)), none) := by kernel_rfl
def e5_p8Hy : Hyp := (addF false e5_c63 e5_Hy)
theorem e5_p8run : enter Try.prog G Gh 6000 40 8 e5_p8Hy e5_Ls [] = some ([], .s (.bool (.blit true)), none) := by kernel_rfl
theorem e5_calls (c0 : List Value) (l0 : c0.length = pcTotal Pc0) (f0 : PcFit c0 0 Pc0) (c1 : List Value) (l1 : c1.length = pcTotal Pc1) (f1 : PcFit c1 0 Pc1) (a2 : Int) (w2 : 0 ≤ a2 ∧ a2 ≤ 255) (a3 : Int) (w3 : (Lit.int .u16 a3).wf = true) (hex0 : (arrOf c0 0 64) 5 % 8 = 5) (w : World) :
    Calls Try.prog 8 #[.agg c0.toArray, .agg c1.toArray, .int .i64 a2, .int .u16 a3] w fun r w' => r = .returned (.bool true) ∧ Below w.heap.size w w' := by
  have hc0 : cellsOf (⟨[intV (c0.getD 78 Go.undef), intV (c0.getD 79 Go.undef), intV (c0.getD 80 Go.undef), intV (c1.getD 1 Go.undef), intV (c1.getD 2 Go.undef), intV (c1.getD 3 Go.undef), intV (c1.getD 5 Go.undef), intV (c1.getD 6 Go.undef), intV (c1.getD 7 Go.undef), intV (c1.getD 9 Go.undef), intV (c1.getD 10 Go.undef), intV (c1.getD 11 Go.undef), intV (c1.getD 13 Go.undef), intV (c1.getD 14 Go.undef), intV (c1.getD 15 Go.undef), intV (c1.getD 17 Go.undef), intV (c1.getD 18 Go.undef), intV (c1.getD 19 Go.undef), a2, a3], [boolV (c1.getD 0 Go.undef), boolV (c1.getD 4 Go.undef), boolV (c1.getD 8 Go.undef), boolV (c1.getD 12 Go.undef), boolV (c1.getD 16 Go.undef)], [arrOf c0 0 64, arrOf c0 64 4, arrOf c0 68 4, arrOf c0 72 6], [], Iv (fun _ _ => Ext.none)⟩ : Env) Loc.id (pcSegs 0 0 0 Pc0) = c0 := by
    rw [pc_cells Pc0 0 0 0 0 f0 (by intro j hj; rcases j with _ | _ | _ | _ | j <;> first | rfl | (simp [Pc0, pcA, pcB, pcI] at hj; omega)) (by intro j hj; simp [Pc0, pcA, pcB, pcI] at hj) (by intro j hj; rcases j with _ | _ | _ | j <;> first | rfl | (simp [Pc0, pcA, pcB, pcI] at hj; omega)), List.drop_zero, ← l0, List.take_length]
  have hc1 : cellsOf (⟨[intV (c0.getD 78 Go.undef), intV (c0.getD 79 Go.undef), intV (c0.getD 80 Go.undef), intV (c1.getD 1 Go.undef), intV (c1.getD 2 Go.undef), intV (c1.getD 3 Go.undef), intV (c1.getD 5 Go.undef), intV (c1.getD 6 Go.undef), intV (c1.getD 7 Go.undef), intV (c1.getD 9 Go.undef), intV (c1.getD 10 Go.undef), intV (c1.getD 11 Go.undef), intV (c1.getD 13 Go.undef), intV (c1.getD 14 Go.undef), intV (c1.getD 15 Go.undef), intV (c1.getD 17 Go.undef), intV (c1.getD 18 Go.undef), intV (c1.getD 19 Go.undef), a2, a3], [boolV (c1.getD 0 Go.undef), boolV (c1.getD 4 Go.undef), boolV (c1.getD 8 Go.undef), boolV (c1.getD 12 Go.undef), boolV (c1.getD 16 Go.undef)], [arrOf c0 0 64, arrOf c0 64 4, arrOf c0 68 4, arrOf c0 72 6], [], Iv (fun _ _ => Ext.none)⟩ : Env) Loc.id (pcSegs 4 0 3 Pc1) = c1 := by
    rw [pc_cells Pc1 0 4 0 3 f1 (by intro j hj; simp [Pc1, pcA, pcB, pcI] at hj) (by intro j hj; rcases j with _ | _ | _ | _ | _ | j <;> first | rfl | (simp [Pc1, pcA, pcB, pcI] at hj; omega)) (by intro j hj; rcases j with _ | _ | _ | _ | _ | _ | _ | _ | _ | _ | _ | _ | _ | _ | _ | j <;> first | rfl | (simp [Pc1, pcA, pcB, pcI] at hj; omega)), List.drop_zero, ← l1, List.take_length]
  have hargs : (e5_Ls.map (SV.conc (⟨[intV (c0.getD 78 Go.undef), intV (c0.getD 79 Go.undef), intV (c0.getD 80 Go.undef), intV (c1.getD 1 Go.undef), intV (c1.getD 2 Go.undef), intV (c1.getD 3 Go.undef), intV (c1.getD 5 Go.undef), intV (c1.getD 6 Go.undef), intV (c1.getD 7 Go.undef), intV (c1.getD 9 Go.undef), intV (c1.getD 10 Go.undef), intV (c1.getD 11 Go.undef), intV (c1.getD 13 Go.undef), intV (c1.getD 14 Go.undef), intV (c1.getD 15 Go.undef), intV (c1.getD 17 Go.undef), intV (c1.getD 18 Go.undef), intV (c1.getD 19 Go.undef), a2, a3], [boolV (c1.getD 0 Go.undef), boolV (c1.getD 4 Go.undef), boolV (c1.getD 8 Go.undef), boolV (c1.getD 12 Go.undef), boolV (c1.getD 16 Go.undef)], [arrOf c0 0 64, arrOf c0 64 4, arrOf c0 68 4, arrOf c0 72 6], [], Iv (fun _ _ => Ext.none)⟩ : Env) Loc.id)).toArray = #[.agg c0.toArray, .agg c1.toArray, .int .i64 a2, .int .u16 a3] := by
    refine congrArg List.toArray ?_
    exact (cons_eq (congrArg (fun l => Value.agg (List.toArray l)) hc0) (cons_eq (congrArg (fun l => Value.agg (List.toArray l)) hc1) (cons_eq rfl (cons_eq rfl rfl))))
  rw [← hargs]
  have hok : Hyp.ok e5_Hy (⟨[intV (c0.getD 78 Go.undef), intV (c0.getD 79 Go.undef), intV (c0.getD 80 Go.undef), intV (c1.getD 1 Go.undef), intV (c1.getD 2 Go.undef), intV (c1.getD 3 Go.undef), intV (c1.getD 5 Go.undef), intV (c1.getD 6 Go.undef), intV (c1.getD 7 Go.undef), intV (c1.getD 9 Go.undef), intV (c1.getD 10 Go.undef), intV (c1.getD 11 Go.undef), intV (c1.getD 13 Go.undef), intV (c1.getD 14 Go.undef), intV (c1.getD 15 Go.undef), intV (c1.getD 17 Go.undef), intV (c1.getD 18 Go.undef), intV (c1.getD 19 Go.undef), a2, a3], [boolV (c1.getD 0 Go.undef), boolV (c1.getD 4 Go.undef), boolV (c1.getD 8 Go.undef), boolV (c1.getD 12 Go.undef), boolV (c1.getD 16 Go.undef)], [arrOf c0 0 64, arrOf c0 64 4, arrOf c0 68 4, arrOf c0 72 6], [], Iv (fun _ _ => Ext.none)⟩ : Env) := by
    refine ⟨?_, ?_, ?_, by simp [e5_Hy], ?_, by simp [e5_Hy]⟩
    · simp [e5_Hy]
    · intro p hp
      simp only [e5_Hy, List.mem_cons, List.not_mem_nil, or_false] at hp
      rcases hp with rfl | rfl | rfl | rfl | rfl | rfl | rfl | rfl | rfl | rfl | rfl | rfl | rfl | rfl | rfl | rfl | rfl | rfl | rfl | rfl | rfl
      · exact num_rng (f0.tail.tail.tail.tail)
      · exact num_rng (f0.tail.tail.tail.tail.tail)
      · exact num_rng (f0.tail.tail.tail.tail.tail.tail)
      · exact num_rng (f1.tail)
      · exact num_rng (f1.tail.tail)
      · exact num_rng (f1.tail.tail.tail)
      · exact num_rng (f1.tail.tail.tail.tail.tail)
      · exact num_rng (f1.tail.tail.tail.tail.tail.tail)
      · exact num_rng (f1.tail.tail.tail.tail.tail.tail.tail)
      · exact num_rng (f1.tail.tail.tail.tail.tail.tail.tail.tail.tail)
      · exact num_rng (f1.tail.tail.tail.tail.tail.tail.tail.tail.tail.tail)
      · exact num_rng (f1.tail.tail.tail.tail.tail.tail.tail.tail.tail.tail.tail)
      · exact num_rng (f1.tail.tail.tail.tail.tail.tail.tail.tail.tail.tail.tail.tail.tail)
      · exact num_rng (f1.tail.tail.tail.tail.tail.tail.tail.tail.tail.tail.tail.tail.tail.tail)
      · exact num_rng (f1.tail.tail.tail.tail.tail.tail.tail.tail.tail.tail.tail.tail.tail.tail.tail)
      · exact num_rng (f1.tail.tail.tail.tail.tail.tail.tail.tail.tail.tail.tail.tail.tail.tail.tail.tail.tail)
      · exact num_rng (f1.tail.tail.tail.tail.tail.tail.tail.tail.tail.tail.tail.tail.tail.tail.tail.tail.tail.tail)
      · exact num_rng (f1.tail.tail.tail.tail.tail.tail.tail.tail.tail.tail.tail.tail.tail.tail.tail.tail.tail.tail.tail)
      · exact w2
      · exact bounds_u16 w3
      · exact (by have hx := hex0; first | exact ⟨Int.le_of_eq hx.symm, Int.le_of_eq hx⟩ | exact hx)
    · intro p hp
      simp only [e5_Hy, List.mem_cons, List.not_mem_nil, or_false] at hp
      rcases hp with rfl | rfl | rfl | rfl
      · exact arrOf_rng (f0)
      · exact arrOf_rng (f0.tail)
      · exact arrOf_rng (f0.tail.tail)
      · exact arrOf_rng (f0.tail.tail.tail)
    · simp [e5_Hy]
  cases h0 : E.b (⟨[intV (c0.getD 78 Go.undef), intV (c0.getD 79 Go.undef), intV (c0.getD 80 Go.undef), intV (c1.getD 1 Go.undef), intV (c1.getD 2 Go.undef), intV (c1.getD 3 Go.undef), intV (c1.getD 5 Go.undef), intV (c1.getD 6 Go.undef), intV (c1.getD 7 Go.undef), intV (c1.getD 9 Go.undef), intV (c1.getD 10 Go.undef), intV (c1.getD 11 Go.undef), intV (c1.getD 13 Go.undef), intV (c1.getD 14 Go.undef), intV (c1.getD 15 Go.undef), intV (c1.getD 17 Go.undef), intV (c1.getD 18 Go.undef), intV (c1.getD 19 Go.undef), a2, a3], [boolV (c1.getD 0 Go.undef), boolV (c1.getD 4 Go.undef), boolV (c1.getD 8 Go.undef), boolV (c1.getD 12 Go.undef), boolV (c1.getD 16 Go.undef)], [arrOf c0 0 64, arrOf c0 64 4, arrOf c0 68 4, arrOf c0 72 6], [], Iv (fun _ _ => Ext.none)⟩ : Env) e5_c63 with
  | false =>
    exact law_true (ρ := (⟨[intV (c0.getD 78 Go.undef), intV (c0.getD 79 Go.undef), intV (c0.getD 80 Go.undef), intV (c1.getD 1 Go.undef), intV (c1.getD 2 Go.undef), intV (c1.getD 3 Go.undef), intV (c1.getD 5 Go.undef), intV (c1.getD 6 Go.undef), intV (c1.getD 7 Go.undef), intV (c1.getD 9 Go.undef), intV (c1.getD 10 Go.undef), intV (c1.getD 11 Go.undef), intV (c1.getD 13 Go.undef), intV (c1.getD 14 Go.undef), intV (c1.getD 15 Go.undef), intV (c1.getD 17 Go.undef), intV (c1.getD 18 Go.undef), intV (c1.getD 19 Go.undef), a2, a3], [boolV (c1.getD 0 Go.undef), boolV (c1.getD 4 Go.undef), boolV (c1.getD 8 Go.undef), boolV (c1.getD 12 Go.undef), boolV (c1.getD 16 Go.undef)], [arrOf c0 0 64, arrOf c0 64 4, arrOf c0 68 4, arrOf c0 72 6], [], Iv (fun _ _ => Ext.none)⟩ : Env)) (G_ok _) (by kernel_rfl) e5_p8run rfl (addF_ok _ _ _ hok h0) (by intro e he; cases he) rfl w (fun i j => Ext.none_ok _)
  | true =>
    cases h1 : E.b (⟨[intV (c0.getD 78 Go.undef), intV (c0.getD 79 Go.undef), intV (c0.getD 80 Go.undef), intV (c1.getD 1 Go.undef), intV (c1.getD 2 Go.undef), intV (c1.getD 3 Go.undef), intV (c1.getD 5 Go.undef), intV (c1.getD 6 Go.undef), intV (c1.getD 7 Go.undef), intV (c1.getD 9 Go.undef), intV (c1.getD 10 Go.undef), intV (c1.getD 11 Go.undef), intV (c1.getD 13 Go.undef), intV (c1.getD 14 Go.undef), intV (c1.getD 15 Go.undef), intV (c1.getD 17 Go.undef), intV (c1.getD 18 Go.undef), intV (c1.getD 19 Go.undef), a2, a3], [boolV (c1.getD 0 Go.undef), boolV (c1.getD 4 Go.undef), boolV (c1.getD 8 Go.undef), boolV (c1.getD 12 Go.undef), boolV (c1.getD 16 Go.undef)], [arrOf c0 0 64, arrOf c0 64 4, arrOf c0 68 4, arrOf c0 72 6], [], Iv (fun _ _ => Ext.none)⟩ : Env) e5_c113 with
    | false =>
      exact law_true (ρ := (⟨[intV (c0.getD 78 Go.undef), intV (c0.getD 79 Go.undef), intV (c0.getD 80 Go.undef), intV (c1.getD 1 Go.undef), intV (c1.getD 2 Go.undef), intV (c1.getD 3 Go.undef), intV (c1.getD 5 Go.undef), intV (c1.getD 6 Go.undef), intV (c1.getD 7 Go.undef), intV (c1.getD 9 Go.undef), intV (c1.getD 10 Go.undef), intV (c1.getD 11 Go.undef), intV (c1.getD 13 Go.undef), intV (c1.getD 14 Go.undef), intV (c1.getD 15 Go.undef), intV (c1.getD 17 Go.undef), intV (c1.getD 18 Go.undef), intV (c1.getD 19 Go.undef), a2, a3], [boolV (c1.getD 0 Go.undef), boolV (c1.getD 4 Go.undef), boolV (c1.getD 8 Go.undef), boolV (c1.getD 12 Go.undef), boolV (c1.getD 16 Go.undef)], [arrOf c0 0 64, arrOf c0 64 4, arrOf c0 68 4, arrOf c0 72 6], [], Iv (fun _ _ => Ext.none)⟩ : Env)) (G_ok _) (by kernel_rfl) e5_p7run rfl (addF_ok _ _ _ (addF_ok _ _ _ hok h0) h1) (by intro e he; cases he) rfl w (fun i j => Ext.none_ok _)
    | true =>
      cases h2 : E.b (⟨[intV (c0.getD 78 Go.undef), intV (c0.getD 79 Go.undef), intV (c0.getD 80 Go.undef), intV (c1.getD 1 Go.undef), intV (c1.getD 2 Go.undef), intV (c1.getD 3 Go.undef), intV (c1.getD 5 Go.undef), intV (c1.getD 6 Go.undef), intV (c1.getD 7 Go.undef), intV (c1.getD 9 Go.undef), intV (c1.getD 10 Go.undef), intV (c1.getD 11 Go.undef), intV (c1.getD 13 Go.undef), intV (c1.getD 14 Go.undef), intV (c1.getD 15 Go.undef), intV (c1.getD 17 Go.undef), intV (c1.getD 18 Go.undef), intV (c1.getD 19 Go.undef), a2, a3], [boolV (c1.getD 0 Go.undef), boolV (c1.getD 4 Go.undef), boolV (c1.getD 8 Go.undef), boolV (c1.getD 12 Go.undef), boolV (c1.getD 16 Go.undef)], [arrOf c0 0 64, arrOf c0 64 4, arrOf c0 68 4, arrOf c0 72 6], [], Iv (fun _ _ => Ext.none)⟩ : Env) e5_c117 with
      | false =>
        exact law_true (ρ := (⟨[intV (c0.getD 78 Go.undef), intV (c0.getD 79 Go.undef), intV (c0.getD 80 Go.undef), intV (c1.getD 1 Go.undef), intV (c1.getD 2 Go.undef), intV (c1.getD 3 Go.undef), intV (c1.getD 5 Go.undef), intV (c1.getD 6 Go.undef), intV (c1.getD 7 Go.undef), intV (c1.getD 9 Go.undef), intV (c1.getD 10 Go.undef), intV (c1.getD 11 Go.undef), intV (c1.getD 13 Go.undef), intV (c1.getD 14 Go.undef), intV (c1.getD 15 Go.undef), intV (c1.getD 17 Go.undef), intV (c1.getD 18 Go.undef), intV (c1.getD 19 Go.undef), a2, a3], [boolV (c1.getD 0 Go.undef), boolV (c1.getD 4 Go.undef), boolV (c1.getD 8 Go.undef), boolV (c1.getD 12 Go.undef), boolV (c1.getD 16 Go.undef)], [arrOf c0 0 64, arrOf c0 64 4, arrOf c0 68 4, arrOf c0 72 6], [], Iv (fun _ _ => Ext.none)⟩ : Env)) (G_ok _) (by kernel_rfl) e5_p6run rfl (addF_ok _ _ _ (addF_ok _ _ _ (addF_ok _ _ _ hok h0) h1) h2) (by intro e he; cases he) rfl w (fun i j => Ext.none_ok _)
      | true =>
        cases h3 : E.b (⟨[intV (c0.getD 78 Go.undef), intV (c0.getD 79 Go.undef), intV (c0.getD 80 Go.undef), intV (c1.getD 1 Go.undef), intV (c1.getD 2 Go.undef), intV (c1.getD 3 Go.undef), intV (c1.getD 5 Go.undef), intV (c1.getD 6 Go.undef), intV (c1.getD 7 Go.undef), intV (c1.getD 9 Go.undef), intV (c1.getD 10 Go.undef), intV (c1.getD 11 Go.undef), intV (c1.getD 13 Go.undef), intV (c1.getD 14 Go.undef), intV (c1.getD 15 Go.undef), intV (c1.getD 17 Go.undef), intV (c1.getD 18 Go.undef), intV (c1.getD 19 Go.undef), a2, a3], [boolV (c1.getD 0 Go.undef), boolV (c1.getD 4 Go.undef), boolV (c1.getD 8 Go.undef), boolV (c1.getD 12 Go.undef), boolV (c1.getD 16 Go.undef)], [arrOf c0 0 64, arrOf c0 64 4, arrOf c0 68 4, arrOf c0 72 6], [], Iv (fun _ _ => Ext.none)⟩ : Env) e5_c168 with
        | false =>
          exact law_true (ρ := (⟨[intV (c0.getD 78 Go.undef), intV (c0.getD 79 Go.undef), intV (c0.getD 80 Go.undef), intV (c1.getD 1 Go.undef), intV (c1.getD 2 Go.undef), intV (c1.getD 3 Go.undef), intV (c1.getD 5 Go.undef), intV (c1.getD 6 Go.undef), intV (c1.getD 7 Go.undef), intV (c1.getD 9 Go.undef), intV (c1.getD 10 Go.undef), intV (c1.getD 11 Go.undef), intV (c1.getD 13 Go.undef), intV (c1.getD 14 Go.undef), intV (c1.getD 15 Go.undef), intV (c1.getD 17 Go.undef), intV (c1.getD 18 Go.undef), intV (c1.getD 19 Go.undef), a2, a3], [boolV (c1.getD 0 Go.undef), boolV (c1.getD 4 Go.undef), boolV (c1.getD 8 Go.undef), boolV (c1.getD 12 Go.undef), boolV (c1.getD 16 Go.undef)], [arrOf c0 0 64, arrOf c0 64 4, arrOf c0 68 4, arrOf c0 72 6], [], Iv (fun _ _ => Ext.none)⟩ : Env)) (G_ok _) (by kernel_rfl) e5_p5run rfl (addF_ok _ _ _ (addF_ok _ _ _ (addF_ok _ _ _ (addF_ok _ _ _ hok h0) h1) h2) h3) (by intro e he; cases he) rfl w (fun i j => Ext.none_ok _)
        | true =>
          cases h4 : E.b (⟨[intV (c0.getD 78 Go.undef), intV (c0.getD 79 Go.undef), intV (c0.getD 80 Go.undef), intV (c1.getD 1 Go.undef), intV (c1.getD 2 Go.undef), intV (c1.getD 3 Go.undef), intV (c1.getD 5 Go.undef), intV (c1.getD 6 Go.undef), intV (c1.getD 7 Go.undef), intV (c1.getD 9 Go.undef), intV (c1.getD 10 Go.undef), intV (c1.getD 11 Go.undef), intV (c1.getD 13 Go.undef), intV (c1.getD 14 Go.undef), intV (c1.getD 15 Go.undef), intV (c1.getD 17 Go.undef), intV (c1.getD 18 Go.undef), intV (c1.getD 19 Go.undef), a2, a3], [boolV (c1.getD 0 Go.undef), boolV (c1.getD 4 Go.undef), boolV (c1.getD 8 Go.undef), boolV (c1.getD 12 Go.undef), boolV (c1.getD 16 Go.undef)], [arrOf c0 0 64, arrOf c0 64 4, arrOf c0 68 4, arrOf c0 72 6], [], Iv (fun _ _ => Ext.none)⟩ : Env) e5_c172 with
          | false =>
            exact law_true (ρ := (⟨[intV (c0.getD 78 Go.undef), intV (c0.getD 79 Go.undef), intV (c0.getD 80 Go.undef), intV (c1.getD 1 Go.undef), intV (c1.getD 2 Go.undef), intV (c1.getD 3 Go.undef), intV (c1.getD 5 Go.undef), intV (c1.getD 6 Go.undef), intV (c1.getD 7 Go.undef), intV (c1.getD 9 Go.undef), intV (c1.getD 10 Go.undef), intV (c1.getD 11 Go.undef), intV (c1.getD 13 Go.undef), intV (c1.getD 14 Go.undef), intV (c1.getD 15 Go.undef), intV (c1.getD 17 Go.undef), intV (c1.getD 18 Go.undef), intV (c1.getD 19 Go.undef), a2, a3], [boolV (c1.getD 0 Go.undef), boolV (c1.getD 4 Go.undef), boolV (c1.getD 8 Go.undef), boolV (c1.getD 12 Go.undef), boolV (c1.getD 16 Go.undef)], [arrOf c0 0 64, arrOf c0 64 4, arrOf c0 68 4, arrOf c0 72 6], [], Iv (fun _ _ => Ext.none)⟩ : Env)) (G_ok _) (by kernel_rfl) e5_p4run rfl (addF_ok _ _ _ (addF_ok _ _ _ (addF_ok _ _ _ (addF_ok _ _ _ (addF_ok _ _ _ hok h0) h1) h2) h3) h4) (by intro e he; cases he) rfl w (fun i j => Ext.none_ok _)
          | true =>
            cases h5 : E.b (⟨[intV (c0.getD 78 Go.undef), intV (c0.getD 79 Go.undef), intV (c0.getD 80 Go.undef), intV (c1.getD 1 Go.undef), intV (c1.getD 2 Go.undef), intV (c1.getD 3 Go.undef), intV (c1.getD 5 Go.undef), intV (c1.getD 6 Go.undef), intV (c1.getD 7 Go.undef), intV (c1.getD 9 Go.undef), intV (c1.getD 10 Go.undef), intV (c1.getD 11 Go.undef), intV (c1.getD 13 Go.undef), intV (c1.getD 14 Go.undef), intV (c1.getD 15 Go.undef), intV (c1.getD 17 Go.undef), intV (c1.getD 18 Go.undef), intV (c1.getD 19 Go.undef), a2, a3], [boolV (c1.getD 0 Go.undef), boolV (c1.getD 4 Go.undef), boolV (c1.getD 8 Go.undef), boolV (c1.getD 12 Go.undef), boolV (c1.getD 16 Go.undef)], [arrOf c0 0 64, arrOf c0 64 4, arrOf c0 68 4, arrOf c0 72 6], [], Iv (fun _ _ => Ext.none)⟩ : Env) e5_c176 with
            | false =>
              exact law_true (ρ := (⟨[intV (c0.getD 78 Go.undef), intV (c0.getD 79 Go.undef), intV (c0.getD 80 Go.undef), intV (c1.getD 1 Go.undef), intV (c1.getD 2 Go.undef), intV (c1.getD 3 Go.undef), intV (c1.getD 5 Go.undef), intV (c1.getD 6 Go.undef), intV (c1.getD 7 Go.undef), intV (c1.getD 9 Go.undef), intV (c1.getD 10 Go.undef), intV (c1.getD 11 Go.undef), intV (c1.getD 13 Go.undef), intV (c1.getD 14 Go.undef), intV (c1.getD 15 Go.undef), intV (c1.getD 17 Go.undef), intV (c1.getD 18 Go.undef), intV (c1.getD 19 Go.undef), a2, a3], [boolV (c1.getD 0 Go.undef), boolV (c1.getD 4 Go.undef), boolV (c1.getD 8 Go.undef), boolV (c1.getD 12 Go.undef), boolV (c1.getD 16 Go.undef)], [arrOf c0 0 64, arrOf c0 64 4, arrOf c0 68 4, arrOf c0 72 6], [], Iv (fun _ _ => Ext.none)⟩ : Env)) (G_ok _) (by kernel_rfl) e5_p3run rfl (addF_ok _ _ _ (addF_ok _ _ _ (addF_ok _ _ _ (addF_ok _ _ _ (addF_ok _ _ _ (addF_ok _ _ _ hok h0) h1) h2) h3) h4) h5) (by intro e he; cases he) rfl w (fun i j => Ext.none_ok _)
            | true =>
              cases h6 : E.b (⟨[intV (c0.getD 78 Go.undef), intV (c0.getD 79 Go.undef), intV (c0.getD 80 Go.undef), intV (c1.getD 1 Go.undef), intV (c1.getD 2 Go.undef), intV (c1.getD 3 Go.undef), intV (c1.getD 5 Go.undef), intV (c1.getD 6 Go.undef), intV (c1.getD 7 Go.undef), intV (c1.getD 9 Go.undef), intV (c1.getD 10 Go.undef), intV (c1.getD 11 Go.undef), intV (c1.getD 13 Go.undef), intV (c1.getD 14 Go.undef), intV (c1.getD 15 Go.undef), intV (c1.getD 17 Go.undef), intV (c1.getD 18 Go.undef), intV (c1.getD 19 Go.undef), a2, a3], [boolV (c1.getD 0 Go.undef), boolV (c1.getD 4 Go.undef), boolV (c1.getD 8 Go.undef), boolV (c1.getD 12 Go.undef), boolV (c1.getD 16 Go.undef)], [arrOf c0 0 64, arrOf c0 64 4, arrOf c0 68 4, arrOf c0 72 6], [], Iv (fun _ _ => Ext.none)⟩ : Env) e5_c180 with
              | false =>
                exact law_true (ρ := (⟨[intV (c0.getD 78 Go.undef), intV (c0.getD 79 Go.undef), intV (c0.getD 80 Go.undef), intV (c1.getD 1 Go.undef), intV (c1.getD 2 Go.undef), intV (c1.getD 3 Go.undef), intV (c1.getD 5 Go.undef), intV (c1.getD 6 Go.undef), intV (c1.getD 7 Go.undef), intV (c1.getD 9 Go.undef), intV (c1.getD 10 Go.undef), intV (c1.getD 11 Go.undef), intV (c1.getD 13 Go.undef), intV (c1.getD 14 Go.undef), intV (c1.getD 15 Go.undef), intV (c1.getD 17 Go.undef), intV (c1.getD 18 Go.undef), intV (c1.getD 19 Go.undef), a2, a3], [boolV (c1.getD 0 Go.undef), boolV (c1.getD 4 Go.undef), boolV (c1.getD 8 Go.undef), boolV (c1.getD 12 Go.undef), boolV (c1.getD 16 Go.undef)], [arrOf c0 0 64, arrOf c0 64 4, arrOf c0 68 4, arrOf c0 72 6], [], Iv (fun _ _ => Ext.none)⟩ : Env)) (G_ok _) (by kernel_rfl) e5_p2run rfl (addF_ok _ _ _ (addF_ok _ _ _ (addF_ok _ _ _ (addF_ok _ _ _ (addF_ok _ _ _ (addF_ok _ _ _ (addF_ok _ _ _ hok h0) h1) h2) h3) h4) h5) h6) (by intro e he; cases he) rfl w (fun i j => Ext.none_ok _)
              | true =>
                cases h7 : E.b (⟨[intV (c0.getD 78 Go.undef), intV (c0.getD 79 Go.undef), intV (c0.getD 80 Go.undef), intV (c1.getD 1 Go.undef), intV (c1.getD 2 Go.undef), intV (c1.getD 3 Go.undef), intV (c1.getD 5 Go.undef), intV (c1.getD 6 Go.undef), intV (c1.getD 7 Go.undef), intV (c1.getD 9 Go.undef), intV (c1.getD 10 Go.undef), intV (c1.getD 11 Go.undef), intV (c1.getD 13 Go.undef), intV (c1.getD 14 Go.undef), intV (c1.getD 15 Go.undef), intV (c1.getD 17 Go.undef), intV (c1.getD 18 Go.undef), intV (c1.getD 19 Go.undef), a2, a3], [boolV (c1.getD 0 Go.undef), boolV (c1.getD 4 Go.undef), boolV (c1.getD 8 Go.undef), boolV (c1.getD 12 Go.undef), boolV (c1.getD 16 Go.undef)], [arrOf c0 0 64, arrOf c0 64 4, arrOf c0 68 4, arrOf c0 72 6], [], Iv (fun _ _ => Ext.none)⟩ : Env) e5_c184 with
                | false =>
                  exact law_true (ρ := (⟨[intV (c0.getD 78 Go.undef), intV (c0.getD 79 Go.undef), intV (c0.getD 80 Go.undef), intV (c1.getD 1 Go.undef), intV (c1.getD 2 Go.undef), intV (c1.getD 3 Go.undef), intV (c1.getD 5 Go.undef), intV (c1.getD 6 Go.undef), intV (c1.getD 7 Go.undef), intV (c1.getD 9 Go.undef), intV (c1.getD 10 Go.undef), intV (c1.getD 11 Go.undef), intV (c1.getD 13 Go.undef), intV (c1.getD 14 Go.undef), intV (c1.getD 15 Go.undef), intV (c1.getD 17 Go.undef), intV (c1.getD 18 Go.undef), intV (c1.getD 19 Go.undef), a2, a3], [boolV (c1.getD 0 Go.undef), boolV (c1.getD 4 Go.undef), boolV (c1.getD 8 Go.undef), boolV (c1.getD 12 Go.undef), boolV (c1.getD 16 Go.undef)], [arrOf c0 0 64, arrOf c0 64 4, arrOf c0 68 4, arrOf c0 72 6], [], Iv (fun _ _ => Ext.none)⟩ : Env)) (G_ok _) (by kernel_rfl) e5_p1run rfl (addF_ok _ _ _ (addF_ok _ _ _ (addF_ok _ _ _ (addF_ok _ _ _ (addF_ok _ _ _ (addF_ok _ _ _ (addF_ok _ _ _ (addF_ok _ _ _ hok h0) h1) h2) h3) h4) h5) h6) h7) (by intro e he; cases he) rfl w (fun i j => Ext.none_ok _)
                | true =>
                  exact law_true (ρ := (⟨[intV (c0.getD 78 Go.undef), intV (c0.getD 79 Go.undef), intV (c0.getD 80 Go.undef), intV (c1.getD 1 Go.undef), intV (c1.getD 2 Go.undef), intV (c1.getD 3 Go.undef), intV (c1.getD 5 Go.undef), intV (c1.getD 6 Go.undef), intV (c1.getD 7 Go.undef), intV (c1.getD 9 Go.undef), intV (c1.getD 10 Go.undef), intV (c1.getD 11 Go.undef), intV (c1.getD 13 Go.undef), intV (c1.getD 14 Go.undef), intV (c1.getD 15 Go.undef), intV (c1.getD 17 Go.undef), intV (c1.getD 18 Go.undef), intV (c1.getD 19 Go.undef), a2, a3], [boolV (c1.getD 0 Go.undef), boolV (c1.getD 4 Go.undef), boolV (c1.getD 8 Go.undef), boolV (c1.getD 12 Go.undef), boolV (c1.getD 16 Go.undef)], [arrOf c0 0 64, arrOf c0 64 4, arrOf c0 68 4, arrOf c0 72 6], [], Iv (fun _ _ => Ext.none)⟩ : Env)) (G_ok _) (by kernel_rfl) e5_p0run rfl (addF_ok _ _ _ (addF_ok _ _ _ (addF_ok _ _ _ (addF_ok _ _ _ (addF_ok _ _ _ (addF_ok _ _ _ (addF_ok _ _ _ (addF_ok _ _ _ hok h0) h1) h2) h3) h4) h5) h6) h7) (by intro e he; cases he) rfl w (fun i j => Ext.none_ok _)
end Go.Proofs.Ytgbncbclhdnbmaa.BlendPlain
