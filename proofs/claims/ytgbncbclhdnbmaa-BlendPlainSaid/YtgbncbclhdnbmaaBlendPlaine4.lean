/- A part of the law BlendPlain, which returns true for every input. Without a region and a math bit the colour is that of the layer in front, or what lies behind. No condition. -/
import Derived.Test.YtgbncbclhdnbmaaBlendPlain0
namespace Go.Proofs.Ytgbncbclhdnbmaa.BlendPlain
open Go.Sx Go.ChangeShapes Go.WideShapes Go.ChangeAt Go.RowKit
set_option linter.unusedVariables false
set_option linter.unusedSimpArgs false
set_option maxRecDepth 100000
def e4_Hy : Hyp := ⟨[(.v 0, (-32768, 32767)), (.v 1, (-32768, 32767)), (.v 2, (0, 65535)), (.v 3, (0, 255)), (.v 4, (0, 255)), (.v 5, (0, 65535)), (.v 6, (0, 255)), (.v 7, (0, 255)), (.v 8, (0, 65535)), (.v 9, (0, 255)), (.v 10, (0, 255)), (.v 11, (0, 65535)), (.v 12, (0, 255)), (.v 13, (0, 255)), (.v 14, (0, 65535)), (.v 15, (0, 255)), (.v 16, (0, 255)), (.v 17, (0, 65535)), (.v 18, (0, 255)), (.v 19, (0, 65535)), ((.mod (.sel (.av 0) (.lit 5)) (.lit 8)), (4, 4))], [(0, (0, 255)), (1, (0, 65535)), (2, (0, 65535)), (3, (-32768, 32767))], [], [], [], []⟩
def e4_Ls : List SV := [.agg (pcSegs 0 0 0 Pc0), .agg (pcSegs 4 0 3 Pc1), .s (.int .i64 (.v 18)), .s (.int .u16 (.v 19))]
def e4_c0 : E := .sel (.av 0) (.lit 44)
def e4_c1 : E := .div e4_c0 (.lit 16)
def e4_c2 : E := .mod e4_c1 (.lit 2)
def e4_c3 : E := .eq e4_c2 (.lit 0)
def e4_c4 : E := .not (.bv 4)
def e4_c5 : E := .or e4_c3 e4_c4
def e4_c6 : E := .eq (.v 15) (.lit 3)
def e4_c7 : E := .not e4_c6
def e4_c8 : E := .or e4_c5 e4_c7
def e4_c9 : E := .sel (.av 0) (.lit 37)
def e4_c10 : E := .div e4_c9 (.lit 8)
def e4_c11 : E := .mod e4_c10 (.lit 2)
def e4_c12 : E := .mul e4_c11 (.lit 8)
def e4_c13 : E := .div e4_c9 (.lit 2)
def e4_c14 : E := .mod e4_c13 (.lit 2)
def e4_c15 : E := .mul e4_c14 (.lit 2)
def e4_c16 : E := .add e4_c12 e4_c15
def e4_c17 : E := .eq e4_c16 (.lit 2)
def e4_c18 : E := .sel (.av 0) (.lit 39)
def e4_c19 : E := .le (.v 18) e4_c18
def e4_c20 : E := .sel (.av 0) (.lit 38)
def e4_c21 : E := .le e4_c20 (.v 18)
def e4_c22 : E := .and e4_c19 e4_c21
def e4_c23 : E := .mod e4_c9 (.lit 2)
def e4_c24 : E := .eq e4_c23 (.lit 0)
def e4_c25 : E := .not e4_c24
def e4_c26 : E := .iff e4_c22 e4_c25
def e4_c27 : E := .not e4_c26
def e4_c28 : E := .eq e4_c16 (.lit 8)
def e4_c29 : E := .sel (.av 0) (.lit 41)
def e4_c30 : E := .le (.v 18) e4_c29
def e4_c31 : E := .sel (.av 0) (.lit 40)
def e4_c32 : E := .le e4_c31 (.v 18)
def e4_c33 : E := .and e4_c30 e4_c32
def e4_c34 : E := .div e4_c9 (.lit 4)
def e4_c35 : E := .mod e4_c34 (.lit 2)
def e4_c36 : E := .eq e4_c35 (.lit 0)
def e4_c37 : E := .not e4_c36
def e4_c38 : E := .iff e4_c33 e4_c37
def e4_c39 : E := .not e4_c38
def e4_c40 : E := .sel (.av 0) (.lit 43)
def e4_c41 : E := .mod e4_c40 (.lit 4)
def e4_c42 : E := .eq e4_c41 (.lit 0)
def e4_c43 : E := .or e4_c27 e4_c39
def e4_c44 : E := .eq e4_c41 (.lit 1)
def e4_c45 : E := .and e4_c27 e4_c39
def e4_c46 : E := .eq e4_c41 (.lit 2)
def e4_c47 : E := .iff e4_c27 e4_c39
def e4_c48 : E := .not e4_c47
def e4_c49 : E := .ite e4_c46 e4_c48 e4_c47
def e4_c50 : E := .ite e4_c44 e4_c45 e4_c49
def e4_c51 : E := .ite e4_c42 e4_c43 e4_c50
def e4_c52 : E := .ite e4_c28 e4_c39 e4_c51
def e4_c53 : E := .ite e4_c17 e4_c27 e4_c52
def e4_c54 : E := .eq e4_c16 (.lit 0)
def e4_c55 : E := .not e4_c54
def e4_c56 : E := .and e4_c53 e4_c55
def e4_c57 : E := .sel (.av 0) (.lit 46)
def e4_c58 : E := .div e4_c57 (.lit 16)
def e4_c59 : E := .mod e4_c58 (.lit 2)
def e4_c60 : E := .eq e4_c59 (.lit 0)
def e4_c61 : E := .not e4_c60
def e4_c62 : E := .and e4_c56 e4_c61
def e4_c63 : E := .or e4_c8 e4_c62
def e4_c64 : E := .mod e4_c0 (.lit 2)
def e4_c65 : E := .eq e4_c64 (.lit 0)
def e4_c66 : E := .not (.bv 0)
def e4_c67 : E := .or e4_c65 e4_c66
def e4_c68 : E := .eq (.v 3) (.lit 1)
def e4_c69 : E := .not e4_c68
def e4_c70 : E := .or e4_c67 e4_c69
def e4_c71 : E := .sel (.av 0) (.lit 35)
def e4_c72 : E := .div e4_c71 (.lit 8)
def e4_c73 : E := .mod e4_c72 (.lit 2)
def e4_c74 : E := .mul e4_c73 (.lit 8)
def e4_c75 : E := .div e4_c71 (.lit 2)
def e4_c76 : E := .mod e4_c75 (.lit 2)
def e4_c77 : E := .mul e4_c76 (.lit 2)
def e4_c78 : E := .add e4_c74 e4_c77
def e4_c79 : E := .eq e4_c78 (.lit 2)
def e4_c80 : E := .mod e4_c71 (.lit 2)
def e4_c81 : E := .eq e4_c80 (.lit 0)
def e4_c82 : E := .not e4_c81
def e4_c83 : E := .iff e4_c22 e4_c82
def e4_c84 : E := .not e4_c83
def e4_c85 : E := .eq e4_c78 (.lit 8)
def e4_c86 : E := .div e4_c71 (.lit 4)
def e4_c87 : E := .mod e4_c86 (.lit 2)
def e4_c88 : E := .eq e4_c87 (.lit 0)
def e4_c89 : E := .not e4_c88
def e4_c90 : E := .iff e4_c33 e4_c89
def e4_c91 : E := .not e4_c90
def e4_c92 : E := .sel (.av 0) (.lit 42)
def e4_c93 : E := .mod e4_c92 (.lit 4)
def e4_c94 : E := .eq e4_c93 (.lit 0)
def e4_c95 : E := .or e4_c84 e4_c91
def e4_c96 : E := .eq e4_c93 (.lit 1)
def e4_c97 : E := .and e4_c84 e4_c91
def e4_c98 : E := .eq e4_c93 (.lit 2)
def e4_c99 : E := .iff e4_c84 e4_c91
def e4_c100 : E := .not e4_c99
def e4_c101 : E := .ite e4_c98 e4_c100 e4_c99
def e4_c102 : E := .ite e4_c96 e4_c97 e4_c101
def e4_c103 : E := .ite e4_c94 e4_c95 e4_c102
def e4_c104 : E := .ite e4_c85 e4_c91 e4_c103
def e4_c105 : E := .ite e4_c79 e4_c84 e4_c104
def e4_c106 : E := .eq e4_c78 (.lit 0)
def e4_c107 : E := .not e4_c106
def e4_c108 : E := .and e4_c105 e4_c107
def e4_c109 : E := .mod e4_c57 (.lit 2)
def e4_c110 : E := .eq e4_c109 (.lit 0)
def e4_c111 : E := .not e4_c110
def e4_c112 : E := .and e4_c108 e4_c111
def e4_c113 : E := .or e4_c70 e4_c112
def e4_c114 : E := .eq (.v 15) (.lit 2)
def e4_c115 : E := .not e4_c114
def e4_c116 : E := .or e4_c5 e4_c115
def e4_c117 : E := .or e4_c116 e4_c62
def e4_c118 : E := .div e4_c0 (.lit 2)
def e4_c119 : E := .mod e4_c118 (.lit 2)
def e4_c120 : E := .eq e4_c119 (.lit 0)
def e4_c121 : E := .not (.bv 1)
def e4_c122 : E := .or e4_c120 e4_c121
def e4_c123 : E := .eq (.v 6) (.lit 1)
def e4_c124 : E := .not e4_c123
def e4_c125 : E := .or e4_c122 e4_c124
def e4_c126 : E := .div e4_c71 (.lit 128)
def e4_c127 : E := .mul e4_c126 (.lit 8)
def e4_c128 : E := .div e4_c71 (.lit 32)
def e4_c129 : E := .mod e4_c128 (.lit 2)
def e4_c130 : E := .mul e4_c129 (.lit 2)
def e4_c131 : E := .add e4_c127 e4_c130
def e4_c132 : E := .eq e4_c131 (.lit 2)
def e4_c133 : E := .div e4_c71 (.lit 16)
def e4_c134 : E := .mod e4_c133 (.lit 2)
def e4_c135 : E := .eq e4_c134 (.lit 0)
def e4_c136 : E := .not e4_c135
def e4_c137 : E := .iff e4_c22 e4_c136
def e4_c138 : E := .not e4_c137
def e4_c139 : E := .eq e4_c131 (.lit 8)
def e4_c140 : E := .div e4_c71 (.lit 64)
def e4_c141 : E := .mod e4_c140 (.lit 2)
def e4_c142 : E := .eq e4_c141 (.lit 0)
def e4_c143 : E := .not e4_c142
def e4_c144 : E := .iff e4_c33 e4_c143
def e4_c145 : E := .not e4_c144
def e4_c146 : E := .div e4_c92 (.lit 4)
def e4_c147 : E := .mod e4_c146 (.lit 4)
def e4_c148 : E := .eq e4_c147 (.lit 0)
def e4_c149 : E := .or e4_c138 e4_c145
def e4_c150 : E := .eq e4_c147 (.lit 1)
def e4_c151 : E := .and e4_c138 e4_c145
def e4_c152 : E := .eq e4_c147 (.lit 2)
def e4_c153 : E := .iff e4_c138 e4_c145
def e4_c154 : E := .not e4_c153
def e4_c155 : E := .ite e4_c152 e4_c154 e4_c153
def e4_c156 : E := .ite e4_c150 e4_c151 e4_c155
def e4_c157 : E := .ite e4_c148 e4_c149 e4_c156
def e4_c158 : E := .ite e4_c139 e4_c145 e4_c157
def e4_c159 : E := .ite e4_c132 e4_c138 e4_c158
def e4_c160 : E := .eq e4_c131 (.lit 0)
def e4_c161 : E := .not e4_c160
def e4_c162 : E := .and e4_c159 e4_c161
def e4_c163 : E := .div e4_c57 (.lit 2)
def e4_c164 : E := .mod e4_c163 (.lit 2)
def e4_c165 : E := .eq e4_c164 (.lit 0)
def e4_c166 : E := .not e4_c165
def e4_c167 : E := .and e4_c162 e4_c166
def e4_c168 : E := .or e4_c125 e4_c167
def e4_c169 : E := .eq (.v 15) (.lit 1)
def e4_c170 : E := .not e4_c169
def e4_c171 : E := .or e4_c5 e4_c170
def e4_c172 : E := .or e4_c171 e4_c62
def e4_c173 : E := .eq (.v 3) (.lit 0)
def e4_c174 : E := .not e4_c173
def e4_c175 : E := .or e4_c67 e4_c174
def e4_c176 : E := .or e4_c175 e4_c112
def e4_c177 : E := .eq (.v 15) (.lit 0)
def e4_c178 : E := .not e4_c177
def e4_c179 : E := .or e4_c5 e4_c178
def e4_c180 : E := .or e4_c179 e4_c62
def e4_c181 : E := .eq (.v 6) (.lit 0)
def e4_c182 : E := .not e4_c181
def e4_c183 : E := .or e4_c122 e4_c182
def e4_c184 : E := .or e4_c183 e4_c167
def e4_p0Hy : Hyp := (addF true e4_c184 (addF true e4_c180 (addF true e4_c176 (addF true e4_c172 (addF true e4_c168 (addF true e4_c117 (addF true e4_c113 (addF true e4_c63 e4_Hy))))))))
theorem e4_p0run : enter Try.prog G Gh 6000 40 8 e4_p0Hy e4_Ls [] = some ([], .s (.bool (.blit true)), none) := by kernel_rfl
def e4_p1Hy : Hyp := (addF false e4_c184 (addF true e4_c180 (addF true e4_c176 (addF true e4_c172 (addF true e4_c168 (addF true e4_c117 (addF true e4_c113 (addF true e4_c63 e4_Hy))))))))
theorem e4_p1run : enter Try.prog G Gh 6000 40 8 e4_p1Hy e4_Ls [] = some ([], .s (.bool (.blit true)), none) := by kernel_rfl
def e4_p2Hy : Hyp := (addF false e4_c180 (addF true e4_c176 (addF true e4_c172 (addF true e4_c168 (addF true e4_c117 (addF true e4_c113 (addF true e4_c63 e4_Hy)))))))
theorem e4_p2run : enter Try.prog G Gh 6000 40 8 e4_p2Hy e4_Ls [] = some ([], .s (.bool (.blit true)), none) := by kernel_rfl
def e4_p3Hy : Hyp := (addF false e4_c176 (addF true e4_c172 (addF true e4_c168 (addF true e4_c117 (addF true e4_c113 (addF true e4_c63 e4_Hy))))))
theorem e4_p3run : enter Try.prog G Gh 6000 40 8 e4_p3Hy e4_Ls [] = some ([], .s (.bool (.blit true)), none) := by kernel_rfl
def e4_p4Hy : Hyp := (addF false e4_c172 (addF true e4_c168 (addF true e4_c117 (addF true e4_c113 (addF true e4_c63 e4_Hy)))))
theorem e4_p4run : enter Try.prog G Gh 6000 40 8 e4_p4Hy e4_Ls [] = some ([], .s (.bool (.blit true)), none) := by kernel_rfl
def e4_p5Hy : Hyp := (addF false e4_c168 (addF true e4_c117 (addF true e4_c113 (addF true e4_c63 e4_Hy))))
theorem e4_p5run : enter Try.prog G Gh 6000 40 8 e4_p5Hy e4_Ls [] = some ([], .s (.bool (.blit true)), none) := by kernel_rfl
def e4_p6Hy : Hyp := (addF false e4_c117 (addF true e4_c113 (addF true e4_c63 e4_Hy)))
theorem e4_p6run : enter Try.prog G Gh 6000 40 8 e4_p6Hy e4_Ls [] = some ([], .s (.bool (.blit true)), none) := by kernel_rfl
def e4_p7Hy : Hyp := (addF false e4_c113 (addF true e4_c63 e4_Hy))
theorem e4_p7run : enter Try.prog G Gh 6000 40 8 e4_p7Hy e4_Ls [] = some ([], .s (.bool (.blit true)), none) := by kernel_rfl
def e4_p8Hy : Hyp := (addF false e4_c63 e4_Hy)
theorem e4_p8run : enter Try.prog G Gh 6000 40 8 e4_p8Hy e4_Ls [] = some ([], .s (.bool (.blit true)), none) := by kernel_rfl
theorem e4_calls (c0 : List Value) (l0 : c0.length = pcTotal Pc0) (f0 : PcFit c0 0 Pc0) (c1 : List Value) (l1 : c1.length = pcTotal Pc1) (f1 : PcFit c1 0 Pc1) (a2 : Int) (w2 : 0 ≤ a2 ∧ a2 ≤ 255) (a3 : Int) (w3 : (Lit.int .u16 a3).wf = true) (hex0 : (arrOf c0 0 64) 5 % 8 = 4) (w : World) :
    Calls Try.prog 8 #[.agg c0.toArray, .agg c1.toArray, .int .i64 a2, .int .u16 a3] w fun r w' => r = .returned (.bool true) ∧ Below w.heap.size w w' := by
  have hc0 : cellsOf (⟨[intV (c0.getD 78 Go.undef), intV (c0.getD 79 Go.undef), intV (c0.getD 80 Go.undef), intV (c1.getD 1 Go.undef), intV (c1.getD 2 Go.undef), intV (c1.getD 3 Go.undef), intV (c1.getD 5 Go.undef), intV (c1.getD 6 Go.undef), intV (c1.getD 7 Go.undef), intV (c1.getD 9 Go.undef), intV (c1.getD 10 Go.undef), intV (c1.getD 11 Go.undef), intV (c1.getD 13 Go.undef), intV (c1.getD 14 Go.undef), intV (c1.getD 15 Go.undef), intV (c1.getD 17 Go.undef), intV (c1.getD 18 Go.undef), intV (c1.getD 19 Go.undef), a2, a3], [boolV (c1.getD 0 Go.undef), boolV (c1.getD 4 Go.undef), boolV (c1.getD 8 Go.undef), boolV (c1.getD 12 Go.undef), boolV (c1.getD 16 Go.undef)], [arrOf c0 0 64, arrOf c0 64 4, arrOf c0 68 4, arrOf c0 72 6], [], Iv (fun _ _ => Ext.none)⟩ : Env) Loc.id (pcSegs 0 0 0 Pc0) = c0 := by
    rw [pc_cells Pc0 0 0 0 0 f0 (by intro j hj; rcases j with _ | _ | _ | _ | j <;> first | rfl | (simp [Pc0, pcA, pcB, pcI] at hj; omega)) (by intro j hj; simp [Pc0, pcA, pcB, pcI] at hj) (by intro j hj; rcases j with _ | _ | _ | j <;> first | rfl | (simp [Pc0, pcA, pcB, pcI] at hj; omega)), List.drop_zero, ← l0, List.take_length]
  have hc1 : cellsOf (⟨[intV (c0.getD 78 Go.undef), intV (c0.getD 79 Go.undef), intV (c0.getD 80 Go.undef), intV (c1.getD 1 Go.undef), intV (c1.getD 2 Go.undef), intV (c1.getD 3 Go.undef), intV (c1.getD 5 Go.undef), intV (c1.getD 6 Go.undef), intV (c1.getD 7 Go.undef), intV (c1.getD 9 Go.undef), intV (c1.getD 10 Go.undef), intV (c1.getD 11 Go.undef), intV (c1.getD 13 Go.undef), intV (c1.getD 14 Go.undef), intV (c1.getD 15 Go.undef), intV (c1.getD 17 Go.undef), intV (c1.getD 18 Go.undef), intV (c1.getD 19 Go.undef), a2, a3], [boolV (c1.getD 0 Go.undef), boolV (c1.getD 4 Go.undef), boolV (c1.getD 8 Go.undef), boolV (c1.getD 12 Go.undef), boolV (c1.getD 16 Go.undef)], [arrOf c0 0 64, arrOf c0 64 4, arrOf c0 68 4, arrOf c0 72 6], [], Iv (fun _ _ => Ext.none)⟩ : Env) Loc.id (pcSegs 4 0 3 Pc1) = c1 := by
    rw [pc_cells Pc1 0 4 0 3 f1 (by intro j hj; simp [Pc1, pcA, pcB, pcI] at hj) (by intro j hj; rcases j with _ | _ | _ | _ | _ | j <;> first | rfl | (simp [Pc1, pcA, pcB, pcI] at hj; omega)) (by intro j hj; rcases j with _ | _ | _ | _ | _ | _ | _ | _ | _ | _ | _ | _ | _ | _ | _ | j <;> first | rfl | (simp [Pc1, pcA, pcB, pcI] at hj; omega)), List.drop_zero, ← l1, List.take_length]
  have hargs : (e4_Ls.map (SV.conc (⟨[intV (c0.getD 78 Go.undef), intV (c0.getD 79 Go.undef), intV (c0.getD 80 Go.undef), intV (c1.getD 1 Go.undef), intV (c1.getD 2 Go.undef), intV (c1.getD 3 Go.undef), intV (c1.getD 5 Go.undef), intV (c1.getD 6 Go.undef), intV (c1.getD 7 Go.undef), intV (c1.getD 9 Go.undef), intV (c1.getD 10 Go.undef), intV (c1.getD 11 Go.undef), intV (c1.getD 13 Go.undef), intV (c1.getD 14 Go.undef), intV (c1.getD 15 Go.undef), intV (c1.getD 17 Go.undef), intV (c1.getD 18 Go.undef), intV (c1.getD 19 Go.undef), a2, a3], [boolV (c1.getD 0 Go.undef), boolV (c1.getD 4 Go.undef), boolV (c1.getD 8 Go.undef), boolV (c1.getD 12 Go.undef), boolV (c1.getD 16 Go.undef)], [arrOf c0 0 64, arrOf c0 64 4, arrOf c0 68 4, arrOf c0 72 6], [], Iv (fun _ _ => Ext.none)⟩ : Env) Loc.id)).toArray = #[.agg c0.toArray, .agg c1.toArray, .int .i64 a2, .int .u16 a3] := by
    refine congrArg List.toArray ?_
    exact (cons_eq (congrArg (fun l => Value.agg (List.toArray l)) hc0) (cons_eq (congrArg (fun l => Value.agg (List.toArray l)) hc1) (cons_eq rfl (cons_eq rfl rfl))))
  rw [← hargs]
  have hok : Hyp.ok e4_Hy (⟨[intV (c0.getD 78 Go.undef), intV (c0.getD 79 Go.undef), intV (c0.getD 80 Go.undef), intV (c1.getD 1 Go.undef), intV (c1.getD 2 Go.undef), intV (c1.getD 3 Go.undef), intV (c1.getD 5 Go.undef), intV (c1.getD 6 Go.undef), intV (c1.getD 7 Go.undef), intV (c1.getD 9 Go.undef), intV (c1.getD 10 Go.undef), intV (c1.getD 11 Go.undef), intV (c1.getD 13 Go.undef), intV (c1.getD 14 Go.undef), intV (c1.getD 15 Go.undef), intV (c1.getD 17 Go.undef), intV (c1.getD 18 Go.undef), intV (c1.getD 19 Go.undef), a2, a3], [boolV (c1.getD 0 Go.undef), boolV (c1.getD 4 Go.undef), boolV (c1.getD 8 Go.undef), boolV (c1.getD 12 Go.undef), boolV (c1.getD 16 Go.undef)], [arrOf c0 0 64, arrOf c0 64 4, arrOf c0 68 4, arrOf c0 72 6], [], Iv (fun _ _ => Ext.none)⟩ : Env) := by
    refine ⟨?_, ?_, ?_, by simp [e4_Hy], ?_, by simp [e4_Hy]⟩
    · simp [e4_Hy]
    · intro p hp
      simp only [e4_Hy, List.mem_cons, List.not_mem_nil, or_false] at hp
      rcases hp with rfl | rfl | rfl | rfl | rfl | rfl | rfl | rfl | rfl | rfl | rfl | rfl | rfl | rfl | rfl | rfl | rfl | rfl | rfl | rfl | rfl
      · exact num_rng (f0.tail.tail.tail.tail)
      · exact num_rng (f0.tail.tail.tail.tail.tail)
      · exact num_rng (f0.tail.tail.tail.tail.tail.tail)
      · exact num_rng (f1.tail)
      · exact num_rng (f1.tail.tail)
      · exact num_rng (f1.tail.tail.tail)
      · exact num_rng (f1.tail.tail.tail.tail.tail)
      · exact num_rng (f1.tail.tail.tail.tail.tail.tail)
      · exact num_rng (f1.tail.tail.tail.tail.tail.tail.tail)
      · exact num_rng (f1.tail.tail.tail.tail.tail.tail.tail.tail.tail)
      · exact num_rng (f1.tail.tail.tail.tail.tail.tail.tail.tail.tail.tail)
      · exact num_rng (f1.tail.tail.tail.tail.tail.tail.tail.tail.tail.tail.tail)
      · exact num_rng (f1.tail.tail.tail.tail.tail.tail.tail.tail.tail.tail.tail.tail.tail)
      · exact num_rng (f1.tail.tail.tail.tail.tail.tail.tail.tail.tail.tail.tail.tail.tail.tail)
      · exact num_rng (f1.tail.tail.tail.tail.tail.tail.tail.tail.tail.tail.tail.tail.tail.tail.tail)
      · exact num_rng (f1.tail.tail.tail.tail.tail.tail.tail.tail.tail.tail.tail.tail.tail.tail.tail.tail.tail)
      · exact num_rng (f1.tail.tail.tail.tail.tail.tail.tail.tail.tail.tail.tail.tail.tail.tail.tail.tail.tail.tail)
      · exact num_rng (f1.tail.tail.tail.tail.tail.tail.tail.tail.tail.tail.tail.tail.tail.tail.tail.tail.tail.tail.tail)
      · exact w2
      · exact bounds_u16 w3
      · exact (by have hx := hex0; first | exact ⟨Int.le_of_eq hx.symm, Int.le_of_eq hx⟩ | exact hx)
    · intro p hp
      simp only [e4_Hy, List.mem_cons, List.not_mem_nil, or_false] at hp
      rcases hp with rfl | rfl | rfl | rfl
      · exact arrOf_rng (f0)
      · exact arrOf_rng (f0.tail)
      · exact arrOf_rng (f0.tail.tail)
      · exact arrOf_rng (f0.tail.tail.tail)
    · simp [e4_Hy]
  cases h0 : E.b (⟨[intV (c0.getD 78 Go.undef), intV (c0.getD 79 Go.undef), intV (c0.getD 80 Go.undef), intV (c1.getD 1 Go.undef), intV (c1.getD 2 Go.undef), intV (c1.getD 3 Go.undef), intV (c1.getD 5 Go.undef), intV (c1.getD 6 Go.undef), intV (c1.getD 7 Go.undef), intV (c1.getD 9 Go.undef), intV (c1.getD 10 Go.undef), intV (c1.getD 11 Go.undef), intV (c1.getD 13 Go.undef), intV (c1.getD 14 Go.undef), intV (c1.getD 15 Go.undef), intV (c1.getD 17 Go.undef), intV (c1.getD 18 Go.undef), intV (c1.getD 19 Go.undef), a2, a3], [boolV (c1.getD 0 Go.undef), boolV (c1.getD 4 Go.undef), boolV (c1.getD 8 Go.undef), boolV (c1.getD 12 Go.undef), boolV (c1.getD 16 Go.undef)], [arrOf c0 0 64, arrOf c0 64 4, arrOf c0 68 4, arrOf c0 72 6], [], Iv (fun _ _ => Ext.none)⟩ : Env) e4_c63 with
  | false =>
    exact law_true (ρ := (⟨[intV (c0.getD 78 Go.undef), intV (c0.getD 79 Go.undef), intV (c0.getD 80 Go.undef), intV (c1.getD 1 Go.undef), intV (c1.getD 2 Go.undef), intV (c1.getD 3 Go.undef), intV (c1.getD 5 Go.undef), intV (c1.getD 6 Go.undef), intV (c1.getD 7 Go.undef), intV (c1.getD 9 Go.undef), intV (c1.getD 10 Go.undef), intV (c1.getD 11 Go.undef), intV (c1.getD 13 Go.undef), intV (c1.getD 14 Go.undef), intV (c1.getD 15 Go.undef), intV (c1.getD 17 Go.undef), intV (c1.getD 18 Go.undef), intV (c1.getD 19 Go.undef), a2, a3], [boolV (c1.getD 0 Go.undef), boolV (c1.getD 4 Go.undef), boolV (c1.getD 8 Go.undef), boolV (c1.getD 12 Go.undef), boolV (c1.getD 16 Go.undef)], [arrOf c0 0 64, arrOf c0 64 4, arrOf c0 68 4, arrOf c0 72 6], [], Iv (fun _ _ => Ext.none)⟩ : Env)) (G_ok _) (by kernel_rfl) e4_p8run rfl (addF_ok _ _ _ hok h0) (by intro e he; cases he) rfl w (fun i j => Ext.none_ok _)
  | true =>
    cases h1 : E.b (⟨[intV (c0.getD 78 Go.undef), intV (c0.getD 79 Go.undef), intV (c0.getD 80 Go.undef), intV (c1.getD 1 Go.undef), intV (c1.getD 2 Go.undef), intV (c1.getD 3 Go.undef), intV (c1.getD 5 Go.undef), intV (c1.getD 6 Go.undef), intV (c1.getD 7 Go.undef), intV (c1.getD 9 Go.undef), intV (c1.getD 10 Go.undef), intV (c1.getD 11 Go.undef), intV (c1.getD 13 Go.undef), intV (c1.getD 14 Go.undef), intV (c1.getD 15 Go.undef), intV (c1.getD 17 Go.undef), intV (c1.getD 18 Go.undef), intV (c1.getD 19 Go.undef), a2, a3], [boolV (c1.getD 0 Go.undef), boolV (c1.getD 4 Go.undef), boolV (c1.getD 8 Go.undef), boolV (c1.getD 12 Go.undef), boolV (c1.getD 16 Go.undef)], [arrOf c0 0 64, arrOf c0 64 4, arrOf c0 68 4, arrOf c0 72 6], [], Iv (fun _ _ => Ext.none)⟩ : Env) e4_c113 with
    | false =>
      exact law_true (ρ := (⟨[intV (c0.getD 78 Go.undef), intV (c0.getD 79 Go.undef), intV (c0.getD 80 Go.undef), intV (c1.getD 1 Go.undef), intV (c1.getD 2 Go.undef), intV (c1.getD 3 Go.undef), intV (c1.getD 5 Go.undef), intV (c1.getD 6 Go.undef), intV (c1.getD 7 Go.undef), intV (c1.getD 9 Go.undef), intV (c1.getD 10 Go.undef), intV (c1.getD 11 Go.undef), intV (c1.getD 13 Go.undef), intV (c1.getD 14 Go.undef), intV (c1.getD 15 Go.undef), intV (c1.getD 17 Go.undef), intV (c1.getD 18 Go.undef), intV (c1.getD 19 Go.undef), a2, a3], [boolV (c1.getD 0 Go.undef), boolV (c1.getD 4 Go.undef), boolV (c1.getD 8 Go.undef), boolV (c1.getD 12 Go.undef), boolV (c1.getD 16 Go.undef)], [arrOf c0 0 64, arrOf c0 64 4, arrOf c0 68 4, arrOf c0 72 6], [], Iv (fun _ _ => Ext.none)⟩ : Env)) (G_ok _) (by kernel_rfl) e4_p7run rfl (addF_ok _ _ _ (addF_ok _ _ _ hok h0) h1) (by intro e he; cases he) rfl w (fun i j => Ext.none_ok _)
    | true =>
      cases h2 : E.b (⟨[intV (c0.getD 78 Go.undef), intV (c0.getD 79 Go.undef), intV (c0.getD 80 Go.undef), intV (c1.getD 1 Go.undef), intV (c1.getD 2 Go.undef), intV (c1.getD 3 Go.undef), intV (c1.getD 5 Go.undef), intV (c1.getD 6 Go.undef), intV (c1.getD 7 Go.undef), intV (c1.getD 9 Go.undef), intV (c1.getD 10 Go.undef), intV (c1.getD 11 Go.undef), intV (c1.getD 13 Go.undef), intV (c1.getD 14 Go.undef), intV (c1.getD 15 Go.undef), intV (c1.getD 17 Go.undef), intV (c1.getD 18 Go.undef), intV (c1.getD 19 Go.undef), a2, a3], [boolV (c1.getD 0 Go.undef), boolV (c1.getD 4 Go.undef), boolV (c1.getD 8 Go.undef), boolV (c1.getD 12 Go.undef), boolV (c1.getD 16 Go.undef)], [arrOf c0 0 64, arrOf c0 64 4, arrOf c0 68 4, arrOf c0 72 6], [], Iv (fun _ _ => Ext.none)⟩ : Env) e4_c117 with
      | false =>
        exact law_true (ρ := (⟨[intV (c0.getD 78 Go.undef), intV (c0.getD 79 Go.undef), intV (c0.getD 80 Go.undef), intV (c1.getD 1 Go.undef), intV (c1.getD 2 Go.undef), intV (c1.getD 3 Go.undef), intV (c1.getD 5 Go.undef), intV (c1.getD 6 Go.undef), intV (c1.getD 7 Go.undef), intV (c1.getD 9 Go.undef), intV (c1.getD 10 Go.undef), intV (c1.getD 11 Go.undef), intV (c1.getD 13 Go.undef), intV (c1.getD 14 Go.undef), intV (c1.getD 15 Go.undef), intV (c1.getD 17 Go.undef), intV (c1.getD 18 Go.undef), intV (c1.getD 19 Go.undef), a2, a3], [boolV (c1.getD 0 Go.undef), boolV (c1.getD 4 Go.undef), boolV (c1.getD 8 Go.undef), boolV (c1.getD 12 Go.undef), boolV (c1.getD 16 Go.undef)], [arrOf c0 0 64, arrOf c0 64 4, arrOf c0 68 4, arrOf c0 72 6], [], Iv (fun _ _ => Ext.none)⟩ : Env)) (G_ok _) (by kernel_rfl) e4_p6run rfl (addF_ok _ _ _ (addF_ok _ _ _ (addF_ok _ _ _ hok h0) h1) h2) (by intro e he; cases he) rfl w (fun i j => Ext.none_ok _)
      | true =>
        cases h3 : E.b (⟨[intV (c0.getD 78 Go.undef), intV (c0.getD 79 Go.undef), intV (c0.getD 80 Go.undef), intV (c1.getD 1 Go.undef), intV (c1.getD 2 Go.undef), intV (c1.getD 3 Go.undef), intV (c1.getD 5 Go.undef), intV (c1.getD 6 Go.undef), intV (c1.getD 7 Go.undef), intV (c1.getD 9 Go.undef), intV (c1.getD 10 Go.undef), intV (c1.getD 11 Go.undef), intV (c1.getD 13 Go.undef), intV (c1.getD 14 Go.undef), intV (c1.getD 15 Go.undef), intV (c1.getD 17 Go.undef), intV (c1.getD 18 Go.undef), intV (c1.getD 19 Go.undef), a2, a3], [boolV (c1.getD 0 Go.undef), boolV (c1.getD 4 Go.undef), boolV (c1.getD 8 Go.undef), boolV (c1.getD 12 Go.undef), boolV (c1.getD 16 Go.undef)], [arrOf c0 0 64, arrOf c0 64 4, arrOf c0 68 4, arrOf c0 72 6], [], Iv (fun _ _ => Ext.none)⟩ : Env) e4_c168 with
        | false =>
          exact law_true (ρ := (⟨[intV (c0.getD 78 Go.undef), intV (c0.getD 79 Go.undef), intV (c0.getD 80 Go.undef), intV (c1.getD 1 Go.undef), intV (c1.getD 2 Go.undef), intV (c1.getD 3 Go.undef), intV (c1.getD 5 Go.undef), intV (c1.getD 6 Go.undef), intV (c1.getD 7 Go.undef), intV (c1.getD 9 Go.undef), intV (c1.getD 10 Go.undef), intV (c1.getD 11 Go.undef), intV (c1.getD 13 Go.undef), intV (c1.getD 14 Go.undef), intV (c1.getD 15 Go.undef), intV (c1.getD 17 Go.undef), intV (c1.getD 18 Go.undef), intV (c1.getD 19 Go.undef), a2, a3], [boolV (c1.getD 0 Go.undef), boolV (c1.getD 4 Go.undef), boolV (c1.getD 8 Go.undef), boolV (c1.getD 12 Go.undef), boolV (c1.getD 16 Go.undef)], [arrOf c0 0 64, arrOf c0 64 4, arrOf c0 68 4, arrOf c0 72 6], [], Iv (fun _ _ => Ext.none)⟩ : Env)) (G_ok _) (by kernel_rfl) e4_p5run rfl (addF_ok _ _ _ (addF_ok _ _ _ (addF_ok _ _ _ (addF_ok _ _ _ hok h0) h1) h2) h3) (by intro e he; cases he) rfl w (fun i j => Ext.none_ok _)
        | true =>
          cases h4 : E.b (⟨[intV (c0.getD 78 Go.undef), intV (c0.getD 79 Go.undef), intV (c0.getD 80 Go.undef), intV (c1.getD 1 Go.undef), intV (c1.getD 2 Go.undef), intV (c1.getD 3 Go.undef), intV (c1.getD 5 Go.undef), intV (c1.getD 6 Go.undef), intV (c1.getD 7 Go.undef), intV (c1.getD 9 Go.undef), intV (c1.getD 10 Go.undef), intV (c1.getD 11 Go.undef), intV (c1.getD 13 Go.undef), intV (c1.getD 14 Go.undef), intV (c1.getD 15 Go.undef), intV (c1.getD 17 Go.undef), intV (c1.getD 18 Go.undef), intV (c1.getD 19 Go.undef), a2, a3], [boolV (c1.getD 0 Go.undef), boolV (c1.getD 4 Go.undef), boolV (c1.getD 8 Go.undef), boolV (c1.getD 12 Go.undef), boolV (c1.getD 16 Go.undef)], [arrOf c0 0 64, arrOf c0 64 4, arrOf c0 68 4, arrOf c0 72 6], [], Iv (fun _ _ => Ext.none)⟩ : Env) e4_c172 with
          | false =>
            exact law_true (ρ := (⟨[intV (c0.getD 78 Go.undef), intV (c0.getD 79 Go.undef), intV (c0.getD 80 Go.undef), intV (c1.getD 1 Go.undef), intV (c1.getD 2 Go.undef), intV (c1.getD 3 Go.undef), intV (c1.getD 5 Go.undef), intV (c1.getD 6 Go.undef), intV (c1.getD 7 Go.undef), intV (c1.getD 9 Go.undef), intV (c1.getD 10 Go.undef), intV (c1.getD 11 Go.undef), intV (c1.getD 13 Go.undef), intV (c1.getD 14 Go.undef), intV (c1.getD 15 Go.undef), intV (c1.getD 17 Go.undef), intV (c1.getD 18 Go.undef), intV (c1.getD 19 Go.undef), a2, a3], [boolV (c1.getD 0 Go.undef), boolV (c1.getD 4 Go.undef), boolV (c1.getD 8 Go.undef), boolV (c1.getD 12 Go.undef), boolV (c1.getD 16 Go.undef)], [arrOf c0 0 64, arrOf c0 64 4, arrOf c0 68 4, arrOf c0 72 6], [], Iv (fun _ _ => Ext.none)⟩ : Env)) (G_ok _) (by kernel_rfl) e4_p4run rfl (addF_ok _ _ _ (addF_ok _ _ _ (addF_ok _ _ _ (addF_ok _ _ _ (addF_ok _ _ _ hok h0) h1) h2) h3) h4) (by intro e he; cases he) rfl w (fun i j => Ext.none_ok _)
          | true =>
            cases h5 : E.b (⟨[intV (c0.getD 78 Go.undef), intV (c0.getD 79 Go.undef), intV (c0.getD 80 Go.undef), intV (c1.getD 1 Go.undef), intV (c1.getD 2 Go.undef), intV (c1.getD 3 Go.undef), intV (c1.getD 5 Go.undef), intV (c1.getD 6 Go.undef), intV (c1.getD 7 Go.undef), intV (c1.getD 9 Go.undef), intV (c1.getD 10 Go.undef), intV (c1.getD 11 Go.undef), intV (c1.getD 13 Go.undef), intV (c1.getD 14 Go.undef), intV (c1.getD 15 Go.undef), intV (c1.getD 17 Go.undef), intV (c1.getD 18 Go.undef), intV (c1.getD 19 Go.undef), a2, a3], [boolV (c1.getD 0 Go.undef), boolV (c1.getD 4 Go.undef), boolV (c1.getD 8 Go.undef), boolV (c1.getD 12 Go.undef), boolV (c1.getD 16 Go.undef)], [arrOf c0 0 64, arrOf c0 64 4, arrOf c0 68 4, arrOf c0 72 6], [], Iv (fun _ _ => Ext.none)⟩ : Env) e4_c176 with
            | false =>
              exact law_true (ρ := (⟨[intV (c0.getD 78 Go.undef), intV (c0.getD 79 Go.undef), intV (c0.getD 80 Go.undef), intV (c1.getD 1 Go.undef), intV (c1.getD 2 Go.undef), intV (c1.getD 3 Go.undef), intV (c1.getD 5 Go.undef), intV (c1.getD 6 Go.undef), intV (c1.getD 7 Go.undef), intV (c1.getD 9 Go.undef), intV (c1.getD 10 Go.undef), intV (c1.getD 11 Go.undef), intV (c1.getD 13 Go.undef), intV (c1.getD 14 Go.undef), intV (c1.getD 15 Go.undef), intV (c1.getD 17 Go.undef), intV (c1.getD 18 Go.undef), intV (c1.getD 19 Go.undef), a2, a3], [boolV (c1.getD 0 Go.undef), boolV (c1.getD 4 Go.undef), boolV (c1.getD 8 Go.undef), boolV (c1.getD 12 Go.undef), boolV (c1.getD 16 Go.undef)], [arrOf c0 0 64, arrOf c0 64 4, arrOf c0 68 4, arrOf c0 72 6], [], Iv (fun _ _ => Ext.none)⟩ : Env)) (G_ok _) (by kernel_rfl) e4_p3run rfl (addF_ok _ _ _ (addF_ok _ _ _ (addF_ok _ _ _ (addF_ok _ _ _ (addF_ok _ _ _ (addF_ok _ _ _ hok h0) h1) h2) h3) h4) h5) (by intro e he; cases he) rfl w (fun i j => Ext.none_ok _)
            | true =>
              cases h6 : E.b (⟨[intV (c0.getD 78 Go.undef), intV (c0.getD 79 Go.undef), intV (c0.getD 80 Go.undef), intV (c1.getD 1 Go.undef), intV (c1.getD 2 Go.undef), intV (c1.getD 3 Go.undef), intV (c1.getD 5 Go.undef), intV (c1.getD 6 Go.undef), intV (c1.getD 7 Go.undef), intV (c1.getD 9 Go.undef), intV (c1.getD 10 Go.undef), intV (c1.getD 11 Go.undef), intV (c1.getD 13 Go.undef), intV (c1.getD 14 Go.undef), intV (c1.getD 15 Go.undef), intV (c1.getD 17 Go.undef), intV (c1.getD 18 Go.undef), intV (c1.getD 19 Go.undef), a2, a3], [boolV (c1.getD 0 Go.undef), boolV (c1.getD 4 Go.undef), boolV (c1.getD 8 Go.undef), boolV (c1.getD 12 Go.undef), boolV (c1.getD 16 Go.undef)], [arrOf c0 0 64, arrOf c0 64 4, arrOf c0 68 4, arrOf c0 72 6], [], Iv (fun _ _ => Ext.none)⟩ : Env) e4_c180 with
              | false =>
                exact law_true (ρ := (⟨[intV (c0.getD 78 Go.undef), intV (c0.getD 79 Go.undef), intV (c0.getD 80 Go.undef), intV (c1.getD 1 Go.undef), intV (c1.getD 2 Go.undef), intV (c1.getD 3 Go.undef), intV (c1.getD 5 Go.undef), intV (c1.getD 6 Go.undef), intV (c1.getD 7 Go.undef), intV (c1.getD 9 Go.undef), intV (c1.getD 10 Go.undef), intV (c1.getD 11 Go.undef), intV (c1.getD 13 Go.undef), intV (c1.getD 14 Go.undef), intV (c1.getD 15 Go.undef), intV (c1.getD 17 Go.undef), intV (c1.getD 18 Go.undef), intV (c1.getD 19 Go.undef), a2, a3], [boolV (c1.getD 0 Go.undef), boolV (c1.getD 4 Go.undef), boolV (c1.getD 8 Go.undef), boolV (c1.getD 12 Go.undef), boolV (c1.getD 16 Go.undef)], [arrOf c0 0 64, arrOf c0 64 4, arrOf c0 68 4, arrOf c0 72 6], [], Iv (fun _ _ => Ext.none)⟩ : Env)) (G_ok _) (by kernel_rfl) e4_p2run rfl (addF_ok _ _ _ (addF_ok _ _ _ (addF_ok _ _ _ (addF_ok _ _ _ (addF_ok _ _ _ (addF_ok _ _ _ (addF_ok _ _ _ hok h0) h1) h2) h3) h4) h5) h6) (by intro e he; cases he) rfl w (fun i j => Ext.none_ok _)
              | true =>
                cases h7 : E.b (⟨[intV (c0.getD 78 Go.undef), intV (c0.getD 79 Go.undef), intV (c0.getD 80 Go.undef), intV (c1.getD 1 Go.undef), intV (c1.getD 2 Go.undef), intV (c1.getD 3 Go.undef), intV (c1.getD 5 Go.undef), intV (c1.getD 6 Go.undef), intV (c1.getD 7 Go.undef), intV (c1.getD 9 Go.undef), intV (c1.getD 10 Go.undef), intV (c1.getD 11 Go.undef), intV (c1.getD 13 Go.undef), intV (c1.getD 14 Go.undef), intV (c1.getD 15 Go.undef), intV (c1.getD 17 Go.undef), intV (c1.getD 18 Go.undef), intV (c1.getD 19 Go.undef), a2, a3], [boolV (c1.getD 0 Go.undef), boolV (c1.getD 4 Go.undef), boolV (c1.getD 8 Go.undef), boolV (c1.getD 12 Go.undef), boolV (c1.getD 16 Go.undef)], [arrOf c0 0 64, arrOf c0 64 4, arrOf c0 68 4, arrOf c0 72 6], [], Iv (fun _ _ => Ext.none)⟩ : Env) e4_c184 with
                | false =>
                  exact law_true (ρ := (⟨[intV (c0.getD 78 Go.undef), intV (c0.getD 79 Go.undef), intV (c0.getD 80 Go.undef), intV (c1.getD 1 Go.undef), intV (c1.getD 2 Go.undef), intV (c1.getD 3 Go.undef), intV (c1.getD 5 Go.undef), intV (c1.getD 6 Go.undef), intV (c1.getD 7 Go.undef), intV (c1.getD 9 Go.undef), intV (c1.getD 10 Go.undef), intV (c1.getD 11 Go.undef), intV (c1.getD 13 Go.undef), intV (c1.getD 14 Go.undef), intV (c1.getD 15 Go.undef), intV (c1.getD 17 Go.undef), intV (c1.getD 18 Go.undef), intV (c1.getD 19 Go.undef), a2, a3], [boolV (c1.getD 0 Go.undef), boolV (c1.getD 4 Go.undef), boolV (c1.getD 8 Go.undef), boolV (c1.getD 12 Go.undef), boolV (c1.getD 16 Go.undef)], [arrOf c0 0 64, arrOf c0 64 4, arrOf c0 68 4, arrOf c0 72 6], [], Iv (fun _ _ => Ext.none)⟩ : Env)) (G_ok _) (by kernel_rfl) e4_p1run rfl (addF_ok _ _ _ (addF_ok _ _ _ (addF_ok _ _ _ (addF_ok _ _ _ (addF_ok _ _ _ (addF_ok _ _ _ (addF_ok _ _ _ (addF_ok _ _ _ hok h0) h1) h2) h3) h4) h5) h6) h7) (by intro e he; cases he) rfl w (fun i j => Ext.none_ok _)
                | true =>
                  exact law_true (ρ := (⟨[intV (c0.getD 78 Go.undef), intV (c0.getD 79 Go.undef), intV (c0.getD 80 Go.undef), intV (c1.getD 1 Go.undef), intV (c1.getD 2 Go.undef), intV (c1.getD 3 Go.undef), intV (c1.getD 5 Go.undef), intV (c1.getD 6 Go.undef), intV (c1.getD 7 Go.undef), intV (c1.getD 9 Go.undef), intV (c1.getD 10 Go.undef), intV (c1.getD 11 Go.undef), intV (c1.getD 13 Go.undef), intV (c1.getD 14 Go.undef), intV (c1.getD 15 Go.undef), intV (c1.getD 17 Go.undef), intV (c1.getD 18 Go.undef), intV (c1.getD 19 Go.undef), a2, a3], [boolV (c1.getD 0 Go.undef), boolV (c1.getD 4 Go.undef), boolV (c1.getD 8 Go.undef), boolV (c1.getD 12 Go.undef), boolV (c1.getD 16 Go.undef)], [arrOf c0 0 64, arrOf c0 64 4, arrOf c0 68 4, arrOf c0 72 6], [], Iv (fun _ _ => Ext.none)⟩ : Env)) (G_ok _) (by kernel_rfl) e4_p0run rfl (addF_ok _ _ _ (addF_ok _ _ _ (addF_ok _ _ _ (addF_ok _ _ _ (addF_ok _ _ _ (addF_ok _ _ _ (addF_ok _ _ _ (addF_ok _ _ _ hok h0) h1) h2) h3) h4) h5) h6) h7) (by intro e he; cases he) rfl w (fun i j => Ext.none_ok _)
end Go.Proofs.Ytgbncbclhdnbmaa.BlendPlain
