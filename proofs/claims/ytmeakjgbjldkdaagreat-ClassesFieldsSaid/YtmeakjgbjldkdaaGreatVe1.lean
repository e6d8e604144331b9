/- Each class has its fields and invariants and those from above, the topmost's first, and no others: for every two texts the statement's function returns true. No condition. -/
import Derived.Test.YtmeakjgbjldkdaaGreatVa18
import Derived.Test.YtmeakjgbjldkdaaGreatProg
import Derived.KernelRfl
set_option maxRecDepth 100000
set_option maxHeartbeats 16000000
namespace Go.Proofs.YtmeakjgbjldkdaaGreat.Ai
open Go
def r5_0 : IC:=.region [] [Qk 0 4 (.bool false)] [0,1]
def r5_1 : IC:=.region [] [Qc 0 25 13 [] [],Qu 1 26 25] [0,1,26]
def r5_2 : IC:=.region [] [Qk 0 4 (.bool false)] [4]
def r5_3 : IC:=.region [] [Qm 0 28 0,Qc 1 29 19 [(.tmp 28)] [],Qm 2 27 29,Qx 3 30 27 0,Qx 4 31 27 1,Qm 5 5 30,Qm 6 6 31] [1,5,6]
def r5_4 : IC:=.region [] [Qm 0 32 5,Qq 1 33 (.bin .ptr .eql (.tmp 32) (.const .nilp))] [1,5,6,33]
def r5_5 : IC:=.region [] [Qk 0 4 (.bool true)] [4]
def r5_6 : IC:=.region [] [Qk 0 7 (Qz 0)] [1,5,6,7]
def r5_7 : IC:=.region [] [Qm 0 34 7,Qm 1 35 6,Qn 2 36 35,Qb 3 37 .lss 34 36] [1,5,6,7,37]
def r5_8 : IC:=.region [] [Qm 0 40 6,Qm 1 41 6,Qm 2 42 7,Qi 3 43 9 41 42,Qf 4 44 0 43,Qd 5 45 44,Qc 6 46 27 [(.tmp 40),(.tmp 45)] [],Qm 7 8 46] [1,5,6,7,8]
def r5_9 : IC:=.region [] [Qm 0 47 5,Qm 1 48 6,Qm 2 49 7,Qi 3 50 9 48 49,Qf 4 51 0 50,Qd 5 52 51,Qm 7 54 5,Qm 8 55 6,Qm 9 56 7,Qi 10 57 9 55 56,Qf 11 58 0 57,Qd 12 59 58,Qc 6 53 28 [(.tmp 47),(.tmp 52)] [12],Qc 13 60 29 [(.tmp 54),(.tmp 59)] [],Qm 14 9 53,Qm 15 10 60] [1,5,6,7,8,9,10]
def r5_10 : IC:=.region [] [Qk 0 11 (Qz 0),Qk 1 12 (Qz 0)] [1,5,6,7,8,9,10,11,12]
def r5_11 : IC:=.region [] [Qm 0 61 8,Qn 1 62 61,Qv 2 63 .sub 62 (Qz 1),Qm 3 13 63] [1,5,6,7,8,9,10,11,12,13]
def r5_12 : IC:=.region [] [Qm 0 64 13,Qv 1 65 .geq 64 (Qz 0)] [1,5,6,7,8,9,10,11,12,13,65]
def r5_13 : IC:=.region [[(.str []),(.bool false),(.str []),(.list 0 .full []),(.list 0 .full []),(.list 0 .full []),(.list 0 .full []),(.list 0 .full []),(Qz 0)]] [Qm 0 68 6,Qm 1 69 8,Qm 2 70 13,Qi 3 71 1 69 70,Qd 4 72 71,Qi 5 73 9 68 72,Qe 6 74 9 73,Qq 7 14 (.alloc 0 [(.str []),(.bool false),(.str []),(.list 0 .full []),(.list 0 .full []),(.list 0 .full []),(.list 0 .full []),(.list 0 .full []),(Qz 0)]),Qs 8 9 14 74 []] [1,5,6,7,8,9,10,11,12,13,14]
def r5_14 : IC:=.region [] [Qk 0 15 (Qz 0)] [1,5,6,7,8,9,10,11,12,13,14,15]
def r5_15 : IC:=.region [] [Qm 0 75 15,Qf 1 76 4 14,Qd 2 77 76,Qn 3 78 77,Qb 4 79 .lss 75 78] [1,5,6,7,8,9,10,11,12,13,14,15,79]
def r5_16 : IC:=.region [] [Qm 0 82 11,Qm 1 83 9,Qn 2 84 83,Qb 3 85 .geq 82 84,Qm 4 86 85,Qmg 5 87 86 false 9,Qmg 6 88 86 false 11,Qig 7 89 86 false 10 87 88,Qfg 8 90 86 false 0 89,Qdg 9 91 86 false 90,Qfg 10 92 86 false 0 14,Qdg 11 93 86 false 92,Qbg 12 94 86 false .neq 91 93,Qo 13 95 86 94,Qm 14 96 95,Qmg 15 97 96 false 9,Qmg 16 98 96 false 11,Qig 17 99 96 false 10 97 98,Qfg 18 100 96 false 1 99,Qfg 19 101 96 false 8 100,Qdg 20 102 96 false 101,Qfg 21 103 96 false 4 14,Qdg 22 104 96 false 103,Qmg 23 105 96 false 15,Qig 24 106 96 false 9 104 105,Qfg 25 107 96 false 8 106,Qdg 26 108 96 false 107,Qbg 27 109 96 false .neq 102 108,Qo 28 110 96 109,Qm 29 111 110,Qmg 30 112 111 false 9,Qmg 31 113 111 false 11,Qig 32 114 111 false 10 112 113,Qfg 33 115 111 false 1 114,Qfg 34 116 111 false 0 115,Qdg 35 117 111 false 116,Qfg 36 118 111 false 4 14,Qdg 37 119 111 false 118,Qmg 38 120 111 false 15,Qig 39 121 111 false 9 119 120,Qfg 40 122 111 false 0 121,Qdg 41 123 111 false 122,Qbg 42 124 111 false .neq 117 123,Qo 43 125 111 124] [1,5,6,7,8,9,10,11,12,13,14,15,125]
def r5_17 : IC:=.region [] [Qk 0 4 (.bool false)] [4]
def r5_18 : IC:=.region [[(.str []),(Qz 0),(.str []),(.bool false),(.list 0 .full []),(.list 0 .full []),(Qz 0),(.bool false),(Qz 0)]] [Qm 0 127 5,Qm 1 128 6,Qm 2 129 7,Qi 3 130 9 128 129,Qf 4 131 0 130,Qd 5 132 131,Qf 6 133 4 14,Qd 7 134 133,Qm 8 135 15,Qi 9 136 9 134 135,Qf 10 137 0 136,Qd 11 138 137,Qq 17 16 (.alloc 0 [(.str []),(Qz 0),(.str []),(.bool false),(.list 0 .full []),(.list 0 .full []),(Qz 0),(.bool false),(Qz 0)]),Qc 12 139 30 [(.tmp 127),(.tmp 132),(.tmp 138)] [17],Qm 13 126 139,Qx 14 140 126 0,Qx 15 141 126 1,Qx 16 142 126 2,Qs 18 9 16 140 [],Qm 19 17 141,Qm 20 18 142] [1,5,6,7,8,9,10,11,12,13,14,15,16,17,18]
def r5_19 : IC:=.region [] [Qm 0 143 18,Qu 1 144 143,Qm 2 145 144,Qmg 3 146 145 false 17,Qfg 4 147 145 false 0 14,Qdg 5 148 145 false 147,Qbg 6 149 145 false .neq 146 148,Qo 7 150 145 149,Qm 8 151 150,Qfg 9 152 151 false 8 16,Qdg 10 153 151 false 152,Qfg 11 154 151 false 4 14,Qdg 12 155 151 false 154,Qmg 13 156 151 false 15,Qig 14 157 151 false 9 155 156,Qfg 15 158 151 false 8 157,Qdg 16 159 151 false 158,Qbg 17 160 151 false .neq 153 159,Qo 18 161 151 160,Qm 19 162 161,Qfg 20 163 162 false 7 16,Qdg 21 164 162 false 163,Qfg 22 165 162 false 4 14,Qdg 23 166 162 false 165,Qmg 24 167 162 false 15,Qig 25 168 162 false 9 166 167,Qfg 26 169 162 false 7 168,Qdg 27 170 162 false 169,Qqg 28 171 162 false (.bin .bool .neq (.tmp 164) (.tmp 170)),Qo 29 172 162 171] [1,5,6,7,8,9,10,11,12,13,14,15,172]
def r5_20 : IC:=.region [] [Qk 0 4 (.bool false)] [4]
def r5_21 : IC:=.region [] [Qm 0 173 11,Qv 1 174 .add 173 (Qz 1),Qm 2 11 174] [1,5,6,7,8,9,10,11,12,13,14,15]
def r5_22 : IC:=.region [] [Qm 0 80 15,Qv 1 81 .add 80 (Qz 1),Qm 2 15 81] [1,5,6,7,8,9,10,11,12,13,14,15]
def r5_23 : IC:=.region [] [Qk 0 19 (Qz 0)] [1,5,6,7,8,9,10,11,12,13,14,19]
def r5_24 : IC:=.region [] [Qm 0 175 19,Qf 1 176 5 14,Qd 2 177 176,Qn 3 178 177,Qb 4 179 .lss 175 178] [1,5,6,7,8,9,10,11,12,13,14,19,179]
def r5_25 : IC:=.region [] [Qm 0 182 12,Qm 1 183 10,Qn 2 184 183,Qb 3 185 .geq 182 184,Qm 4 186 185,Qmg 5 187 186 false 10,Qmg 6 188 186 false 12,Qig 7 189 186 false 6 187 188,Qfg 8 190 186 false 0 189,Qdg 9 191 186 false 190,Qfg 10 192 186 false 0 14,Qdg 11 193 186 false 192,Qbg 12 194 186 false .neq 191 193,Qo 13 195 186 194,Qm 14 196 195,Qmg 15 197 196 false 10,Qmg 16 198 196 false 12,Qig 17 199 196 false 6 197 198,Qfg 18 200 196 false 1 199,Qeg 19 201 196 false 5 200,Qqg 20 202 196 false (.mkList 5 [(.tmp 201)]),Qfg 21 203 196 false 5 14,Qdg 22 204 196 false 203,Qmg 23 205 196 false 19,Qmg 24 206 196 false 19,Qvg 25 207 196 false .add 206 (Qz 1),Qqg 26 208 196 false (.slice 5 (.tmp 204) (some (.tmp 205)) (some (.tmp 207))),Qcg 27 209 196 false 31 [(.tmp 202),(.tmp 208)] [],Qug 28 210 196 false 209,Qo 29 211 196 210] [1,5,6,7,8,9,10,11,12,13,14,19,211]
def r5_26 : IC:=.region [] [Qk 0 4 (.bool false)] [4]
def r5_27 : IC:=.region [] [Qm 0 212 12,Qv 1 213 .add 212 (Qz 1),Qm 2 12 213] [1,5,6,7,8,9,10,11,12,13,14,19]
def r5_28 : IC:=.region [] [Qm 0 180 19,Qv 1 181 .add 180 (Qz 1),Qm 2 19 181] [1,5,6,7,8,9,10,11,12,13,14,19]
def r5_29 : IC:=.region [] [Qm 0 66 13,Qv 1 67 .sub 66 (Qz 1),Qm 2 13 67] [1,5,6,7,8,9,10,11,12,13]
def r5_30 : IC:=.region [] [Qm 0 215 6,Qm 1 216 6,Qm 2 217 7,Qi 3 218 9 216 217,Qf 4 219 0 218,Qd 5 220 219,Qm 6 221 1,Qc 7 222 32 [(.tmp 215),(.tmp 220),(.tmp 221)] [],Qm 8 214 222,Qx 9 223 214 0,Qx 10 224 214 1,Qm 11 20 223,Qm 12 21 224] [1,5,6,7,9,10,11,12,20]
def r5_31 : IC:=.region [[(.str []),(Qz 0),(.str []),(.bool false),(.list 0 .full []),(.list 0 .full []),(Qz 0),(.bool false),(Qz 0)]] [Qm 0 226 5,Qm 1 227 6,Qm 2 228 7,Qi 3 229 9 227 228,Qf 4 230 0 229,Qd 5 231 230,Qm 6 232 1,Qc 7 233 30 [(.tmp 226),(.tmp 231),(.tmp 232)] [],Qm 8 225 233,Qx 9 234 225 0,Qx 10 235 225 1,Qx 11 236 225 2,Qq 12 22 (.alloc 0 [(.str []),(Qz 0),(.str []),(.bool false),(.list 0 .full []),(.list 0 .full []),(Qz 0),(.bool false),(Qz 0)]),Qs 13 9 22 234 [],Qm 14 23 235,Qm 15 24 236] [1,5,6,7,9,10,11,12,20,23,24]
def r5_32 : IC:=.region [] [Qm 0 237 11,Qm 1 238 9,Qn 2 239 238,Qb 3 240 .neq 237 239,Qm 4 241 240,Qmg 5 242 241 false 12,Qmg 6 243 241 false 10,Qng 7 244 241 false 243,Qbg 8 245 241 false .neq 242 244,Qo 9 246 241 245,Qm 10 247 246,Qmg 11 248 247 false 24,Qmg 12 249 247 false 20,Qvg 13 250 247 false .geq 249 (Qz 0),Qqg 14 251 247 false (.bin .bool .neq (.tmp 248) (.tmp 250)),Qo 15 252 247 251,Qm 16 253 252,Qmg 17 254 253 false 24,Qug 18 255 253 false 254,Qmg 19 256 253 false 255,Qmg 20 257 256 true 23,Qvg 21 258 256 true .neq 257 (.str []),Qag 22 259 253 false 256 258,Qo 23 260 253 259] [1,5,6,7,260]
def r5_33 : IC:=.region [] [Qk 0 4 (.bool false)] [4]
def r5_34 : IC:=.region [] [Qm 0 38 7,Qv 1 39 .add 38 (Qz 1),Qm 2 7 39] [1,5,6,7]
def r5_35 : IC:=.region [] [Qm 0 261 5,Qc 1 262 28 [(.tmp 261),(.const (.str []))] [],Qn 2 263 262,Qv 3 264 .eql 263 (Qz 0),Qm 4 4 264] [4]
noncomputable def i5 : IFn:=⟨2,(.seq r5_0 (.seq (.seq r5_1 (.cond (.tmp 26) (.seq r5_2 .ret) (.skip))) (.seq r5_3 (.seq (.seq r5_4 (.cond (.tmp 33) (.seq r5_5 .ret) (.skip))) (.seq (.seq r5_6 (.block 0 (.loop [1,5,6,7] (.seq (.seq r5_7 (.cond (.tmp 37) (.skip) (.exit 0))) (.seq (.block 1 (.seq r5_8 (.seq r5_9 (.seq r5_10 (.seq (.seq r5_11 (.block 2 (.loop [1,5,6,7,8,9,10,11,12,13] (.seq (.seq r5_12 (.cond (.tmp 65) (.skip) (.exit 2))) (.seq (.block 3 (.seq r5_13 (.seq (.seq r5_14 (.block 4 (.loop [1,5,6,7,8,9,10,11,12,13,14,15] (.seq (.seq r5_15 (.cond (.tmp 79) (.skip) (.exit 4))) (.seq (.block 5 (.seq (.seq r5_16 (.cond (.tmp 125) (.seq r5_17 .ret) (.skip))) (.seq r5_18 (.seq (.seq r5_19 (.cond (.tmp 172) (.seq r5_20 .ret) (.skip))) r5_21)))) r5_22))))) (.seq r5_23 (.block 6 (.loop [1,5,6,7,8,9,10,11,12,13,14,19] (.seq (.seq r5_24 (.cond (.tmp 179) (.skip) (.exit 6))) (.seq (.block 7 (.seq (.seq r5_25 (.cond (.tmp 211) (.seq r5_26 .ret) (.skip))) r5_27)) r5_28)))))))) r5_29))))) (.seq r5_30 (.seq r5_31 (.seq r5_32 (.cond (.tmp 260) (.seq r5_33 .ret) (.skip)))))))))) r5_34))))) (.seq r5_35 .ret)))))),[.tmp 4]⟩
theorem c5 : chkFn Tryz.prog Tryz.f5 i5 = true:=by kernel_rfl
def r27_0 : IC:=.region [] [Qk 0 4 (.list 0 .full [])] [0,1]
def r27_1 : IC:=.region [] [Qk 0 5 (.list 0 .full [])] [0,1,5]
def r27_2 : IC:=.region [] [Qk 0 6 (Qz 0)] [0,1,5,6]
def r27_3 : IC:=.region [] [Qm 0 8 6,Qm 1 9 0,Qn 2 10 9,Qb 3 11 .leq 8 10] [0,1,5,6,11]
def r27_4 : IC:=.region [] [Qm 0 14 0,Qm 1 15 1,Qc 2 16 57 [(.tmp 14),(.tmp 15)] [],Qm 3 7 16] [0,1,5,6,7]
def r27_5 : IC:=.region [] [Qm 0 17 7,Qv 1 18 .lss 17 (Qz 0),Qm 2 19 18,Qmg 3 20 19 false 1,Qvg 4 21 19 false .eql 20 (.str []),Qo 5 22 19 21] [0,5,6,7,22]
def r27_6 : IC:=.region [] [Qm 0 23 5,Qm 1 4 23] [4]
def r27_7 : IC:=.region [] [Qm 0 24 5,Qm 1 25 7,Qq 2 26 (.mkList 1 [(.tmp 25)]),Ql 3 27 (.append 1 8 (.tmp 24) (.tmp 26)) [],Qm 4 5 27] [0,5,6,7]
def r27_8 : IC:=.region [] [Qm 0 28 0,Qm 1 29 7,Qi 2 30 9 28 29,Qf 3 31 2 30,Qd 4 32 31,Qm 5 1 32] [0,1,5,6]
def r27_9 : IC:=.region [] [Qm 0 12 6,Qv 1 13 .add 12 (Qz 1),Qm 2 6 13] [0,1,5,6]
def r27_10 : IC:=.region [] [Qm 0 33 5,Qm 1 4 33] [4]
noncomputable def i27 : IFn:=⟨2,(.seq r27_0 (.seq r27_1 (.seq (.seq r27_2 (.block 0 (.loop [0,1,5,6] (.seq (.seq r27_3 (.cond (.tmp 11) (.skip) (.exit 0))) (.seq (.block 1 (.seq r27_4 (.seq (.seq r27_5 (.cond (.tmp 22) (.seq r27_6 .ret) (.skip))) (.seq r27_7 r27_8)))) r27_9))))) (.seq r27_10 .ret)))),[.tmp 4]⟩
theorem c27 : chkFn Tryz.prog Tryz.f27 i27 = true:=by kernel_rfl
def r28_0 : IC:=.region [] [Qk 0 4 (.list 0 .full [])] [0,1]
def r28_1 : IC:=.region [] [Qk 0 5 (.list 0 .full [])] [0,1,5]
def r28_2 : IC:=.region [] [Qm 0 11 0,Qm 1 12 1,Qc 2 13 66 [(.tmp 11),(.tmp 12)] [],Qm 3 6 13] [0,5,6]
def r28_3 : IC:=.region [] [Qm 0 14 6,Qn 1 15 14,Qv 2 16 .sub 15 (Qz 1),Qm 3 7 16] [0,5,6,7]
def r28_4 : IC:=.region [] [Qm 0 17 7,Qv 1 18 .geq 17 (Qz 0)] [0,5,6,7,18]
def r28_5 : IC:=.region [[(.str []),(.bool false),(.str []),(.list 0 .full []),(.list 0 .full []),(.list 0 .full []),(.list 0 .full []),(.list 0 .full []),(Qz 0)]] [Qm 0 21 0,Qq 1 22 (.nilCheck (.tmp 21)),Qf 2 23 0 22,Qd 3 24 23,Qm 4 25 6,Qm 5 26 7,Qi 6 27 1 25 26,Qd 7 28 27,Qi 8 29 9 24 28,Qe 9 30 9 29,Qq 10 8 (.alloc 0 [(.str []),(.bool false),(.str []),(.list 0 .full []),(.list 0 .full []),(.list 0 .full []),(.list 0 .full []),(.list 0 .full []),(Qz 0)]),Qs 11 9 8 30 []] [0,5,6,7,8]
def r28_6 : IC:=.region [] [Qf 0 31 4 8,Qd 1 32 31,Qn 2 33 32,Qk 3 34 (Qz 0)] [0,5,6,7,8,32,33,34]
def r28_7 : IC:=.region [] [Qb 0 35 .lss 34 33] [0,5,6,7,8,32,33,34,35]
def r28_8 : IC:=.region [[(.str []),(Qz 0),(.str []),(.bool false),(.list 0 .full []),(.list 0 .full []),(Qz 0),(.bool false),(Qz 0)]] [Qi 0 36 9 32 34,Qe 1 37 9 36,Qq 2 10 (.alloc 0 [(.str []),(Qz 0),(.str []),(.bool false),(.list 0 .full []),(.list 0 .full []),(Qz 0),(.bool false),(Qz 0)]),Qs 3 9 10 37 []] [0,5,6,7,8,10,32,33,34]
def r28_9 : IC:=.region [] [Qm 0 38 5,Qf 1 39 0 8,Qd 2 40 39,Qe 3 41 9 10,Qq 4 42 (.build [(.str []),(.str []),(Qz 0),(.str []),(.bool false),(.list 0 .full []),(.list 0 .full []),(Qz 0),(.bool false),(Qz 0)] [(0,1,(.tmp 40)),(1,9,(.tmp 41))]),Qq 5 43 (.mkList 10 [(.tmp 42)]),Ql 6 44 (.append 10 136 (.tmp 38) (.tmp 43)) [],Qm 7 5 44] [0,5,6,7,8,32,33,34]
def r28_10 : IC:=.region [] [Qv 0 45 .add 34 (Qz 1),Qm 1 34 45] [0,5,6,7,8,32,33,34]
def r28_11 : IC:=.region [] [Qm 0 19 7,Qv 1 20 .sub 19 (Qz 1),Qm 2 7 20] [0,5,6,7]
def r28_12 : IC:=.region [] [Qm 0 46 5,Qm 1 4 46] [4]
noncomputable def i28 : IFn:=⟨2,(.seq r28_0 (.seq r28_1 (.seq r28_2 (.seq (.seq r28_3 (.block 0 (.loop [0,5,6,7] (.seq (.seq r28_4 (.cond (.tmp 18) (.skip) (.exit 0))) (.seq (.block 1 (.seq r28_5 (.seq r28_6 (.block 2 (.loop [0,5,6,7,8,32,33,34] (.seq r28_7 (.seq (.cond (.tmp 35) (.skip) (.exit 2)) (.seq (.block 3 (.seq r28_8 r28_9)) r28_10)))))))) r28_11))))) (.seq r28_12 .ret))))),[.tmp 4]⟩
theorem c28 : chkFn Tryz.prog Tryz.f28 i28 = true:=by kernel_rfl
def r29_0 : IC:=.region [] [Qk 0 4 (.list 0 .full [])] [0,1]
def r29_1 : IC:=.region [] [Qk 0 5 (.list 0 .full [])] [0,1,5]
def r29_2 : IC:=.region [] [Qm 0 11 0,Qm 1 12 1,Qc 2 13 66 [(.tmp 11),(.tmp 12)] [],Qm 3 6 13] [0,5,6]
def r29_3 : IC:=.region [] [Qm 0 14 6,Qn 1 15 14,Qv 2 16 .sub 15 (Qz 1),Qm 3 7 16] [0,5,6,7]
def r29_4 : IC:=.region [] [Qm 0 17 7,Qv 1 18 .geq 17 (Qz 0)] [0,5,6,7,18]
def r29_5 : IC:=.region [[(.str []),(.bool false),(.str []),(.list 0 .full []),(.list 0 .full []),(.list 0 .full []),(.list 0 .full []),(.list 0 .full []),(Qz 0)]] [Qm 0 21 0,Qq 1 22 (.nilCheck (.tmp 21)),Qf 2 23 0 22,Qd 3 24 23,Qm 4 25 6,Qm 5 26 7,Qi 6 27 1 25 26,Qd 7 28 27,Qi 8 29 9 24 28,Qe 9 30 9 29,Qq 10 8 (.alloc 0 [(.str []),(.bool false),(.str []),(.list 0 .full []),(.list 0 .full []),(.list 0 .full []),(.list 0 .full []),(.list 0 .full []),(Qz 0)]),Qs 11 9 8 30 []] [0,5,6,7,8]
def r29_6 : IC:=.region [] [Qf 0 31 5 8,Qd 1 32 31,Qn 2 33 32,Qk 3 34 (Qz 0)] [0,5,6,7,8,32,33,34]
def r29_7 : IC:=.region [] [Qb 0 35 .lss 34 33] [0,5,6,7,8,32,33,34,35]
def r29_8 : IC:=.region [[(.str []),(.str []),(.list 0 .full []),(.list 0 .full []),(Qz 0)]] [Qi 0 36 5 32 34,Qe 1 37 5 36,Qq 2 10 (.alloc 0 [(.str []),(.str []),(.list 0 .full []),(.list 0 .full []),(Qz 0)]),Qs 3 5 10 37 []] [0,5,6,7,8,10,32,33,34]
def r29_9 : IC:=.region [] [Qm 0 38 5,Qf 1 39 0 8,Qd 2 40 39,Qe 3 41 5 10,Qq 4 42 (.build [(.str []),(.str []),(.str []),(.list 0 .full []),(.list 0 .full []),(Qz 0)] [(0,1,(.tmp 40)),(1,5,(.tmp 41))]),Qq 5 43 (.mkList 6 [(.tmp 42)]),Ql 6 44 (.append 6 104 (.tmp 38) (.tmp 43)) [],Qm 7 5 44] [0,5,6,7,8,32,33,34]
def r29_10 : IC:=.region [] [Qv 0 45 .add 34 (Qz 1),Qm 1 34 45] [0,5,6,7,8,32,33,34]
def r29_11 : IC:=.region [] [Qm 0 19 7,Qv 1 20 .sub 19 (Qz 1),Qm 2 7 20] [0,5,6,7]
def r29_12 : IC:=.region [] [Qm 0 46 5,Qm 1 4 46] [4]
noncomputable def i29 : IFn:=⟨2,(.seq r29_0 (.seq r29_1 (.seq r29_2 (.seq (.seq r29_3 (.block 0 (.loop [0,5,6,7] (.seq (.seq r29_4 (.cond (.tmp 18) (.skip) (.exit 0))) (.seq (.block 1 (.seq r29_5 (.seq r29_6 (.block 2 (.loop [0,5,6,7,8,32,33,34] (.seq r29_7 (.seq (.cond (.tmp 35) (.skip) (.exit 2)) (.seq (.block 3 (.seq r29_8 r29_9)) r29_10)))))))) r29_11))))) (.seq r29_12 .ret))))),[.tmp 4]⟩
theorem c29 : chkFn Tryz.prog Tryz.f29 i29 = true:=by kernel_rfl
def r31_0 : IC:=.region [] [Qk 0 4 (.bool false)] [0,1]
def r31_1 : IC:=.region [] [Qm 0 6 0,Qn 1 7 6,Qm 2 8 1,Qn 3 9 8,Qb 4 10 .neq 7 9] [0,1,10]
def r31_2 : IC:=.region [] [Qk 0 4 (.bool false)] [4]
def r31_3 : IC:=.region [] [Qk 0 5 (Qz 0)] [0,1,5]
def r31_4 : IC:=.region [] [Qm 0 11 5,Qm 1 12 0,Qn 2 13 12,Qb 3 14 .lss 11 13] [0,1,5,14]
def r31_5 : IC:=.region [] [Qm 0 17 0,Qm 1 18 5,Qi 2 19 5 17 18,Qf 3 20 0 19,Qd 4 21 20,Qm 5 22 1,Qm 6 23 5,Qi 7 24 5 22 23,Qf 8 25 0 24,Qd 9 26 25,Qb 10 27 .neq 21 26,Qm 11 28 27,Qmg 12 29 28 false 0,Qmg 13 30 28 false 5,Qig 14 31 28 false 5 29 30,Qfg 15 32 28 false 1 31,Qdg 16 33 28 false 32,Qmg 17 34 28 false 1,Qmg 18 35 28 false 5,Qig 19 36 28 false 5 34 35,Qfg 20 37 28 false 1 36,Qdg 21 38 28 false 37,Qbg 22 39 28 false .neq 33 38,Qo 23 40 28 39,Qm 24 41 40,Qmg 25 42 41 false 0,Qmg 26 43 41 false 5,Qig 27 44 41 false 5 42 43,Qfg 28 45 41 false 2 44,Qdg 29 46 41 false 45,Qmg 30 47 41 false 1,Qmg 31 48 41 false 5,Qig 32 49 41 false 5 47 48,Qfg 33 50 41 false 2 49,Qdg 34 51 41 false 50,Qcg 35 52 41 false 31 [(.tmp 46),(.tmp 51)] [],Qug 36 53 41 false 52,Qo 37 54 41 53,Qm 38 55 54,Qmg 39 56 55 false 0,Qmg 40 57 55 false 5,Qig 41 58 55 false 5 56 57,Qfg 42 59 55 false 3 58,Qdg 43 60 55 false 59,Qmg 44 61 55 false 1,Qmg 45 62 55 false 5,Qig 46 63 55 false 5 61 62,Qfg 47 64 55 false 3 63,Qdg 48 65 55 false 64,Qcg 49 66 55 false 67 [(.tmp 60),(.tmp 65)] [],Qug 50 67 55 false 66,Qo 51 68 55 67] [0,1,5,68]
def r31_6 : IC:=.region [] [Qk 0 4 (.bool false)] [4]
def r31_7 : IC:=.region [] [Qm 0 15 5,Qv 1 16 .add 15 (Qz 1),Qm 2 5 16] [0,1,5]
def r31_8 : IC:=.region [] [Qk 0 4 (.bool true)] [4]
noncomputable def i31 : IFn:=⟨2,(.seq r31_0 (.seq (.seq r31_1 (.cond (.tmp 10) (.seq r31_2 .ret) (.skip))) (.seq (.seq r31_3 (.block 0 (.loop [0,1,5] (.seq (.seq r31_4 (.cond (.tmp 14) (.skip) (.exit 0))) (.seq (.block 1 (.seq r31_5 (.cond (.tmp 68) (.seq r31_6 .ret) (.skip)))) r31_7))))) (.seq r31_8 .ret)))),[.tmp 4]⟩
theorem c31 : chkFn Tryz.prog Tryz.f31 i31 = true:=by kernel_rfl
def r32_0 : IC:=.region [] [Qk 0 6 (Qz 0),Qk 1 7 (Qz 0)] [0,1,2]
def r32_1 : IC:=.region [] [Qm 0 11 0,Qm 1 12 1,Qc 2 13 27 [(.tmp 11),(.tmp 12)] [],Qm 3 8 13] [0,2,8]
def r32_2 : IC:=.region [] [Qk 0 9 (Qz 0)] [0,2,8,9]
def r32_3 : IC:=.region [] [Qm 0 14 9,Qm 1 15 8,Qn 2 16 15,Qb 3 17 .lss 14 16] [0,2,8,9,17]
def r32_4 : IC:=.region [] [Qk 0 10 (Qz 0)] [0,2,8,9,10]
def r32_5 : IC:=.region [] [Qm 0 20 10,Qm 1 21 0,Qm 2 22 8,Qm 3 23 9,Qi 4 24 1 22 23,Qd 5 25 24,Qi 6 26 9 21 25,Qf 7 27 4 26,Qd 8 28 27,Qn 9 29 28,Qb 10 30 .lss 20 29] [0,2,8,9,10,30]
def r32_6 : IC:=.region [] [Qm 0 33 0,Qm 1 34 8,Qm 2 35 9,Qi 3 36 1 34 35,Qd 4 37 36,Qi 5 38 9 33 37,Qf 6 39 4 38,Qd 7 40 39,Qm 8 41 10,Qi 9 42 9 40 41,Qf 10 43 0 42,Qd 11 44 43,Qm 12 45 2,Qb 13 46 .eql 44 45] [0,2,8,9,10,46]
def r32_7 : IC:=.region [] [Qm 0 47 8,Qm 1 48 9,Qi 2 49 1 47 48,Qd 3 50 49,Qm 4 51 10,Qm 5 6 50,Qm 6 7 51] [6,7]
def r32_8 : IC:=.region [] [Qm 0 31 10,Qv 1 32 .add 31 (Qz 1),Qm 2 10 32] [0,2,8,9,10]
def r32_9 : IC:=.region [] [Qm 0 18 9,Qv 1 19 .add 18 (Qz 1),Qm 2 9 19] [0,2,8,9]
def r32_10 : IC:=.region [] [Qk 0 6 (Qz (-1)),Qk 1 7 (Qz (-1))] [6,7]
noncomputable def i32 : IFn:=⟨3,(.seq r32_0 (.seq r32_1 (.seq (.seq r32_2 (.block 0 (.loop [0,2,8,9] (.seq (.seq r32_3 (.cond (.tmp 17) (.skip) (.exit 0))) (.seq (.block 1 (.seq r32_4 (.block 2 (.loop [0,2,8,9,10] (.seq (.seq r32_5 (.cond (.tmp 30) (.skip) (.exit 2))) (.seq (.block 3 (.seq r32_6 (.cond (.tmp 46) (.seq r32_7 .ret) (.skip)))) r32_8)))))) r32_9))))) (.seq r32_10 .ret)))),[.tmp 6,.tmp 7]⟩
theorem c32 : chkFn Tryz.prog Tryz.f32 i32 = true:=by kernel_rfl
def r67_0 : IC:=.region [] [Qk 0 4 (.bool false)] [0,1]
def r67_1 : IC:=.region [] [Qm 0 6 0,Qn 1 7 6,Qm 2 8 1,Qn 3 9 8,Qb 4 10 .neq 7 9] [0,1,10]
def r67_2 : IC:=.region [] [Qk 0 4 (.bool false)] [4]
def r67_3 : IC:=.region [] [Qk 0 5 (Qz 0)] [0,1,5]
def r67_4 : IC:=.region [] [Qm 0 11 5,Qm 1 12 0,Qn 2 13 12,Qb 3 14 .lss 11 13] [0,1,5,14]
def r67_5 : IC:=.region [] [Qm 0 17 0,Qm 1 18 5,Qi 2 19 6 17 18,Qf 3 20 0 19,Qd 4 21 20,Qm 5 22 1,Qm 6 23 5,Qi 7 24 6 22 23,Qf 8 25 0 24,Qd 9 26 25,Qb 10 27 .neq 21 26,Qm 11 28 27,Qmg 12 29 28 false 0,Qmg 13 30 28 false 5,Qig 14 31 28 false 6 29 30,Qfg 15 32 28 false 1 31,Qdg 16 33 28 false 32,Qmg 17 34 28 false 1,Qmg 18 35 28 false 5,Qig 19 36 28 false 6 34 35,Qfg 20 37 28 false 1 36,Qdg 21 38 28 false 37,Qbg 22 39 28 false .neq 33 38,Qo 23 40 28 39,Qm 24 41 40,Qmg 25 42 41 false 0,Qmg 26 43 41 false 5,Qig 27 44 41 false 6 42 43,Qfg 28 45 41 false 2 44,Qdg 29 46 41 false 45,Qmg 30 47 41 false 1,Qmg 31 48 41 false 5,Qig 32 49 41 false 6 47 48,Qfg 33 50 41 false 2 49,Qdg 34 51 41 false 50,Qqg 35 52 41 false (.bin .bool .neq (.tmp 46) (.tmp 51)),Qo 36 53 41 52,Qm 37 54 53,Qmg 38 55 54 false 0,Qmg 39 56 54 false 5,Qig 40 57 54 false 6 55 56,Qfg 41 58 54 false 3 57,Qdg 42 59 54 false 58,Qmg 43 60 54 false 1,Qmg 44 61 54 false 5,Qig 45 62 54 false 6 60 61,Qfg 46 63 54 false 3 62,Qdg 47 64 54 false 63,Qcg 48 65 54 false 67 [(.tmp 59),(.tmp 64)] [],Qug 49 66 54 false 65,Qo 50 67 54 66,Qm 51 68 67,Qmg 52 69 68 false 0,Qmg 53 70 68 false 5,Qig 54 71 68 false 6 69 70,Qfg 55 72 68 false 4 71,Qdg 56 73 68 false 72,Qmg 57 74 68 false 1,Qmg 58 75 68 false 5,Qig 59 76 68 false 6 74 75,Qfg 60 77 68 false 4 76,Qdg 61 78 68 false 77,Qcg 62 79 68 false 31 [(.tmp 73),(.tmp 78)] [],Qug 63 80 68 false 79,Qo 64 81 68 80] [0,1,5,81]
def r67_6 : IC:=.region [] [Qk 0 4 (.bool false)] [4]
def r67_7 : IC:=.region [] [Qm 0 15 5,Qv 1 16 .add 15 (Qz 1),Qm 2 5 16] [0,1,5]
def r67_8 : IC:=.region [] [Qk 0 4 (.bool true)] [4]
noncomputable def i67 : IFn:=⟨2,(.seq r67_0 (.seq (.seq r67_1 (.cond (.tmp 10) (.seq r67_2 .ret) (.skip))) (.seq (.seq r67_3 (.block 0 (.loop [0,1,5] (.seq (.seq r67_4 (.cond (.tmp 14) (.skip) (.exit 0))) (.seq (.block 1 (.seq r67_5 (.cond (.tmp 81) (.seq r67_6 .ret) (.skip)))) r67_7))))) (.seq r67_8 .ret)))),[.tmp 4]⟩
theorem c67 : chkFn Tryz.prog Tryz.f67 i67 = true:=by kernel_rfl
end Go.Proofs.YtmeakjgbjldkdaaGreat.Ai
namespace Go.Proofs.YtmeakjgbjldkdaaGreat.Ai
open Go
variable {pr : Prims} {F : Nat → Option IFn}
structure LibI (pr : Prims) (F : Nat → Option IFn) : Prop extends LibH pr F where
 f5 : Has pr F 5 i5
 f27 : Has pr F 27 i27
 f28 : Has pr F 28 i28
 f29 : Has pr F 29 i29
 f31 : Has pr F 31 i31
 f32 : Has pr F 32 i32
 f67 : Has pr F 67 i67
theorem qx_chain (L : LibI pr F) {cs : List Cls} (hfew : cs.length ≤ 6000) (hokc : ∀ c ∈ cs,okCls c) (s : Str) {H : List Blk} {rw : List Nat} (hH : 0 < H.length) :
  ∃ (v : AV) (rw' : List Nat),IsL 1 v (ixRows (chainF cs s)) ∧ Rx rw rw' ∧ Det pr F 27 [lst 9 (cs.map clsRow),.str s] ⟨H,rw⟩ (.ret v) ⟨H,rw'⟩:=by
 have hm:=L.hm
 suffices h : Wp pr F 27 [lst 9 (cs.map clsRow),.str s] ⟨H,rw⟩ fun r S' => ∃ (v : AV) (rw' : List Nat),IsL 1 v (ixRows (chainF cs s)) ∧ Rx rw rw' ∧ r = .ret v ∧ S' = ⟨H,rw'⟩ by
  obtain ⟨r,S',hd,v,rw',h1,h2,rfl,rfl⟩:=h.det hm
  exact ⟨v,rw',h1,h2,hd⟩
 obtain ⟨b,hb⟩ : ∃ b,H[0]? = some b:=⟨_,List.getElem?_eq_getElem hH⟩
 have hlt:=hH
 have hlm : (cs.map clsRow).length = cs.length:=List.length_map _
 have hR : Rx rw rw:=Rx.rfl
 refine at_start_hp hm L.f27.1 L.f27.2 rfl (hp_of hb) ?_
 refine' stI
 refine at_loop hm (fun mm e S' => ∃ (q : Nat) (vis : List Nat) (nm : Str) (l : AV) (J : List Blk) (rw3 : List Nat),S' = ⟨hp H 0 b J,rw3⟩ ∧ q ≤ cs.length + 1 ∧ vis.length = q ∧ chainF cs s = vis ++ chainL cs (cs.length + 1 - q) nm ∧ Lst rw 1 l (ixRows vis) rw3 ∧ Rx rw rw3 ∧ mm = cs.length + 1 - q ∧
  e = [(0,lst 9 (cs.map clsRow)),(1,.str nm),(5,l),(6,.int .i64 q)]) ?_ (m:=cs.length + 1) ⟨0,[],s,_,[],rw,rfl,by omega,rfl,rfl,Lst.nil,Rx.rfl,rfl,rfl⟩
 clear hR
 rintro mm e S' ⟨q,vis,nm,l,J,rw3,rfl,hq0,hvl,hch,hl,hR,rfl,rfl⟩
 by_cases hq1 : q ≤ cs.length
 ·have hx:=qx_place L.toLibE cs hfew nm
  rw [show cs.length + 1 - q = (cs.length - q) + 1 by omega] at hch
  simp only [chainL] at hch
  cases hpl : place cs nm with
  | none =>
   simp only [placeI,hpl] at hx
   simp only [hpl,List.append_nil] at hch
   refine' stI
   exact fin_ret rfl ((hl.ext hRt).isL.below _) (hp_take hlt) ⟨_,_,by rw [hch]; exact hl.isL,hR,rfl,st_of hb⟩
  | some i =>
   simp only [placeI,hpl] at hx
   simp only [hpl] at hch
   obtain ⟨c,hc,-⟩:=place_get hpl
   have hi:=(List.getElem?_eq_some_iff.1 hc).1
   have hcr : (cs.map clsRow)[i]? = some (clsRow c):=by rw [List.getElem?_map,hc]; rfl
   have hl9 : lst 9 (cs.map clsRow) = .list 9 .dead (cs.map clsRow):=lst_of_lt (i:=i) (by omega)
   have hso : supOf cs i = c.super:=by unfold supOf; rw [hc]
   have hne : ¬nm = []:=by
    intro h
    rw [h,place_nil hokc] at hpl
    cases hpl
   rw [hl9] at hx ⊢
   refine' stI
   refine id_append ?_
   refine g_append rfl rfl rfl ?_
   refine ap_lst (row:=ixRow i) (hl.ext hRt) hR (by simp only [ixRows_len,maxRow]; omega) (by simp only [ixRows_len,maxRow]; omega) (by omega) ?_
   intro l4 rw4 hl4 hR4
   refine zrk7 ?_
   refine' stI
   refine ⟨cs.length + 1 - (q + 1),by omega,q + 1,vis ++ [i],c.super,l4,_,rw4,rfl,by omega,by simp [hvl],?_,by rw [ixRows_append]; exact hl4,hR4,rfl,by first | rfl | (rw [hl9]; rfl)⟩
   rw [hch,hso,List.append_assoc,show cs.length + 1 - (q + 1) = cs.length - q by omega]
   rfl
 ·refine' stI
  rw [show cs.length + 1 - q = 0 by omega] at hch
  simp only [chainL,List.append_nil] at hch
  exact fin_ret rfl (hl.isL.below _) (hp_take hlt) ⟨_,_,by rw [hch]; exact hl.isL,hR,rfl,st_of hb⟩
theorem tx_same (L : LibI pr F) : ∀ k : Nat,(∀ xs : List Xp,wExs xs < k → wExs xs ≤ 42000000 → ∀ v v',IsL 5 v (exRows xs) → IsL 5 v' (exRows xs) → TxOk pr F 31 [v,v'] (.bool true)) ∧
  (∀ ts : List Ty,wTys ts < k → wTys ts ≤ 42000000 → ∀ v v',IsL 6 v (tyRows ts) → IsL 6 v' (tyRows ts) → TxOk pr F 67 [v,v'] (.bool true)):=by
 have hm:=L.hm
 intro k
 induction k with
 | zero => exact ⟨fun x h => by omega,fun x h => by omega⟩
 | succ k ih =>
  obtain ⟨ih1,ih2⟩:=ih
  constructor
  ·intro xs hk hw v v' hv hv'
   obtain ⟨z,tg,rfl,hz,-⟩:=hv.ex
   obtain ⟨z',tg',rfl,hz',-⟩:=hv'.ex
   have hll:=exRows_len xs
   have hxl:=wExs_len xs
   refine TxOk.of0 hm L.f31.1 L.f31.2 rfl ?_
   intro H rw b hlt
   have hR : Rx rw rw:=Rx.rfl
   refine' stI
   refine at_loop hm (fun mm e S' => ∃ (q : Nat) (rw3 : List Nat),S' = ⟨hp H 0 b [],rw3⟩ ∧ q ≤ xs.length ∧ Rx rw rw3 ∧ mm = xs.length - q ∧ e = [(0,.list z tg (exRows xs)),(1,.list z' tg' (exRows xs)),(5,.int .i64 q)]) ?_ (m:=xs.length) ⟨0,rw,rfl,by omega,hR,rfl,rfl⟩
   clear hR
   rintro mm e S' ⟨q,rw3,rfl,hq0,hR,rfl,rfl⟩
   by_cases hq1 : q < xs.length
   ·obtain ⟨x,hx⟩ : ∃ x,xs[q]? = some x:=⟨_,List.getElem?_eq_getElem hq1⟩
    have hxr:=exRows_get hx
    have hwx:=wExs_mem (List.mem_of_getElem? hx)
    have h1 : z = 5:=hz (by intro h; rw [h] at hxr; simp at hxr)
    have h2 : z' = 5:=hz' (by intro h; rw [h] at hxr; simp at hxr)
    subst h1 h2
    obtain ⟨op,nm,args,ty,a⟩:=x
    simp only [wEx] at hwx
    have hs1:=ih1 args (by omega) (by omega) _ _ (isL_lst (sz:=5)) (isL_lst (sz:=5))
    have hs2:=ih2 ty (by omega) (by omega) _ _ (isL_lst (sz:=6)) (isL_lst (sz:=6))
    refine' stI
    exact ⟨xs.length - (q + 1),by omega,q + 1,_,rfl,by omega,hR,rfl,rfl⟩
   ·refine' stI
    exact fin_ret rfl rfl (hp_take hlt) ⟨_,hR,rfl,rfl⟩
  ·intro ts hk hw v v' hv hv'
   obtain ⟨z,tg,rfl,hz,-⟩:=hv.ex
   obtain ⟨z',tg',rfl,hz',-⟩:=hv'.ex
   have hll:=tyRows_len ts
   have hxl:=wTys_len ts
   refine TxOk.of0 hm L.f67.1 L.f67.2 rfl ?_
   intro H rw b hlt
   have hR : Rx rw rw:=Rx.rfl
   refine' stI
   refine at_loop hm (fun mm e S' => ∃ (q : Nat) (rw3 : List Nat),S' = ⟨hp H 0 b [],rw3⟩ ∧ q ≤ ts.length ∧ Rx rw rw3 ∧ mm = ts.length - q ∧ e = [(0,.list z tg (tyRows ts)),(1,.list z' tg' (tyRows ts)),(5,.int .i64 q)]) ?_ (m:=ts.length) ⟨0,rw,rfl,by omega,hR,rfl,rfl⟩
   clear hR
   rintro mm e S' ⟨q,rw3,rfl,hq0,hR,rfl,rfl⟩
   by_cases hq1 : q < ts.length
   ·obtain ⟨t,ht⟩ : ∃ x,ts[q]? = some x:=⟨_,List.getElem?_eq_getElem hq1⟩
    have htr:=tyRows_get ht
    have hwx:=wTys_mem (List.mem_of_getElem? ht)
    have h1 : z = 6:=hz (by intro h; rw [h] at htr; simp at htr)
    have h2 : z' = 6:=hz' (by intro h; rw [h] at htr; simp at htr)
    subst h1 h2
    obtain ⟨kd,nm,nl,el,pd,a⟩:=t
    simp only [wTy] at hwx
    have hs1:=ih1 pd (by omega) (by omega) _ _ (isL_lst (sz:=5)) (isL_lst (sz:=5))
    have hs2:=ih2 el (by omega) (by omega) _ _ (isL_lst (sz:=6)) (isL_lst (sz:=6))
    refine' stI
    exact ⟨ts.length - (q + 1),by omega,q + 1,_,rfl,by omega,hR,rfl,rfl⟩
   ·refine' stI
    exact fin_ret rfl rfl (hp_take hlt) ⟨_,hR,rfl,rfl⟩
end Go.Proofs.YtmeakjgbjldkdaaGreat.Ai
namespace Go.Proofs.YtmeakjgbjldkdaaGreat.Ai
open Go
variable {pr : Prims} {F : Nat → Option IFn}
theorem qx_hasF (L : LibI pr F) {cs : List Cls} (hfew : cs.length ≤ 6000) (hokc : ∀ c ∈ cs,okCls c) (hwt : wL wCls cs ≤ 42000000) (s nm : Str) {H : List Blk} {rw : List Nat} (hH : 0 < H.length) :
  ∃ (a b : Int) (rw' : List Nat),(0 ≤ a ↔ (fldF cs nm (chainF cs s)).isSome = true) ∧ Rx rw rw' ∧ Det pr F 32 [lst 9 (cs.map clsRow),.str s,.str nm] ⟨H,rw⟩ (.ret (.tup [.int .i64 a,.int .i64 b])) ⟨H,rw'⟩:=by
 have hm:=L.hm
 suffices h : Wp pr F 32 [lst 9 (cs.map clsRow),.str s,.str nm] ⟨H,rw⟩ fun r S' => ∃ (a b : Int) (rw' : List Nat),(0 ≤ a ↔ (fldF cs nm (chainF cs s)).isSome = true) ∧ Rx rw rw' ∧ r = .ret (.tup [.int .i64 a,.int .i64 b]) ∧ S' = ⟨H,rw'⟩ by
  obtain ⟨r,S',hd,a,b,rw',h1,h2,rfl,rfl⟩:=h.det hm
  exact ⟨a,b,rw',h1,h2,hd⟩
 obtain ⟨b,hb⟩ : ∃ b,H[0]? = some b:=⟨_,List.getElem?_eq_getElem hH⟩
 have hlt:=hH
 have hlm : (cs.map clsRow).length = cs.length:=List.length_map _
 have hR : Rx rw rw:=Rx.rfl
 refine at_start_hp hm L.f32.1 L.f32.2 rfl (hp_of hb) ?_
 refine' stI
 obtain ⟨v,rw2,hv,hR2,hd⟩:=qx_chain L hfew hokc s (H:=hp H 0 b []) (rw:=rw) (hp_pos hlt)
 refine g_call rfl rfl rfl ?_
 refine c_det hd ?_
 obtain ⟨zv,tv,rfl,hzv,-⟩:=hv.ex
 clear hd hv hR
 refine zrk7 ?_
 have hcl : ∀ i ∈ chainF cs s,i < cs.length:=chain_lt _ _
 have hcn : (chainF cs s).length ≤ cs.length + 1:=chain_len _ _
 generalize chainF cs s = l at *
 have hll : (ixRows l).length = l.length:=ixRows_len l
 refine' stI
 refine at_loop hm (fun mm e S' => ∃ (q : Nat),S' = ⟨hp H 0 b [],rw2⟩ ∧ q ≤ l.length ∧ fldF cs nm l = fldF cs nm (l.drop q) ∧ mm = l.length - q ∧
  e = [(0,lst 9 (cs.map clsRow)),(2,.str nm),(8,.list zv tv (ixRows l)),(9,.int .i64 q)]) ?_ (m:=l.length) ⟨0,rfl,by omega,rfl,rfl,rfl⟩
 rintro mm e S' ⟨q,rfl,hq0,hod,rfl,rfl⟩
 by_cases hq1 : q < l.length
 ·obtain ⟨i,hiq⟩ : ∃ i,l[q]? = some i:=⟨_,List.getElem?_eq_getElem hq1⟩
  have hi:=hcl i (List.mem_of_getElem? hiq)
  have hiq2:=ixRows_get hiq
  have hzv1 : zv = 1:=hzv (by intro h; rw [h] at hll; simp only [List.length_nil] at hll; omega)
  subst hzv1
  obtain ⟨c,hc⟩ : ∃ c,cs[i]? = some c:=⟨_,List.getElem?_eq_getElem hi⟩
  have hcr : (cs.map clsRow)[i]? = some (clsRow c):=by rw [List.getElem?_map,hc]; rfl
  have hl9 : lst 9 (cs.map clsRow) = .list 9 .dead (cs.map clsRow):=lst_of_lt (i:=i) (by omega)
  have hcm:=List.mem_of_getElem? hc
  obtain ⟨hfb,-⟩:=fld_bounds hcm hwt
  have hlf:=fldRow_len c.fields
  rw [fldF_drop hiq] at hod
  have hfi : fldI cs nm i = (fldM nm c.fields).map fun f => (c.name,f):=by unfold fldI; rw [hc]
  rw [hl9]
  refine' stI
  refine at_loop hm (fun mm e S' => ∃ (p : Nat),S' = ⟨hp H 0 b [],rw2⟩ ∧ p ≤ c.fields.length ∧ fldM nm c.fields = fldM nm (c.fields.drop p) ∧ mm = c.fields.length - p ∧
   e = [(0,.list 9 .dead (cs.map clsRow)),(2,.str nm),(8,.list 1 tv (ixRows l)),(9,.int .i64 q),(10,.int .i64 p)]) ?_ (m:=c.fields.length) ⟨0,rfl,by omega,rfl,rfl,rfl⟩
  rintro mm e S' ⟨p,rfl,hp0,hpd,rfl,rfl⟩
  by_cases hp1 : p < c.fields.length
  ·obtain ⟨f,hf⟩ : ∃ f,c.fields[p]? = some f:=⟨_,List.getElem?_eq_getElem hp1⟩
   have hfr : (c.fields.map fldRow)[p]? = some (fldRow f):=by rw [List.getElem?_map,hf]; rfl
   have hl5 : lst 9 (c.fields.map fldRow) = .list 9 .dead (c.fields.map fldRow):=lst_of_lt (i:=p) (by omega)
   rw [fldM_drop hf] at hpd
   refine' stI
   rw [hl5]
   refine' stI
   ·rw [hpd,if_pos (by assumption)] at hfi
    rw [hfi] at hod
    exact fin_tup rfl rfl (hp_take hlt) ⟨_,_,rw2,by rw [hod]; simp,hR2,rfl,st_of hb⟩
   ·exact ⟨c.fields.length - (p + 1),by omega,p + 1,rfl,by omega,by rw [hpd,if_neg (by assumption)],rfl,rfl⟩
  ·refine' stI
   rw [List.drop_eq_nil_of_le (by omega)] at hpd
   rw [hpd] at hfi
   rw [hfi] at hod
   exact ⟨l.length - (q + 1),by omega,q + 1,rfl,by omega,hod,rfl,by first | rfl | (rw [hl9]; rfl)⟩
 ·refine' stI
  rw [List.drop_eq_nil_of_le (by omega)] at hod
  exact fin_tup rfl rfl (hp_take hlt) ⟨_,_,rw2,by rw [hod]; simp [fldF],hR2,rfl,st_of hb⟩
def ownFRow (nm : Str) (f : Fld) : List AV:=.str nm :: fldRow f
theorem row_ownF (nm : Str) (f : Fld) : Row 10 (ownFRow nm f):=by
 have h:=row_fld f
 refine ⟨by simp [ownFRow,h.len],?_,?_⟩
 ·have:=h.can
  simp only [canonL,ownFRow,List.map_cons] at this ⊢
  rw [this]
  rfl
 ·have:=h.clo
  simp only [ownFRow,closedL,closed1,this,Bool.and_self]
def ownXRow (nm : Str) (f : Xp) : List AV:=.str nm :: exRow f
theorem row_ownX (nm : Str) (f : Xp) : Row 6 (ownXRow nm f):=by
 have h:=row_ex f
 refine ⟨by simp [ownXRow,h.len],?_,?_⟩
 ·have:=h.can
  simp only [canonL,ownXRow,List.map_cons] at this ⊢
  rw [this]
  rfl
 ·have:=h.clo
  simp only [ownXRow,closedL,closed1,this,Bool.and_self]
def clsFs (cs : List Cls) (i : Nat) : List (List AV):=match cs[i]? with
 | some c => c.fields.map (ownFRow c.name)
 | none => []
def clsXs (cs : List Cls) (i : Nat) : List (List AV):=match cs[i]? with
 | some c => c.invs.map (ownXRow c.name)
 | none => []
def fsRows (cs : List Cls) (s : Str) : List (List AV):=(chainF cs s).reverse.flatMap (clsFs cs)
def xsRows (cs : List Cls) (s : Str) : List (List AV):=(chainF cs s).reverse.flatMap (clsXs cs)
theorem clsFs_len {cs : List Cls} (hw : wL wCls cs ≤ 42000000) (i : Nat) : (clsFs cs i).length ≤ 100000000:=by
 unfold clsFs
 split
 ·rename_i c hc
  have:=(fld_bounds (List.mem_of_getElem? hc) hw).1
  rw [List.length_map]
  omega
 ·simp
end Go.Proofs.YtmeakjgbjldkdaaGreat.Ai
namespace Go.Proofs.YtmeakjgbjldkdaaGreat.Ai
open Go
theorem mu_le {cs : List Cls} {U : List (List Nat)} (hup : ∀ i l,U[i]? = some l → IsUps cs i l) (i : Nat) : muU U i ≤ cs.length:=by
 unfold muU
 rw [List.getD_eq_getElem?_getD]
 cases hl : U[i]? with
 | none => simp
 | some l =>
  obtain ⟨bs,-,-,rfl⟩:=hup i l hl
  exact trues_len bs _
theorem chainL_stable {cs : List Cls} {U : List (List Nat)} (hU : U.length = cs.length) (hup : ∀ i l,U[i]? = some l → IsUps cs i l) (hl : Linked cs) (hok : ∀ c ∈ cs,okCls c) (hac : ∀ i,i < cs.length → ¬Up cs i i) :
  ∀ (k : Nat) (s : Str),(∀ i,place cs s = some i → muU U i < k) → chainL cs (k + 1) s = chainL cs k s:=by
 intro k
 induction k with
 | zero =>
  intro s h
  simp only [chainL]
  cases hp : place cs s with
  | none => rfl
  | some i => have:=h i hp; omega
 | succ k ih =>
  intro s h
  rw [chainL_eq,chainL_eq]
  cases hp : place cs s with
  | none => rfl
  | some i =>
   simp only [chainI]
   congr 1
   refine ih _ fun j hj => ?_
   have h1:=h i hp
   obtain ⟨c,hc,-⟩:=place_get hp
   have h2:=mu_lt hU hup hl hac (List.getElem?_eq_some_iff.1 hc).1 (sup_up hok hj)
   omega
theorem chainF_cons {cs : List Cls} {U : List (List Nat)} (hU : U.length = cs.length) (hup : ∀ i l,U[i]? = some l → IsUps cs i l) (hl : Linked cs) (hok : ∀ c ∈ cs,okCls c) (hac : ∀ i,i < cs.length → ¬Up cs i i)
  {s : Str} {i : Nat} (hp : place cs s = some i) : chainF cs s = i :: chainF cs (supOf cs i):=by
 unfold chainF
 rw [chainL_eq,hp]
 simp only [chainI]
 congr 1
 refine (chainL_stable hU hup hl hok hac cs.length _ fun j hj => ?_).symm
 obtain ⟨c,hc,-⟩:=place_get hp
 have h2:=mu_lt hU hup hl hac (List.getElem?_eq_some_iff.1 hc).1 (sup_up hok hj)
 have h3:=mu_le (cs:=cs) hup i
 omega
theorem fldM_none {nm : Str} : ∀ {fs : List Fld},(∀ f ∈ fs,f.name ≠ nm) → fldM nm fs = none
 | [],_ => rfl
 | f :: fs,h => by
  simp only [fldM]
  rw [if_neg (h f List.mem_cons_self)]
  exact fldM_none fun g hg => h g (List.mem_cons_of_mem _ hg)
theorem fldM_first {nm : Str} : ∀ {fs : List Fld} {k : Nat} {f : Fld},fs[k]? = some f → f.name = nm → (∀ q f',q < k → fs[q]? = some f' → f'.name ≠ nm) → fldM nm fs = some f:=by
 intro fs
 induction fs with
 | nil => intro k f h; simp at h
 | cons g fs ih =>
  intro k f h hn hu
  simp only [fldM]
  cases k with
  | zero =>
   simp only [List.getElem?_cons_zero,Option.some.injEq] at h
   subst h
   rw [if_pos hn]
  | succ k =>
   rw [if_neg (hu 0 g (by omega) rfl)]
   exact ih (by simpa using h) hn fun q f' hq hf => hu (q + 1) f' (by omega) (by simpa using hf)
theorem fldM_mem {nm : Str} : ∀ {fs : List Fld} {f : Fld},fldM nm fs = some f → ∃ k : Nat,fs[k]? = some f ∧ f.name = nm:=by
 intro fs
 induction fs with
 | nil => intro f h; cases h
 | cons g fs ih =>
  intro f h
  simp only [fldM] at h
  split at h
  ·rename_i hn
   simp only [Option.some.injEq] at h
   subst h
   exact ⟨0,rfl,hn⟩
  ·obtain ⟨k,h1,h2⟩:=ih h
   exact ⟨k + 1,by simpa using h1,h2⟩
theorem chain_nil_of {cs : List Cls} {s : Str} (hp : place cs s = none) : chainF cs s = []:=by
 unfold chainF
 rw [chainL_eq,hp]
 rfl
theorem fld_chain {cs : List Cls} {U : List (List Nat)} (hU : U.length = cs.length) (hup : ∀ i l,U[i]? = some l → IsUps cs i l) (hl : Linked cs) (hok : ∀ c ∈ cs,okCls c) (hac : ∀ i,i < cs.length → ¬Up cs i i) (hall : allOk cs U) :
  ∀ (l : List Nat) (s : Str),chainF cs s = l → ∀ (q a k : Nat) (x : Cls) (f : Fld),l[q]? = some a → cs[a]? = some x → x.fields[k]? = some f → fldF cs f.name l = some (x.name,f):=by
 intro l
 induction l with
 | nil => intro s _ q a k x f h; simp at h
 | cons i l ih =>
  intro s hs q a k x f hq ha hf
  cases hp : place cs s with
  | none => rw [chain_nil_of hp] at hs; cases hs
  | some j =>
   rw [chainF_cons hU hup hl hok hac hp] at hs
   simp only [List.cons.injEq] at hs
   obtain ⟨rfl,hs⟩:=hs
   obtain ⟨c,hc,-⟩:=place_get hp
   have hso : supOf cs j = c.super:=by unfold supOf; rw [hc]
   have hmem:=(hall j c hc).1.1
   simp only [fldF]
   have hfi : ∀ nm,fldI cs nm j = (fldM nm c.fields).map fun f => (c.name,f):=by intro nm; unfold fldI; rw [hc]
   cases q with
   | zero =>
    simp only [List.getElem?_cons_zero,Option.some.injEq] at hq
    subst hq
    rw [hc] at ha
    simp only [Option.some.injEq] at ha
    subst ha
    rw [hfi,fldM_first hf rfl (fun q f' hq hf' => (hmem k f hf).1 q f' hq hf')]
    rfl
   | succ q =>
    simp only [List.getElem?_cons_succ] at hq
    have h1:=ih _ hs q a k x f hq ha hf
    have h2 : fldI cs f.name j = none:=by
     rw [hfi]
     cases hm : fldM f.name c.fields with
     | none => rfl
     | some g =>
      obtain ⟨k',hg,hgn⟩:=fldM_mem hm
      have h3:=(hmem k' g hg).2
      rw [hgn,← hso,hs,h1] at h3
      cases h3
    rw [h2,h1]
theorem flat_len {f : Nat → List (List AV)} (h : ∀ i,(f i).length ≤ 64) : ∀ l : List Nat,(l.flatMap f).length ≤ 64 * l.length
 | [] => by simp
 | i :: l => by
  have h1:=flat_len h l
  have h2:=h i
  simp only [List.flatMap_cons,List.length_append,List.length_cons]
  omega
theorem flat_snoc {f : Nat → List (List AV)} {l : List Nat} {q i : Nat} (h : l[q]? = some i) : (l.take (q + 1)).flatMap f = (l.take q).flatMap f ++ f i:=by
 rw [take_snoc h,List.flatMap_append]
 simp
theorem flat_get {f : Nat → List (List AV)} : ∀ {l : List Nat} {q i j : Nat} {r : List AV},l[q]? = some i → (f i)[j]? = some r → (l.flatMap f)[((l.take q).flatMap f).length + j]? = some r:=by
 intro l
 induction l with
 | nil => intro q i j r h; simp at h
 | cons a l ih =>
  intro q i j r h hr
  cases q with
  | zero =>
   simp only [List.getElem?_cons_zero,Option.some.injEq] at h
   subst h
   simp only [List.take_zero,List.flatMap_nil,List.length_nil,Nat.zero_add,List.flatMap_cons]
   rw [List.getElem?_append_left (List.getElem?_eq_some_iff.1 hr).1]
   exact hr
  | succ q =>
   have h1:=ih (by simpa using h) hr
   simp only [List.take_succ_cons,List.flatMap_cons,List.length_append]
   rw [List.getElem?_append_right (by omega),show (f a).length + ((l.take q).flatMap f).length + j - (f a).length = ((l.take q).flatMap f).length + j by omega]
   exact h1
theorem clsFs_le {cs : List Cls} (h : Few cs) (i : Nat) : (clsFs cs i).length ≤ 64:=by
 unfold clsFs
 split
 ·rename_i c hc
  rw [List.length_map]
  exact (h i c hc).1
 ·simp
theorem clsXs_le {cs : List Cls} (h : Few cs) (i : Nat) : (clsXs cs i).length ≤ 64:=by
 unfold clsXs
 split
 ·rename_i c hc
  rw [List.length_map]
  exact (h i c hc).2.1
 ·simp
theorem rev_get {l : List Nat} {q : Nat} (h : q < l.length) : ∃ i,l[l.length - 1 - q]? = some i ∧ l.reverse[q]? = some i:=by
 refine ⟨l[l.length - 1 - q],List.getElem?_eq_getElem (by omega),?_⟩
 rw [List.getElem?_reverse h,List.getElem?_eq_getElem (by omega)]
theorem slice_one {sz j : Nat} {tg : Tag} {rows : List (List AV)} {r : List AV} (h : rows[j]? = some r) :
  aslice sz (.list sz tg rows) (some (j : Int)) (some ((j : Int) + 1)) = some (.list sz (if ((j : Nat) : Int) + 1 = (rows.length : Int) then tg else .dead) [r]):=by
 obtain ⟨hl,he⟩:=List.getElem?_eq_some_iff.1 h
 simp only [aslice,Option.getD_some]
 rw [if_pos ⟨by omega,by omega,by omega,by simp⟩]
 simp only [Int.toNat_natCast]
 rw [show ((j : Int) + 1).toNat - j = 1 by omega,List.drop_eq_getElem_cons hl,he]
 rfl
end Go.Proofs.YtmeakjgbjldkdaaGreat.Ai
namespace Go.Proofs.YtmeakjgbjldkdaaGreat.Ai
open Go
variable {pr : Prims} {F : Nat → Option IFn}
theorem det_fieldsT (L : LibI pr F) {H : List Blk} {rw : List Nat} {n mb z zb : Nat} {tg tb : Tag} {cs : List Cls} {U : List (List Nat)} {o1 o2 o3 sl : AV} (T : TabU H n mb cs z tg zb tb U o1 o2 o3 sl) (hfw : Few cs) (s : Str) :
  ∃ (v : AV) (rw' : List Nat),IsL 10 v (fsRows cs s) ∧ Rx rw rw' ∧ Det pr F 28 [.ptr n 0,.str s] ⟨H,rw⟩ (.ret v) ⟨H,rw'⟩:=by
 have hm:=L.hm
 suffices h : Wp pr F 28 [.ptr n 0,.str s] ⟨H,rw⟩ fun r S' => ∃ (v : AV) (rw' : List Nat),IsL 10 v (fsRows cs s) ∧ Rx rw rw' ∧ r = .ret v ∧ S' = ⟨H,rw'⟩ by
  obtain ⟨r,S',hd,v,rw',h1,h2,rfl,rfl⟩:=h.det hm
  exact ⟨v,rw',h1,h2,hd⟩
 have hlt : n < H.length:=(List.getElem?_eq_some_iff.1 T.at_).1
 have hfew:=T.few
 have hlm : (cs.map clsRow).length = cs.length:=List.length_map _
 have hR : Rx rw rw:=Rx.rfl
 refine at_start_hp hm L.f28.1 L.f28.2 rfl (hp_of T.at_) ?_
 refine' stI
 obtain ⟨v,rw2,hv,hR2,hd⟩:=det_chain L.toLibE (T.keep (keep_n T.at_ [])) s (rw:=rw)
 refine g_call rfl rfl rfl ?_
 refine c_det hd ?_
 clear hR
 refine zrk7 ?_
 obtain ⟨zv,tv,rfl,hzv,-⟩:=hv.isL
 clear hd hv
 have hcl : ∀ i ∈ chainF cs s,i < cs.length:=chain_lt _ _
 have hcn : (chainF cs s).length ≤ cs.length + 1:=chain_len _ _
 unfold fsRows
 generalize chainF cs s = l at *
 have hll : (ixRows l).length = l.length:=ixRows_len l
 refine' stI
 refine at_loop hm (fun mm e S' => ∃ (q : Nat) (J : List Blk) (lv : AV) (rw3 : List Nat) (nI : Int),S' = ⟨hp H n (.cells [.list z tg (cs.map clsRow),.map mb,.list zb tb (U.map upRow),o1,o2,o3,sl]) J,rw3⟩ ∧ q ≤ l.length ∧ nI = (l.length : Int) - 1 - q ∧ Lst rw2 10 lv ((l.reverse.take q).flatMap (clsFs cs)) rw3 ∧ Rx rw2 rw3 ∧ mm = l.length - q ∧
  e = [(0,.ptr n 0),(5,lv),(6,.list zv tv (ixRows l)),(7,.int .i64 nI)]) ?_ (m:=l.length) ⟨0,[],_,rw2,_,rfl,by omega,rfl,Lst.nil,Rx.rfl,rfl,by rw [hll]; simp; rfl⟩
 rintro mm e S' ⟨q,J,lv,rw3,nI,rfl,hq0,hnI,hl,hR,rfl,rfl⟩
 have hfl:=flat_len (clsFs_le hfw) (l.reverse.take q)
 have htk : (l.reverse.take q).length ≤ q:=by rw [List.length_take]; omega
 by_cases hq1 : q < l.length
 ·obtain ⟨i,hiq,hir⟩:=rev_get hq1
  have hi:=hcl i (List.mem_of_getElem? hiq)
  have hiq2:=ixRows_get hiq
  have hzv1 : zv = 1:=hzv (by intro h; rw [h] at hll; simp only [List.length_nil] at hll; omega)
  subst hzv1
  obtain ⟨c,hc⟩ : ∃ c,cs[i]? = some c:=⟨_,List.getElem?_eq_getElem hi⟩
  have hcr : (cs.map clsRow)[i]? = some (clsRow c):=by rw [List.getElem?_map,hc]; rfl
  have hz : z = 9:=T.sz (by intro h; rw [h] at hi; simp at hi)
  subst hz
  have hcf : clsFs cs i = c.fields.map (ownFRow c.name):=by unfold clsFs; rw [hc]
  have hbf:=(hfw i c hc).1
  have hlf:=fldRow_len c.fields
  refine' stI
  refine at_loop hm (fun mm e S' => ∃ (p : Nat) (J' : List Blk) (lv : AV) (rw3 : List Nat),S' = ⟨hp H n (.cells [.list 9 tg (cs.map clsRow),.map mb,.list zb tb (U.map upRow),o1,o2,o3,sl]) J',rw3⟩ ∧ J'[J.length]? = some (.cells (clsRow c)) ∧ p ≤ c.fields.length ∧ Lst rw2 10 lv ((l.reverse.take q).flatMap (clsFs cs) ++ (c.fields.take p).map (ownFRow c.name)) rw3 ∧ Rx rw2 rw3 ∧ mm = c.fields.length - p ∧
   e = [(0,.ptr n 0),(5,lv),(6,.list 1 tv (ixRows l)),(7,.int .i64 nI),(8,.ptr (H.length + J.length) 0),(32,lst 9 (c.fields.map fldRow)),(33,.int .i64 ((c.fields.map fldRow).length : Int)),(34,.int .i64 p)]) ?_ (m:=c.fields.length) ⟨0,_,lv,rw3,rfl,at_bk0,by omega,by simpa using hl,hR,rfl,rfl⟩
  clear hl hR
  clear rw3 lv
  rintro mm e S' ⟨p,J',lv,rw3,rfl,hJ,hp0,hl,hR,rfl,rfl⟩
  by_cases hp1 : p < c.fields.length
  ·obtain ⟨f,hf⟩ : ∃ f,c.fields[p]? = some f:=⟨_,List.getElem?_eq_getElem hp1⟩
   have hfr : (c.fields.map fldRow)[p]? = some (fldRow f):=by rw [List.getElem?_map,hf]; rfl
   have hl5 : lst 9 (c.fields.map fldRow) = .list 9 .dead (c.fields.map fldRow):=lst_of_lt (i:=p) (by omega)
   obtain ⟨fn,⟨k1,t1,u1,e1,p1,a1⟩,ff,at1⟩:=f
   rw [hl5]
   refine' stI
   refine id_list ?_
   refine g_list rfl (vs:=[.agg (ownFRow c.name ⟨fn,.mk k1 t1 u1 e1 p1 a1,ff,at1⟩)]) rfl ?_
   refine ls_1 (row_ownF _ _) ?_
   refine' stI
   refine id_append ?_
   refine g_append rfl rfl rfl ?_
   refine ap_lst (row:=ownFRow c.name ⟨fn,.mk k1 t1 u1 e1 p1 a1,ff,at1⟩) hl hR (by simp only [List.length_append,List.length_map,List.length_take,maxRow]; omega) (by simp only [List.length_append,List.length_map,List.length_take,maxRow]; omega) (by omega) ?_
   intro l4 rw4 hl4 hR4
   refine zrk7 ?_
   refine' stI
   refine ⟨c.fields.length - (p + 1),by omega,p + 1,_,l4,rw4,rfl,at_ext hJ,by omega,?_,hR4,rfl,by first | rfl | (rw [hl5]; rfl)⟩
   rw [take_snoc hf,List.map_append,← List.append_assoc]
   exact hl4
  ·refine' stI
   refine ⟨l.length - (q + 1),by omega,q + 1,_,lv,rw3,_,rfl,by omega,?_,?_,hR,rfl,rfl⟩
   ·rw [hnI]; omega
   ·rw [flat_snoc hir,hcf]
    rw [show p = c.fields.length by omega,List.take_length] at hl
    exact hl
 ·refine' stI
  rw [show q = l.length by omega,show l.length = l.reverse.length by rw [List.length_reverse],List.take_length] at hl
  exact fin_ret rfl (hl.isL.below _) (hp_take hlt) ⟨_,_,hl.isL,hR2.trans hR,rfl,st_of T.at_⟩
theorem det_invsT (L : LibI pr F) {H : List Blk} {rw : List Nat} {n mb z zb : Nat} {tg tb : Tag} {cs : List Cls} {U : List (List Nat)} {o1 o2 o3 sl : AV} (T : TabU H n mb cs z tg zb tb U o1 o2 o3 sl) (hfw : Few cs) (s : Str) :
  ∃ (v : AV) (rw' : List Nat),IsL 6 v (xsRows cs s) ∧ Rx rw rw' ∧ Det pr F 29 [.ptr n 0,.str s] ⟨H,rw⟩ (.ret v) ⟨H,rw'⟩:=by
 have hm:=L.hm
 suffices h : Wp pr F 29 [.ptr n 0,.str s] ⟨H,rw⟩ fun r S' => ∃ (v : AV) (rw' : List Nat),IsL 6 v (xsRows cs s) ∧ Rx rw rw' ∧ r = .ret v ∧ S' = ⟨H,rw'⟩ by
  obtain ⟨r,S',hd,v,rw',h1,h2,rfl,rfl⟩:=h.det hm
  exact ⟨v,rw',h1,h2,hd⟩
 have hlt : n < H.length:=(List.getElem?_eq_some_iff.1 T.at_).1
 have hfew:=T.few
 have hlm : (cs.map clsRow).length = cs.length:=List.length_map _
 have hR : Rx rw rw:=Rx.rfl
 refine at_start_hp hm L.f29.1 L.f29.2 rfl (hp_of T.at_) ?_
 refine' stI
 obtain ⟨v,rw2,hv,hR2,hd⟩:=det_chain L.toLibE (T.keep (keep_n T.at_ [])) s (rw:=rw)
 refine g_call rfl rfl rfl ?_
 refine c_det hd ?_
 clear hR
 refine zrk7 ?_
 obtain ⟨zv,tv,rfl,hzv,-⟩:=hv.isL
 clear hd hv
 have hcl : ∀ i ∈ chainF cs s,i < cs.length:=chain_lt _ _
 have hcn : (chainF cs s).length ≤ cs.length + 1:=chain_len _ _
 unfold xsRows
 generalize chainF cs s = l at *
 have hll : (ixRows l).length = l.length:=ixRows_len l
 refine' stI
 refine at_loop hm (fun mm e S' => ∃ (q : Nat) (J : List Blk) (lv : AV) (rw3 : List Nat) (nI : Int),S' = ⟨hp H n (.cells [.list z tg (cs.map clsRow),.map mb,.list zb tb (U.map upRow),o1,o2,o3,sl]) J,rw3⟩ ∧ q ≤ l.length ∧ nI = (l.length : Int) - 1 - q ∧ Lst rw2 6 lv ((l.reverse.take q).flatMap (clsXs cs)) rw3 ∧ Rx rw2 rw3 ∧ mm = l.length - q ∧
  e = [(0,.ptr n 0),(5,lv),(6,.list zv tv (ixRows l)),(7,.int .i64 nI)]) ?_ (m:=l.length) ⟨0,[],_,rw2,_,rfl,by omega,rfl,Lst.nil,Rx.rfl,rfl,by rw [hll]; simp; rfl⟩
 rintro mm e S' ⟨q,J,lv,rw3,nI,rfl,hq0,hnI,hl,hR,rfl,rfl⟩
 have hfl:=flat_len (clsXs_le hfw) (l.reverse.take q)
 have htk : (l.reverse.take q).length ≤ q:=by rw [List.length_take]; omega
 by_cases hq1 : q < l.length
 ·obtain ⟨i,hiq,hir⟩:=rev_get hq1
  have hi:=hcl i (List.mem_of_getElem? hiq)
  have hiq2:=ixRows_get hiq
  have hzv1 : zv = 1:=hzv (by intro h; rw [h] at hll; simp only [List.length_nil] at hll; omega)
  subst hzv1
  obtain ⟨c,hc⟩ : ∃ c,cs[i]? = some c:=⟨_,List.getElem?_eq_getElem hi⟩
  have hcr : (cs.map clsRow)[i]? = some (clsRow c):=by rw [List.getElem?_map,hc]; rfl
  have hz : z = 9:=T.sz (by intro h; rw [h] at hi; simp at hi)
  subst hz
  have hcf : clsXs cs i = c.invs.map (ownXRow c.name):=by unfold clsXs; rw [hc]
  have hbf:=(hfw i c hc).2.1
  have hlf:=exRows_len c.invs
  refine' stI
  refine at_loop hm (fun mm e S' => ∃ (p : Nat) (J' : List Blk) (lv : AV) (rw3 : List Nat),S' = ⟨hp H n (.cells [.list 9 tg (cs.map clsRow),.map mb,.list zb tb (U.map upRow),o1,o2,o3,sl]) J',rw3⟩ ∧ J'[J.length]? = some (.cells (clsRow c)) ∧ p ≤ c.invs.length ∧ Lst rw2 6 lv ((l.reverse.take q).flatMap (clsXs cs) ++ (c.invs.take p).map (ownXRow c.name)) rw3 ∧ Rx rw2 rw3 ∧ mm = c.invs.length - p ∧
   e = [(0,.ptr n 0),(5,lv),(6,.list 1 tv (ixRows l)),(7,.int .i64 nI),(8,.ptr (H.length + J.length) 0),(32,lst 5 (exRows c.invs)),(33,.int .i64 ((exRows c.invs).length : Int)),(34,.int .i64 p)]) ?_ (m:=c.invs.length) ⟨0,_,lv,rw3,rfl,at_bk0,by omega,by simpa using hl,hR,rfl,rfl⟩
  clear hl hR
  clear rw3 lv
  rintro mm e S' ⟨p,J',lv,rw3,rfl,hJ,hp0,hl,hR,rfl,rfl⟩
  by_cases hp1 : p < c.invs.length
  ·obtain ⟨f,hf⟩ : ∃ f,c.invs[p]? = some f:=⟨_,List.getElem?_eq_getElem hp1⟩
   have hfr : (exRows c.invs)[p]? = some (exRow f):=exRows_get hf
   have hl5 : lst 5 (exRows c.invs) = .list 5 .dead (exRows c.invs):=lst_of_lt (i:=p) (by omega)
   obtain ⟨op1,nm1,ar1,ty1,at1⟩:=f
   rw [hl5]
   refine' stI
   refine id_list ?_
   refine g_list rfl (vs:=[.agg (ownXRow c.name (.mk op1 nm1 ar1 ty1 at1))]) rfl ?_
   refine ls_1 (row_ownX _ _) ?_
   refine' stI
   refine id_append ?_
   refine g_append rfl rfl rfl ?_
   refine ap_lst (row:=ownXRow c.name (.mk op1 nm1 ar1 ty1 at1)) hl hR (by simp only [List.length_append,List.length_map,List.length_take,maxRow]; omega) (by simp only [List.length_append,List.length_map,List.length_take,maxRow]; omega) (by omega) ?_
   intro l4 rw4 hl4 hR4
   refine zrk7 ?_
   refine' stI
   refine ⟨c.invs.length - (p + 1),by omega,p + 1,_,l4,rw4,rfl,at_ext hJ,by omega,?_,hR4,rfl,by first | rfl | (rw [hl5]; rfl)⟩
   rw [take_snoc hf,List.map_append,← List.append_assoc]
   exact hl4
  ·refine' stI
   refine ⟨l.length - (q + 1),by omega,q + 1,_,lv,rw3,_,rfl,by omega,?_,?_,hR,rfl,rfl⟩
   ·rw [hnI]; omega
   ·rw [flat_snoc hir,hcf]
    rw [show p = c.invs.length by omega,List.take_length] at hl
    exact hl
 ·refine' stI
  rw [show q = l.length by omega,show l.length = l.reverse.length by rw [List.length_reverse],List.take_length] at hl
  exact fin_ret rfl (hl.isL.below _) (hp_take hlt) ⟨_,_,hl.isL,hR2.trans hR,rfl,st_of T.at_⟩
end Go.Proofs.YtmeakjgbjldkdaaGreat.Ai
namespace Go.Proofs.YtmeakjgbjldkdaaGreat.Ai
open Go
variable {pr : Prims} {F : Nat → Option IFn}
theorem wp_fields (L : LibI pr F) {x nm : Str} {p : Prg} {ok : Bool} (hrd : RdOk pr F x p ok) (H : List Blk) (rw : List Nat) : Wp pr F 5 [.str x,.str nm] ⟨H,rw⟩ TrueQ:=by
 have hm:=L.hm
 have haw:=L.awake ⟨H,rw⟩
 refine at_start hm L.f5.1 L.f5.2 rfl ?_
 refine' hGO
 obtain ⟨r,S',hd,hN⟩:=(wp_table L.toLibF hrd H rw).det hm
 rcases hN with ⟨rw',hR,rfl,rfl⟩ | ⟨H',rw2,n,mb,z,zb,tg,tb,U,hK,hn,hR0,hle,T,hall,hfw,rfl,rfl⟩
 ·refine g_call rfl rfl rfl ?_
  refine c_det hd ?_
  refine zrk7 ?_
  refine' stI
  exact fin_true rfl
 obtain ⟨cs,mn⟩:=p
 simp only at hle T hall hfw hd
 have hlt : n < H'.length:=(List.getElem?_eq_some_iff.1 T.at_).1
 have hR : Rx rw2 rw2:=Rx.rfl
 have hlm : (cs.map clsRow).length = cs.length:=List.length_map _
 have hfew : cs.length ≤ 6000:=Nat.le_trans hle (by omega)
 refine g_call rfl rfl rfl ?_
 refine c_det hd ?_
 clear hd hR0
 rw [← st_of T.at_]
 refine zrk7 ?_
 refine' stI
 refine at_loop hm (fun mm e S' => ∃ (i : Nat) (J : List Blk) (rw' : List Nat),S' = ⟨hp H' n (.cells [.list z tg (cs.map clsRow),.map mb,.list zb tb (U.map upRow),.int .u32 0,.int .i32 0,.int .u32 0,.list 0 .full []]) J,rw'⟩ ∧ i ≤ cs.length ∧ mm = cs.length - i ∧
  e = [(1,.str nm),(5,.ptr n 0),(6,lst 9 (cs.map clsRow)),(7,.int .i64 i)]) ?_ (m:=cs.length) ⟨0,[],rw2,rfl,by omega,rfl,rfl⟩
 clear hR
 clear rw2
 rintro mm e S' ⟨i,J,rw3,rfl,hi0,rfl,rfl⟩
 have hR : Rx rw3 rw3:=Rx.rfl
 by_cases hi : i < cs.length
 ·obtain ⟨c,hc⟩ : ∃ c,cs[i]? = some c:=⟨_,List.getElem?_eq_getElem hi⟩
  have hcr : (cs.map clsRow)[i]? = some (clsRow c):=by rw [List.getElem?_map,hc]; rfl
  have hl9 : lst 9 (cs.map clsRow) = .list 9 .dead (cs.map clsRow):=lst_of_lt (i:=i) (by omega)
  obtain ⟨vc,rwc,hvc,hRc,hdc⟩:=qx_chain L hfew T.okc c.name (H:=hp H' n (.cells [.list z tg (cs.map clsRow),.map mb,.list zb tb (U.map upRow),.int .u32 0,.int .i32 0,.int .u32 0,.list 0 .full []]) J) (rw:=rw3) (hp_pos hlt)
  obtain ⟨zc,tc,rfl,hzc,-⟩:=hvc.ex
  obtain ⟨vf,rwf,hvf,hRf,hdf⟩:=det_fieldsT L (T.keep (keep_n T.at_ J)) hfw c.name (rw:=rwc)
  obtain ⟨zf,tf,rfl,hzf,-⟩:=hvf.ex
  obtain ⟨vx,rwx,hvx,hRx,hdx⟩:=det_invsT L (T.keep (keep_n T.at_ J)) hfw c.name (rw:=rwf)
  obtain ⟨zx,tx,rfl,hzx,-⟩:=hvx.ex
  rw [hl9] at hdc
  rw [hl9]
  have hcn0 : (chainF cs c.name).length ≤ cs.length + 1:=chain_len _ _
  have hll0:=ixRows_len (chainF cs c.name)
  refine' stI
  have hfc:=fun a k y f (hq : ∃ q,(chainF cs c.name)[q]? = some a) => fld_chain T.ulen T.ups T.linked T.okc T.acyc hall _ c.name rfl hq.choose a k y f hq.choose_spec
  have hcl : ∀ a ∈ chainF cs c.name,a < cs.length:=chain_lt _ _
  have hcn : (chainF cs c.name).length ≤ cs.length + 1:=chain_len _ _
  unfold fsRows at hzf ⊢
  unfold xsRows at hzx ⊢
  clear hdc hdf hdx hvc hvf hvx hR hRc hRf hRx
  obtain ⟨l,hl0⟩ : ∃ l,l = chainF cs c.name:=⟨_,rfl⟩
  rw [← hl0] at hfc hcl hcn hzf hzx hzc ⊢
  have hll : (ixRows l).length = l.length:=ixRows_len l
  refine' stI
  refine at_loop hm (fun mm e S' => ∃ (q : Nat) (J : List Blk) (rw' : List Nat) (nI : Int),S' = ⟨hp H' n (.cells [.list z tg (cs.map clsRow),.map mb,.list zb tb (U.map upRow),.int .u32 0,.int .i32 0,.int .u32 0,.list 0 .full []]) J,rw'⟩ ∧ q ≤ l.length ∧ nI = (l.length : Int) - 1 - q ∧ mm = l.length - q ∧
   e = [(1,.str nm),(5,.ptr n 0),(6,.list 9 .dead (cs.map clsRow)),(7,.int .i64 i),(8,.list zc tc (ixRows l)),(9,.list zf tf (l.reverse.flatMap (clsFs cs))),(10,.list zx tx (l.reverse.flatMap (clsXs cs))),
    (11,.int .i64 ((((l.reverse.take q).flatMap (clsFs cs)).length : Nat) : Int)),(12,.int .i64 ((((l.reverse.take q).flatMap (clsXs cs)).length : Nat) : Int)),(13,.int .i64 nI)]) ?_ (m:=l.length) ⟨0,J,rwx,_,rfl,by omega,rfl,rfl,by rw [hll]; simp; rfl⟩
  clear rwc rwf rwx
  clear rw3 J
  rintro mm e S' ⟨q,J,rw3,nI,rfl,hq0,hnI,rfl,rfl⟩
  have hR : Rx rw3 rw3:=Rx.rfl
  have hfl:=flat_len (clsFs_le hfw) (l.reverse.take q)
  have hxl:=flat_len (clsXs_le hfw) (l.reverse.take q)
  have htk : (l.reverse.take q).length ≤ q:=by rw [List.length_take]; omega
  by_cases hq1 : q < l.length
  ·obtain ⟨a,haq,har⟩:=rev_get hq1
   have ha:=hcl a (List.mem_of_getElem? haq)
   have haq2:=ixRows_get haq
   have hzc1 : zc = 1:=hzc (by intro h; rw [h] at hll; simp only [List.length_nil] at hll; omega)
   subst hzc1
   obtain ⟨y,hy⟩ : ∃ y,cs[a]? = some y:=⟨_,List.getElem?_eq_getElem ha⟩
   have hyr : (cs.map clsRow)[a]? = some (clsRow y):=by rw [List.getElem?_map,hy]; rfl
   have hyf : clsFs cs a = y.fields.map (ownFRow y.name):=by unfold clsFs; rw [hy]
   have hyx : clsXs cs a = y.invs.map (ownXRow y.name):=by unfold clsXs; rw [hy]
   obtain ⟨hyn1,hyn2,-,-⟩:=hfw a y hy
   have hlf:=fldRow_len y.fields
   have hlx:=exRows_len y.invs
   have hym:=List.mem_of_getElem? hy
   refine' stI
   refine at_loop hm (fun mm e S' => ∃ (j : Nat) (J' : List Blk) (rw' : List Nat),S' = ⟨hp H' n (.cells [.list z tg (cs.map clsRow),.map mb,.list zb tb (U.map upRow),.int .u32 0,.int .i32 0,.int .u32 0,.list 0 .full []]) J',rw'⟩ ∧ J'[J.length]? = some (.cells (clsRow y)) ∧ j ≤ y.fields.length ∧ mm = y.fields.length - j ∧
    e = [(1,.str nm),(5,.ptr n 0),(6,.list 9 .dead (cs.map clsRow)),(7,.int .i64 i),(8,.list 1 tc (ixRows l)),(9,.list zf tf (l.reverse.flatMap (clsFs cs))),(10,.list zx tx (l.reverse.flatMap (clsXs cs))),
     (11,.int .i64 ((((l.reverse.take q).flatMap (clsFs cs)).length + j : Nat) : Int)),(12,.int .i64 ((((l.reverse.take q).flatMap (clsXs cs)).length : Nat) : Int)),(13,.int .i64 nI),(14,.ptr (H'.length + J.length) 0),(15,.int .i64 j)]) ?_ (m:=y.fields.length) ⟨0,_,rw3,rfl,at_bk0,by omega,rfl,rfl⟩
   clear hR
   clear rw3
   rintro mm e S' ⟨j,J',rw3,rfl,hJ,hj0,rfl,rfl⟩
   have hR : Rx rw3 rw3:=Rx.rfl
   by_cases hj1 : j < y.fields.length
   ·obtain ⟨f,hf⟩ : ∃ f,y.fields[j]? = some f:=⟨_,List.getElem?_eq_getElem hj1⟩
    have hfr : (y.fields.map fldRow)[j]? = some (fldRow f):=by rw [List.getElem?_map,hf]; rfl
    have hl5 : lst 9 (y.fields.map fldRow) = .list 9 .dead (y.fields.map fldRow):=lst_of_lt (i:=j) (by omega)
    have hfo : (l.reverse.flatMap (clsFs cs))[((l.reverse.take q).flatMap (clsFs cs)).length + j]? = some (ownFRow y.name f):=flat_get har (by rw [hyf,List.getElem?_map,hf]; rfl)
    have hfo2:=(List.getElem?_eq_some_iff.1 hfo).1
    have hzf1 : zf = 10:=hzf (by intro h; rw [h] at hfo; simp at hfo)
    subst hzf1
    have hch:=hfc a j y f ⟨_,haq⟩ hy hf
    rw [hl0] at hch
    obtain ⟨rw5,hR5,hd5⟩:=det_field L.toLibE (T.keep (keep_n T.at_ (J' ++ [.cells (fldRow fldZ)]))) c.name f.name (rw:=rw3)
    rw [hch] at hd5
    have hcy : clsRow y = [.str y.name,.bool y.iface,.str y.super,lst 1 (y.above.map nmRow),.list 9 .dead (y.fields.map fldRow),lst 5 (exRows y.invs),lst 5 (y.ctors.map ctrRow),lst 11 (y.meths.map mthRow),.int .i64 y.at_]:=by rw [← hl5]; rfl
    rw [hcy] at hJ
    obtain ⟨fn,⟨k1,t1,u1,e1,p1,a1⟩,ff,at1⟩:=f
    simp only [fldRes,Option.map_some,Option.getD_some,Option.isSome_some] at hd5
    refine' stI
    exact ⟨y.fields.length - (j + 1),by omega,j + 1,_,rw5,rfl,at_ext (by rw [hcy]; exact hJ),by omega,rfl,rfl⟩
   ·rw [show j = y.fields.length by omega]
    refine' stI
    refine at_loop hm (fun mm e S' => ∃ (j : Nat) (rw' : List Nat),S' = ⟨hp H' n (.cells [.list z tg (cs.map clsRow),.map mb,.list zb tb (U.map upRow),.int .u32 0,.int .i32 0,.int .u32 0,.list 0 .full []]) J',rw'⟩ ∧ j ≤ y.invs.length ∧ mm = y.invs.length - j ∧
     e = [(1,.str nm),(5,.ptr n 0),(6,.list 9 .dead (cs.map clsRow)),(7,.int .i64 i),(8,.list 1 tc (ixRows l)),(9,.list zf tf (l.reverse.flatMap (clsFs cs))),(10,.list zx tx (l.reverse.flatMap (clsXs cs))),
      (11,.int .i64 ((((l.reverse.take q).flatMap (clsFs cs)).length + y.fields.length : Nat) : Int)),(12,.int .i64 ((((l.reverse.take q).flatMap (clsXs cs)).length + j : Nat) : Int)),(13,.int .i64 nI),(14,.ptr (H'.length + J.length) 0),(19,.int .i64 j)]) ?_ (m:=y.invs.length) ⟨0,rw3,rfl,by omega,rfl,rfl⟩
    clear hR hj1 hj0
    clear rw3 j
    rintro mm e S' ⟨j,rw3,rfl,hj0,rfl,rfl⟩
    have hR : Rx rw3 rw3:=Rx.rfl
    by_cases hj1 : j < y.invs.length
    ·obtain ⟨f,hf⟩ : ∃ f,y.invs[j]? = some f:=⟨_,List.getElem?_eq_getElem hj1⟩
     have hfr:=exRows_get hf
     have hl5 : lst 5 (exRows y.invs) = .list 5 .dead (exRows y.invs):=lst_of_lt (i:=j) (by omega)
     have hfo : (l.reverse.flatMap (clsXs cs))[((l.reverse.take q).flatMap (clsXs cs)).length + j]? = some (ownXRow y.name f):=flat_get har (by rw [hyx,List.getElem?_map,hf]; rfl)
     have hfo2:=(List.getElem?_eq_some_iff.1 hfo).1
     have hzx1 : zx = 6:=hzx (by intro h; rw [h] at hfo; simp at hfo)
     subst hzx1
     have hcy : clsRow y = [.str y.name,.bool y.iface,.str y.super,lst 1 (y.above.map nmRow),lst 9 (y.fields.map fldRow),.list 5 .dead (exRows y.invs),lst 5 (y.ctors.map ctrRow),lst 11 (y.meths.map mthRow),.int .i64 y.at_]:=by rw [← hl5]; rfl
     rw [hcy] at hJ
     have hwx : wExs [f] ≤ 42000000:=by
      have h1:=wExs_mem (List.mem_of_getElem? hf)
      have h2:=wL_mem wCls hym
      have h3:=T.wt
      simp only [wCls] at h2
      simp only [wExs]
      omega
     have hsame:=fun v v' h h' => (tx_same L (wExs [f] + 1)).1 [f] (by omega) hwx v v' h h'
     obtain ⟨op1,nm1,ar1,ty1,at1⟩:=f
     refine' stI
     refine id_list ?_
     refine g_list rfl (vs:=[.agg (exRow (.mk op1 nm1 ar1 ty1 at1))]) rfl ?_
     refine ls_1 (row_ex _) ?_
     refine' stI
     refine g_q rfl (slice_one hfr) ?_
     have hs1:=hsame (.list 5 .full [exRow (.mk op1 nm1 ar1 ty1 at1)]) (.list 5 (if ((j : Nat) : Int) + 1 = ((exRows y.invs).length : Int) then Tag.dead else Tag.dead) [exRow (.mk op1 nm1 ar1 ty1 at1)]) ⟨_,_,rfl,fun _ => rfl,fun h => by cases h⟩ ⟨_,_,rfl,fun _ => rfl,fun h => by cases h⟩
     refine' stI
     exact ⟨y.invs.length - (j + 1),by omega,j + 1,_,rfl,by omega,rfl,rfl⟩
    ·refine' stI
     have e1 : ((l.reverse.take (q + 1)).flatMap (clsFs cs)).length = ((l.reverse.take q).flatMap (clsFs cs)).length + y.fields.length:=by rw [flat_snoc har,hyf,List.length_append,List.length_map]
     have e2 : ((l.reverse.take (q + 1)).flatMap (clsXs cs)).length = ((l.reverse.take q).flatMap (clsXs cs)).length + j:=by rw [flat_snoc har,hyx,List.length_append,List.length_map]; omega
     exact ⟨l.length - (q + 1),by omega,q + 1,J',rw3,nI - 1,rfl,by omega,by rw [hnI]; omega,rfl,by rw [e1,e2] <;> rfl⟩
  ·have e1 : l.reverse.take q = l.reverse:=by rw [show q = l.reverse.length by rw [List.length_reverse]; omega,List.take_length]
   rw [e1]
   obtain ⟨a,b,rw5,hab,hR5,hd5⟩:=qx_hasF L hfew T.okc T.wt c.name nm (H:=hp H' n (.cells [.list z tg (cs.map clsRow),.map mb,.list zb tb (U.map upRow),.int .u32 0,.int .i32 0,.int .u32 0,.list 0 .full []]) J) (rw:=rw3) (hp_pos hlt)
   rw [hl9] at hd5
   obtain ⟨rw6,hR6,hd6⟩:=det_field L.toLibE (T.keep (keep_n T.at_ (J ++ [.cells (fldRow fldZ)]))) c.name nm (rw:=rw5)
   cases ho : fldF cs nm (chainF cs c.name) with
   | none =>
    rw [ho] at hd6 hab
    simp only [fldRes,Option.map_none,Option.getD_none,Option.isSome_none] at hd6
    have ha : ¬0 ≤ a:=fun h => by have:=hab.1 h; simp at this
    refine' stI
    exact ⟨cs.length - (i + 1),by omega,i + 1,_,rw6,rfl,by omega,rfl,by first | rfl | (rw [hl9]; rfl)⟩
   | some r =>
    obtain ⟨s1,f1⟩:=r
    rw [ho] at hd6 hab
    simp only [fldRes,Option.map_some,Option.getD_some,Option.isSome_some] at hd6
    have ha : 0 ≤ a:=hab.2 rfl
    refine' stI
    exact ⟨cs.length - (i + 1),by omega,i + 1,_,rw6,rfl,by omega,rfl,by first | rfl | (rw [hl9]; rfl)⟩
 ·obtain ⟨v,rw5,hv,hR5,hd5⟩:=det_fieldsT L (T.keep (keep_n T.at_ J)) hfw [] (rw:=rw3)
  rw [fsRows,chain_nil_of (place_nil T.okc)] at hv
  change IsL 10 v [] at hv
  obtain ⟨z1,t1,rfl,-,-⟩:=hv.ex
  refine' stI
  exact fin_true rfl
end Go.Proofs.YtmeakjgbjldkdaaGreat.Ai
namespace Go.Proofs.YtmeakjgbjldkdaaGreat.Ai
open Go
noncomputable def FA2 : Nat → Option IFn:=fun n => match n with
 | 5 => some i5
 | 27 => some i27
 | 28 => some i28
 | 29 => some i29
 | 31 => some i31
 | 32 => some i32
 | 67 => some i67
 | n => FA n
theorem fa2_chk : ∀ f fn,FA2 f = some fn → ∃ g,Tryz.prog.funcs[f]? = some g ∧ chkFn Tryz.prog g fn = true:=by
 intro f fn h
 unfold FA2 at h
 split at h
 ·simp only [Option.some.injEq] at h; subst h; exact ⟨Tryz.f5,Tryz.func5,c5⟩
 ·simp only [Option.some.injEq] at h; subst h; exact ⟨Tryz.f27,Tryz.func27,c27⟩
 ·simp only [Option.some.injEq] at h; subst h; exact ⟨Tryz.f28,Tryz.func28,c28⟩
 ·simp only [Option.some.injEq] at h; subst h; exact ⟨Tryz.f29,Tryz.func29,c29⟩
 ·simp only [Option.some.injEq] at h; subst h; exact ⟨Tryz.f31,Tryz.func31,c31⟩
 ·simp only [Option.some.injEq] at h; subst h; exact ⟨Tryz.f32,Tryz.func32,c32⟩
 ·simp only [Option.some.injEq] at h; subst h; exact ⟨Tryz.f67,Tryz.func67,c67⟩
 ·exact fa_chk _ _ h
theorem libI : LibI PrC FA2 where
 hm:=prC_mono
 f89:=⟨rfl,rfl⟩
 f130:=⟨rfl,rfl⟩
 f131:=⟨rfl,rfl⟩
 f132:=⟨rfl,rfl⟩
 f133:=⟨rfl,rfl⟩
 f190:=⟨rfl,rfl⟩
 f191:=⟨rfl,rfl⟩
 f226:=⟨rfl,rfl⟩
 f243:=⟨rfl,rfl⟩
 f90:=⟨rfl,rfl⟩
 f93:=⟨rfl,rfl⟩
 f95:=⟨rfl,rfl⟩
 f134:=⟨rfl,rfl⟩
 f135:=⟨rfl,rfl⟩
 f136:=⟨rfl,rfl⟩
 f140:=⟨rfl,rfl⟩
 f192:=⟨rfl,rfl⟩
 f193:=⟨rfl,rfl⟩
 f195:=⟨rfl,rfl⟩
 f201:=⟨rfl,rfl⟩
 f227:=⟨rfl,rfl⟩
 f228:=⟨rfl,rfl⟩
 f244:=⟨rfl,rfl⟩
 f245:=⟨rfl,rfl⟩
 f253:=⟨rfl,rfl⟩
 f94:=⟨rfl,rfl⟩
 f141:=⟨rfl,rfl⟩
 f196:=⟨rfl,rfl⟩
 f197:=⟨rfl,rfl⟩
 f137:=⟨rfl,rfl⟩
 f194:=⟨rfl,rfl⟩
 f139:=⟨rfl,rfl⟩
 f138:=⟨rfl,rfl⟩
 f91:=⟨rfl,rfl⟩
 f92:=⟨rfl,rfl⟩
 f51:=⟨rfl,rfl⟩
 f19:=⟨rfl,rfl⟩
 f15:=⟨rfl,rfl⟩
 f17:=⟨rfl,rfl⟩
 f20:=⟨rfl,rfl⟩
 f26:=⟨rfl,rfl⟩
 f30:=⟨rfl,rfl⟩
 f56:=⟨rfl,rfl⟩
 f64:=⟨rfl,rfl⟩
 f65:=⟨rfl,rfl⟩
 f66:=⟨rfl,rfl⟩
 f100:=⟨rfl,rfl⟩
 f101:=⟨rfl,rfl⟩
 f102:=⟨rfl,rfl⟩
 f103:=⟨rfl,rfl⟩
 f104:=⟨rfl,rfl⟩
 f105:=⟨rfl,rfl⟩
 f106:=⟨rfl,rfl⟩
 f149:=⟨rfl,rfl⟩
 f150:=⟨rfl,rfl⟩
 f151:=⟨rfl,rfl⟩
 f16:=⟨rfl,rfl⟩
 f18:=⟨rfl,rfl⟩
 f21:=⟨rfl,rfl⟩
 f53:=⟨rfl,rfl⟩
 f57:=⟨rfl,rfl⟩
 f204:=⟨rfl,rfl⟩
 f52:=⟨rfl,rfl⟩
 f96:=⟨rfl,rfl⟩
 f97:=⟨rfl,rfl⟩
 f127:=⟨rfl,rfl⟩
 f142:=⟨rfl,rfl⟩
 f143:=⟨rfl,rfl⟩
 f144:=⟨rfl,rfl⟩
 f145:=⟨rfl,rfl⟩
 f146:=⟨rfl,rfl⟩
 f198:=⟨rfl,rfl⟩
 f199:=⟨rfl,rfl⟩
 f200:=⟨rfl,rfl⟩
 f229:=⟨rfl,rfl⟩
 f55:=⟨rfl,rfl⟩
 f23:=⟨rfl,rfl⟩
 f33:=⟨rfl,rfl⟩
 f34:=⟨rfl,rfl⟩
 f35:=⟨rfl,rfl⟩
 f36:=⟨rfl,rfl⟩
 f68:=⟨rfl,rfl⟩
 f69:=⟨rfl,rfl⟩
 f111:=⟨rfl,rfl⟩
 f3:=⟨rfl,rfl⟩
 f6:=⟨rfl,rfl⟩
 f5:=⟨rfl,rfl⟩
 f27:=⟨rfl,rfl⟩
 f28:=⟨rfl,rfl⟩
 f29:=⟨rfl,rfl⟩
 f31:=⟨rfl,rfl⟩
 f32:=⟨rfl,rfl⟩
 f67:=⟨rfl,rfl⟩
 rd:=fun x => ⟨thePrg x,theOk x,(the_spec x).1,fun _H _rw => det_run prC_mono (n:=1) rfl⟩
 join:=join_det
 awake:=fun _S => det_run prC_mono (n:=1) rfl
end Go.Proofs.YtmeakjgbjldkdaaGreat.Ai
