/- A part of what is proved: L7, L9, Q5, A1, A2, A3p, A3, A4. No condition. -/
import Derived.Test.YtmeakjgbjldkdaaGreatVa14
import Derived.Test.YtmeakjgbjldkdaaGreatProg
import Derived.KernelRfl
set_option maxRecDepth 100000
set_option maxHeartbeats 16000000
namespace Go.Proofs.YtmeakjgbjldkdaaGreat.Ai
open Go
def r13_0 : IC:=.region [] [Qk 0 0 (.bool false)] []
def r13_1 : IC:=.region [] [Qc 0 9 19 [(.const (.str [105,110,116,101,114,102,97,99,101,32,73,32,123,32,100,101,102,32,102,40,97,58,32,105,110,116,41,58,32,105,110,116,59,32,125,32,99,108,97,115,115,32,65,32,105,109,112,108,101,109,101,110,116,115,32,73,32,123,32,102,105,110,97,108,32,110,58,32,105,110,116,59,32,100,101,102,32,102,40,97,58,32,105,110,116,41,58,32,105,110,116,32,123,32,114,101,116,117,114,110,32,97,59,32,125,32,125,32,99,108,97,115,115,32,66,32,101,120,116,101,110,100,115,32,65,32,123,32,125,32,109,97,105,110,32,123,32,125]))] [],Qm 1 8 9,Qx 2 10 8 0,Qx 3 11 8 1,Qm 4 1 10,Qm 5 2 11] [1,2]
def r13_2 : IC:=.region [] [Qm 0 12 1,Qq 1 13 (.bin .ptr .eql (.tmp 12) (.const .nilp)),Qm 2 14 13,Qmg 3 15 14 false 2,Qng 4 16 14 false 15,Qvg 5 17 14 false .neq 16 (Qz 3),Qo 6 18 14 17] [1,18]
def r13_3 : IC:=.region [] [Qk 0 0 (.bool false)] [0]
def r13_4 : IC:=.region [[(.str []),(.str []),(.str []),(.list 0 .full []),(Qz 0),(.str []),(.bool false),(.list 0 .full []),(.list 0 .full []),(Qz 0),(.list 0 .full []),(.bool false),(Qz 0)]] [Qm 0 20 1,Qc 1 21 26 [(.tmp 20),(.const (.str [66])),(.const (.str [102,40,105,110,116,41]))] [],Qm 2 19 21,Qx 3 22 19 0,Qx 4 23 19 1,Qq 5 3 (.alloc 0 [(.str []),(.str []),(.str []),(.list 0 .full []),(Qz 0),(.str []),(.bool false),(.list 0 .full []),(.list 0 .full []),(Qz 0),(.list 0 .full []),(.bool false),(Qz 0)]),Qs 6 13 3 22 [],Qm 7 4 23] [1,3,4]
def r13_5 : IC:=.region [[(.str []),(Qz 0),(.str []),(.bool false),(.list 0 .full []),(.list 0 .full []),(Qz 0),(.bool false),(Qz 0)]] [Qm 0 25 1,Qc 1 26 30 [(.tmp 25),(.const (.str [66])),(.const (.str [110]))] [],Qm 2 24 26,Qx 3 27 24 0,Qx 4 28 24 1,Qx 5 29 24 2,Qq 6 5 (.alloc 0 [(.str []),(Qz 0),(.str []),(.bool false),(.list 0 .full []),(.list 0 .full []),(Qz 0),(.bool false),(Qz 0)]),Qs 7 9 5 27 [],Qm 8 6 28,Qm 9 7 29] [1,3,4,6,7]
def r13_6 : IC:=.region [] [Qm 0 30 4,Qm 1 31 30,Qmg 2 32 31 true 7,Qa 3 33 31 32,Qm 4 34 33,Qfg 5 35 34 true 1 3,Qdg 6 36 34 true 35,Qvg 7 37 34 true .eql 36 (.str [65]),Qa 8 38 34 37,Qm 9 39 38,Qmg 10 40 39 true 6,Qvg 11 41 39 true .eql 40 (.str [65]),Qa 12 42 39 41,Qm 13 43 42,Qmg 14 44 43 true 1,Qcg 15 45 43 true 35 [(.tmp 44),(.const (.str [66])),(.const (.str [73]))] [],Qa 16 46 43 45,Qm 17 47 46,Qmg 18 48 47 true 1,Qcg 19 49 47 true 25 [(.tmp 48),(.const (.str [66]))] [],Qng 20 50 47 true 49,Qvg 21 51 47 true .eql 50 (Qz 1),Qa 22 52 47 51,Qm 23 53 52,Qmg 24 54 53 true 1,Qcg 25 55 53 true 25 [(.tmp 54),(.const (.str [66]))] [],Qqg 26 56 53 true (.indexAddr 1 (.tmp 55) (.const (Qz 0))),Qdg 27 57 53 true 56,Qvg 28 58 53 true .eql 57 (Qz 1),Qa 29 59 53 58,Qm 30 0 59] [0]
noncomputable def i13 : IFn:=⟨0,(.seq r13_0 (.seq r13_1 (.seq (.seq r13_2 (.cond (.tmp 18) (.seq r13_3 .ret) (.skip))) (.seq r13_4 (.seq r13_5 (.seq r13_6 .ret)))))),[.tmp 0]⟩
theorem c13 : chkFn Tryz.prog Tryz.f13 i13 = true:=by kernel_rfl
def r22_0 : IC:=.region [] [Ql 0 1 (.box (.tmp 0)) [],Qk 1 2 (.list 0 .full [])] [1]
def r22_1 : IC:=.region [] [Qd 0 3 1,Qq 1 4 (.nilCheck (.tmp 3)),Qf 2 5 3 4,Qq 3 6 (.mkFunc 59 [] [(.tmp 1)]),Qc 4 7 58 [(.tmp 5),(.tmp 6)] []] [1]
def r22_2 : IC:=.region [] [Qd 0 8 1,Qq 1 9 (.nilCheck (.tmp 8)),Qf 2 10 6 9,Qd 3 11 10,Qc 4 12 62 [(.tmp 11)] [],Qm 5 2 12] [2]
noncomputable def i22 : IFn:=⟨1,(.seq r22_0 (.seq r22_1 (.seq r22_2 .ret))),[.tmp 2]⟩
theorem c22 : chkFn Tryz.prog Tryz.f22 i22 = true:=by kernel_rfl
def r25_0 : IC:=.region [] [Qk 0 4 (.list 0 .full [])] [0,1]
def r25_1 : IC:=.region [] [Qk 0 5 (.list 0 .full [])] [0,1,5]
def r25_2 : IC:=.region [] [Qm 0 11 0,Qc 1 12 22 [(.tmp 11)] [],Qn 2 13 12,Qk 3 14 (Qz 0)] [0,1,5,12,13,14]
def r25_3 : IC:=.region [] [Qb 0 15 .lss 14 13] [0,1,5,12,13,14,15]
def r25_4 : IC:=.region [] [Qi 0 16 1 12 14,Qd 1 17 16,Qm 2 7 17] [0,1,5,7,12,13,14]
def r25_5 : IC:=.region [] [Qk 0 8 (Qz (-1))] [0,1,5,7,8,12,13,14]
def r25_6 : IC:=.region [[(.str []),(.str []),(.str []),(.list 0 .full []),(Qz 0),(.str []),(.bool false),(.list 0 .full []),(.list 0 .full []),(Qz 0),(.list 0 .full []),(.bool false),(Qz 0)]] [Qm 0 19 0,Qm 1 20 1,Qm 2 21 7,Qc 3 22 26 [(.tmp 19),(.tmp 20),(.tmp 21)] [],Qm 4 18 22,Qx 5 23 18 0,Qx 6 24 18 1,Qq 7 9 (.alloc 0 [(.str []),(.str []),(.str []),(.list 0 .full []),(Qz 0),(.str []),(.bool false),(.list 0 .full []),(.list 0 .full []),(Qz 0),(.list 0 .full []),(.bool false),(Qz 0)]),Qs 8 13 9 23 [],Qm 9 10 24] [0,1,5,8,9,10,12,13,14]
def r25_7 : IC:=.region [] [Qm 0 25 10] [0,1,5,8,9,12,13,14,25]
def r25_8 : IC:=.region [] [Qm 0 26 0,Qq 1 27 (.nilCheck (.tmp 26)),Qf 2 28 1 27,Qd 3 29 28,Qf 4 30 1 9,Qd 5 31 30,Qq 6 32 (.lookup (Qz 0) false (.tmp 29) (.tmp 31)),Qm 7 8 32] [0,1,5,8,12,13,14]
def r25_9 : IC:=.region [] [Qm 0 33 5,Qm 1 34 8,Qq 2 35 (.mkList 1 [(.tmp 34)]),Ql 3 36 (.append 1 8 (.tmp 33) (.tmp 35)) [],Qm 4 5 36] [0,1,5,12,13,14]
def r25_10 : IC:=.region [] [Qv 0 37 .add 14 (Qz 1),Qm 1 14 37] [0,1,5,12,13,14]
def r25_11 : IC:=.region [] [Qm 0 38 5,Qm 1 4 38] [4]
noncomputable def i25 : IFn:=⟨2,(.seq r25_0 (.seq r25_1 (.seq (.seq r25_2 (.block 0 (.loop [0,1,5,12,13,14] (.seq r25_3 (.seq (.cond (.tmp 15) (.skip) (.exit 0)) (.seq (.block 1 (.seq r25_4 (.seq r25_5 (.seq (.seq r25_6 (.seq r25_7 (.cond (.tmp 25) r25_8 (.skip)))) r25_9)))) r25_10)))))) (.seq r25_11 .ret)))),[.tmp 4]⟩
theorem c25 : chkFn Tryz.prog Tryz.f25 i25 = true:=by kernel_rfl
def r35_0 : IC:=.region [] [Qk 0 6 (.bool false)] [0,1,2]
def r35_1 : IC:=.region [] [Qm 0 12 0,Qq 1 13 (.nilCheck (.tmp 12)),Qf 2 14 1 13,Qd 3 15 14,Qm 4 16 1,Qq 5 17 (.lookup (Qz 0) true (.tmp 15) (.tmp 16)),Qm 6 11 17,Qx 7 18 11 0,Qx 8 19 11 1,Qm 9 7 18,Qm 10 8 19] [0,2,7,8]
def r35_2 : IC:=.region [] [Qm 0 21 0,Qq 1 22 (.nilCheck (.tmp 21)),Qf 2 23 1 22,Qd 3 24 23,Qm 4 25 2,Qq 5 26 (.lookup (Qz 0) true (.tmp 24) (.tmp 25)),Qm 6 20 26,Qx 7 27 20 0,Qx 8 28 20 1,Qm 9 9 27,Qm 10 10 28] [0,7,8,9,10]
def r35_3 : IC:=.region [] [Qm 0 29 8,Qm 1 30 29,Qmg 2 31 30 true 10,Qa 3 32 30 31,Qm 4 33 32,Qmg 5 34 33 true 7,Qmg 6 35 33 true 9,Qbg 7 36 33 true .eql 34 35,Qmg 8 37 33 true 36,Qmg 9 38 37 false 0,Qqg 10 39 37 false (.nilCheck (.tmp 38)),Qfg 11 40 37 false 2 39,Qdg 12 41 37 false 40,Qmg 13 42 37 false 7,Qig 14 43 37 false 1 41 42,Qdg 15 44 37 false 43,Qmg 16 45 37 false 9,Qcg 17 46 37 false 69 [(.tmp 44),(.tmp 45)] [],Qog 18 47 33 true 37 46,Qa 19 48 33 47,Qm 20 6 48] [6]
noncomputable def i35 : IFn:=⟨3,(.seq r35_0 (.seq r35_1 (.seq r35_2 (.seq r35_3 .ret)))),[.tmp 6]⟩
theorem c35 : chkFn Tryz.prog Tryz.f35 i35 = true:=by kernel_rfl
def r59_0 : IC:=.region [] [Qd 0 5 0,Qq 1 6 (.nilCheck (.tmp 5)),Qf 2 7 0 6,Qd 3 8 7,Qn 4 9 8,Qk 5 10 (Qz 0)] [0,8,9,10]
def r59_1 : IC:=.region [] [Qb 0 11 .lss 10 9] [0,8,9,10,11]
def r59_2 : IC:=.region [[(.str []),(.bool false),(.str []),(.list 0 .full []),(.list 0 .full []),(.list 0 .full []),(.list 0 .full []),(.list 0 .full []),(Qz 0)]] [Qi 0 12 9 8 10,Qe 1 13 9 12,Qq 2 2 (.alloc 0 [(.str []),(.bool false),(.str []),(.list 0 .full []),(.list 0 .full []),(.list 0 .full []),(.list 0 .full []),(.list 0 .full []),(Qz 0)]),Qs 3 9 2 13 []] [0,2,8,9,10]
def r59_3 : IC:=.region [] [Qf 0 14 7 2,Qd 1 15 14,Qn 2 16 15,Qk 3 17 (Qz 0)] [0,8,9,10,15,16,17]
def r59_4 : IC:=.region [] [Qb 0 18 .lss 17 16] [0,8,9,10,15,16,17,18]
def r59_5 : IC:=.region [[(.str []),(.list 0 .full []),(Qz 0),(.str []),(.bool false),(.list 0 .full []),(.list 0 .full []),(Qz 0),(.list 0 .full []),(.bool false),(Qz 0)]] [Qi 0 19 11 15 17,Qe 1 20 11 19,Qq 2 4 (.alloc 0 [(.str []),(.list 0 .full []),(Qz 0),(.str []),(.bool false),(.list 0 .full []),(.list 0 .full []),(Qz 0),(.list 0 .full []),(.bool false),(Qz 0)]),Qs 3 11 4 20 []] [0,4,8,9,10,15,16,17]
def r59_6 : IC:=.region [] [Qd 0 21 0,Qd 1 22 0,Qq 2 23 (.nilCheck (.tmp 22)),Qf 3 24 6 23,Qd 4 25 24,Qf 5 26 0 4,Qd 6 27 26,Qf 7 28 1 4,Qd 8 29 28,Qc 9 30 17 [(.tmp 27),(.tmp 29)] [0,1,4],Qq 10 31 (.mkList 1 [(.tmp 30)]),Ql 11 32 (.append 1 16 (.tmp 25) (.tmp 31)) [0],Qq 12 33 (.nilCheck (.tmp 21)),Qf 13 34 6 33,Qs 14 1 34 32 []] [0,8,9,10,15,16,17]
def r59_7 : IC:=.region [] [Qv 0 35 .add 17 (Qz 1),Qm 1 17 35] [0,8,9,10,15,16,17]
def r59_8 : IC:=.region [] [Qv 0 36 .add 10 (Qz 1),Qm 1 10 36] [0,8,9,10]
def r59_9 : IC:=.region [] [Qd 0 37 0,Qq 1 38 (.nilCheck (.tmp 37)),Qf 2 39 6 38,Qd 3 40 39,Qc 4 41 60 [(.tmp 40)] []] [0]
def r59_10 : IC:=.region [] [Qd 0 42 0,Qd 1 43 0,Qq 2 44 (.nilCheck (.tmp 43)),Qf 3 45 6 44,Qd 4 46 45,Qc 5 47 61 [(.tmp 46)] [0],Qq 6 48 (.nilCheck (.tmp 42)),Qf 7 49 6 48,Qs 8 1 49 47 []] []
noncomputable def i59 : IFn:=⟨1,(.seq (.seq r59_0 (.block 0 (.loop [0,8,9,10] (.seq r59_1 (.seq (.cond (.tmp 11) (.skip) (.exit 0)) (.seq (.block 1 (.seq r59_2 (.seq r59_3 (.block 2 (.loop [0,8,9,10,15,16,17] (.seq r59_4 (.seq (.cond (.tmp 18) (.skip) (.exit 2)) (.seq (.block 3 (.seq r59_5 r59_6)) r59_7)))))))) r59_8)))))) (.seq r59_9 r59_10)),[]⟩
theorem c59 : chkFn Tryz.prog Tryz.f59 i59 = true:=by kernel_rfl
def r60_0 : IC:=.region [] [Qm 0 3 0,Qn 1 4 3,Qm 2 2 4] [0,2]
def r60_1 : IC:=.region [] [Qm 0 5 0,Qm 1 6 2,Qm 2 7 2,Qq 3 8 (.conv .u64 (.tmp 7)),Qc 4 9 110 [(.tmp 8)] [],Qc 5 10 109 [(.tmp 5),(.const (Qz 0)),(.tmp 6),(.tmp 9)] []] []
noncomputable def i60 : IFn:=⟨1,(.seq r60_0 r60_1),[]⟩
theorem c60 : chkFn Tryz.prog Tryz.f60 i60 = true:=by kernel_rfl
def r61_0 : IC:=.region [] [Qk 0 2 (.list 0 .full [])] [0]
def r61_1 : IC:=.region [] [Qm 0 6 0,Qn 1 7 6,Qv 2 8 .lss 7 (Qz 2)] [0,8]
def r61_2 : IC:=.region [] [Qm 0 9 0,Qm 1 2 9] [2]
def r61_3 : IC:=.region [] [Qk 0 3 (Qz 1)] [0,3]
def r61_4 : IC:=.region [] [Qm 0 10 3,Qm 1 11 0,Qn 2 12 11,Qb 3 13 .lss 10 12] [0,3,13]
def r61_5 : IC:=.region [] [Qm 0 16 0,Qm 1 17 3,Qi 2 18 1 16 17,Qd 3 19 18,Qm 4 20 0,Qm 5 21 3,Qv 6 22 .sub 21 (Qz 1),Qi 7 23 1 20 22,Qd 8 24 23,Qb 9 25 .eql 19 24] [0,3,25]
def r61_6 : IC:=.region [] [Qm 0 26 0,Qm 1 27 3,Qq 2 28 (.slice 1 (.tmp 26) (some (.tmp 27)) none),Qm 3 4 28] [0,3,4]
def r61_7 : IC:=.region [] [Qk 0 5 (Qz 1)] [0,3,4,5]
def r61_8 : IC:=.region [] [Qm 0 29 5,Qm 1 30 4,Qn 2 31 30,Qb 3 32 .lss 29 31] [0,3,4,5,32]
def r61_9 : IC:=.region [] [Qm 0 35 4,Qm 1 36 5,Qi 2 37 1 35 36,Qd 3 38 37,Qm 4 39 4,Qm 5 40 5,Qv 6 41 .sub 40 (Qz 1),Qi 7 42 1 39 41,Qd 8 43 42,Qb 9 44 .neq 38 43] [0,3,4,5,44]
def r61_10 : IC:=.region [] [Qm 0 45 0,Qm 1 46 3,Qm 2 47 4,Qm 3 48 5,Qi 4 49 1 47 48,Qd 5 50 49,Qi 6 51 1 45 46,Qs 7 1 51 50 []] [0,3,4,5]
def r61_11 : IC:=.region [] [Qm 0 52 3,Qv 1 53 .add 52 (Qz 1),Qm 2 3 53] [0,3,4,5]
def r61_12 : IC:=.region [] [Qm 0 33 5,Qv 1 34 .add 33 (Qz 1),Qm 2 5 34] [0,3,4,5]
def r61_13 : IC:=.region [] [Qm 0 57 0,Qm 1 58 3,Qq 2 59 (.slice 1 (.tmp 57) none (some (.tmp 58))),Qm 3 2 59] [2]
def r61_14 : IC:=.region [] [Qm 0 14 3,Qv 1 15 .add 14 (Qz 1),Qm 2 3 15] [0,3]
def r61_15 : IC:=.region [] [Qm 0 60 0,Qm 1 2 60] [2]
noncomputable def i61 : IFn:=⟨1,(.seq r61_0 (.seq (.seq r61_1 (.cond (.tmp 8) (.seq r61_2 .ret) (.skip))) (.seq (.seq r61_3 (.block 0 (.loop [0,3] (.seq (.seq r61_4 (.cond (.tmp 13) (.skip) (.exit 0))) (.seq (.block 1 (.seq r61_5 (.cond (.tmp 25) (.seq r61_6 (.seq (.seq r61_7 (.block 2 (.loop [0,3,4,5] (.seq (.seq r61_8 (.cond (.tmp 32) (.skip) (.exit 2))) (.seq (.block 3 (.seq r61_9 (.cond (.tmp 44) (.seq r61_10 r61_11) (.skip)))) r61_12))))) (.seq .stuck (.seq r61_13 .ret)))) (.skip)))) r61_14))))) (.seq r61_15 .ret)))),[.tmp 2]⟩
theorem c61 : chkFn Tryz.prog Tryz.f61 i61 = true:=by kernel_rfl
def r69_0 : IC:=.region [] [Qk 0 4 (.bool false)] [0,1]
def r69_1 : IC:=.region [] [Qm 0 5 0,Qm 1 6 1,Qc 2 7 111 [(.tmp 5),(.tmp 6)] [],Qv 3 8 .geq 7 (Qz 0),Qm 4 4 8] [4]
noncomputable def i69 : IFn:=⟨2,(.seq r69_0 (.seq r69_1 .ret)),[.tmp 4]⟩
theorem c69 : chkFn Tryz.prog Tryz.f69 i69 = true:=by kernel_rfl
def r109_0 : IC:=.region [] [Qk 0 8 (.bool true)] [0,1,2,3,8]
def r109_1 : IC:=.region [] [Qk 0 9 (.bool true)] [0,1,2,3,8,9]
def r109_2 : IC:=.region [] [Qm 0 19 2,Qm 1 20 1,Qb 2 21 .sub 19 20,Qm 3 10 21] [0,1,2,3,8,9,10]
def r109_3 : IC:=.region [] [Qm 0 22 10,Qv 1 23 .leq 22 (Qz 12)] [0,1,2,3,8,9,10,23]
def r109_4 : IC:=.region [] [Qm 0 24 0,Qm 1 25 1,Qm 2 26 2,Qc 3 27 156 [(.tmp 24),(.tmp 25),(.tmp 26)] []] []
def r109_5 : IC:=.region [] [Qm 0 28 3,Qv 1 29 .eql 28 (Qz 0)] [0,1,2,3,8,9,10,29]
def r109_6 : IC:=.region [] [Qm 0 30 0,Qm 1 31 1,Qm 2 32 2,Qc 3 33 157 [(.tmp 30),(.tmp 31),(.tmp 32)] []] []
def r109_7 : IC:=.region [] [Qm 0 34 8,Qu 1 35 34] [0,1,2,3,8,9,10,35]
def r109_8 : IC:=.region [] [Qm 0 36 0,Qm 1 37 1,Qm 2 38 2,Qc 3 39 158 [(.tmp 36),(.tmp 37),(.tmp 38)] []] [0,1,2,3,8,9,10]
def r109_9 : IC:=.region [] [Qm 0 40 3,Qv 1 41 .sub 40 (Qz 1),Qm 2 3 41] [0,1,2,3,8,9,10]
def r109_10 : IC:=.region [] [Qm 0 43 0,Qm 1 44 1,Qm 2 45 2,Qc 3 46 159 [(.tmp 43),(.tmp 44),(.tmp 45)] [],Qm 4 42 46,Qx 5 47 42 0,Qx 6 48 42 1,Qm 7 11 47,Qm 8 12 48] [0,1,2,3,8,9,10,11,12]
def r109_11 : IC:=.region [] [Qm 0 49 12,Qv 1 50 .eql 49 (Qz 2)] [0,1,2,3,8,9,10,11,12,50]
def r109_12 : IC:=.region [] [Qm 0 51 0,Qm 1 52 1,Qm 2 53 2,Qc 3 54 160 [(.tmp 51),(.tmp 52),(.tmp 53)] []] [0,1,2,3,8,9,10,11]
def r109_13 : IC:=.region [] [Qm 0 55 2,Qv 1 56 .sub 55 (Qz 1),Qm 2 57 11,Qm 3 58 1,Qb 4 59 .sub 57 58,Qb 5 60 .sub 56 59,Qm 6 11 60] [0,1,2,3,8,9,10,11]
def r109_14 : IC:=.region [] [Qk 0 12 (Qz 1)] [0,1,2,3,8,9,10,11,12]
def r109_15 : IC:=.region [] [Qm 0 61 8,Qm 1 62 61,Qmg 2 63 62 true 9,Qa 3 64 62 63,Qm 4 65 64,Qmg 5 66 65 true 12,Qvg 6 67 65 true .eql 66 (Qz 1),Qa 7 68 65 67] [0,1,2,3,8,9,10,11,68]
def r109_16 : IC:=.region [] [Qm 0 69 0,Qm 1 70 1,Qm 2 71 2,Qc 3 72 161 [(.tmp 69),(.tmp 70),(.tmp 71)] []] [0,1,2,3,8,9,10,11,72]
def r109_17 : IC:=.region [] [Qm 0 73 1,Qv 1 74 .gtr 73 (Qz 0),Qm 2 75 74,Qmg 3 76 75 true 0,Qmg 4 77 75 true 1,Qvg 5 78 75 true .sub 77 (Qz 1),Qig 6 79 75 true 1 76 78,Qdg 7 80 75 true 79,Qmg 8 81 75 true 0,Qmg 9 82 75 true 11,Qig 10 83 75 true 1 81 82,Qdg 11 84 75 true 83,Qcg 12 85 75 true 162 [(.tmp 80),(.tmp 84)] [],Qug 13 86 75 true 85,Qa 14 87 75 86] [0,1,2,3,8,9,10,11,87]
def r109_18 : IC:=.region [] [Qm 0 88 0,Qm 1 89 1,Qm 2 90 2,Qm 3 91 11,Qc 4 92 163 [(.tmp 88),(.tmp 89),(.tmp 90),(.tmp 91)] [],Qm 5 13 92] [0,2,3,8,9,13]
def r109_19 : IC:=.region [] [Qm 0 93 13,Qm 1 1 93] [0,1,2,3,8,9]
def r109_20 : IC:=.region [] [Qm 0 95 0,Qm 1 96 1,Qm 2 97 2,Qm 3 98 11,Qc 4 99 164 [(.tmp 95),(.tmp 96),(.tmp 97),(.tmp 98)] [],Qm 5 94 99,Qx 6 100 94 0,Qx 7 101 94 1,Qm 8 14 100,Qm 9 15 101] [0,1,2,3,10,14,15]
def r109_21 : IC:=.region [] [Qm 0 102 15,Qm 1 9 102] [0,1,2,3,9,10,14]
def r109_22 : IC:=.region [] [Qm 0 103 14,Qm 1 104 1,Qb 2 105 .sub 103 104,Qm 3 106 2,Qm 4 107 14,Qb 5 108 .sub 106 107,Qm 6 16 105,Qm 7 17 108] [0,1,2,3,9,10,14,16,17]
def r109_23 : IC:=.region [] [Qm 0 109 10,Qv 1 110 .quo 109 (Qz 8),Qm 2 18 110] [0,1,2,3,9,14,16,17,18]
def r109_24 : IC:=.region [] [Qm 0 111 16,Qm 1 112 17,Qb 2 113 .lss 111 112] [0,1,2,3,9,14,16,17,18,113]
def r109_25 : IC:=.region [] [Qm 0 114 16,Qm 1 115 18,Qb 2 116 .geq 114 115,Qm 3 8 116] [0,1,2,3,8,9,14]
def r109_26 : IC:=.region [] [Qm 0 117 0,Qm 1 118 1,Qm 2 119 14,Qm 3 120 3,Qc 4 121 109 [(.tmp 117),(.tmp 118),(.tmp 119),(.tmp 120)] []] [0,2,3,8,9,14]
def r109_27 : IC:=.region [] [Qm 0 122 14,Qv 1 123 .add 122 (Qz 1),Qm 2 1 123] [0,1,2,3,8,9]
def r109_28 : IC:=.region [] [Qm 0 124 17,Qm 1 125 18,Qb 2 126 .geq 124 125,Qm 3 8 126] [0,1,2,3,8,9,14]
def r109_29 : IC:=.region [] [Qm 0 127 0,Qm 1 128 14,Qv 2 129 .add 128 (Qz 1),Qm 3 130 2,Qm 4 131 3,Qc 5 132 109 [(.tmp 127),(.tmp 129),(.tmp 130),(.tmp 131)] []] [0,1,3,8,9,14]
def r109_30 : IC:=.region [] [Qm 0 133 14,Qm 1 2 133] [0,1,2,3,8,9]
noncomputable def i109 : IFn:=⟨4,(.seq r109_0 (.seq r109_1 (.block 0 (.loop [0,1,2,3,8,9] (.block 1 (.seq r109_2 (.seq (.seq r109_3 (.cond (.tmp 23) (.seq r109_4 .ret) (.skip))) (.seq (.seq r109_5 (.cond (.tmp 29) (.seq r109_6 .ret) (.skip))) (.seq (.seq r109_7 (.cond (.tmp 35) (.seq r109_8 r109_9) (.skip))) (.seq r109_10 (.seq (.seq r109_11 (.cond (.tmp 50) (.seq r109_12 (.seq r109_13 r109_14)) (.skip))) (.seq (.seq r109_15 (.cond (.tmp 68) (.seq r109_16 (.cond (.tmp 72) .ret (.skip))) (.skip))) (.seq (.seq r109_17 (.cond (.tmp 87) (.seq r109_18 (.seq r109_19 (.exit 1))) (.skip))) (.seq r109_20 (.seq r109_21 (.seq r109_22 (.seq r109_23 (.seq r109_24 (.cond (.tmp 113) (.seq r109_25 (.seq r109_26 r109_27)) (.seq r109_28 (.seq r109_29 r109_30))))))))))))))))))))),[]⟩
theorem c109 : chkFn Tryz.prog Tryz.f109 i109 = true:=by kernel_rfl
def r110_0 : IC:=.region [] [Qk 0 2 (Qz 0)] [0]
def r110_1 : IC:=.region [] [Qm 0 3 0,Qq 1 4 (.conv .u32 (.tmp 3)),Qc 2 5 165 [(.tmp 4)] [],Qm 3 2 5] [2]
def r110_2 : IC:=.region [] [Qm 0 6 0,Qc 1 7 166 [(.tmp 6)] [],Qm 2 2 7] [2]
noncomputable def i110 : IFn:=⟨1,(.seq r110_0 (.seq (.cond (.const (.bool false)) (.seq r110_1 .ret) (.skip)) (.seq r110_2 .ret))),[.tmp 2]⟩
theorem c110 : chkFn Tryz.prog Tryz.f110 i110 = true:=by kernel_rfl
def r111_0 : IC:=.region [] [Qk 0 4 (Qz 0)] [0,1]
def r111_1 : IC:=.region [] [Qm 0 6 0,Qn 1 7 6,Qk 2 8 (Qz 0)] [0,1,7,8]
def r111_2 : IC:=.region [] [Qb 0 9 .lss 8 7] [0,1,7,8,9]
def r111_3 : IC:=.region [] [Qm 0 10 8,Qm 1 5 10] [0,1,5,7,8]
def r111_4 : IC:=.region [] [Qm 0 11 1,Qm 1 12 0,Qm 2 13 5,Qi 3 14 1 12 13,Qd 4 15 14,Qb 5 16 .eql 11 15] [0,1,5,7,8,16]
def r111_5 : IC:=.region [] [Qm 0 17 5,Qm 1 4 17] [4]
def r111_6 : IC:=.region [] [Qv 0 18 .add 8 (Qz 1),Qm 1 8 18] [0,1,7,8]
def r111_7 : IC:=.region [] [Qk 0 4 (Qz (-1))] [4]
noncomputable def i111 : IFn:=⟨2,(.seq r111_0 (.seq (.seq r111_1 (.block 0 (.loop [0,1,7,8] (.seq r111_2 (.seq (.cond (.tmp 9) (.skip) (.exit 0)) (.seq (.block 1 (.seq r111_3 (.seq r111_4 (.cond (.tmp 16) (.seq r111_5 .ret) (.skip))))) r111_6)))))) (.seq r111_7 .ret))),[.tmp 4]⟩
theorem c111 : chkFn Tryz.prog Tryz.f111 i111 = true:=by kernel_rfl
def r165_0 : IC:=.region [] [Qk 0 2 (Qz 0)] [0,2]
def r165_1 : IC:=.region [] [Qm 0 3 0,Qv 1 4 .geq 3 (.int .u32 65536)] [0,2,4]
def r165_2 : IC:=.region [] [Qm 0 5 0,Qv 1 6 .shr 5 (.int .u64 16),Qm 2 0 6] [0]
def r165_3 : IC:=.region [] [Qk 0 2 (Qz 16)] [0,2]
def r165_4 : IC:=.region [] [Qm 0 7 0,Qv 1 8 .geq 7 (.int .u32 256)] [0,2,8]
def r165_5 : IC:=.region [] [Qm 0 9 0,Qv 1 10 .shr 9 (.int .u64 8),Qm 2 0 10] [0,2]
def r165_6 : IC:=.region [] [Qm 0 11 2,Qv 1 12 .add 11 (Qz 8),Qm 2 2 12] [0,2]
def r165_7 : IC:=.region [] [Qm 0 13 2,Qm 1 14 0,Qq 2 15 (.conv .u8 (.tmp 14)),Qq 3 16 (.index (.const (.str [0,1,2,2,3,3,3,3,4,4,4,4,4,4,4,4,5,5,5,5,5,5,5,5,5,5,5,5,5,5,5,5,6,6,6,6,6,6,6,6,6,6,6,6,6,6,6,6,6,6,6,6,6,6,6,6,6,6,6,6,6,6,6,6,7,7,7,7,7,7,7,7,7,7,7,7,7,7,7,7,7,7,7,7,7,7,7,7,7,7,7,7,7,7,7,7,7,7,7,7,7,7,7,7,7,7,7,7,7,7,7,7,7,7,7,7,7,7,7,7,7,7,7,7,7,7,7,7,8,8,8,8,8,8,8,8,8,8,8,8,8,8,8,8,8,8,8,8,8,8,8,8,8,8,8,8,8,8,8,8,8,8,8,8,8,8,8,8,8,8,8,8,8,8,8,8,8,8,8,8,8,8,8,8,8,8,8,8,8,8,8,8,8,8,8,8,8,8,8,8,8,8,8,8,8,8,8,8,8,8,8,8,8,8,8,8,8,8,8,8,8,8,8,8,8,8,8,8,8,8,8,8,8,8,8,8,8,8,8,8,8,8,8,8,8,8,8,8,8,8,8,8,8,8,8,8])) (.tmp 15)),Qq 4 17 (.conv .i64 (.tmp 16)),Qb 5 18 .add 13 17,Qm 6 2 18] [2]
noncomputable def i165 : IFn:=⟨1,(.seq r165_0 (.seq (.seq r165_1 (.cond (.tmp 4) (.seq r165_2 r165_3) (.skip))) (.seq (.seq r165_4 (.cond (.tmp 8) (.seq r165_5 r165_6) (.skip))) (.seq r165_7 .ret)))),[.tmp 2]⟩
theorem c165 : chkFn Tryz.prog Tryz.f165 i165 = true:=by kernel_rfl
def r166_0 : IC:=.region [] [Qk 0 2 (Qz 0)] [0,2]
def r166_1 : IC:=.region [] [Qm 0 3 0,Qv 1 4 .geq 3 (.int .u64 4294967296)] [0,2,4]
def r166_2 : IC:=.region [] [Qm 0 5 0,Qv 1 6 .shr 5 (.int .u64 32),Qm 2 0 6] [0]
def r166_3 : IC:=.region [] [Qk 0 2 (Qz 32)] [0,2]
def r166_4 : IC:=.region [] [Qm 0 7 0,Qv 1 8 .geq 7 (.int .u64 65536)] [0,2,8]
def r166_5 : IC:=.region [] [Qm 0 9 0,Qv 1 10 .shr 9 (.int .u64 16),Qm 2 0 10] [0,2]
def r166_6 : IC:=.region [] [Qm 0 11 2,Qv 1 12 .add 11 (Qz 16),Qm 2 2 12] [0,2]
def r166_7 : IC:=.region [] [Qm 0 13 0,Qv 1 14 .geq 13 (.int .u64 256)] [0,2,14]
def r166_8 : IC:=.region [] [Qm 0 15 0,Qv 1 16 .shr 15 (.int .u64 8),Qm 2 0 16] [0,2]
def r166_9 : IC:=.region [] [Qm 0 17 2,Qv 1 18 .add 17 (Qz 8),Qm 2 2 18] [0,2]
def r166_10 : IC:=.region [] [Qm 0 19 2,Qm 1 20 0,Qq 2 21 (.conv .u8 (.tmp 20)),Qq 3 22 (.index (.const (.str [0,1,2,2,3,3,3,3,4,4,4,4,4,4,4,4,5,5,5,5,5,5,5,5,5,5,5,5,5,5,5,5,6,6,6,6,6,6,6,6,6,6,6,6,6,6,6,6,6,6,6,6,6,6,6,6,6,6,6,6,6,6,6,6,7,7,7,7,7,7,7,7,7,7,7,7,7,7,7,7,7,7,7,7,7,7,7,7,7,7,7,7,7,7,7,7,7,7,7,7,7,7,7,7,7,7,7,7,7,7,7,7,7,7,7,7,7,7,7,7,7,7,7,7,7,7,7,7,8,8,8,8,8,8,8,8,8,8,8,8,8,8,8,8,8,8,8,8,8,8,8,8,8,8,8,8,8,8,8,8,8,8,8,8,8,8,8,8,8,8,8,8,8,8,8,8,8,8,8,8,8,8,8,8,8,8,8,8,8,8,8,8,8,8,8,8,8,8,8,8,8,8,8,8,8,8,8,8,8,8,8,8,8,8,8,8,8,8,8,8,8,8,8,8,8,8,8,8,8,8,8,8,8,8,8,8,8,8,8,8,8,8,8,8,8,8,8,8,8,8,8,8,8,8,8,8])) (.tmp 21)),Qq 4 23 (.conv .i64 (.tmp 22)),Qb 5 24 .add 19 23,Qm 6 2 24] [2]
noncomputable def i166 : IFn:=⟨1,(.seq r166_0 (.seq (.seq r166_1 (.cond (.tmp 4) (.seq r166_2 r166_3) (.skip))) (.seq (.seq r166_4 (.cond (.tmp 8) (.seq r166_5 r166_6) (.skip))) (.seq (.seq r166_7 (.cond (.tmp 14) (.seq r166_8 r166_9) (.skip))) (.seq r166_10 .ret))))),[.tmp 2]⟩
theorem c166 : chkFn Tryz.prog Tryz.f166 i166 = true:=by kernel_rfl
def r3_0 : IC:=.region [] [Qk 0 2 (.bool false)] [0]
def r3_1 : IC:=.region [] [Qc 0 19 13 [] [],Qu 1 20 19] [0,20]
def r3_2 : IC:=.region [] [Qk 0 2 (.bool false)] [2]
def r3_3 : IC:=.region [[(.list 0 .full []),(.list 0 .full [])]] [Qm 0 22 0,Qc 1 23 14 [(.tmp 22)] [],Qm 2 21 23,Qx 3 24 21 0,Qx 4 25 21 1,Qq 5 3 (.alloc 0 [(.list 0 .full []),(.list 0 .full [])]),Qs 6 2 3 24 [],Qm 7 4 25] [0,3,4]
def r3_4 : IC:=.region [] [Qm 0 26 4,Qu 1 27 26] [0,3,27]
def r3_5 : IC:=.region [] [Qk 0 2 (.bool true)] [2]
def r3_6 : IC:=.region [] [Qk 0 5 (Qz 0)] [0,3,5]
def r3_7 : IC:=.region [] [Qm 0 28 5,Qf 1 29 0 3,Qd 2 30 29,Qn 3 31 30,Qb 4 32 .lss 28 31] [0,3,5,32]
def r3_8 : IC:=.region [[(.str []),(.bool false),(.str []),(.list 0 .full []),(.list 0 .full []),(.list 0 .full []),(.list 0 .full []),(.list 0 .full []),(Qz 0)]] [Qf 0 35 0 3,Qd 1 36 35,Qm 2 37 5,Qi 3 38 9 36 37,Qe 4 39 9 38,Qq 5 6 (.alloc 0 [(.str []),(.bool false),(.str []),(.list 0 .full []),(.list 0 .full []),(.list 0 .full []),(.list 0 .full []),(.list 0 .full []),(Qz 0)]),Qs 6 9 6 39 []] [0,3,5,6]
def r3_9 : IC:=.region [] [Qk 0 7 (Qz 0)] [0,3,5,6,7]
def r3_10 : IC:=.region [] [Qm 0 40 7,Qf 1 41 4 6,Qd 2 42 41,Qn 3 43 42,Qb 4 44 .lss 40 43] [0,3,5,6,7,44]
def r3_11 : IC:=.region [] [Qf 0 47 4 6,Qd 1 48 47,Qm 2 49 7,Qi 3 50 9 48 49,Qf 4 51 1 50,Qe 5 52 6 51,Qf 7 54 4 6,Qd 8 55 54,Qm 9 56 7,Qi 10 57 9 55 56,Qf 11 58 1 57,Qe 12 59 6 58,Qc 6 53 15 [(.tmp 52)] [8,12],Qc 13 60 16 [(.tmp 59)] [],Qb 14 61 .neq 53 60] [0,3,5,6,7,61]
def r3_12 : IC:=.region [] [Qk 0 2 (.bool false)] [2]
def r3_13 : IC:=.region [] [Qm 0 45 7,Qv 1 46 .add 45 (Qz 1),Qm 2 7 46] [0,3,5,6,7]
def r3_14 : IC:=.region [] [Qk 0 8 (Qz 0)] [0,3,5,6,8]
def r3_15 : IC:=.region [] [Qm 0 62 8,Qf 1 63 7 6,Qd 2 64 63,Qn 3 65 64,Qb 4 66 .lss 62 65] [0,3,5,6,8,66]
def r3_16 : IC:=.region [[(.str []),(.list 0 .full []),(Qz 0),(.str []),(.bool false),(.list 0 .full []),(.list 0 .full []),(Qz 0),(.list 0 .full []),(.bool false),(Qz 0)]] [Qf 0 69 7 6,Qd 1 70 69,Qm 2 71 8,Qi 3 72 11 70 71,Qe 4 73 11 72,Qq 5 9 (.alloc 0 [(.str []),(.list 0 .full []),(Qz 0),(.str []),(.bool false),(.list 0 .full []),(.list 0 .full []),(Qz 0),(.list 0 .full []),(.bool false),(Qz 0)]),Qs 6 11 9 73 []] [0,3,5,6,8,9]
def r3_17 : IC:=.region [] [Qf 0 74 0 9,Qd 1 75 74,Qf 2 76 1 9,Qd 3 77 76,Qf 5 79 0 9,Qd 6 80 79,Qf 7 81 1 9,Qd 8 82 81,Qc 4 78 17 [(.tmp 75),(.tmp 77)] [6,8],Qc 9 83 18 [(.tmp 80),(.tmp 82)] [],Qb 10 84 .neq 78 83,Qm 11 85 84,Qfg 12 86 85 false 2 9,Qeg 13 87 85 false 6 86,Qfg 15 89 85 false 2 9,Qeg 16 90 85 false 6 89,Qcg 14 88 85 false 15 [(.tmp 87)] [16],Qcg 17 91 85 false 16 [(.tmp 90)] [],Qbg 18 92 85 false .neq 88 91,Qo 19 93 85 92] [0,3,5,6,8,93]
def r3_18 : IC:=.region [] [Qk 0 2 (.bool false)] [2]
def r3_19 : IC:=.region [] [Qm 0 67 8,Qv 1 68 .add 67 (Qz 1),Qm 2 8 68] [0,3,5,6,8]
def r3_20 : IC:=.region [] [Qm 0 33 5,Qv 1 34 .add 33 (Qz 1),Qm 2 5 34] [0,3,5]
def r3_21 : IC:=.region [] [Qm 0 95 0,Qc 1 96 19 [(.tmp 95)] [],Qm 2 94 96,Qx 3 97 94 0,Qx 4 98 94 1,Qm 5 10 97,Qm 6 11 98] [3,10,11]
def r3_22 : IC:=.region [] [Qk 0 12 (Qz 0)] [3,10,11,12]
def r3_23 : IC:=.region [] [Qm 0 99 12,Qf 1 100 0 3,Qd 2 101 100,Qn 3 102 101,Qb 4 103 .lss 99 102,Qm 5 104 103,Qmg 6 105 104 true 10,Qqg 7 106 104 true (.bin .ptr .neq (.tmp 105) (.const .nilp)),Qa 8 107 104 106] [3,10,11,12,107]
def r3_24 : IC:=.region [[(Qz 0),(.str []),(.bool false),(.list 0 .full []),(.list 0 .full []),(Qz 0)]] [Qf 0 110 0 3,Qd 1 111 110,Qm 2 112 12,Qi 3 113 9 111 112,Qf 4 114 0 113,Qd 5 115 114,Qq 6 116 (.build [(Qz 0),(.str []),(.bool false),(.list 0 .full []),(.list 0 .full []),(Qz 0)] [(0,1,(.const (Qz 3))),(1,1,(.tmp 115)),(5,1,(.const (Qz 1)))]),Qq 7 117 (.mkList 6 [(.tmp 116)]),Qq 8 118 (.build [(Qz 0),(.str []),(.bool false),(.list 0 .full []),(.list 0 .full []),(Qz 0)] [(0,1,(.const (Qz 4))),(5,1,(.const (Qz 3))),(3,1,(.tmp 117))]),Qq 9 13 (.alloc 0 [(Qz 0),(.str []),(.bool false),(.list 0 .full []),(.list 0 .full []),(Qz 0)]),Qs 10 6 13 118 []] [3,10,11,12,13]
def r3_25 : IC:=.region [[(Qz 0),(.str []),(.bool false),(.list 0 .full []),(.list 0 .full []),(Qz 0)]] [Qf 0 119 0 3,Qd 1 120 119,Qm 2 121 12,Qi 3 122 9 120 121,Qf 4 123 0 122,Qd 5 124 123,Qv 6 125 .add 124 (.str [49]),Qq 7 126 (.build [(Qz 0),(.str []),(.bool false),(.list 0 .full []),(.list 0 .full []),(Qz 0)] [(0,1,(.const (Qz 3))),(1,1,(.tmp 125)),(5,1,(.const (Qz 2)))]),Qq 8 127 (.mkList 6 [(.tmp 126)]),Qq 9 128 (.build [(Qz 0),(.str []),(.bool false),(.list 0 .full []),(.list 0 .full []),(Qz 0)] [(0,1,(.const (Qz 4))),(5,1,(.const (Qz 3))),(3,1,(.tmp 127))]),Qq 10 14 (.alloc 0 [(Qz 0),(.str []),(.bool false),(.list 0 .full []),(.list 0 .full []),(Qz 0)]),Qs 11 6 14 128 []] [3,10,11,12,13,14]
def r3_26 : IC:=.region [[(Qz 0),(Qz 0)],[(Qz 0),(Qz 0)]] [Qm 0 129 10,Qe 1 130 6 13,Qm 3 132 10,Qe 4 133 6 14,Qq 6 15 (.alloc 0 [(Qz 0),(Qz 0)]),Qq 7 16 (.alloc 1 [(Qz 0),(Qz 0)]),Qc 2 131 20 [(.tmp 129),(.tmp 130)] [4,6,7],Qc 5 134 20 [(.tmp 132),(.tmp 133)] [6,7],Qs 8 2 15 131 [],Qs 9 2 16 134 []] [3,10,11,12,14,15,16]
def r3_27 : IC:=.region [] [Qm 0 136 11,Qe 1 137 6 14,Qc 2 138 21 [(.tmp 136),(.tmp 137)] [],Qm 3 135 138,Qx 4 139 135 0,Qx 5 140 135 1,Qm 6 17 139,Qm 7 18 140] [3,10,11,12,15,16,17,18]
def r3_28 : IC:=.region [] [Qf 0 141 0 15,Qd 1 142 141,Qv 2 143 .neq 142 (Qz 0),Qm 3 144 143,Qfg 4 145 144 false 1 15,Qdg 5 146 144 false 145,Qvg 6 147 144 false .neq 146 (Qz 0),Qo 7 148 144 147,Qm 8 149 148,Qfg 9 150 149 false 0 16,Qdg 10 151 149 false 150,Qmg 11 152 149 false 17,Qbg 12 153 149 false .neq 151 152,Qo 13 154 149 153,Qm 14 155 154,Qfg 15 156 155 false 1 16,Qdg 16 157 155 false 156,Qmg 17 158 155 false 18,Qbg 18 159 155 false .neq 157 158,Qo 19 160 155 159] [3,10,11,12,160]
def r3_29 : IC:=.region [] [Qk 0 2 (.bool false)] [2]
def r3_30 : IC:=.region [] [Qm 0 108 12,Qv 1 109 .add 108 (Qz 1),Qm 2 12 109] [3,10,11,12]
def r3_31 : IC:=.region [] [Qq 0 161 (.build [(Qz 0),(.str []),(.bool false),(.list 0 .full []),(.list 0 .full []),(Qz 0)] [(0,1,(.const (Qz 5)))]),Qc 1 162 15 [(.tmp 161)] [],Qv 2 163 .eql 162 (.str [110,117,108,108]),Qm 3 2 163] [2]
noncomputable def i3 : IFn:=⟨1,(.seq r3_0 (.seq (.seq r3_1 (.cond (.tmp 20) (.seq r3_2 .ret) (.skip))) (.seq r3_3 (.seq (.seq r3_4 (.cond (.tmp 27) (.seq r3_5 .ret) (.skip))) (.seq (.seq r3_6 (.block 0 (.loop [0,3,5] (.seq (.seq r3_7 (.cond (.tmp 32) (.skip) (.exit 0))) (.seq (.block 1 (.seq r3_8 (.seq (.seq r3_9 (.block 2 (.loop [0,3,5,6,7] (.seq (.seq r3_10 (.cond (.tmp 44) (.skip) (.exit 2))) (.seq (.block 3 (.seq r3_11 (.cond (.tmp 61) (.seq r3_12 .ret) (.skip)))) r3_13))))) (.seq r3_14 (.block 4 (.loop [0,3,5,6,8] (.seq (.seq r3_15 (.cond (.tmp 66) (.skip) (.exit 4))) (.seq (.block 5 (.seq r3_16 (.seq r3_17 (.cond (.tmp 93) (.seq r3_18 .ret) (.skip))))) r3_19)))))))) r3_20))))) (.seq r3_21 (.seq (.seq r3_22 (.block 6 (.loop [3,10,11,12] (.seq (.seq r3_23 (.cond (.tmp 107) (.skip) (.exit 6))) (.seq (.block 7 (.seq r3_24 (.seq r3_25 (.seq r3_26 (.seq r3_27 (.seq r3_28 (.cond (.tmp 160) (.seq r3_29 .ret) (.skip)))))))) r3_30))))) (.seq r3_31 .ret)))))))),[.tmp 2]⟩
theorem c3 : chkFn Tryz.prog Tryz.f3 i3 = true:=by kernel_rfl
end Go.Proofs.YtmeakjgbjldkdaaGreat.Ai
namespace Go.Proofs.YtmeakjgbjldkdaaGreat.Ai
open Go
def r6_0 : IC:=.region [] [Qk 0 2 (.bool false)] [0]
def r6_1 : IC:=.region [] [Qc 0 15 13 [] [],Qu 1 16 15] [0,16]
def r6_2 : IC:=.region [] [Qk 0 2 (.bool false)] [2]
def r6_3 : IC:=.region [] [Qm 0 18 0,Qc 1 19 19 [(.tmp 18)] [],Qm 2 17 19,Qx 3 20 17 0,Qx 4 21 17 1,Qm 5 3 20,Qm 6 4 21] [3,4]
def r6_4 : IC:=.region [] [Qm 0 22 3,Qq 1 23 (.bin .ptr .eql (.tmp 22) (.const .nilp))] [3,4,23]
def r6_5 : IC:=.region [] [Qk 0 2 (.bool true)] [2]
def r6_6 : IC:=.region [] [Qm 0 24 3,Qc 1 25 23 [(.tmp 24)] [],Qm 2 5 25] [3,4,5]
def r6_7 : IC:=.region [] [Qm 0 26 5,Qn 1 27 26,Qm 2 28 4,Qn 3 29 28,Qb 4 30 .neq 27 29] [3,4,5,30]
def r6_8 : IC:=.region [] [Qk 0 2 (.bool false)] [2]
def r6_9 : IC:=.region [] [Qk 0 6 (Qz 0)] [3,4,5,6]
def r6_10 : IC:=.region [] [Qm 0 31 6,Qm 1 32 4,Qn 2 33 32,Qb 3 34 .lss 31 33] [3,4,5,6,34]
def r6_11 : IC:=.region [] [Qm 0 37 4,Qm 1 38 6,Qc 2 39 33 [(.tmp 37),(.tmp 38)] [],Qm 3 7 39] [3,4,5,6,7]
def r6_12 : IC:=.region [] [Qm 0 40 3,Qm 1 41 5,Qm 2 42 6,Qi 3 43 1 41 42,Qd 4 44 43,Qc 5 45 34 [(.tmp 40),(.tmp 44)] [],Qm 6 8 45] [3,4,5,6,7,8]
def r6_13 : IC:=.region [] [Qk 0 9 (Qz 0)] [3,4,5,6,7,8,9]
def r6_14 : IC:=.region [] [Qk 0 10 (Qz 0)] [3,4,5,6,7,8,9,10]
def r6_15 : IC:=.region [] [Qm 0 46 10,Qm 1 47 4,Qn 2 48 47,Qb 3 49 .lss 46 48] [3,4,5,6,7,8,9,10,49]
def r6_16 : IC:=.region [] [Qm 0 52 7,Qm 1 53 10,Qi 2 54 1 52 53,Qd 3 55 54] [3,4,5,6,7,8,9,10,55]
def r6_17 : IC:=.region [] [Qm 0 56 9,Qm 1 57 8,Qn 2 58 57,Qb 3 59 .geq 56 58,Qm 4 60 59,Qmg 5 61 60 false 8,Qmg 6 62 60 false 9,Qig 7 63 60 false 1 61 62,Qdg 8 64 60 false 63,Qmg 9 65 60 false 4,Qmg 10 66 60 false 10,Qig 11 67 60 false 9 65 66,Qfg 12 68 60 false 0 67,Qdg 13 69 60 false 68,Qbg 14 70 60 false .neq 64 69,Qo 15 71 60 70] [3,4,5,6,7,8,9,10,71]
def r6_18 : IC:=.region [] [Qk 0 2 (.bool false)] [2]
def r6_19 : IC:=.region [] [Qm 0 72 9,Qv 1 73 .add 72 (Qz 1),Qm 2 9 73] [3,4,5,6,7,8,9,10]
def r6_20 : IC:=.region [] [Qm 0 74 3,Qm 1 75 4,Qm 2 76 6,Qi 3 77 9 75 76,Qf 4 78 0 77,Qd 5 79 78,Qm 6 80 4,Qm 7 81 10,Qi 8 82 9 80 81,Qf 9 83 0 82,Qd 10 84 83,Qm 12 86 7,Qm 13 87 10,Qi 14 88 1 86 87,Qd 15 89 88,Qc 11 85 35 [(.tmp 74),(.tmp 79),(.tmp 84)] [15],Qm 16 90 89,Qmg 17 91 90 false 6,Qmg 18 92 90 false 10,Qbg 19 93 90 false .eql 91 92,Qo 20 94 90 93,Qq 21 95 (.bin .bool .neq (.tmp 85) (.tmp 94))] [3,4,5,6,7,8,9,10,95]
def r6_21 : IC:=.region [] [Qk 0 2 (.bool false)] [2]
def r6_22 : IC:=.region [] [Qm 0 50 10,Qv 1 51 .add 50 (Qz 1),Qm 2 10 51] [3,4,5,6,7,8,9,10]
def r6_23 : IC:=.region [[(.str []),(.bool false),(.str []),(.list 0 .full []),(.list 0 .full []),(.list 0 .full []),(.list 0 .full []),(.list 0 .full []),(Qz 0)]] [Qm 0 97 3,Qm 1 98 5,Qm 2 99 6,Qi 3 100 1 98 99,Qd 4 101 100,Qc 5 102 36 [(.tmp 97),(.tmp 101)] [],Qm 6 96 102,Qx 7 103 96 0,Qx 8 104 96 1,Qq 9 11 (.alloc 0 [(.str []),(.bool false),(.str []),(.list 0 .full []),(.list 0 .full []),(.list 0 .full []),(.list 0 .full []),(.list 0 .full []),(Qz 0)]),Qs 10 9 11 103 [],Qm 11 12 104] [3,4,5,6,8,9,11,12]
def r6_24 : IC:=.region [] [Qm 0 105 9,Qm 1 106 8,Qn 2 107 106,Qb 3 108 .neq 105 107,Qm 4 109 108,Qmg 5 110 109 false 5,Qmg 6 111 109 false 6,Qig 7 112 109 false 1 110 111,Qdg 8 113 109 false 112,Qmg 9 114 109 false 4,Qmg 10 115 109 false 6,Qig 11 116 109 false 9 114 115,Qfg 12 117 109 false 0 116,Qdg 13 118 109 false 117,Qbg 14 119 109 false .neq 113 118,Qo 15 120 109 119,Qm 16 121 120,Qmg 17 122 121 false 12,Qug 18 123 121 false 122,Qo 19 124 121 123,Qm 20 125 124,Qfg 21 126 125 false 8 11,Qdg 22 127 125 false 126,Qmg 23 128 125 false 4,Qmg 24 129 125 false 6,Qig 25 130 125 false 9 128 129,Qfg 26 131 125 false 8 130,Qdg 27 132 125 false 131,Qbg 28 133 125 false .neq 127 132,Qo 29 134 125 133,Qm 30 135 134,Qfg 31 136 135 false 0 11,Qdg 32 137 135 false 136,Qmg 33 138 135 false 4,Qmg 34 139 135 false 6,Qig 35 140 135 false 9 138 139,Qfg 36 141 135 false 0 140,Qdg 37 142 135 false 141,Qbg 38 143 135 false .neq 137 142,Qo 39 144 135 143] [3,4,5,6,144]
def r6_25 : IC:=.region [] [Qk 0 2 (.bool false)] [2]
def r6_26 : IC:=.region [] [Qm 0 35 6,Qv 1 36 .add 35 (Qz 1),Qm 2 6 36] [3,4,5,6]
def r6_27 : IC:=.region [[(.str []),(.bool false),(.str []),(.list 0 .full []),(.list 0 .full []),(.list 0 .full []),(.list 0 .full []),(.list 0 .full []),(Qz 0)]] [Qm 0 146 3,Qc 1 147 36 [(.tmp 146),(.const (.str []))] [],Qm 2 145 147,Qx 3 148 145 0,Qx 4 149 145 1,Qq 5 13 (.alloc 0 [(.str []),(.bool false),(.str []),(.list 0 .full []),(.list 0 .full []),(.list 0 .full []),(.list 0 .full []),(.list 0 .full []),(Qz 0)]),Qs 6 9 13 148 [],Qm 7 14 149] [3,14]
def r6_28 : IC:=.region [] [Qm 0 150 14,Qu 1 151 150,Qm 2 152 151,Qmg 3 153 152 true 3,Qcg 4 154 152 true 35 [(.tmp 153),(.const (.str [])),(.const (.str []))] [],Qug 5 155 152 true 154,Qa 6 156 152 155,Qm 7 157 156,Qmg 8 158 157 true 3,Qcg 9 159 157 true 34 [(.tmp 158),(.const (.str [49]))] [],Qng 10 160 157 true 159,Qvg 11 161 157 true .eql 160 (Qz 0),Qa 12 162 157 161,Qm 13 2 162] [2]
noncomputable def i6 : IFn:=⟨1,(.seq r6_0 (.seq (.seq r6_1 (.cond (.tmp 16) (.seq r6_2 .ret) (.skip))) (.seq r6_3 (.seq (.seq r6_4 (.cond (.tmp 23) (.seq r6_5 .ret) (.skip))) (.seq r6_6 (.seq (.seq r6_7 (.cond (.tmp 30) (.seq r6_8 .ret) (.skip))) (.seq (.seq r6_9 (.block 0 (.loop [3,4,5,6] (.seq (.seq r6_10 (.cond (.tmp 34) (.skip) (.exit 0))) (.seq (.block 1 (.seq r6_11 (.seq r6_12 (.seq r6_13 (.seq (.seq r6_14 (.block 2 (.loop [3,4,5,6,7,8,9,10] (.seq (.seq r6_15 (.cond (.tmp 49) (.skip) (.exit 2))) (.seq (.block 3 (.seq (.seq r6_16 (.cond (.tmp 55) (.seq (.seq r6_17 (.cond (.tmp 71) (.seq r6_18 .ret) (.skip))) r6_19) (.skip))) (.seq r6_20 (.cond (.tmp 95) (.seq r6_21 .ret) (.skip))))) r6_22))))) (.seq r6_23 (.seq r6_24 (.cond (.tmp 144) (.seq r6_25 .ret) (.skip))))))))) r6_26))))) (.seq r6_27 (.seq r6_28 .ret))))))))),[.tmp 2]⟩
theorem c6 : chkFn Tryz.prog Tryz.f6 i6 = true:=by kernel_rfl
def r23_0 : IC:=.region [] [Qk 0 2 (.list 0 .full [])] [0]
def r23_1 : IC:=.region [] [Qk 0 3 (.list 0 .full [])] [0,3]
def r23_2 : IC:=.region [] [Qm 0 6 0,Qq 1 7 (.nilCheck (.tmp 6)),Qf 2 8 0 7,Qd 3 9 8,Qn 4 10 9,Qk 5 11 (Qz 0)] [3,9,10,11]
def r23_3 : IC:=.region [] [Qb 0 12 .lss 11 10] [3,9,10,11,12]
def r23_4 : IC:=.region [[(.str []),(.bool false),(.str []),(.list 0 .full []),(.list 0 .full []),(.list 0 .full []),(.list 0 .full []),(.list 0 .full []),(Qz 0)]] [Qi 0 13 9 9 11,Qe 1 14 9 13,Qq 2 5 (.alloc 0 [(.str []),(.bool false),(.str []),(.list 0 .full []),(.list 0 .full []),(.list 0 .full []),(.list 0 .full []),(.list 0 .full []),(Qz 0)]),Qs 3 9 5 14 []] [3,5,9,10,11]
def r23_5 : IC:=.region [] [Qm 0 15 3,Qf 1 16 0 5,Qd 2 17 16,Qq 3 18 (.mkList 1 [(.tmp 17)]),Ql 4 19 (.append 1 16 (.tmp 15) (.tmp 18)) [],Qm 5 3 19] [3,9,10,11]
def r23_6 : IC:=.region [] [Qv 0 20 .add 11 (Qz 1),Qm 1 11 20] [3,9,10,11]
def r23_7 : IC:=.region [] [Qm 0 21 3,Qm 1 2 21] [2]
noncomputable def i23 : IFn:=⟨1,(.seq r23_0 (.seq r23_1 (.seq (.seq r23_2 (.block 0 (.loop [3,9,10,11] (.seq r23_3 (.seq (.cond (.tmp 12) (.skip) (.exit 0)) (.seq (.block 1 (.seq r23_4 r23_5)) r23_6)))))) (.seq r23_7 .ret)))),[.tmp 2]⟩
theorem c23 : chkFn Tryz.prog Tryz.f23 i23 = true:=by kernel_rfl
def r33_0 : IC:=.region [] [Qk 0 4 (.list 0 .full [])] [0,1]
def r33_1 : IC:=.region [] [Qm 0 8 0,Qn 1 9 8,Ql 2 10 (.mkSlice 1 1 [(.bool false)] (.tmp 9) (.tmp 9)) [],Qm 3 5 10] [0,1,5]
def r33_2 : IC:=.region [] [Qm 0 11 0,Qm 1 12 1,Qm 2 13 5,Qc 3 14 68 [(.tmp 11),(.tmp 12),(.tmp 13)] []] [0,5]
def r33_3 : IC:=.region [] [Qk 0 6 (Qz 0)] [0,5,6]
def r33_4 : IC:=.region [] [Qm 0 15 6,Qm 1 16 0,Qn 2 17 16,Qb 3 18 .lss 15 17] [0,5,6,18]
def r33_5 : IC:=.region [] [Qk 0 7 (Qz 0)] [0,5,6,7]
def r33_6 : IC:=.region [] [Qm 0 21 7,Qm 1 22 0,Qn 2 23 22,Qb 3 24 .lss 21 23] [0,5,6,7,24]
def r33_7 : IC:=.region [] [Qm 0 27 5,Qm 1 28 7,Qi 2 29 1 27 28,Qd 3 30 29] [0,5,6,7,30]
def r33_8 : IC:=.region [] [Qm 0 31 0,Qm 1 32 7,Qm 2 33 5,Qc 3 34 68 [(.tmp 31),(.tmp 32),(.tmp 33)] []] [0,5,6,7]
def r33_9 : IC:=.region [] [Qm 0 25 7,Qv 1 26 .add 25 (Qz 1),Qm 2 7 26] [0,5,6,7]
def r33_10 : IC:=.region [] [Qm 0 19 6,Qv 1 20 .add 19 (Qz 1),Qm 2 6 20] [0,5,6]
def r33_11 : IC:=.region [] [Qm 0 35 5,Qm 1 4 35] [4]
noncomputable def i33 : IFn:=⟨2,(.seq r33_0 (.seq r33_1 (.seq r33_2 (.seq (.seq r33_3 (.block 0 (.loop [0,5,6] (.seq (.seq r33_4 (.cond (.tmp 18) (.skip) (.exit 0))) (.seq (.block 1 (.seq r33_5 (.block 2 (.loop [0,5,6,7] (.seq (.seq r33_6 (.cond (.tmp 24) (.skip) (.exit 2))) (.seq (.block 3 (.seq r33_7 (.cond (.tmp 30) r33_8 (.skip)))) r33_9)))))) r33_10))))) (.seq r33_11 .ret))))),[.tmp 4]⟩
theorem c33 : chkFn Tryz.prog Tryz.f33 i33 = true:=by kernel_rfl
def r34_0 : IC:=.region [] [Qk 0 4 (.list 0 .full [])] [0,1]
def r34_1 : IC:=.region [] [Qm 0 11 0,Qq 1 12 (.nilCheck (.tmp 11)),Qf 2 13 1 12,Qd 3 14 13,Qm 4 15 1,Qq 5 16 (.lookup (Qz 0) true (.tmp 14) (.tmp 15)),Qm 6 10 16,Qx 7 17 10 0,Qx 8 18 10 1,Qm 9 5 17,Qm 10 6 18] [0,5,6]
def r34_2 : IC:=.region [] [Qm 0 19 6,Qu 1 20 19] [0,5,20]
def r34_3 : IC:=.region [] [Qk 0 4 (.list 0 .full [])] [4]
def r34_4 : IC:=.region [] [Qk 0 7 (.list 0 .full [])] [0,5,7]
def r34_5 : IC:=.region [] [Qm 0 21 0,Qq 1 22 (.nilCheck (.tmp 21)),Qf 2 23 2 22,Qd 3 24 23,Qm 4 25 5,Qi 5 26 1 24 25,Qd 6 27 26,Qn 7 28 27,Qk 8 29 (Qz 0)] [0,7,27,28,29]
def r34_6 : IC:=.region [] [Qb 0 30 .lss 29 28] [0,7,27,28,29,30]
def r34_7 : IC:=.region [] [Qi 0 31 1 27 29,Qd 1 32 31,Qm 2 9 32] [0,7,9,27,28,29]
def r34_8 : IC:=.region [] [Qm 0 33 7,Qm 1 34 0,Qq 2 35 (.nilCheck (.tmp 34)),Qf 3 36 0 35,Qd 4 37 36,Qm 5 38 9,Qi 6 39 9 37 38,Qf 7 40 0 39,Qd 8 41 40,Qq 9 42 (.mkList 1 [(.tmp 41)]),Ql 10 43 (.append 1 16 (.tmp 33) (.tmp 42)) [],Qm 11 7 43] [0,7,27,28,29]
def r34_9 : IC:=.region [] [Qv 0 44 .add 29 (Qz 1),Qm 1 29 44] [0,7,27,28,29]
def r34_10 : IC:=.region [] [Qm 0 45 7,Qm 1 4 45] [4]
noncomputable def i34 : IFn:=⟨2,(.seq r34_0 (.seq r34_1 (.seq (.seq r34_2 (.cond (.tmp 20) (.seq r34_3 .ret) (.skip))) (.seq r34_4 (.seq (.seq r34_5 (.block 0 (.loop [0,7,27,28,29] (.seq r34_6 (.seq (.cond (.tmp 30) (.skip) (.exit 0)) (.seq (.block 1 (.seq r34_7 r34_8)) r34_9)))))) (.seq r34_10 .ret)))))),[.tmp 4]⟩
theorem c34 : chkFn Tryz.prog Tryz.f34 i34 = true:=by kernel_rfl
def r36_0 : IC:=.region [[(.str []),(.bool false),(.str []),(.list 0 .full []),(.list 0 .full []),(.list 0 .full []),(.list 0 .full []),(.list 0 .full []),(Qz 0)]] [Qq 0 4 (.alloc 0 [(.str []),(.bool false),(.str []),(.list 0 .full []),(.list 0 .full []),(.list 0 .full []),(.list 0 .full []),(.list 0 .full []),(Qz 0)]),Qk 1 5 (.bool false)] [0,1,4]
def r36_1 : IC:=.region [] [Qm 0 9 0,Qq 1 10 (.nilCheck (.tmp 9)),Qf 2 11 1 10,Qd 3 12 11,Qm 4 13 1,Qq 5 14 (.lookup (Qz 0) true (.tmp 12) (.tmp 13)),Qm 6 8 14,Qx 7 15 8 0,Qx 8 16 8 1,Qm 9 6 15,Qm 10 7 16] [0,4,6,7]
def r36_2 : IC:=.region [] [Qm 0 17 7,Qu 1 18 17] [0,4,6,18]
def r36_3 : IC:=.region [] [Qq 0 19 (.build [(.str []),(.bool false),(.str []),(.list 0 .full []),(.list 0 .full []),(.list 0 .full []),(.list 0 .full []),(.list 0 .full []),(Qz 0)] []),Qs 1 9 4 19 [],Qk 2 5 (.bool false)] [4,5]
def r36_4 : IC:=.region [] [Qm 0 20 0,Qq 1 21 (.nilCheck (.tmp 20)),Qf 2 22 0 21,Qd 3 23 22,Qm 4 24 6,Qi 5 25 9 23 24,Qe 6 26 9 25,Qs 7 9 4 26 [],Qk 8 5 (.bool true)] [4,5]
noncomputable def i36 : IFn:=⟨2,(.seq r36_0 (.seq r36_1 (.seq (.seq r36_2 (.cond (.tmp 18) (.seq r36_3 .ret) (.skip))) (.seq r36_4 .ret)))),[.cell 4 (some 9),.tmp 5]⟩
theorem c36 : chkFn Tryz.prog Tryz.f36 i36 = true:=by kernel_rfl
def r68_0 : IC:=.region [] [Qm 0 9 0,Qm 1 10 0,Qm 2 11 1,Qi 3 12 9 10 11,Qf 4 13 2 12,Qd 5 14 13,Qc 6 15 57 [(.tmp 9),(.tmp 14)] [],Qm 7 6 15] [0,1,2,6]
def r68_1 : IC:=.region [] [Qm 0 16 6,Qv 1 17 .geq 16 (Qz 0),Qm 2 18 17,Qmg 3 19 18 true 0,Qmg 4 20 18 true 1,Qig 5 21 18 true 9 19 20,Qfg 6 22 18 true 2 21,Qdg 7 23 18 true 22,Qvg 8 24 18 true .neq 23 (.str []),Qa 9 25 18 24] [0,1,2,6,25]
def r68_2 : IC:=.region [] [Qm 0 26 2,Qm 1 27 6,Qi 2 28 1 26 27,Qw 3 (.store 1 (.tmp 28) (.const (.bool true))) []] [0,1,2]
def r68_3 : IC:=.region [] [Qk 0 7 (Qz 0)] [0,1,2,7]
def r68_4 : IC:=.region [] [Qm 0 29 7,Qm 1 30 0,Qm 2 31 1,Qi 3 32 9 30 31,Qf 4 33 3 32,Qd 5 34 33,Qn 6 35 34,Qb 7 36 .lss 29 35] [0,1,2,7,36]
def r68_5 : IC:=.region [] [Qm 0 39 0,Qm 1 40 0,Qm 2 41 1,Qi 3 42 9 40 41,Qf 4 43 3 42,Qd 5 44 43,Qm 6 45 7,Qi 7 46 1 44 45,Qd 8 47 46,Qc 9 48 57 [(.tmp 39),(.tmp 47)] [],Qm 10 8 48] [0,1,2,7,8]
def r68_6 : IC:=.region [] [Qm 0 49 8,Qv 1 50 .geq 49 (Qz 0)] [0,1,2,7,8,50]
def r68_7 : IC:=.region [] [Qm 0 51 2,Qm 1 52 8,Qi 2 53 1 51 52,Qw 3 (.store 1 (.tmp 53) (.const (.bool true))) []] [0,1,2,7]
def r68_8 : IC:=.region [] [Qm 0 37 7,Qv 1 38 .add 37 (Qz 1),Qm 2 7 38] [0,1,2,7]
noncomputable def i68 : IFn:=⟨3,(.seq (.seq r68_0 (.seq r68_1 (.cond (.tmp 25) r68_2 (.skip)))) (.seq r68_3 (.block 0 (.loop [0,1,2,7] (.seq (.seq r68_4 (.cond (.tmp 36) (.skip) (.exit 0))) (.seq (.block 1 (.seq r68_5 (.seq r68_6 (.cond (.tmp 50) r68_7 (.skip))))) r68_8)))))),[]⟩
theorem c68 : chkFn Tryz.prog Tryz.f68 i68 = true:=by kernel_rfl
end Go.Proofs.YtmeakjgbjldkdaaGreat.Ai
namespace Go.Proofs.YtmeakjgbjldkdaaGreat.Ai
open Go
variable {pr : Prims} {F : Nat → Option IFn}
def placeI (cs : List Cls) (s : Str) : Int:=match place cs s with
 | some i => (i : Int)
 | none => -1
theorem place_drop {cs : List Cls} {s : Str} : ∀ {q : Nat},(∀ j c,j < q → cs[j]? = some c → c.name ≠ s) → place cs s = (place (cs.drop q) s).map (· + q):=by
 induction cs with
 | nil => intro q _; simp [place]
 | cons c cs ih =>
  intro q h
  cases q with
  | zero => simp
  | succ q =>
   have h0:=h 0 c (by omega) rfl
   have h1:=ih (q:=q) (fun j d hj hd => h (j + 1) d (by omega) (by simpa using hd))
   simp only [place,List.drop_succ_cons]
   rw [if_neg h0,h1]
   cases place (cs.drop q) s with
   | none => rfl
   | some i => simp; omega
theorem qx_place (L : LibE pr F) (cs : List Cls) (hfew : cs.length ≤ 6000) (s : Str) : TxOk pr F 57 [lst 9 (cs.map clsRow),.str s] (.int .i64 (placeI cs s)):=by
 have hm:=L.hm
 have hlc : (cs.map clsRow).length = cs.length:=List.length_map _
 refine TxOk.of0 hm L.f57.1 L.f57.2 rfl ?_
 intro H rw b hlt
 have hR : Rx rw rw:=Rx.rfl
 refine' stH
 refine at_loop hm (fun mm e S' => ∃ q : Nat,S' = ⟨hp H 0 b [],rw⟩ ∧ q ≤ cs.length ∧ (∀ j c,j < q → cs[j]? = some c → c.name ≠ s) ∧ mm = cs.length - q ∧ e = [(0,lst 9 (cs.map clsRow)),(1,.str s),(5,.int .i64 q)]) ?_ (m:=cs.length) ⟨0,rfl,by omega,fun j c h => by omega,rfl,rfl⟩
 rintro mm e S' ⟨q,rfl,hq0,hne,rfl,rfl⟩
 by_cases hq1 : q < cs.length
 ·obtain ⟨c,hc⟩ : ∃ c,cs[q]? = some c:=⟨_,List.getElem?_eq_getElem hq1⟩
  have hcr : (cs.map clsRow)[q]? = some (clsRow c):=by rw [List.getElem?_map,hc]; rfl
  have hl5 : lst 9 (cs.map clsRow) = .list 9 .dead (cs.map clsRow):=lst_of_lt (i:=q) (by omega)
  rw [hl5]
  refine' stH
  ·refine fin_ret rfl rfl (hp_take hlt) ⟨_,hR,?_,rfl⟩
   have e1 : place cs s = some q:=by
    rw [place_drop hne]
    obtain ⟨hl,he⟩:=List.getElem?_eq_some_iff.1 hc
    rw [List.drop_eq_getElem_cons hl,he]
    simp only [place]
    rw [if_pos (by assumption)]
    simp
   rw [placeI,e1]
  ·refine ⟨cs.length - (q + 1),by omega,q + 1,rfl,by omega,?_,rfl,rfl⟩
   intro j d hj hd
   by_cases e1 : j = q
   ·subst e1
    rw [hc] at hd
    simp only [Option.some.injEq] at hd
    subst hd
    assumption
   ·exact hne j d (by omega) hd
 ·refine' stH
  refine fin_ret rfl rfl (hp_take hlt) ⟨_,hR,?_,rfl⟩
  have e1 : place cs s = none:=by
   rw [place_drop hne,List.drop_eq_nil_of_le (by omega)]
   rfl
  rw [placeI,e1]
theorem fin_two {H H1 M : List Blk} {rw : List Nat} {z b : Blk} {u v : Int} {t w : Nat} {e : Env} {Q : Res → St → Prop} (hH : H1 = H ++ [z]) (he : eget e t = some (.int .i64 u)) (hw : eget e w = some (.int .i64 v)) (h : Q (.ret (.tup [.int .i64 u,.int .i64 v])) ⟨H,rw⟩) :
  fin [.tmp t,.tmp w] H.length Q .ret e ⟨hp H1 H.length b M,rw⟩:=by
 subst hH
 exact fin_tup (by simp only [rvals,he,hw]) rfl take_own h
theorem qx_known (L : LibE pr F) {cs : List Cls} (hfew : cs.length ≤ 6000) : ∀ (k : Nat) (t : Ty),wTy t < k → wTy t ≤ 42000000 → TxOk pr F 21 [lst 9 (cs.map clsRow),.agg (tyRow t)] (.tup [.int .i64 (knownF cs t).1,.int .i64 (knownF cs t).2]):=by
 have hm:=L.hm
 intro k
 induction k with
 | zero => intro t h; omega
 | succ k ih =>
  intro t hk hw
  refine TxOk.of hm ?_
  intro H rw hH
  have hR : Rx rw rw:=Rx.rfl
  obtain ⟨kind,name,null,elem,pred,a⟩:=t
  have hel:=wTys_len elem
  have hwe : wTys elem < wTy (.mk kind name null elem pred a):=by simp only [wTy]; omega
  have hlt1 : (tyRows elem).length = elem.length:=tyRows_len elem
  have hpl:=qx_place L cs hfew name
  refine at_start hm L.f21.1 L.f21.2 rfl ?_
  refine at_seq hm ?_
  unfold r21_0
  show At pr F H.length (fin _ H.length _) _ _ _ _
  refine at_box hm rfl ?_
  intro H1 hH1 hlen hlt
  have hpz : placeI cs name < 0 ↔ place cs name = none:=by
   unfold placeI
   cases place cs name with
   | none => simp
   | some i => simp
  refine' stH
  rotate_left 1
  all_goals try
   (refine fin_two hH1 rfl rfl ⟨_,hR,?_,rfl⟩
    simp only [knownF]
    rw [if_pos ⟨by assumption,hpz.1 (by assumption)⟩])
  all_goals
   have h0 : knownF cs (.mk kind name null elem pred a) = knownsF cs elem:=by
    simp only [knownF]
    rw [if_neg]
    rintro ⟨h1,h2⟩
    have h3:=hpz.2 h2
    omega
   refine at_loop hm (fun mm e S' => ∃ (i : Nat) (rw3 : List Nat),S' = ⟨hp H1 H.length (.cells (tyRow (.mk kind name null elem pred a))) [],rw3⟩ ∧ i ≤ elem.length ∧ knownsF cs elem = knownsF cs (elem.drop i) ∧ Rx rw rw3 ∧ mm = elem.length - i ∧ e = [(0,lst 9 (cs.map clsRow)),(3,.ptr H.length 0),(6,.int .i64 i)]) ?_ (m:=elem.length) ⟨0,_,rfl,by omega,by simp,hR,rfl,rfl⟩
   clear hR
   rintro mm e S' ⟨i,rw3,rfl,hi,hkn,hR,rfl,rfl⟩
   by_cases hi1 : i < elem.length
   ·obtain ⟨t',ht'⟩ : ∃ t',elem[i]? = some t':=⟨_,List.getElem?_eq_getElem hi1⟩
    have htr:=tyRows_get ht'
    have hwt:=wTys_mem (List.mem_of_getElem? ht')
    have hdr : elem.drop i = t' :: elem.drop (i + 1):=by rw [List.drop_eq_getElem_cons hi1]; rw [List.getElem?_eq_getElem hi1] at ht'; simp only [Option.some.injEq] at ht'; rw [ht']
    rw [hdr,knownsF] at hkn
    have hT:=ih t' (by omega) (by omega)
    have hl5 : lst 6 (tyRows elem) = .list 6 .dead (tyRows elem):=lst_of_lt (i:=i) (by omega)
    refine' stH
    rw [hl5]
    refine' stH
    ·refine fin_two hH1 rfl rfl ⟨_,hR,?_,rfl⟩
     rw [h0,hkn,if_neg (by assumption)]
    ·exact ⟨elem.length - (i + 1),by omega,i + 1,_,rfl,by omega,by rw [hkn,if_pos (by assumption)],hR,rfl,rfl⟩
   ·refine' stH
    refine fin_two hH1 rfl rfl ⟨_,hR,?_,rfl⟩
    rw [h0,hkn,List.drop_eq_nil_of_le (by omega)]
    rfl
end Go.Proofs.YtmeakjgbjldkdaaGreat.Ai
namespace Go.Proofs.YtmeakjgbjldkdaaGreat.Ai
open Go
variable {pr : Prims} {F : Nat → Option IFn}
structure LibG (pr : Prims) (F : Nat → Option IFn) : Prop extends LibF pr F where
 f23 : Has pr F 23 i23
 f33 : Has pr F 33 i33
 f34 : Has pr F 34 i34
 f35 : Has pr F 35 i35
 f36 : Has pr F 36 i36
 f68 : Has pr F 68 i68
 f69 : Has pr F 69 i69
 f111 : Has pr F 111 i111
 awake : ∀ S,Det pr F 13 [] S (.ret (.bool true)) S
def idxF (k : Nat) : Nat → List Nat → Int
 | _,[] => -1
 | p,x :: l => if x = k then (p : Int) else idxF k (p + 1) l
theorem idxF_drop {k : Nat} {l : List Nat} {q x : Nat} (h : l[q]? = some x) : idxF k q (l.drop q) = if x = k then (q : Int) else idxF k (q + 1) (l.drop (q + 1)):=by
 obtain ⟨hl,he⟩:=List.getElem?_eq_some_iff.1 h
 rw [List.drop_eq_getElem_cons hl,he]
 rfl
theorem idxF_mem {k : Nat} : ∀ {l : List Nat} {p : Nat},0 ≤ idxF k p l ↔ k ∈ l
 | [],p => by simp [idxF]
 | x :: l,p => by
  unfold idxF
  split
  ·rename_i h
   subst h
   simp
  ·rename_i h
   rw [idxF_mem]
   simp [Ne.symm h]
theorem tx_find (L : LibG pr F) {v : AV} {l : List Nat} (hv : IsL 1 v (ixRows l)) (hl : l.length ≤ 6000) (k : Nat) : TxOk pr F 111 [v,.int .i64 k] (.int .i64 (idxF k 0 l)):=by
 have hm:=L.hm
 obtain ⟨z,tg,rfl,hz,-⟩:=hv
 have hll : (ixRows l).length = l.length:=ixRows_len l
 refine TxOk.of0 hm L.f111.1 L.f111.2 rfl ?_
 intro H rw b hlt
 have hR : Rx rw rw:=Rx.rfl
 refine' stH
 refine at_loop hm (fun mm e S' => ∃ q : Nat,S' = ⟨hp H 0 b [],rw⟩ ∧ q ≤ l.length ∧ idxF k 0 l = idxF k q (l.drop q) ∧ mm = l.length - q ∧ e = [(0,.list z tg (ixRows l)),(1,.int .i64 k),(7,.int .i64 ((ixRows l).length : Int)),(8,.int .i64 q)]) ?_ (m:=l.length) ⟨0,rfl,by omega,rfl,rfl,rfl⟩
 rintro mm e S' ⟨q,rfl,hq0,hne,rfl,rfl⟩
 by_cases hq1 : q < l.length
 ·obtain ⟨x,hx⟩ : ∃ x,l[q]? = some x:=⟨_,List.getElem?_eq_getElem hq1⟩
  have hxr:=ixRows_get hx
  have hz1 : z = 1:=hz (by intro h; rw [h] at hll; simp only [List.length_nil] at hll; omega)
  subst hz1
  rw [idxF_drop hx] at hne
  refine' stH
  ·have e1 : x = k:=by omega
   exact fin_ret rfl rfl (hp_take hlt) ⟨_,hR,by rw [hne,if_pos e1],rfl⟩
  ·have e1 : ¬x = k:=by omega
   rw [if_neg e1] at hne
   exact ⟨l.length - (q + 1),by omega,q + 1,rfl,by omega,hne,rfl,rfl⟩
 ·refine' stH
  rw [List.drop_eq_nil_of_le (by omega)] at hne
  exact fin_ret rfl rfl (hp_take hlt) ⟨_,hR,by rw [hne]; rfl,rfl⟩
theorem tx_contains (L : LibG pr F) {v : AV} {l : List Nat} (hv : IsL 1 v (ixRows l)) (hl : l.length ≤ 6000) (k : Nat) : TxOk pr F 69 [v,.int .i64 k] (.bool (decide (k ∈ l))):=by
 have hm:=L.hm
 refine TxOk.of0 hm L.f69.1 L.f69.2 rfl ?_
 intro H rw b hlt
 have hR : Rx rw rw:=Rx.rfl
 have htx:=tx_find L hv hl k
 have hmem:=idxF_mem (k:=k) (l:=l) (p:=0)
 refine' stH
 ·exact fin_ret rfl rfl (hp_take hlt) ⟨_,hR,by rw [decide_eq_true (hmem.1 (by omega))],rfl⟩
 ·exact fin_ret rfl rfl (hp_take hlt) ⟨_,hR,by rw [decide_eq_false (fun h => by have:=hmem.2 h; omega)],rfl⟩
def belowF (cs : List Cls) (U : List (List Nat)) (s t : Str) : Bool:=match place cs s,place cs t with
 | some i,some k => decide (i = k) || decide (k ∈ U.getD i [])
 | _,_ => false
theorem upRow_isL (l : List Nat) : IsL 1 (lst 1 (ixRows l)) (ixRows l):=isL_lst
theorem det_below (L : LibG pr F) {H : List Blk} {rw : List Nat} {n mb z zb : Nat} {tg tb : Tag} {cs : List Cls} {U : List (List Nat)} {o1 o2 o3 sl : AV} (T : TabU H n mb cs z tg zb tb U o1 o2 o3 sl) (s t : Str) :
  ∃ rw',Rx rw rw' ∧ Det pr F 35 [.ptr n 0,.str s,.str t] ⟨H,rw⟩ (.ret (.bool (belowF cs U s t))) ⟨H,rw'⟩:=by
 have hm:=L.hm
 suffices h : Wp pr F 35 [.ptr n 0,.str s,.str t] ⟨H,rw⟩ fun r S' => ∃ rw',Rx rw rw' ∧ r = .ret (.bool (belowF cs U s t)) ∧ S' = ⟨H,rw'⟩ by
  obtain ⟨r,S',hd,rw',h1,rfl,rfl⟩:=h.det hm
  exact ⟨rw',h1,hd⟩
 have hlt : n < H.length:=(List.getElem?_eq_some_iff.1 T.at_).1
 have hne : n ≠ mb:=by
  intro h
  have:=T.at_
  rw [h,T.mp] at this
  simp at this
 have hFm:=froz_n hne T.mp
 have hfew:=T.few
 have hlm : (cs.map clsRow).length = cs.length:=List.length_map _
 have hul:=T.ulen
 have hul2 : (U.map upRow).length = cs.length:=by rw [List.length_map]; exact hul
 have hR : Rx rw rw:=Rx.rfl
 have hzb : U ≠ [] → zb = 1:=T.zbs
 refine at_start_hp hm L.f35.1 L.f35.2 rfl (hp_of T.at_) ?_
 refine' stH
 ·rename_i k0 c0 h0 h1 h2 h3
  refine fin_ret rfl rfl (hp_take hlt) ⟨_,hR,?_,st_of T.at_⟩
  rw [belowF,h0,hkq]
  simp only [decide_eq_true (show k0 = kq by omega),Bool.true_or]
 ·rename_i k0 c0 h0 h1 h2 h3
  obtain ⟨uk,huk⟩ : ∃ uk,U[k0]? = some uk:=⟨_,List.getElem?_eq_getElem (by omega)⟩
  have hur:=upRow_get huk
  have hb : zb = 1:=hzb (by intro h; rw [h] at huk; simp at huk)
  subst hb
  obtain ⟨bs,hbsl,hbsu,hui2⟩:=T.ups k0 uk huk
  have hun2 : uk.length ≤ cs.length:=by rw [hui2]; exact trues_len _ _
  have htx:=tx_contains L (upRow_isL uk) (by omega) kq
  have hbf : belowF cs U s t = decide (kq ∈ uk):=by
   rw [belowF,h0,hkq]
   simp only [decide_eq_false (show ¬k0 = kq by omega),Bool.false_or]
   rw [List.getD_eq_getElem?_getD,huk]
   rfl
  refine' stH
  exact fin_ret rfl rfl (hp_take hlt) ⟨_,hR,by rw [hbf],st_of T.at_⟩
 ·rename_i h0
  exact fin_ret rfl rfl (hp_take hlt) ⟨_,hR,by rw [belowF,h0,hkq],st_of T.at_⟩
 ·rename_i h0
  exact fin_ret rfl rfl (hp_take hlt) ⟨_,hR,by rw [belowF,h0,hkq],st_of T.at_⟩
 ·rename_i h0
  exact fin_ret rfl rfl (hp_take hlt) ⟨_,hR,by rw [belowF,h0,hkq],st_of T.at_⟩
end Go.Proofs.YtmeakjgbjldkdaaGreat.Ai
namespace Go.Proofs.YtmeakjgbjldkdaaGreat.Ai
open Go
variable {pr : Prims} {F : Nat → Option IFn}
def namesF (cs : List Cls) : List Str:=cs.map fun c => c.name
def aboveF (cs : List Cls) (U : List (List Nat)) (s : Str) : List Nat:=match place cs s with
 | some i => U.getD i []
 | none => []
def namesAt (cs : List Cls) (l : List Nat) : List Str:=l.map fun i => nameAt cs i
theorem det_namesL (L : LibG pr F) {H : List Blk} {rw : List Nat} {n mb z zb : Nat} {tg tb : Tag} {cs : List Cls} {U : List (List Nat)} {o1 o2 o3 sl : AV} (T : TabU H n mb cs z tg zb tb U o1 o2 o3 sl) :
  ∃ (v : AV) (rw' : List Nat),IsL 1 v ((namesF cs).map nmRow) ∧ Rx rw rw' ∧ Det pr F 23 [.ptr n 0] ⟨H,rw⟩ (.ret v) ⟨H,rw'⟩:=by
 have hm:=L.hm
 suffices h : Wp pr F 23 [.ptr n 0] ⟨H,rw⟩ fun r S' => ∃ (v : AV) (rw' : List Nat),IsL 1 v ((namesF cs).map nmRow) ∧ Rx rw rw' ∧ r = .ret v ∧ S' = ⟨H,rw'⟩ by
  obtain ⟨r,S',hd,v,rw',h1,h2,rfl,rfl⟩:=h.det hm
  exact ⟨v,rw',h1,h2,hd⟩
 have hlt : n < H.length:=(List.getElem?_eq_some_iff.1 T.at_).1
 have hfew:=T.few
 have hlm : (cs.map clsRow).length = cs.length:=List.length_map _
 have hR : Rx rw rw:=Rx.rfl
 refine at_start_hp hm L.f23.1 L.f23.2 rfl (hp_of T.at_) ?_
 refine' stH
 refine at_loop hm (fun mm e S' => ∃ (q : Nat) (l : AV) (J : List Blk) (rw3 : List Nat),S' = ⟨hp H n (.cells [.list z tg (cs.map clsRow),.map mb,.list zb tb (U.map upRow),o1,o2,o3,sl]) J,rw3⟩ ∧ q ≤ cs.length ∧ Lst rw 1 l ((namesF (cs.take q)).map nmRow) rw3 ∧ Rx rw rw3 ∧ mm = cs.length - q ∧ e = [(3,l),(9,.list z tg (cs.map clsRow)),(10,.int .i64 ((cs.map clsRow).length : Int)),(11,.int .i64 q)]) ?_ (m:=cs.length) ⟨0,_,[],rw,rfl,by omega,Lst.nil,Rx.rfl,rfl,rfl⟩
 clear hR
 rintro mm e S' ⟨q,l,J,rw3,rfl,hq0,hl,hR,rfl,rfl⟩
 by_cases hq1 : q < cs.length
 ·obtain ⟨c,hc⟩ : ∃ c,cs[q]? = some c:=⟨_,List.getElem?_eq_getElem hq1⟩
  have hcr : (cs.map clsRow)[q]? = some (clsRow c):=by rw [List.getElem?_map,hc]; rfl
  have hz : z = 9:=T.sz (by intro h; rw [h] at hq1; simp at hq1)
  subst hz
  refine' stH
  refine id_append ?_
  refine g_append rfl rfl rfl ?_
  refine ap_lst (row:=nmRow c.name) hl hR (by simp only [namesF,List.length_map,List.length_take,maxRow]; omega) (by simp only [namesF,List.length_map,List.length_take,maxRow]; omega) (by omega) ?_
  intro l4 rw4 hl4 hR4
  refine zrk6 ?_
  refine' stH
  refine ⟨cs.length - (q + 1),by omega,q + 1,l4,_,rw4,rfl,by omega,?_,hR4,rfl,rfl⟩
  rw [take_snoc hc]
  simp only [namesF,List.map_append] at hl4 ⊢
  exact hl4
 ·refine' stH
  rw [show q = cs.length by omega,List.take_length] at hl
  exact fin_ret rfl (hl.isL.below _) (hp_take hlt) ⟨_,_,hl.isL,hR,rfl,st_of T.at_⟩
theorem det_aboveT (L : LibG pr F) {H : List Blk} {rw : List Nat} {n mb z zb : Nat} {tg tb : Tag} {cs : List Cls} {U : List (List Nat)} {o1 o2 o3 sl : AV} (T : TabU H n mb cs z tg zb tb U o1 o2 o3 sl) (s : Str) :
  ∃ (v : AV) (rw' : List Nat),IsL 1 v ((namesAt cs (aboveF cs U s)).map nmRow) ∧ Rx rw rw' ∧ Det pr F 34 [.ptr n 0,.str s] ⟨H,rw⟩ (.ret v) ⟨H,rw'⟩:=by
 have hm:=L.hm
 suffices h : Wp pr F 34 [.ptr n 0,.str s] ⟨H,rw⟩ fun r S' => ∃ (v : AV) (rw' : List Nat),IsL 1 v ((namesAt cs (aboveF cs U s)).map nmRow) ∧ Rx rw rw' ∧ r = .ret v ∧ S' = ⟨H,rw'⟩ by
  obtain ⟨r,S',hd,v,rw',h1,h2,rfl,rfl⟩:=h.det hm
  exact ⟨v,rw',h1,h2,hd⟩
 have hlt : n < H.length:=(List.getElem?_eq_some_iff.1 T.at_).1
 have hne : n ≠ mb:=by
  intro h
  have:=T.at_
  rw [h,T.mp] at this
  simp at this
 have hFm:=froz_n hne T.mp
 have hfew:=T.few
 have hlm : (cs.map clsRow).length = cs.length:=List.length_map _
 have hul:=T.ulen
 have hul2 : (U.map upRow).length = cs.length:=by rw [List.length_map]; exact hul
 have hR : Rx rw rw:=Rx.rfl
 have hzb : U ≠ [] → zb = 1:=T.zbs
 refine at_start_hp hm L.f34.1 L.f34.2 rfl (hp_of T.at_) ?_
 refine' stH
 ·obtain ⟨uk,huk⟩ : ∃ uk,U[kq]? = some uk:=⟨_,List.getElem?_eq_getElem (by omega)⟩
  have hur:=upRow_get huk
  have hb : zb = 1:=hzb (by intro h; rw [h] at huk; simp at huk)
  subst hb
  have hz : z = 9:=T.sz (by intro h; rw [h] at hkl; simp at hkl)
  subst hz
  obtain ⟨bs,hbsl,hbsu,hui2⟩:=T.ups kq uk huk
  have hun2 : uk.length ≤ cs.length:=by rw [hui2]; exact trues_len _ _
  have hcl : ∀ i ∈ uk,i < cs.length:=fun i hi => up_lt T.linked ((ups_mem (T.ups kq uk huk) T.linked i).1 hi)
  have haf : aboveF cs U s = uk:=by
   rw [aboveF,hkq]
   simp only [List.getD_eq_getElem?_getD,huk,Option.getD_some]
  have hlu : (ixRows uk).length = uk.length:=ixRows_len uk
  rw [haf]
  refine' stH
  refine at_loop hm (fun mm e S' => ∃ (q : Nat) (l : AV) (J : List Blk) (rw3 : List Nat),S' = ⟨hp H n (.cells [.list 9 tg (cs.map clsRow),.map mb,.list 1 tb (U.map upRow),o1,o2,o3,sl]) J,rw3⟩ ∧ q ≤ uk.length ∧ Lst rw 1 l ((namesAt cs (uk.take q)).map nmRow) rw3 ∧ Rx rw rw3 ∧ mm = uk.length - q ∧ e = [(0,.ptr n 0),(7,l),(27,lst 1 (ixRows uk)),(28,.int .i64 ((ixRows uk).length : Int)),(29,.int .i64 q)]) ?_ (m:=uk.length) ⟨0,_,[],rw,rfl,by omega,Lst.nil,Rx.rfl,rfl,rfl⟩
  clear hR
  rintro mm e S' ⟨q,l,J,rw3,rfl,hq0,hl,hR,rfl,rfl⟩
  by_cases hq1 : q < uk.length
  ·obtain ⟨i,hi⟩ : ∃ i,uk[q]? = some i:=⟨_,List.getElem?_eq_getElem hq1⟩
   have hix:=ixRows_get hi
   have hic:=hcl i (List.mem_of_getElem? hi)
   obtain ⟨c,hc⟩ : ∃ c,cs[i]? = some c:=⟨_,List.getElem?_eq_getElem hic⟩
   have hcr : (cs.map clsRow)[i]? = some (clsRow c):=by rw [List.getElem?_map,hc]; rfl
   have hl5 : lst 1 (ixRows uk) = .list 1 .dead (ixRows uk):=lst_of_lt (i:=q) (by omega)
   have hna : nameAt cs i = c.name:=by unfold nameAt; rw [hc]
   rw [hl5]
   refine' stH
   refine id_append ?_
   refine g_append rfl rfl rfl ?_
   refine ap_lst (row:=nmRow c.name) hl hR (by simp only [namesAt,List.length_map,List.length_take,maxRow]; omega) (by simp only [namesAt,List.length_map,List.length_take,maxRow]; omega) (by omega) ?_
   intro l4 rw4 hl4 hR4
   refine zrk6 ?_
   refine' stH
   refine ⟨uk.length - (q + 1),by omega,q + 1,l4,_,rw4,rfl,by omega,?_,hR4,rfl,rfl⟩
   rw [take_snoc hi]
   simp only [namesAt,List.map_append,List.map_cons,List.map_nil,hna] at hl4 ⊢
   exact hl4
  ·refine' stH
   rw [show q = uk.length by omega,List.take_length] at hl
   exact fin_ret rfl (hl.isL.below _) (hp_take hlt) ⟨_,_,hl.isL,hR,rfl,st_of T.at_⟩
 ·refine fin_ret rfl rfl (hp_take hlt) ⟨_,rw,?_,hR,rfl,st_of T.at_⟩
  rw [aboveF,hkq]
  exact IsL.nil
theorem det_class (L : LibG pr F) {H : List Blk} {rw : List Nat} {n mb z zb : Nat} {tg tb : Tag} {cs : List Cls} {U : List (List Nat)} {o1 o2 o3 sl : AV} (T : TabU H n mb cs z tg zb tb U o1 o2 o3 sl) (s : Str) :
  ∃ (v : List AV) (rw' : List Nat),Row 9 v ∧ (∀ i c,place cs s = some i → cs[i]? = some c → v = clsRow c) ∧ Rx rw rw' ∧ Det pr F 36 [.ptr n 0,.str s] ⟨H,rw⟩ (.ret (.tup [.agg v,.bool (place cs s).isSome])) ⟨H,rw'⟩:=by
 have hm:=L.hm
 suffices h : Wp pr F 36 [.ptr n 0,.str s] ⟨H,rw⟩ fun r S' => ∃ (v : List AV) (rw' : List Nat),Row 9 v ∧ (∀ i c,place cs s = some i → cs[i]? = some c → v = clsRow c) ∧ Rx rw rw' ∧ r = .ret (.tup [.agg v,.bool (place cs s).isSome]) ∧ S' = ⟨H,rw'⟩ by
  obtain ⟨r,S',hd,v,rw',h1,h2,h3,rfl,rfl⟩:=h.det hm
  exact ⟨v,rw',h1,h2,h3,hd⟩
 have hfew:=T.few
 have hlm : (cs.map clsRow).length = cs.length:=List.length_map _
 have hR : Rx rw rw:=Rx.rfl
 refine at_start hm L.f36.1 L.f36.2 rfl ?_
 refine at_seq hm ?_
 unfold r36_0
 show At pr F H.length (fin _ H.length _) _ _ _ _
 refine at_first hm ?_
 intro H1 hH1 hlen hlt
 have hF:=froz_first hH1 T.at_
 have hFm:=froz_first hH1 T.mp
 by_cases hcs : cs = []
 ·subst hcs
  refine' stH
  ·simp [place] at hkq
  ·exact fin_firstT hH1 rfl rfl (row_cls ⟨[],false,[],[],[],[],[],[],0⟩) ⟨_,_,row_cls ⟨[],false,[],[],[],[],[],[],0⟩,(by intro i c h; rw [hkq] at h; cases h),hR,by rw [hkq]; rfl,rfl⟩
 ·have hz:=T.sz hcs
  subst hz
  refine' stH
  ·refine fin_firstT hH1 rfl rfl (row_cls kc) ⟨_,_,row_cls kc,fun i c h hc => ?_,hR,by rw [hkq]; rfl,rfl⟩
   rw [hkq] at h
   simp only [Option.some.injEq] at h
   subst h
   rw [hkc] at hc
   simp only [Option.some.injEq] at hc
   rw [hc]
  ·exact fin_firstT hH1 rfl rfl (row_cls ⟨[],false,[],[],[],[],[],[],0⟩) ⟨_,_,row_cls ⟨[],false,[],[],[],[],[],[],0⟩,(by intro i c h; rw [hkq] at h; cases h),hR,by rw [hkq]; rfl,rfl⟩
end Go.Proofs.YtmeakjgbjldkdaaGreat.Ai
namespace Go.Proofs.YtmeakjgbjldkdaaGreat.Ai
open Go
def setAll (bs : List Bool) (l : List Nat) : List Bool:=l.foldl (fun b k => b.set k true) bs
theorem setAll_nil (bs : List Bool) : setAll bs [] = bs:=rfl
theorem setAll_append (bs : List Bool) (l m : List Nat) : setAll bs (l ++ m) = setAll (setAll bs l) m:=by simp [setAll]
theorem setAll_one (bs : List Bool) (k : Nat) : setAll bs [k] = bs.set k true:=rfl
theorem setAll_len : ∀ (l : List Nat) (bs : List Bool),(setAll bs l).length = bs.length
 | [],_ => rfl
 | k :: l,bs => by
  show (setAll (bs.set k true) l).length = _
  rw [setAll_len,List.length_set]
theorem setAll_get : ∀ (l : List Nat) (bs : List Bool),(∀ k ∈ l,k < bs.length) → ∀ j,(setAll bs l)[j]? = some true ↔ bs[j]? = some true ∨ j ∈ l
 | [],bs,_,j => by simp [setAll_nil]
 | k :: l,bs,h,j => by
  show (setAll (bs.set k true) l)[j]? = some true ↔ _
  rw [setAll_get l (bs.set k true) (fun i hi => by rw [List.length_set]; exact h i (List.mem_cons_of_mem _ hi))]
  have hk:=h k List.mem_cons_self
  constructor
  ·rintro (h1 | h1)
   ·by_cases e : k = j
    ·subst e; exact .inr List.mem_cons_self
    ·rw [List.getElem?_set_ne e] at h1; exact .inl h1
   ·exact .inr (List.mem_cons_of_mem _ h1)
  ·rintro (h1 | h1)
   ·exact .inl (set_true h1)
   ·rcases List.mem_cons.1 h1 with rfl | h1
    ·exact .inl (List.getElem?_set_self hk)
    ·exact .inr h1
theorem setAll_same {l : List Nat} {bs : List Bool} (h : ∀ k ∈ l,bs[k]? = some true) : setAll bs l = bs:=by
 induction l with
 | nil => rfl
 | cons k l ih =>
  show setAll (bs.set k true) l = bs
  have e : bs.set k true = bs:=by
   apply List.ext_getElem?
   intro i
   by_cases hk : k = i
   ·subst hk
    rw [h k List.mem_cons_self]
    exact List.getElem?_set_self (List.getElem?_eq_some_iff.1 (h k List.mem_cons_self)).1
   ·rw [List.getElem?_set_ne hk]
  rw [e]
  exact ih (fun i hi => h i (List.mem_cons_of_mem _ hi))
def cnt (bs : List Bool) : Nat:=bs.countP (· = true)
theorem cnt_set {bs : List Bool} {k : Nat} (hk : k < bs.length) : cnt (bs.set k true) = cnt bs + (if bs[k]? = some true then 0 else 1):=by
 induction bs generalizing k with
 | nil => simp at hk
 | cons b bs ih =>
  cases k with
  | zero => cases b <;> simp [cnt]
  | succ k =>
   have:=ih (k:=k) (by simpa using hk)
   simp only [cnt] at this ⊢
   simp only [List.set_cons_succ,List.countP_cons,this,List.getElem?_cons_succ]
   omega
theorem cnt_setAll : ∀ {l : List Nat} {bs : List Bool},(∀ k ∈ l,k < bs.length) → cnt bs ≤ cnt (setAll bs l) ∧ (cnt (setAll bs l) = cnt bs → setAll bs l = bs ∧ ∀ k ∈ l,bs[k]? = some true)
 | [],bs,_ => ⟨Nat.le_refl _,fun _ => ⟨rfl,fun k h => by cases h⟩⟩
 | k :: l,bs,h => by
  have hk:=h k List.mem_cons_self
  have h1:=cnt_set hk
  obtain ⟨h2,h3⟩:=cnt_setAll (l:=l) (bs:=bs.set k true) (fun i hi => by rw [List.length_set]; exact h i (List.mem_cons_of_mem _ hi))
  have e : setAll bs (k :: l) = setAll (bs.set k true) l:=rfl
  rw [e]
  refine ⟨by omega,fun h4 => ?_⟩
  have hb : bs[k]? = some true:=by
   by_cases hb : bs[k]? = some true
   ·exact hb
   ·rw [if_neg hb] at h1; omega
  have e2 : bs.set k true = bs:=setAll_same (l:=[k]) (fun i hi => by simp only [List.mem_singleton] at hi; subst hi; exact hb)
  rw [e2] at h3 h2 h4 ⊢
  obtain ⟨h5,h6⟩:=h3 h4
  refine ⟨h5,fun i hi => ?_⟩
  rcases List.mem_cons.1 hi with rfl | hi
  ·exact hb
  ·exact h6 i hi
theorem cnt_le (bs : List Bool) : cnt bs ≤ bs.length:=List.countP_le_length
theorem cnt_all {bs : List Bool} (h : cnt bs = bs.length) (k : Nat) (hk : k < bs.length) : bs[k]? = some true:=by
 have:=List.countP_eq_length.1 h (bs[k]) (List.getElem_mem hk)
 rw [List.getElem?_eq_getElem hk]
 simpa using this
def Shut (cs : List Cls) (bs : List Bool) : Prop:=∀ j,bs[j]? = some true → ∀ k ∈ nxt cs j,bs[k]? = some true
structure Rnd (cs : List Cls) (i : Nat) (b0 bs : List Bool) (q : Nat) : Prop where
 len : bs.length = cs.length
 sound : ∀ k,bs[k]? = some true → Up cs i k
 first : ∀ k ∈ nxt cs i,bs[k]? = some true
 more : cnt b0 < cnt bs ∨ (bs = b0 ∧ ∀ j,j < q → b0[j]? = some true → ∀ k ∈ nxt cs j,b0[k]? = some true)
 shut : Shut cs b0 → bs = b0
theorem Rnd.skip {cs : List Cls} {i q : Nat} {b0 bs : List Bool} (h : Rnd cs i b0 bs q) (hq : bs[q]? = some false) : Rnd cs i b0 bs (q + 1) where
 len:=h.len
 sound:=h.sound
 first:=h.first
 shut:=h.shut
 more:=by
  rcases h.more with h1 | ⟨rfl,h1⟩
  ·exact .inl h1
  ·refine .inr ⟨rfl,fun j hj hb k hk => ?_⟩
   by_cases e : j = q
   ·subst e; rw [hq] at hb; simp at hb
   ·exact h1 j (by omega) hb k hk
theorem Rnd.step {cs : List Cls} (hl : Linked cs) {i q : Nat} {b0 bs : List Bool} (h : Rnd cs i b0 bs q) (hq : bs[q]? = some true) : Rnd cs i b0 (setAll bs (nxt cs q)) (q + 1):=by
 have hlt : ∀ k ∈ nxt cs q,k < bs.length:=fun k hk => by rw [h.len]; exact nxt_lt hl hk
 have hg:=setAll_get (nxt cs q) bs hlt
 obtain ⟨hc1,hc2⟩:=cnt_setAll hlt
 refine ⟨by rw [setAll_len,h.len],fun k hk => ?_,fun k hk => (hg k).2 (.inl (h.first k hk)),?_,fun hs => ?_⟩
 ·rcases (hg k).1 hk with h1 | h1
  ·exact h.sound k h1
  ·exact .more (h.sound q hq) h1
 ·rcases h.more with h1 | ⟨rfl,h1⟩
  ·exact .inl (by omega)
  ·by_cases e : cnt (setAll bs (nxt cs q)) = cnt bs
   ·obtain ⟨h2,h3⟩:=hc2 e
    refine .inr ⟨h2,fun j hj hb k hk => ?_⟩
    by_cases ej : j = q
    ·subst ej; exact h3 k hk
    ·exact h1 j (by omega) hb k hk
   ·exact .inl (by omega)
 ·have:=h.shut hs
  subst this
  exact setAll_same (hs q hq)
structure Rnds (cs : List Cls) (i : Nat) (bs : List Bool) (n : Nat) : Prop where
 len : bs.length = cs.length
 sound : ∀ k,bs[k]? = some true → Up cs i k
 first : ∀ k ∈ nxt cs i,bs[k]? = some true
 more : Shut cs bs ∨ n ≤ cnt bs
theorem Rnds.start {cs : List Cls} (hl : Linked cs) (i : Nat) : Rnds cs i (setAll (List.replicate cs.length false) (nxt cs i)) 0:=by
 have hlt : ∀ k ∈ nxt cs i,k < (List.replicate cs.length false).length:=fun k hk => by rw [List.length_replicate]; exact nxt_lt hl hk
 have hg:=setAll_get (nxt cs i) _ hlt
 refine ⟨by rw [setAll_len,List.length_replicate],fun k hk => ?_,fun k hk => (hg k).2 (.inr hk),.inr (Nat.zero_le _)⟩
 rcases (hg k).1 hk with h1 | h1
 ·have:=List.mem_of_getElem? h1
  simp at this
 ·exact .one h1
theorem Rnds.round {cs : List Cls} {i n : Nat} {bs : List Bool} (h : Rnds cs i bs n) : Rnd cs i bs bs 0:=
 ⟨h.len,h.sound,h.first,.inr ⟨rfl,fun j hj => by omega⟩,fun _ => rfl⟩
theorem Rnds.next {cs : List Cls} {i n : Nat} {b0 bs : List Bool} (h : Rnds cs i b0 n) (h' : Rnd cs i b0 bs cs.length) : Rnds cs i bs (n + 1):=by
 refine ⟨h'.len,h'.sound,h'.first,?_⟩
 rcases h.more with h1 | h1
 ·rw [h'.shut h1]; exact .inl h1
 ·rcases h'.more with h2 | ⟨rfl,h2⟩
  ·exact .inr (by omega)
  ·refine .inl fun j hj k hk => ?_
   have hjl:=(List.getElem?_eq_some_iff.1 hj).1
   exact h2 j (by rw [← h.len]; exact hjl) hj k hk
theorem Rnds.done {cs : List Cls} (hl : Linked cs) {i : Nat} {bs : List Bool} (h : Rnds cs i bs cs.length) (k : Nat) : bs[k]? = some true ↔ Up cs i k:=by
 have hs : Shut cs bs:=by
  rcases h.more with h1 | h1
  ·exact h1
  ·have h2:=cnt_le bs
   have h3 : cnt bs = bs.length:=by have:=h.len; omega
   intro j _ k hk
   exact cnt_all h3 k (by rw [h.len]; exact nxt_lt hl hk)
 refine ⟨h.sound k,fun hu => ?_⟩
 induction hu with
 | one h1 => exact h.first _ h1
 | more _ h1 ih => exact hs _ ih _ h1
end Go.Proofs.YtmeakjgbjldkdaaGreat.Ai
namespace Go.Proofs.YtmeakjgbjldkdaaGreat.Ai
open Go
variable {pr : Prims} {F : Nat → Option IFn}
def pl (cs : List Cls) (s : Str) : Nat:=(place cs s).getD 0
theorem bs_set (bs : List Bool) (k : Nat) : (bsRow bs).set (0 + k * 1) (.bool true) = bsRow (bs.set k true):=by
 rw [Nat.zero_add,Nat.mul_one,bsRow,bsRow,List.map_set]
theorem bs_len (bs : List Bool) : (bsRow bs).length = bs.length:=List.length_map _
theorem det_right (L : LibG pr F) {H : List Blk} {rw : List Nat} {m len : Nat} {cs : List Cls} (hfew : cs.length ≤ 6000) (hli : Linked cs) (hok : ∀ c ∈ cs,okCls c) (hwt : wL wCls cs ≤ 42000000) {bs : List Bool} (hbl : bs.length = cs.length) (hlen : len = cs.length) (hat : H[m]? = some (.cells (bsRow bs))) {i : Nat} (hi : i < cs.length) :
  ∃ rw' : List Nat,Rx rw rw' ∧ Det pr F 68 [lst 9 (cs.map clsRow),.int .i64 i,.arr m 0 1 len] ⟨H,rw⟩ (.ret (.tup [])) ⟨H.set m (.cells (bsRow (setAll bs (nxt cs i)))),rw'⟩:=by
 have hm:=L.hm
 suffices h : Wp pr F 68 [lst 9 (cs.map clsRow),.int .i64 i,.arr m 0 1 len] ⟨H,rw⟩ fun r S' => ∃ rw' : List Nat,Rx rw rw' ∧ r = .ret (.tup []) ∧ S' = ⟨hp H m (.cells (bsRow (setAll bs (nxt cs i)))) [],rw'⟩ by
  obtain ⟨r,S',hd,rw',h1,rfl,rfl⟩:=h.det hm
  rw [hp_nil] at hd
  exact ⟨rw',h1,hd⟩
 subst hlen
 have hlt : m < H.length:=(List.getElem?_eq_some_iff.1 hat).1
 have hlm : (cs.map clsRow).length = cs.length:=List.length_map _
 have hR : Rx rw rw:=Rx.rfl
 obtain ⟨c,hc⟩ : ∃ c,cs[i]? = some c:=⟨_,List.getElem?_eq_getElem hi⟩
 have hcm:=List.mem_of_getElem? hc
 have hcr : (cs.map clsRow)[i]? = some (clsRow c):=by rw [List.getElem?_map,hc]; rfl
 have hl5 : lst 9 (cs.map clsRow) = .list 9 .dead (cs.map clsRow):=lst_of_lt (i:=i) (by omega)
 obtain ⟨hsup,habv⟩:=hli c hcm
 have hab : c.above.length ≤ 42000000:=by
  have h1:=wL_mem wCls hcm
  have h3:=wL_len wNm (fun x => by simp only [wNm]; omega) c.above
  simp only [wCls] at h1
  omega
 have hnx : nxt cs i = nxtC cs c:=by simp only [nxt,hc]
 have hx1:=qx_place L.toLibE cs hfew c.super
 have hxa:=fun a => qx_place L.toLibE cs hfew a
 rw [hl5] at hx1 hxa ⊢
 refine at_start_hp hm L.f68.1 L.f68.2 rfl (hp_of hat) ?_
 have key : ∀ (b1 : List Bool) (rw1 : List Nat),b1.length = cs.length → Rx rw rw1 → setAll b1 (c.above.map (pl cs)) = setAll bs (nxt cs i) →
   At pr F H.length (fin [] H.length fun r S' => ∃ rw' : List Nat,Rx rw rw' ∧ r = .ret (.tup []) ∧ S' = ⟨hp H m (.cells (bsRow (setAll bs (nxt cs i)))) [],rw'⟩)
    (.loop [0,1,2,7] (.seq (.seq r68_4 (.cond (.tmp 36) (.skip) (.exit 0))) (.seq (.block 1 (.seq r68_5 (.seq r68_6 (.cond (.tmp 50) r68_7 (.skip))))) r68_8))) [.blk 0]
    [(0,.list 9 .dead (cs.map clsRow)),(1,.int .i64 i),(2,.arr m 0 1 cs.length),(7,.int .i64 0)] ⟨hp H m (.cells (bsRow b1)) [],rw1⟩:=by
  intro b1 rw1 hb1 hR1 hfin
  refine at_loop hm (fun mm e S' => ∃ (q : Nat) (rw3 : List Nat),S' = ⟨hp H m (.cells (bsRow (setAll b1 ((c.above.take q).map (pl cs))))) [],rw3⟩ ∧ q ≤ c.above.length ∧ Rx rw rw3 ∧ mm = c.above.length - q ∧ e = [(0,.list 9 .dead (cs.map clsRow)),(1,.int .i64 i),(2,.arr m 0 1 cs.length),(7,.int .i64 q)]) ?_ (m:=c.above.length) ⟨0,rw1,rfl,by omega,hR1,rfl,rfl⟩
  clear hR
  rintro mm e S' ⟨q,rw3,rfl,hq0,hR,rfl,rfl⟩
  have hbq:=setAll_len ((c.above.take q).map (pl cs)) b1
  have hla : (c.above.map nmRow).length = c.above.length:=List.length_map _
  by_cases hq1 : q < c.above.length
  ·obtain ⟨a,ha⟩ : ∃ a,c.above[q]? = some a:=⟨_,List.getElem?_eq_getElem hq1⟩
   have har : (c.above.map nmRow)[q]? = some (nmRow a):=by rw [List.getElem?_map,ha]; rfl
   have hl6 : lst 1 (c.above.map nmRow) = .list 1 .dead (c.above.map nmRow):=lst_of_lt (i:=q) (by omega)
   obtain ⟨k,d,hpk,hdk,-⟩:=habv a (List.mem_of_getElem? ha)
   have hkl:=(List.getElem?_eq_some_iff.1 hdk).1
   have hxk:=hxa a
   simp only [placeI,hpk] at hxk
   have hpl : pl cs a = k:=by rw [pl,hpk]; rfl
   have hcr2 : (cs.map clsRow)[i]? = some [.str c.name,.bool c.iface,.str c.super,.list 1 .dead (c.above.map nmRow),lst 9 (c.fields.map fldRow),lst 5 (exRows c.invs),lst 5 (c.ctors.map ctrRow),lst 11 (c.meths.map mthRow),.int .i64 c.at_]:=by rw [← hl6]; exact hcr
   clear hcr
   refine' stH
   refine g_ixa rfl rfl rfl ?_
   refine i_arr (j:=k) rfl hkl ?_
   refine g_store rfl rfl rfl ?_
   refine s_nO hlt ⟨rfl,rfl⟩ rfl (by rw [bs_len,setAll_len]; omega) rfl (bs_set _ k) ?_
   refine zrk6 ?_
   refine' stH
   refine ⟨c.above.length - (q + 1),by omega,q + 1,rwt,?_,by omega,hR,rfl,rfl⟩
   rw [take_snoc ha,List.map_append,setAll_append,List.map_cons,List.map_nil,hpl,setAll_one]
  ·refine' stH
   rw [show q = c.above.length by omega,List.take_length,hfin]
   exact fin_none' (hp_take hlt) ⟨rw3,hR,rfl,rfl⟩
 by_cases hs : c.super = []
 ·have hp0 : place cs c.super = none:=by rw [hs]; exact place_nil hok
  simp only [placeI,hp0] at hx1
  refine' stH
  refine key bs rwt hbl hR ?_
  rw [hnx,nxtC,if_pos hs,List.nil_append]
  rfl
 ·obtain ⟨k,d,hpk,hdk,-⟩:=hsup hs
  simp only [placeI,hpk] at hx1
  have hkl:=(List.getElem?_eq_some_iff.1 hdk).1
  refine' stH
  refine g_ixa rfl rfl rfl ?_
  refine i_arr (j:=k) rfl hkl ?_
  refine g_store rfl rfl rfl ?_
  refine s_nO hlt ⟨rfl,rfl⟩ rfl (by rw [bs_len]; omega) rfl (bs_set bs k) ?_
  refine zrk6 ?_
  refine' stH
  refine key (bs.set k true) rwt (by rw [List.length_set]; exact hbl) hR ?_
  rw [hnx,nxtC,if_neg hs,hpk]
  rfl
end Go.Proofs.YtmeakjgbjldkdaaGreat.Ai
namespace Go.Proofs.YtmeakjgbjldkdaaGreat.Ai
open Go
variable {pr : Prims} {F : Nat → Option IFn}
open Classical in
noncomputable def upB (cs : List Cls) (i : Nat) : List Bool:=(List.range cs.length).map fun k => decide (Up cs i k)
theorem upB_len (cs : List Cls) (i : Nat) : (upB cs i).length = cs.length:=by simp [upB]
theorem upB_get {cs : List Cls} {i k : Nat} (hk : k < cs.length) : (upB cs i)[k]? = some true ↔ Up cs i k:=by
 simp [upB,hk]
theorem upB_eq {cs : List Cls} {i : Nat} {bs : List Bool} (hl : bs.length = cs.length) (h : ∀ k,bs[k]? = some true ↔ Up cs i k) : bs = upB cs i:=by
 apply List.ext_getElem?
 intro k
 by_cases hk : k < cs.length
 ·have h1:=h k
  have h2:=upB_get (cs:=cs) (i:=i) hk
  obtain ⟨x,hx⟩ : ∃ x,bs[k]? = some x:=⟨_,List.getElem?_eq_getElem (by omega)⟩
  obtain ⟨y,hy⟩ : ∃ y,(upB cs i)[k]? = some y:=⟨_,List.getElem?_eq_getElem (by rw [upB_len]; exact hk)⟩
  rw [hx] at h1 ⊢
  rw [hy] at h2 ⊢
  cases x <;> cases y <;> simp_all
 ·rw [List.getElem?_eq_none (by omega),List.getElem?_eq_none (by rw [upB_len]; omega)]
def boolRows (bs : List Bool) : List (List AV):=bs.map fun b => [AV.bool b]
theorem tx_aboveR (L : LibG pr F) {cs : List Cls} (hfew : cs.length ≤ 6000) (hli : Linked cs) (hok : ∀ c ∈ cs,okCls c) (hwt : wL wCls cs ≤ 42000000) {i : Nat} (hi : i < cs.length) :
  TxOk pr F 33 [lst 9 (cs.map clsRow),.int .i64 i] (.list 1 .dead (boolRows (upB cs i))):=by
 have hm:=L.hm
 have hlm : (cs.map clsRow).length = cs.length:=List.length_map _
 have hl5 : lst 9 (cs.map clsRow) = .list 9 .dead (cs.map clsRow):=lst_of_lt (i:=i) (by omega)
 refine TxOk.of0 hm L.f33.1 L.f33.2 rfl ?_
 intro H rw b hlt
 have hR : Rx rw rw:=Rx.rfl
 rw [hl5]
 refine' stH
 refine id_mkS ?_
 refine g_mkS (q:=0) hlt rfl rfl rfl ⟨by simp only [maxRow]; omega,by simp only [maxRow]; omega,rfl⟩ rfl rfl ?_
 rw [bsRow_rep,hlm,List.nil_append]
 refine zrk6 ?_
 refine' stH
 have hown : ∀ bs : List Bool,(hp H 0 b [.cells (bsRow bs)])[H.length + 0]? = some (.cells (bsRow bs)):=fun bs => hp_own hlt 0
 have hset : ∀ bs bs' : List Bool,(hp H 0 b [.cells (bsRow bs)]).set (H.length + 0) (.cells (bsRow bs')) = hp H 0 b [.cells (bsRow bs')]:=fun bs bs' => hp_set_own hlt 0
 obtain ⟨rw1,hR1,hd1⟩:=det_right L (rw:=rw) hfew hli hok hwt (List.length_replicate) rfl (hown (List.replicate cs.length false)) hi
 rw [hl5,hset] at hd1
 refine g_call rfl rfl rfl ?_
 refine c_det hd1 ?_
 clear hd1
 refine zrk6 ?_
 refine' stH
 refine at_loop hm (fun mm e S' => ∃ (n : Nat) (bs : List Bool) (rw3 : List Nat),S' = ⟨hp H 0 b [.cells (bsRow bs)],rw3⟩ ∧ n ≤ cs.length ∧ Rnds cs i bs n ∧ Rx rw rw3 ∧ mm = cs.length - n ∧ e = [(0,.list 9 .dead (cs.map clsRow)),(5,.arr (H.length + 0) 0 1 cs.length),(6,.int .i64 n)]) ?_ (m:=cs.length) ⟨0,_,rw1,rfl,by omega,Rnds.start hli i,hR1,rfl,rfl⟩
 clear hR hR1
 rintro mm e S' ⟨n,b0,rw3,rfl,hn0,hrn,hR,rfl,rfl⟩
 by_cases hn1 : n < cs.length
 ·refine' stH
  refine at_loop hm (fun mm e S' => ∃ (q : Nat) (bs : List Bool) (rw4 : List Nat),S' = ⟨hp H 0 b [.cells (bsRow bs)],rw4⟩ ∧ q ≤ cs.length ∧ Rnd cs i b0 bs q ∧ Rx rw rw4 ∧ mm = cs.length - q ∧ e = [(0,.list 9 .dead (cs.map clsRow)),(5,.arr (H.length + 0) 0 1 cs.length),(6,.int .i64 n),(7,.int .i64 q)]) ?_ (m:=cs.length) ⟨0,b0,rw3,rfl,by omega,hrn.round,hR,rfl,rfl⟩
  clear hR
  rintro mm e S' ⟨q,bs,rw4,rfl,hq0,hrd,hR,rfl,rfl⟩
  have hbl:=hrd.len
  by_cases hq1 : q < cs.length
  ·obtain ⟨bk,hbk⟩ : ∃ bk,bs[q]? = some bk:=⟨_,List.getElem?_eq_getElem (by omega)⟩
   have hbr : (bsRow bs)[0 + q * 1]? = some (.bool bk):=by rw [Nat.zero_add,Nat.mul_one,bsRow,List.getElem?_map,hbk]; rfl
   refine' stH
   refine g_ixa rfl rfl rfl ?_
   refine i_arr (j:=q) rfl hq1 ?_
   refine g_load rfl rfl ?_
   refine zlo0 (cs:=bsRow bs) (u:=.bool bk) ?_ hlt rfl hbr
   cases bk with
   | true =>
    obtain ⟨rw5,hR5,hd5⟩:=det_right L (rw:=rw4) hfew hli hok hwt hbl rfl (hown bs) hq1
    rw [hl5,hset] at hd5
    refine' stH
    exact ⟨cs.length - (q + 1),by omega,q + 1,_,rw5,rfl,by omega,hrd.step hli hbk,hR.trans hR5,rfl,rfl⟩
   | false =>
    refine' stH
    exact ⟨cs.length - (q + 1),by omega,q + 1,_,rw4,rfl,by omega,hrd.skip hbk,hR,rfl,rfl⟩
  ·refine' stH
   rw [show q = cs.length by omega] at hrd
   exact ⟨cs.length - (n + 1),by omega,n + 1,_,rw4,rfl,by omega,hrn.next hrd,hR,rfl,rfl⟩
 ·refine' stH
  rw [show n = cs.length by omega] at hrn
  exact fin_bools hlt rfl rfl hrn.len.symm ⟨rw3,hR,by rw [upB_eq hrn.len (hrn.done hli)]; rfl,rfl⟩
end Go.Proofs.YtmeakjgbjldkdaaGreat.Ai
