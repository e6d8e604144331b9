/- A part of what is proved: L2, R1, R2, R3, R4, R5, R6, R7. No condition. -/
import Derived.Test.YtmeakjgbjldkdaaGreatVa7
import Derived.Test.YtmeakjgbjldkdaaGreatProg
import Derived.KernelRfl
set_option maxRecDepth 100000
set_option maxHeartbeats 16000000
namespace Go.Proofs.YtmeakjgbjldkdaaGreat.Ai
open Go
def r192_0 : IC:=.region [[(Qz 0),(.str []),(.bool false),(.list 0 .full []),(.list 0 .full []),(Qz 0)]] [Qq 0 2 (.alloc 0 [(Qz 0),(.str []),(.bool false),(.list 0 .full []),(.list 0 .full []),(Qz 0)])] [0,2]
def r192_1 : IC:=.region [[(Qz 0),(.str []),(.bool false),(.list 0 .full []),(.list 0 .full []),(Qz 0)]] [Qm 0 5 0,Qc 1 6 134 [(.tmp 5)] [],Qq 2 7 (.build [(Qz 0),(.str []),(.bool false),(.list 0 .full []),(.list 0 .full []),(Qz 0)] [(5,1,(.tmp 6))]),Qq 3 3 (.alloc 0 [(Qz 0),(.str []),(.bool false),(.list 0 .full []),(.list 0 .full []),(Qz 0)]),Qs 4 6 3 7 []] [0,2,3]
def r192_2 : IC:=.region [] [Qm 0 8 0,Qc 1 9 140 [(.tmp 8)] []] [0,2,3,9]
def r192_3 : IC:=.region [] [Qm 0 10 0,Qc 1 11 136 [(.tmp 10),(.const (.str [105,110,116]))] []] [0,2,3,11]
def r192_4 : IC:=.region [] [Qf 0 12 0 3,Qw 1 (.store 1 (.tmp 12) (.const (Qz 1))) []] [0,2,3]
def r192_5 : IC:=.region [] [Qm 0 13 0,Qc 1 14 136 [(.tmp 13),(.const (.str [98,111,111,108]))] []] [0,2,3,14]
def r192_6 : IC:=.region [] [Qf 0 15 0 3,Qw 1 (.store 1 (.tmp 15) (.const (Qz 2))) []] [0,2,3]
def r192_7 : IC:=.region [] [Qf 0 16 0 3,Qw 1 (.store 1 (.tmp 16) (.const (Qz 3))) []] [0,2,3]
def r192_8 : IC:=.region [] [Qm 0 17 0,Qc 1 18 135 [(.tmp 17)] [],Qf 2 19 1 3,Qs 3 1 19 18 []] [0,2,3]
def r192_9 : IC:=.region [] [Qm 0 20 0,Qc 1 21 136 [(.tmp 20),(.const (.str [63]))] [],Qf 2 22 2 3,Qs 3 1 22 21 []] [0,2,3]
def r192_10 : IC:=.region [] [Qm 0 23 0,Qc 1 24 227 [(.tmp 23)] [],Qf 2 25 4 3,Qs 3 1 25 24 []] [0,2,3]
def r192_11 : IC:=.region [] [Qm 0 26 0,Qc 1 27 90 [(.tmp 26),(.const (Qz 0)),(.const (.str [91]))] []] [0,2,3,27]
def r192_12 : IC:=.region [[(Qz 0),(.str []),(.bool false),(.list 0 .full []),(.list 0 .full []),(Qz 0)]] [Qe 0 28 6 3,Qq 1 29 (.mkList 6 [(.tmp 28)]),Qm 2 30 0,Qq 5 4 (.alloc 0 [(Qz 0),(.str []),(.bool false),(.list 0 .full []),(.list 0 .full []),(Qz 0)]),Qc 3 31 134 [(.tmp 30)] [0,5],Qq 4 32 (.build [(Qz 0),(.str []),(.bool false),(.list 0 .full []),(.list 0 .full []),(Qz 0)] [(0,1,(.const (Qz 4))),(3,1,(.tmp 29)),(5,1,(.tmp 31))]),Qs 6 6 4 32 []] [0,2,3,4]
def r192_13 : IC:=.region [] [Qm 0 33 0,Qq 1 34 (.nilCheck (.tmp 33)),Qf 2 35 1 34,Qd 3 36 35,Qv 4 37 .add 36 (Qz 1),Qq 5 38 (.nilCheck (.tmp 33)),Qf 6 39 1 38,Qs 7 1 39 37 []] [0,2,3,4]
def r192_14 : IC:=.region [] [Qm 0 40 0,Qc 1 41 93 [(.tmp 40),(.const (.str [93]))] []] [0,2,3,4]
def r192_15 : IC:=.region [] [Qm 0 42 0,Qc 1 43 136 [(.tmp 42),(.const (.str [63]))] [],Qf 2 44 2 4,Qs 3 1 44 43 []] [0,2,3,4]
def r192_16 : IC:=.region [] [Qm 0 45 0,Qc 1 46 227 [(.tmp 45)] [],Qf 2 47 4 4,Qs 3 1 47 46 []] [0,2,3,4]
def r192_17 : IC:=.region [] [Qe 0 48 6 4,Qs 1 6 3 48 []] [0,2,3]
def r192_18 : IC:=.region [] [Qm 0 49 0,Qq 1 50 (.nilCheck (.tmp 49)),Qf 2 51 3 50,Qd 3 52 51,Qv 4 53 .sub 52 (Qz 1),Qq 5 54 (.nilCheck (.tmp 49)),Qf 6 55 3 54,Qs 7 1 55 53 []] [2,3]
def r192_19 : IC:=.region [] [Qe 0 56 6 3,Qs 1 6 2 56 []] [2]
noncomputable def i192 : IFn:=⟨1,(.seq r192_0 (.seq r192_1 (.seq (.seq r192_2 (.cond (.tmp 9) (.seq (.seq r192_3 (.cond (.tmp 11) r192_4 (.seq r192_5 (.cond (.tmp 14) r192_6 (.seq r192_7 (.seq r192_8 r192_9)))))) (.seq r192_10 (.block 0 (.loop [0,2,3] (.seq (.seq r192_11 (.cond (.tmp 27) (.skip) (.exit 0))) (.block 1 (.seq r192_12 (.seq r192_13 (.seq r192_14 (.seq r192_15 (.seq r192_16 r192_17))))))))))) (.skip))) (.seq r192_18 (.seq r192_19 .ret))))),[.cell 2 (some 6)]⟩
theorem c192 : chkFn Tryz.prog Tryz.f192 i192 = true:=by kernel_rfl
def r193_0 : IC:=.region [[(.str []),(.str []),(.list 0 .full []),(.list 0 .full []),(Qz 0)]] [Qq 0 2 (.alloc 0 [(.str []),(.str []),(.list 0 .full []),(.list 0 .full []),(Qz 0)])] [0,2]
def r193_1 : IC:=.region [[(.str []),(.str []),(.list 0 .full []),(.list 0 .full []),(Qz 0)]] [Qq 0 3 (.alloc 0 [(.str []),(.str []),(.list 0 .full []),(.list 0 .full []),(Qz 0)])] [0,2,3]
def r193_2 : IC:=.region [] [Qm 0 4 0,Qc 1 5 140 [(.tmp 4)] []] [0,2,3,5]
def r193_3 : IC:=.region [] [Qm 0 6 0,Qc 1 7 228 [(.tmp 6),(.const (Qz 0))] [],Qs 2 5 3 7 []] [0,2,3]
def r193_4 : IC:=.region [] [Qm 0 8 0,Qq 1 9 (.nilCheck (.tmp 8)),Qf 2 10 3 9,Qd 3 11 10,Qv 4 12 .sub 11 (Qz 1),Qq 5 13 (.nilCheck (.tmp 8)),Qf 6 14 3 13,Qs 7 1 14 12 []] [2,3]
def r193_5 : IC:=.region [] [Qe 0 15 5 3,Qs 1 5 2 15 []] [2]
noncomputable def i193 : IFn:=⟨1,(.seq r193_0 (.seq r193_1 (.seq (.seq r193_2 (.cond (.tmp 5) r193_3 (.skip))) (.seq r193_4 (.seq r193_5 .ret))))),[.cell 2 (some 5)]⟩
theorem c193 : chkFn Tryz.prog Tryz.f193 i193 = true:=by kernel_rfl
def r195_0 : IC:=.region [] [Qk 0 2 (.list 0 .full [])] [0]
def r195_1 : IC:=.region [] [Qk 0 3 (.list 0 .full [])] [0,3]
def r195_2 : IC:=.region [] [Qm 0 4 0,Qc 1 5 136 [(.tmp 4),(.const (.str [41]))] []] [0,3,5]
def r195_3 : IC:=.region [] [Qk 0 2 (.list 0 .full [])] [2]
def r195_4 : IC:=.region [] [Qm 0 6 0,Qq 1 7 (.nilCheck (.tmp 6)),Qf 2 8 4 7,Qd 3 9 8,Qv 4 10 .eql 9 (Qz 0)] [0,3,10]
def r195_5 : IC:=.region [] [Qm 0 11 3,Qm 1 12 0,Qc 2 13 193 [(.tmp 12)] [],Qq 3 14 (.mkList 5 [(.tmp 13)]),Ql 4 15 (.append 5 88 (.tmp 11) (.tmp 14)) [],Qm 5 3 15] [0,3]
def r195_6 : IC:=.region [] [Qm 0 16 0,Qc 1 17 136 [(.tmp 16),(.const (.str [41]))] []] [0,3,17]
def r195_7 : IC:=.region [] [Qm 0 18 3,Qm 1 2 18] [2]
def r195_8 : IC:=.region [] [Qm 0 19 0,Qc 1 20 93 [(.tmp 19),(.const (.str [44]))] []] [0,3]
def r195_9 : IC:=.region [] [Qm 0 21 3,Qm 1 2 21] [2]
noncomputable def i195 : IFn:=⟨1,(.seq r195_0 (.seq r195_1 (.seq (.seq r195_2 (.cond (.tmp 5) (.seq r195_3 .ret) (.skip))) (.seq (.block 0 (.loop [0,3] (.seq (.seq r195_4 (.cond (.tmp 10) (.skip) (.exit 0))) (.block 1 (.seq r195_5 (.seq (.seq r195_6 (.cond (.tmp 17) (.seq r195_7 .ret) (.skip))) r195_8)))))) (.seq r195_9 .ret))))),[.tmp 2]⟩
theorem c195 : chkFn Tryz.prog Tryz.f195 i195 = true:=by kernel_rfl
def r201_0 : IC:=.region [] [Qk 0 2 (Qz 0)] [0]
def r201_1 : IC:=.region [] [Qm 0 3 0] [3]
def r201_2 : IC:=.region [] [Qv 0 5 .eql 3 (.str [61,62]),Qm 1 4 5] [3,4]
def r201_3 : IC:=.region [] [Qk 0 2 (Qz 0)] [2]
def r201_4 : IC:=.region [] [Qv 0 7 .eql 3 (.str [124,124]),Qm 1 6 7] [3,6]
def r201_5 : IC:=.region [] [Qk 0 2 (Qz 1)] [2]
def r201_6 : IC:=.region [] [Qv 0 9 .eql 3 (.str [38,38]),Qm 1 8 9] [3,8]
def r201_7 : IC:=.region [] [Qk 0 2 (Qz 2)] [2]
def r201_8 : IC:=.region [] [Qv 0 11 .eql 3 (.str [61,61]),Qm 1 10 11] [3,10]
def r201_9 : IC:=.region [] [Qv 0 12 .eql 3 (.str [33,61]),Qm 1 10 12] [3,10]
def r201_10 : IC:=.region [] [Qv 0 13 .eql 3 (.str [60]),Qm 1 10 13] [3,10]
def r201_11 : IC:=.region [] [Qv 0 14 .eql 3 (.str [60,61]),Qm 1 10 14] [3,10]
def r201_12 : IC:=.region [] [Qv 0 15 .eql 3 (.str [62]),Qm 1 10 15] [3,10]
def r201_13 : IC:=.region [] [Qv 0 16 .eql 3 (.str [62,61]),Qm 1 10 16] [3,10]
def r201_14 : IC:=.region [] [Qk 0 2 (Qz 3)] [2]
def r201_15 : IC:=.region [] [Qv 0 18 .eql 3 (.str [43]),Qm 1 17 18] [3,17]
def r201_16 : IC:=.region [] [Qv 0 19 .eql 3 (.str [45]),Qm 1 17 19] [3,17]
def r201_17 : IC:=.region [] [Qk 0 2 (Qz 4)] [2]
def r201_18 : IC:=.region [] [Qv 0 21 .eql 3 (.str [42]),Qm 1 20 21] [3,20]
def r201_19 : IC:=.region [] [Qv 0 22 .eql 3 (.str [47]),Qm 1 20 22] [3,20]
def r201_20 : IC:=.region [] [Qv 0 23 .eql 3 (.str [37]),Qm 1 20 23] [20]
def r201_21 : IC:=.region [] [Qk 0 2 (Qz 5)] [2]
def r201_22 : IC:=.region [] [Qk 0 2 (Qz (-1))] [2]
noncomputable def i201 : IFn:=⟨1,(.seq r201_0 (.seq (.seq r201_1 (.block 0 (.seq r201_2 (.cond (.tmp 4) (.seq r201_3 .ret) (.seq r201_4 (.cond (.tmp 6) (.seq r201_5 .ret) (.seq r201_6 (.cond (.tmp 8) (.seq r201_7 .ret) (.seq (.seq r201_8 (.cond (.tmp 10) (.skip) (.seq r201_9 (.cond (.tmp 10) (.skip) (.seq r201_10 (.cond (.tmp 10) (.skip) (.seq r201_11 (.cond (.tmp 10) (.skip) (.seq r201_12 (.cond (.tmp 10) (.skip) r201_13)))))))))) (.cond (.tmp 10) (.seq r201_14 .ret) (.seq (.seq r201_15 (.cond (.tmp 17) (.skip) r201_16)) (.cond (.tmp 17) (.seq r201_17 .ret) (.seq (.seq r201_18 (.cond (.tmp 20) (.skip) (.seq r201_19 (.cond (.tmp 20) (.skip) r201_20)))) (.cond (.tmp 20) (.seq r201_21 .ret) (.skip))))))))))))))) (.seq r201_22 .ret))),[.tmp 2]⟩
theorem c201 : chkFn Tryz.prog Tryz.f201 i201 = true:=by kernel_rfl
def r227_0 : IC:=.region [] [Qk 0 2 (.list 0 .full [])] [0]
def r227_1 : IC:=.region [] [Qm 0 4 0,Qc 1 5 90 [(.tmp 4),(.const (Qz 0)),(.const (.str [123]))] [],Qu 2 6 5,Qm 3 7 6,Qmg 4 8 7 false 0,Qcg 5 9 7 false 90 [(.tmp 8),(.const (Qz 1)),(.const (.str [118]))] [],Qug 6 10 7 false 9,Qo 7 11 7 10,Qm 8 12 11,Qmg 9 13 12 false 0,Qcg 10 14 12 false 90 [(.tmp 13),(.const (Qz 2)),(.const (.str [124]))] [],Qug 11 15 12 false 14,Qo 12 16 12 15] [0,16]
def r227_2 : IC:=.region [] [Qk 0 2 (.list 0 .full [])] [2]
def r227_3 : IC:=.region [] [Qm 0 17 0,Qm 1 18 0,Qq 2 19 (.nilCheck (.tmp 18)),Qf 3 20 1 19,Qd 4 21 20,Qv 5 22 .add 21 (Qz 3),Qq 6 23 (.nilCheck (.tmp 17)),Qf 7 24 1 23,Qs 8 1 24 22 []] [0]
def r227_4 : IC:=.region [[(.str []),(.str []),(.list 0 .full []),(.list 0 .full []),(Qz 0)]] [Qm 0 25 0,Qc 1 26 193 [(.tmp 25)] [],Qq 2 3 (.alloc 0 [(.str []),(.str []),(.list 0 .full []),(.list 0 .full []),(Qz 0)]),Qs 3 5 3 26 []] [0,3]
def r227_5 : IC:=.region [] [Qm 0 27 0,Qc 1 28 93 [(.tmp 27),(.const (.str [125]))] []] [3]
def r227_6 : IC:=.region [] [Qe 0 29 5 3,Qq 1 30 (.mkList 5 [(.tmp 29)]),Qm 2 2 30] [2]
noncomputable def i227 : IFn:=⟨1,(.seq r227_0 (.seq (.seq r227_1 (.cond (.tmp 16) (.seq r227_2 .ret) (.skip))) (.seq r227_3 (.seq r227_4 (.seq r227_5 (.seq r227_6 .ret)))))),[.tmp 2]⟩
theorem c227 : chkFn Tryz.prog Tryz.f227 i227 = true:=by kernel_rfl
def r228_0 : IC:=.region [[(.str []),(.str []),(.list 0 .full []),(.list 0 .full []),(Qz 0)]] [Qq 0 4 (.alloc 0 [(.str []),(.str []),(.list 0 .full []),(.list 0 .full []),(Qz 0)])] [0,1,4]
def r228_1 : IC:=.region [] [Qm 0 11 1,Qv 1 12 .eql 11 (Qz 6)] [0,1,4,12]
def r228_2 : IC:=.region [] [Qm 0 13 0,Qc 1 14 244 [(.tmp 13)] [],Qs 2 5 4 14 []] [4]
def r228_3 : IC:=.region [] [Qm 0 15 0,Qm 1 16 1,Qv 2 17 .add 16 (Qz 1),Qc 3 18 228 [(.tmp 15),(.tmp 17)] [],Qq 4 19 (.mkList 5 [(.tmp 18)]),Qm 5 5 19] [0,1,4,5]
def r228_4 : IC:=.region [] [Qk 0 6 (.list 0 .full [])] [0,1,4,5,6]
def r228_5 : IC:=.region [] [Qm 0 20 0,Qm 1 21 1,Qc 2 22 245 [(.tmp 20),(.tmp 21)] [],Qv 3 23 .neq 22 (.str []),Qm 4 24 23,Qmg 5 25 24 true 1,Qvg 6 26 24 true .neq 25 (Qz 3),Qmg 7 27 24 true 26,Qmg 8 28 27 false 6,Qng 9 29 27 false 28,Qvg 10 30 27 false .eql 29 (Qz 0),Qog 11 31 24 true 27 30,Qa 12 32 24 31] [0,1,4,5,6,32]
def r228_6 : IC:=.region [] [Qm 0 33 6,Qm 1 34 0,Qm 2 35 1,Qc 3 36 245 [(.tmp 34),(.tmp 35)] [],Qm 4 37 0,Qc 5 38 134 [(.tmp 37)] [],Qq 6 39 (.build [(.str []),(.str []),(.list 0 .full []),(.list 0 .full []),(Qz 0)] [(0,1,(.tmp 36)),(4,1,(.tmp 38))]),Qq 7 40 (.mkList 5 [(.tmp 39)]),Ql 8 41 (.append 5 88 (.tmp 33) (.tmp 40)) [],Qm 9 6 41] [0,1,4,5,6]
def r228_7 : IC:=.region [] [Qm 0 42 0,Qq 1 43 (.nilCheck (.tmp 42)),Qf 2 44 1 43,Qd 3 45 44,Qv 4 46 .add 45 (Qz 1),Qq 5 47 (.nilCheck (.tmp 42)),Qf 6 48 1 47,Qs 7 1 48 46 []] [0,1,4,5,6]
def r228_8 : IC:=.region [] [Qm 0 49 5,Qm 1 50 0,Qm 2 51 1,Qv 3 52 .add 51 (Qz 1),Qc 4 53 228 [(.tmp 50),(.tmp 52)] [],Qq 5 54 (.mkList 5 [(.tmp 53)]),Ql 6 55 (.append 5 88 (.tmp 49) (.tmp 54)) [],Qm 7 5 55] [0,1,4,5,6]
def r228_9 : IC:=.region [] [Qm 0 56 1,Qv 1 57 .eql 56 (Qz 0)] [4,5,6,57]
def r228_10 : IC:=.region [[(.str []),(.str []),(.list 0 .full []),(.list 0 .full []),(Qz 0)]] [Qm 0 58 5,Qm 1 59 5,Qn 2 60 59,Qv 3 61 .sub 60 (Qz 1),Qi 4 62 5 58 61,Qe 5 63 5 62,Qq 6 7 (.alloc 0 [(.str []),(.str []),(.list 0 .full []),(.list 0 .full []),(Qz 0)]),Qs 7 5 7 63 []] [4,5,6,7]
def r228_11 : IC:=.region [] [Qm 0 64 6,Qn 1 65 64,Qv 2 66 .sub 65 (Qz 1),Qm 3 8 66] [4,5,6,7,8]
def r228_12 : IC:=.region [] [Qm 0 67 8,Qv 1 68 .geq 67 (Qz 0)] [4,5,6,7,8,68]
def r228_13 : IC:=.region [] [Qm 0 71 6,Qm 1 72 8,Qi 2 73 5 71 72,Qf 3 74 0 73,Qd 4 75 74,Qm 5 76 6,Qm 6 77 8,Qi 7 78 5 76 77,Qf 8 79 4 78,Qd 9 80 79,Qm 10 81 5,Qm 11 82 8,Qi 12 83 5 81 82,Qe 13 84 5 83,Qe 14 85 5 7,Qq 15 86 (.mkList 5 [(.tmp 84),(.tmp 85)]),Qq 16 87 (.build [(.str []),(.str []),(.list 0 .full []),(.list 0 .full []),(Qz 0)] [(0,1,(.tmp 75)),(4,1,(.tmp 80)),(2,1,(.tmp 86))]),Qs 17 5 7 87 []] [4,5,6,7,8]
def r228_14 : IC:=.region [] [Qm 0 69 8,Qv 1 70 .sub 69 (Qz 1),Qm 2 8 70] [4,5,6,7,8]
def r228_15 : IC:=.region [] [Qe 0 88 5 7,Qs 1 5 4 88 []] [4]
def r228_16 : IC:=.region [[(.str []),(.str []),(.list 0 .full []),(.list 0 .full []),(Qz 0)]] [Qm 0 89 5,Qq 1 90 (.indexAddr 5 (.tmp 89) (.const (Qz 0))),Qe 2 91 5 90,Qq 3 9 (.alloc 0 [(.str []),(.str []),(.list 0 .full []),(.list 0 .full []),(Qz 0)]),Qs 4 5 9 91 []] [4,5,6,9]
def r228_17 : IC:=.region [] [Qk 0 10 (Qz 0)] [4,5,6,9,10]
def r228_18 : IC:=.region [] [Qm 0 92 10,Qm 1 93 6,Qn 2 94 93,Qb 3 95 .lss 92 94] [4,5,6,9,10,95]
def r228_19 : IC:=.region [] [Qm 0 98 6,Qm 1 99 10,Qi 2 100 5 98 99,Qf 3 101 0 100,Qd 4 102 101,Qm 5 103 6,Qm 6 104 10,Qi 7 105 5 103 104,Qf 8 106 4 105,Qd 9 107 106,Qe 10 108 5 9,Qm 11 109 5,Qm 12 110 10,Qv 13 111 .add 110 (Qz 1),Qi 14 112 5 109 111,Qe 15 113 5 112,Qq 16 114 (.mkList 5 [(.tmp 108),(.tmp 113)]),Qq 17 115 (.build [(.str []),(.str []),(.list 0 .full []),(.list 0 .full []),(Qz 0)] [(0,1,(.tmp 102)),(4,1,(.tmp 107)),(2,1,(.tmp 114))]),Qs 18 5 9 115 []] [4,5,6,9,10]
def r228_20 : IC:=.region [] [Qm 0 96 10,Qv 1 97 .add 96 (Qz 1),Qm 2 10 97] [4,5,6,9,10]
def r228_21 : IC:=.region [] [Qe 0 116 5 9,Qs 1 5 4 116 []] [4]
noncomputable def i228 : IFn:=⟨2,(.seq r228_0 (.seq (.seq r228_1 (.cond (.tmp 12) (.seq r228_2 .ret) (.skip))) (.seq r228_3 (.seq r228_4 (.seq (.block 0 (.loop [0,1,4,5,6] (.seq (.seq r228_5 (.cond (.tmp 32) (.skip) (.exit 0))) (.block 1 (.seq r228_6 (.seq r228_7 r228_8)))))) (.seq (.seq r228_9 (.cond (.tmp 57) (.seq r228_10 (.seq (.seq r228_11 (.block 2 (.loop [4,5,6,7,8] (.seq (.seq r228_12 (.cond (.tmp 68) (.skip) (.exit 2))) (.seq (.block 3 r228_13) r228_14))))) (.seq r228_15 .ret))) (.skip))) (.seq r228_16 (.seq (.seq r228_17 (.block 4 (.loop [4,5,6,9,10] (.seq (.seq r228_18 (.cond (.tmp 95) (.skip) (.exit 4))) (.seq (.block 5 r228_19) r228_20))))) (.seq r228_21 .ret))))))))),[.cell 4 (some 5)]⟩
theorem c228 : chkFn Tryz.prog Tryz.f228 i228 = true:=by kernel_rfl
def r244_0 : IC:=.region [[(.str []),(.str []),(.list 0 .full []),(.list 0 .full []),(Qz 0)]] [Qq 0 2 (.alloc 0 [(.str []),(.str []),(.list 0 .full []),(.list 0 .full []),(Qz 0)])] [0,2]
def r244_1 : IC:=.region [] [Qm 0 6 0,Qc 1 7 90 [(.tmp 6),(.const (Qz 0)),(.const (.str [45]))] [],Qm 2 8 7,Qmg 3 9 8 false 0,Qcg 4 10 8 false 90 [(.tmp 9),(.const (Qz 0)),(.const (.str [33]))] [],Qo 5 11 8 10] [0,2,11]
def r244_2 : IC:=.region [[(.str []),(.str []),(.list 0 .full []),(.list 0 .full []),(Qz 0)]] [Qm 0 12 0,Qc 1 13 134 [(.tmp 12)] [],Qq 2 14 (.build [(.str []),(.str []),(.list 0 .full []),(.list 0 .full []),(Qz 0)] [(0,1,(.const (.str [110,101,103]))),(4,1,(.tmp 13))]),Qq 3 3 (.alloc 0 [(.str []),(.str []),(.list 0 .full []),(.list 0 .full []),(Qz 0)]),Qs 4 5 3 14 []] [0,2,3]
def r244_3 : IC:=.region [] [Qm 0 15 0,Qc 1 16 90 [(.tmp 15),(.const (Qz 0)),(.const (.str [33]))] []] [0,2,3,16]
def r244_4 : IC:=.region [] [Qf 0 17 0 3,Qw 1 (.store 1 (.tmp 17) (.const (.str [110,111,116]))) []] [0,2,3]
def r244_5 : IC:=.region [] [Qm 0 18 0,Qq 1 19 (.nilCheck (.tmp 18)),Qf 2 20 1 19,Qd 3 21 20,Qv 4 22 .add 21 (Qz 1),Qq 5 23 (.nilCheck (.tmp 18)),Qf 6 24 1 23,Qs 7 1 24 22 []] [0,2,3]
def r244_6 : IC:=.region [] [Qm 0 25 0,Qc 1 26 140 [(.tmp 25)] []] [0,2,3,26]
def r244_7 : IC:=.region [] [Qm 0 27 0,Qc 1 28 244 [(.tmp 27)] [],Qq 2 29 (.mkList 5 [(.tmp 28)]),Qf 3 30 2 3,Qs 4 1 30 29 []] [0,2,3]
def r244_8 : IC:=.region [] [Qm 0 31 0,Qq 1 32 (.nilCheck (.tmp 31)),Qf 2 33 3 32,Qd 3 34 33,Qv 4 35 .sub 34 (Qz 1),Qq 5 36 (.nilCheck (.tmp 31)),Qf 6 37 3 36,Qs 7 1 37 35 []] [2,3]
def r244_9 : IC:=.region [] [Qe 0 38 5 3,Qs 1 5 2 38 []] [2]
def r244_10 : IC:=.region [[(.str []),(.str []),(.list 0 .full []),(.list 0 .full []),(Qz 0)]] [Qm 0 39 0,Qc 1 40 253 [(.tmp 39)] [],Qq 2 4 (.alloc 0 [(.str []),(.str []),(.list 0 .full []),(.list 0 .full []),(Qz 0)]),Qs 3 5 4 40 []] [0,2,4]
def r244_11 : IC:=.region [] [Qm 0 41 0,Qc 1 42 90 [(.tmp 41),(.const (Qz 0)),(.const (.str [46]))] [],Qm 2 43 42,Qmg 3 44 43 false 0,Qcg 4 45 43 false 90 [(.tmp 44),(.const (Qz 0)),(.const (.str [91]))] [],Qo 5 46 43 45] [0,2,4,46]
def r244_12 : IC:=.region [[(.str []),(.str []),(.list 0 .full []),(.list 0 .full []),(Qz 0)]] [Qm 0 47 0,Qc 1 48 134 [(.tmp 47)] [],Qq 2 49 (.build [(.str []),(.str []),(.list 0 .full []),(.list 0 .full []),(Qz 0)] [(0,1,(.const (.str [105,110,100,101,120]))),(4,1,(.tmp 48))]),Qq 3 5 (.alloc 0 [(.str []),(.str []),(.list 0 .full []),(.list 0 .full []),(Qz 0)]),Qs 4 5 5 49 []] [0,2,4,5]
def r244_13 : IC:=.region [] [Qm 0 50 0,Qc 1 51 136 [(.tmp 50),(.const (.str [91]))] []] [0,2,4,5,51]
def r244_14 : IC:=.region [] [Qe 0 52 5 4,Qm 1 53 0,Qc 2 54 193 [(.tmp 53)] [0],Qq 3 55 (.mkList 5 [(.tmp 52),(.tmp 54)]),Qf 4 56 2 5,Qs 5 1 56 55 []] [0,2,4,5]
def r244_15 : IC:=.region [] [Qm 0 57 0,Qc 1 58 93 [(.tmp 57),(.const (.str [93]))] []] [0,2,4,5]
def r244_16 : IC:=.region [] [Qe 0 59 5 5,Qs 1 5 4 59 []] [0,2,4]
def r244_17 : IC:=.region [] [Qm 0 60 0,Qq 1 61 (.nilCheck (.tmp 60)),Qf 2 62 1 61,Qd 3 63 62,Qv 4 64 .add 63 (Qz 1),Qq 5 65 (.nilCheck (.tmp 60)),Qf 6 66 1 65,Qs 7 1 66 64 []] [0,2,4,5]
def r244_18 : IC:=.region [] [Qm 0 67 0,Qc 1 68 134 [(.tmp 67)] [],Qq 2 69 (.build [(.str []),(.str []),(.list 0 .full []),(.list 0 .full []),(Qz 0)] [(0,1,(.const (.str [102,105,101,108,100]))),(4,1,(.tmp 68))]),Qs 3 5 5 69 []] [0,2,4,5]
def r244_19 : IC:=.region [] [Qm 0 70 0,Qc 1 71 135 [(.tmp 70)] [],Qf 2 72 1 5,Qs 3 1 72 71 []] [0,2,4,5]
def r244_20 : IC:=.region [] [Qe 0 73 5 4,Qq 1 74 (.mkList 5 [(.tmp 73)]),Qf 2 75 2 5,Qs 3 1 75 74 []] [0,2,4,5]
def r244_21 : IC:=.region [] [Qm 0 76 0,Qc 1 77 136 [(.tmp 76),(.const (.str [40]))] []] [0,2,4,5,77]
def r244_22 : IC:=.region [] [Qf 0 78 0 5,Qw 1 (.store 1 (.tmp 78) (.const (.str [99,97,108,108]))) []] [0,2,4,5]
def r244_23 : IC:=.region [] [Qf 0 79 2 5,Qd 1 80 79,Qm 2 81 0,Qc 3 82 195 [(.tmp 81)] [1],Ql 4 83 (.append 5 88 (.tmp 80) (.tmp 82)) [],Qf 5 84 2 5,Qs 6 1 84 83 []] [0,2,4,5]
def r244_24 : IC:=.region [] [Qe 0 85 5 5,Qs 1 5 4 85 []] [0,2,4]
def r244_25 : IC:=.region [] [Qe 0 86 5 4,Qs 1 5 2 86 []] [2]
noncomputable def i244 : IFn:=⟨1,(.seq r244_0 (.seq (.seq r244_1 (.cond (.tmp 11) (.seq r244_2 (.seq (.seq r244_3 (.cond (.tmp 16) r244_4 (.skip))) (.seq r244_5 (.seq (.seq r244_6 (.cond (.tmp 26) r244_7 (.skip))) (.seq r244_8 (.seq r244_9 .ret)))))) (.skip))) (.seq r244_10 (.seq (.block 0 (.loop [0,2,4] (.seq (.seq r244_11 (.cond (.tmp 46) (.skip) (.exit 0))) (.block 1 (.seq r244_12 (.seq (.seq r244_13 (.cond (.tmp 51) (.seq r244_14 (.seq r244_15 (.seq r244_16 (.exit 1)))) (.skip))) (.seq r244_17 (.seq r244_18 (.seq r244_19 (.seq r244_20 (.seq (.seq r244_21 (.cond (.tmp 77) (.seq r244_22 r244_23) (.skip))) r244_24))))))))))) (.seq r244_25 .ret))))),[.cell 2 (some 5)]⟩
theorem c244 : chkFn Tryz.prog Tryz.f244 i244 = true:=by kernel_rfl
def r245_0 : IC:=.region [] [Qk 0 4 (.str [])] [0,1]
def r245_1 : IC:=.region [] [Qm 0 5 0,Qq 1 6 (.nilCheck (.tmp 5)),Qf 2 7 4 6,Qd 3 8 7,Qv 4 9 .eql 8 (Qz 0),Qm 5 10 9,Qmg 6 11 10 true 0,Qqg 7 12 10 true (.nilCheck (.tmp 11)),Qfg 8 13 10 true 1 12,Qdg 9 14 10 true 13,Qmg 10 15 10 true 0,Qqg 11 16 10 true (.nilCheck (.tmp 15)),Qfg 12 17 10 true 0 16,Qdg 13 18 10 true 17,Qng 14 19 10 true 18,Qbg 15 20 10 true .lss 14 19,Qa 16 21 10 20,Qm 17 22 21,Qmg 18 23 22 true 0,Qqg 19 24 22 true (.nilCheck (.tmp 23)),Qfg 20 25 22 true 0 24,Qdg 21 26 22 true 25,Qmg 22 27 22 true 0,Qqg 23 28 22 true (.nilCheck (.tmp 27)),Qfg 24 29 22 true 1 28,Qdg 25 30 22 true 29,Qig 26 31 22 true 3 26 30,Qfg 27 32 22 true 1 31,Qdg 28 33 22 true 32,Qmg 30 35 22 true 1,Qcg 29 34 22 true 201 [(.tmp 33)] [],Qbg 31 36 22 true .eql 34 35,Qa 32 37 22 36] [0,37]
def r245_2 : IC:=.region [] [Qm 0 38 0,Qq 1 39 (.nilCheck (.tmp 38)),Qf 2 40 0 39,Qd 3 41 40,Qm 4 42 0,Qq 5 43 (.nilCheck (.tmp 42)),Qf 6 44 1 43,Qd 7 45 44,Qi 8 46 3 41 45,Qf 9 47 1 46,Qd 10 48 47,Qm 11 4 48] [4]
def r245_3 : IC:=.region [] [Qk 0 4 (.str [])] [4]
noncomputable def i245 : IFn:=⟨2,(.seq r245_0 (.seq (.seq r245_1 (.cond (.tmp 37) (.seq r245_2 .ret) (.skip))) (.seq r245_3 .ret))),[.tmp 4]⟩
theorem c245 : chkFn Tryz.prog Tryz.f245 i245 = true:=by kernel_rfl
def r253_0 : IC:=.region [[(.str []),(.str []),(.list 0 .full []),(.list 0 .full []),(Qz 0)]] [Qq 0 2 (.alloc 0 [(.str []),(.str []),(.list 0 .full []),(.list 0 .full []),(Qz 0)])] [0,2]
def r253_1 : IC:=.region [[(.str []),(.str []),(.list 0 .full []),(.list 0 .full []),(Qz 0)]] [Qm 0 6 0,Qc 1 7 134 [(.tmp 6)] [],Qq 2 8 (.build [(.str []),(.str []),(.list 0 .full []),(.list 0 .full []),(Qz 0)] [(4,1,(.tmp 7))]),Qq 3 3 (.alloc 0 [(.str []),(.str []),(.list 0 .full []),(.list 0 .full []),(Qz 0)]),Qs 4 5 3 8 []] [0,2,3]
def r253_2 : IC:=.region [] [Qm 0 9 0,Qq 1 10 (.nilCheck (.tmp 9)),Qf 2 11 4 10,Qd 3 12 11,Qv 4 13 .neq 12 (Qz 0),Qm 5 14 13,Qmg 6 15 14 false 0,Qqg 7 16 14 false (.nilCheck (.tmp 15)),Qfg 8 17 14 false 1 16,Qdg 9 18 14 false 17,Qmg 10 19 14 false 0,Qqg 11 20 14 false (.nilCheck (.tmp 19)),Qfg 12 21 14 false 0 20,Qdg 13 22 14 false 21,Qng 14 23 14 false 22,Qbg 15 24 14 false .geq 18 23,Qo 16 25 14 24] [0,2,3,25]
def r253_3 : IC:=.region [] [Qm 0 26 0,Qc 1 27 95 [(.tmp 26),(.const (Qz 110))] []] [2,3]
def r253_4 : IC:=.region [] [Qe 0 28 5 3,Qs 1 5 2 28 []] [2]
def r253_5 : IC:=.region [[(Qz 0),(.str []),(Qz 0)]] [Qm 0 29 0,Qq 1 30 (.nilCheck (.tmp 29)),Qf 2 31 0 30,Qd 3 32 31,Qm 4 33 0,Qq 5 34 (.nilCheck (.tmp 33)),Qf 6 35 1 34,Qd 7 36 35,Qi 8 37 3 32 36,Qe 9 38 3 37,Qq 10 4 (.alloc 0 [(Qz 0),(.str []),(Qz 0)]),Qs 11 3 4 38 []] [0,2,3,4]
def r253_6 : IC:=.region [] [Qm 0 39 0,Qq 1 40 (.nilCheck (.tmp 39)),Qf 2 41 1 40,Qd 3 42 41,Qv 4 43 .add 42 (Qz 1),Qq 5 44 (.nilCheck (.tmp 39)),Qf 6 45 1 44,Qs 7 1 45 43 []] [0,2,3,4]
def r253_7 : IC:=.region [] [Qf 0 58 0 4,Qd 1 59 58,Qv 2 60 .eql 59 (Qz 2),Qm 3 57 60] [0,2,3,4,57]
def r253_8 : IC:=.region [] [Qf 0 61 1 4,Qd 1 62 61,Qf 2 63 0 3,Qw 3 (.store 1 (.tmp 63) (.const (.str [110,117,109]))) [1],Qf 4 64 1 3,Qs 5 1 64 62 []] [2,3]
def r253_9 : IC:=.region [] [Qf 0 66 1 4,Qd 1 67 66,Qv 2 68 .eql 67 (.str [116,114,117,101]),Qm 3 69 68,Qfg 4 70 69 false 1 4,Qdg 5 71 69 false 70,Qvg 6 72 69 false .eql 71 (.str [102,97,108,115,101]),Qo 7 73 69 72,Qm 8 74 73,Qfg 9 75 74 false 1 4,Qdg 10 76 74 false 75,Qvg 11 77 74 false .eql 76 (.str [110,117,108,108]),Qo 12 78 74 77,Qm 13 79 78,Qfg 14 80 79 false 1 4,Qdg 15 81 79 false 80,Qvg 16 82 79 false .eql 81 (.str [116,104,105,115]),Qo 17 83 79 82,Qm 18 65 83] [0,2,3,4,65]
def r253_10 : IC:=.region [] [Qf 0 84 1 4,Qd 1 85 84,Qf 2 86 0 3,Qs 3 1 86 85 []] [2,3]
def r253_11 : IC:=.region [] [Qf 0 88 1 4,Qd 1 89 88,Qv 2 90 .eql 89 (.str [40]),Qm 3 87 90] [0,2,3,4,87]
def r253_12 : IC:=.region [] [Qm 0 91 0,Qc 1 92 193 [(.tmp 91)] [],Qs 2 5 3 92 []] [0,2,3]
def r253_13 : IC:=.region [] [Qm 0 93 0,Qc 1 94 93 [(.tmp 93),(.const (.str [41]))] []] [2,3]
def r253_14 : IC:=.region [] [Qf 0 96 1 4,Qd 1 97 96,Qv 2 98 .eql 97 (.str [110,101,119]),Qm 3 95 98] [0,2,3,4,95]
def r253_15 : IC:=.region [] [Qf 0 99 0 3,Qw 1 (.store 1 (.tmp 99) (.const (.str [110,101,119]))) []] [0,2,3]
def r253_16 : IC:=.region [] [Qm 0 100 0,Qc 1 101 135 [(.tmp 100)] [],Qf 2 102 1 3,Qs 3 1 102 101 []] [0,2,3]
def r253_17 : IC:=.region [] [Qm 0 103 0,Qc 1 104 93 [(.tmp 103),(.const (.str [40]))] []] [0,2,3]
def r253_18 : IC:=.region [] [Qm 0 105 0,Qc 1 106 195 [(.tmp 105)] [],Qf 2 107 2 3,Qs 3 1 107 106 []] [2,3]
def r253_19 : IC:=.region [] [Qf 0 109 1 4,Qd 1 110 109,Qv 2 111 .eql 110 (.str [108,105,115,116]),Qm 3 108 111] [0,2,3,4,108]
def r253_20 : IC:=.region [] [Qf 0 112 0 3,Qw 1 (.store 1 (.tmp 112) (.const (.str [108,105,115,116]))) []] [0,2,3]
def r253_21 : IC:=.region [] [Qm 0 113 0,Qc 1 114 192 [(.tmp 113)] [],Qq 2 115 (.mkList 6 [(.tmp 114)]),Qf 3 116 3 3,Qs 4 1 116 115 []] [0,2,3]
def r253_22 : IC:=.region [] [Qm 0 117 0,Qc 1 118 93 [(.tmp 117),(.const (.str [40]))] []] [0,2,3]
def r253_23 : IC:=.region [[(.str []),(.str []),(.list 0 .full []),(.list 0 .full []),(Qz 0)]] [Qm 0 119 0,Qc 1 120 193 [(.tmp 119)] [],Qq 2 5 (.alloc 0 [(.str []),(.str []),(.list 0 .full []),(.list 0 .full []),(Qz 0)]),Qs 3 5 5 120 []] [0,2,3,5]
def r253_24 : IC:=.region [] [Qm 0 121 0,Qc 1 122 93 [(.tmp 121),(.const (.str [44]))] []] [0,2,3,5]
def r253_25 : IC:=.region [] [Qe 0 123 5 5,Qm 1 124 0,Qc 2 125 193 [(.tmp 124)] [0],Qq 3 126 (.mkList 5 [(.tmp 123),(.tmp 125)]),Qf 4 127 2 3,Qs 5 1 127 126 []] [0,2,3]
def r253_26 : IC:=.region [] [Qm 0 128 0,Qc 1 129 93 [(.tmp 128),(.const (.str [41]))] []] [2,3]
def r253_27 : IC:=.region [] [Qf 0 131 1 4,Qd 1 132 131,Qv 2 133 .eql 132 (.str [108,101,110]),Qm 3 130 133] [0,2,3,4,130]
def r253_28 : IC:=.region [] [Qf 0 134 0 3,Qw 1 (.store 1 (.tmp 134) (.const (.str [108,101,110]))) []] [0,2,3]
def r253_29 : IC:=.region [] [Qm 0 135 0,Qc 1 136 93 [(.tmp 135),(.const (.str [40]))] []] [0,2,3]
def r253_30 : IC:=.region [] [Qm 0 137 0,Qc 1 138 193 [(.tmp 137)] [],Qq 2 139 (.mkList 5 [(.tmp 138)]),Qf 3 140 2 3,Qs 4 1 140 139 []] [0,2,3]
def r253_31 : IC:=.region [] [Qm 0 141 0,Qc 1 142 93 [(.tmp 141),(.const (.str [41]))] []] [2,3]
def r253_32 : IC:=.region [] [Qf 0 144 1 4,Qd 1 145 144,Qv 2 146 .eql 145 (.str [114,101,97,100]),Qm 3 143 146] [0,2,3,143]
def r253_33 : IC:=.region [] [Qf 0 147 0 3,Qw 1 (.store 1 (.tmp 147) (.const (.str [114,101,97,100]))) []] [0,2,3]
def r253_34 : IC:=.region [] [Qm 0 148 0,Qc 1 149 93 [(.tmp 148),(.const (.str [40]))] []] [0,2,3]
def r253_35 : IC:=.region [] [Qm 0 150 0,Qc 1 151 93 [(.tmp 150),(.const (.str [41]))] []] [2,3]
def r253_36 : IC:=.region [] [Qm 0 46 0,Qq 1 47 (.nilCheck (.tmp 46)),Qf 2 48 1 47,Qd 3 49 48,Qv 4 50 .sub 49 (Qz 1),Qq 5 51 (.nilCheck (.tmp 46)),Qf 6 52 1 51,Qs 7 1 52 50 []] [0,2,3]
def r253_37 : IC:=.region [] [Qf 0 53 0 3,Qw 1 (.store 1 (.tmp 53) (.const (.str [118,97,114]))) []] [0,2,3]
def r253_38 : IC:=.region [] [Qm 0 54 0,Qc 1 55 135 [(.tmp 54)] [],Qf 2 56 1 3,Qs 3 1 56 55 []] [2,3]
def r253_39 : IC:=.region [] [Qe 0 152 5 3,Qs 1 5 2 152 []] [2]
noncomputable def i253 : IFn:=⟨1,(.seq r253_0 (.seq r253_1 (.seq (.seq r253_2 (.cond (.tmp 25) (.seq r253_3 (.seq r253_4 .ret)) (.skip))) (.seq r253_5 (.seq r253_6 (.seq (.block 0 (.seq r253_7 (.cond (.tmp 57) r253_8 (.seq r253_9 (.cond (.tmp 65) r253_10 (.seq r253_11 (.cond (.tmp 87) (.seq r253_12 r253_13) (.seq r253_14 (.cond (.tmp 95) (.seq r253_15 (.seq r253_16 (.seq r253_17 r253_18))) (.seq r253_19 (.cond (.tmp 108) (.seq r253_20 (.seq r253_21 (.seq r253_22 (.seq r253_23 (.seq r253_24 (.seq r253_25 r253_26)))))) (.seq r253_27 (.cond (.tmp 130) (.seq r253_28 (.seq r253_29 (.seq r253_30 r253_31))) (.seq r253_32 (.cond (.tmp 143) (.seq r253_33 (.seq r253_34 r253_35)) (.seq r253_36 (.seq r253_37 r253_38))))))))))))))))) (.seq r253_39 .ret))))))),[.cell 2 (some 5)]⟩
theorem c253 : chkFn Tryz.prog Tryz.f253 i253 = true:=by kernel_rfl
end Go.Proofs.YtmeakjgbjldkdaaGreat.Ai
namespace Go.Proofs.YtmeakjgbjldkdaaGreat.Ai
open Go
variable {pr : Prims} {F : Nat → Option IFn}
structure Out (α : Type) where
 x : α
 r : Rd
 rw : List Nat
structure Nx (s : Src) (r r' : Rd) : Prop where
 lo : 0 ≤ r'.i
 hi : r'.i ≤ s.toks.length
 dlo : 0 ≤ r'.deep
 dhi : r'.deep ≤ 1000
 mono : r.i ≤ r'.i
 code : r'.code = 0 → r.code = 0
def RC (pr : Prims) (F : Nat → Option IFn) {α : Type} (enc : α → AV) (post : Src → Rd → α → Rd → Prop) (f : Nat) (args : List AV) (m : Int) : Prop:=
 ∀ (H : List Blk) (rw : List Nat) (n : Nat) (s : Src) (r : Rd) (M : List Blk),n < H.length → Rok s r → 101 ≤ r.deep + m → r.deep ≤ 200 →
  ∃ o : Out α,(Nx s r o.r ∧ Rx rw o.rw ∧ post s r o.x o.r) ∧ Det pr F f (.ptr n 0 :: args) ⟨hp H n (blk s r) M,rw⟩ (.ret (enc o.x)) ⟨hp H n (blk s o.r) M,o.rw⟩
theorem hp_hp {H : List Blk} {n : Nat} {b b' : Blk} {L : List Blk} : hp (hp H n b L) n b' [] = hp H n b' L:=by simp [hp]
theorem at_start_hp (hp_ : Mono pr) {f : Nat} {na : Nat} {c : IC} {res : List RVar} {vs : List AV} {H : List Blk} {rw : List Nat} {n : Nat} {b : Blk} {Q : Res → St → Prop} (h1 : pr f = none) (h2 : F f = some ⟨na,c,res⟩) (h3 : vs.length = na) (hn : H = hp H n b [])
  (h : At pr F H.length (fin res H.length Q) c [] (args0 vs) ⟨hp H n b [],rw⟩) : Wp pr F f vs ⟨H,rw⟩ Q:=by
 refine at_start hp_ h1 h2 h3 ?_
 rw [← hn] at h
 exact h
def REnd {α : Type} (enc : α → AV) (post : Src → Rd → α → Rd → Prop) (H : List Blk) (n : Nat) (s : Src) (r : Rd) (rw : List Nat) (q : Res) (S' : St) : Prop:=
 ∃ o : Out α,(Nx s r o.r ∧ Rx rw o.rw ∧ post s r o.x o.r) ∧ q = .ret (enc o.x) ∧ S' = ⟨hp H n (blk s o.r) [],o.rw⟩
theorem rend {α : Type} {enc : α → AV} {post : Src → Rd → α → Rd → Prop} {H : List Blk} {n : Nat} {s : Src} {r r' : Rd} {rw rw' : List Nat} {v : AV} (x : α) (hR : Rx rw rw') (hx : v = enc x) (hn : Nx s r r') (hp' : post s r x r') : REnd enc post H n s r rw (.ret v) ⟨hp H n (blk s r') [],rw'⟩:=
 ⟨⟨x,r',rw'⟩,⟨hn,hR,hp'⟩,by rw [hx],rfl⟩
theorem rc_start (hm : Mono pr) {α : Type} {enc : α → AV} {post : Src → Rd → α → Rd → Prop} {f na : Nat} {c : IC} {res : List RVar} {args : List AV} {m : Int} (h1 : pr f = none) (h2 : F f = some ⟨na,c,res⟩) (h3 : args.length + 1 = na)
  (h : ∀ (H : List Blk) (rw : List Nat) (n : Nat) (s : Src) (r : Rd),n < H.length → s.toks.length ≤ 6000 → Rok s r → 0 ≤ r.i → r.i ≤ s.toks.length → 0 ≤ r.deep → r.deep ≤ 200 → 101 ≤ r.deep + m →
   At pr F H.length (fin res H.length (REnd enc post H n s r rw)) c [] (args0 (.ptr n 0 :: args)) ⟨hp H n (blk s r) [],rw⟩) : RC pr F enc post f args m:=by
 intro H0 rw n s r M hlt hr hd hd2
 have hw : Wp pr F f (.ptr n 0 :: args) ⟨hp H0 n (blk s r) M,rw⟩ fun q S' => ∃ o : Out α,(Nx s r o.r ∧ Rx rw o.rw ∧ post s r o.x o.r) ∧ q = .ret (enc o.x) ∧ S' = ⟨hp H0 n (blk s o.r) M,o.rw⟩:=by
  refine at_start_hp hm h1 h2 (by simp [h3]) (n:=n) (b:=blk s r) (by rw [hp_hp]) ?_
  have:=h (hp H0 n (blk s r) M) rw n s r (by rw [hp_len]; omega) s.small hr hr.lo hr.hi hr.dlo hd2 hd
  unfold REnd at this
  simpa only [hp_hp] using this
 obtain ⟨q,S',hd,o,hp,rfl,rfl⟩:=hw.det hm
 exact ⟨o,hp,hd⟩
def RQ (pr : Prims) (F : Nat → Option IFn) {α : Type} (enc : α → AV) (post : Src → Rd → α → Prop) (f : Nat) (args : List AV) : Prop:=
 ∀ (H : List Blk) (rw : List Nat) (n : Nat) (s : Src) (r : Rd) (M : List Blk),n < H.length → Rok s r →
  ∃ x : α,post s r x ∧ Det pr F f (.ptr n 0 :: args) ⟨hp H n (blk s r) M,rw⟩ (.ret (enc x)) ⟨hp H n (blk s r) M,rw⟩
theorem c_rc {K : AV → St → Prop} {H : List Blk} {rw : List Nat} {n : Nat} {s : Src} {r : Rd} {M : List Blk} {α : Type} {enc : α → AV} {post : Src → Rd → α → Rd → Prop} {fn : Nat} {args : List AV} {m : Int} (hc : RC pr F enc post fn args m) (hlt : n < H.length) (hok : Rok s r) (hd : 101 ≤ r.deep + m) (hd2 : r.deep ≤ 200)
  (h : ∀ (x : α) (r' : Rd) (rw' : List Nat),Rx rw rw' → Rok s r' → 0 ≤ r'.i → r'.i ≤ s.toks.length → 0 ≤ r'.deep → r.i ≤ r'.i → (r'.code = 0 → r.code = 0) → post s r x r' → K (enc x) ⟨hp H n (blk s r') M,rw'⟩) :
  ClAt pr F fn (.ptr n 0 :: args) ⟨hp H n (blk s r) M,rw⟩ K:=by
 obtain ⟨o,⟨hn,hR,hp'⟩,hdet⟩:=hc H rw n s r M hlt hok hd hd2
 exact ⟨_,_,hdet,h o.x o.r o.rw hR ⟨hn.lo,hn.hi,hn.dlo,hn.dhi⟩ hn.lo hn.hi hn.dlo hn.mono hn.code hp'⟩
theorem c_rcb {K : AV → St → Prop} {H : List Blk} {rw : List Nat} {n : Nat} {s : Src} {r : Rd} {M : List Blk} {enc : Bool → AV} {post : Src → Rd → Bool → Rd → Prop} {fn : Nat} {args : List AV} {m : Int} (hc : RC pr F enc post fn args m) (hlt : n < H.length) (hok : Rok s r) (hd : 101 ≤ r.deep + m) (hd2 : r.deep ≤ 200)
  (h : ∀ (r' : Rd) (rw' : List Nat),Rx rw rw' → Rok s r' → 0 ≤ r'.i → r'.i ≤ s.toks.length → 0 ≤ r'.deep → r.i ≤ r'.i → (r'.code = 0 → r.code = 0) → post s r true r' → K (enc true) ⟨hp H n (blk s r') M,rw'⟩)
  (h' : ∀ (r' : Rd) (rw' : List Nat),Rx rw rw' → Rok s r' → 0 ≤ r'.i → r'.i ≤ s.toks.length → 0 ≤ r'.deep → r.i ≤ r'.i → (r'.code = 0 → r.code = 0) → post s r false r' → K (enc false) ⟨hp H n (blk s r') M,rw'⟩) :
  ClAt pr F fn (.ptr n 0 :: args) ⟨hp H n (blk s r) M,rw⟩ K:=by
 refine c_rc hc hlt hok hd hd2 fun x => ?_
 cases x with
 | true => exact h
 | false => exact h'
theorem c_rq {K : AV → St → Prop} {H : List Blk} {rw : List Nat} {n : Nat} {s : Src} {r : Rd} {M : List Blk} {α : Type} {enc : α → AV} {post : Src → Rd → α → Prop} {fn : Nat} {args : List AV} (hc : RQ pr F enc post fn args) (hlt : n < H.length) (hok : Rok s r)
  (h : ∀ (x : α),post s r x → K (enc x) ⟨hp H n (blk s r) M,rw⟩) : ClAt pr F fn (.ptr n 0 :: args) ⟨hp H n (blk s r) M,rw⟩ K:=by
 obtain ⟨x,hp',hdet⟩:=hc H rw n s r M hlt hok
 exact ⟨_,_,hdet,h x hp'⟩
theorem c_rqb {K : AV → St → Prop} {H : List Blk} {rw : List Nat} {n : Nat} {s : Src} {r : Rd} {M : List Blk} {enc : Bool → AV} {post : Src → Rd → Bool → Prop} {fn : Nat} {args : List AV} (hc : RQ pr F enc post fn args) (hlt : n < H.length) (hok : Rok s r)
  (h : post s r true → K (enc true) ⟨hp H n (blk s r) M,rw⟩) (h' : post s r false → K (enc false) ⟨hp H n (blk s r) M,rw⟩) : ClAt pr F fn (.ptr n 0 :: args) ⟨hp H n (blk s r) M,rw⟩ K:=by
 refine c_rq hc hlt hok fun x => ?_
 cases x with
 | true => exact h
 | false => exact h'
section
variable {K : St → Prop} {L : AV → Prop} {H : List Blk} {rw : List Nat} {n : Nat} {b : Blk} {s : Src} {r : Rd} {M M' : List Blk}
theorem s_rI {b0 : Nat} {v : Int} (hlt : n < H.length) (hok : Rok s r) (hv : 0 ≤ v ∧ v ≤ s.toks.length) (h : ∀ r' : Rd,Rok s r' → 0 ≤ r'.i → r'.i ≤ s.toks.length → r'.i = v → r'.deep = r.deep → r'.code = r.code → K ⟨hp H n (blk s r') M,rw⟩) :
  StAt b0 1 (.ptr n (0 + 1)) (.int .i64 v) ⟨hp H n (blk s r) M,rw⟩ K:=by
 have hv0 : 0 ≤ v:=hv.1
 refine ⟨_,?_,h {r with i:=v} ⟨hv0,hv.2,hok.dlo,hok.dhi⟩ hv0 hv.2 rfl rfl rfl⟩
 unfold storeV
 simp only [hp_get hlt]
 simp [blk,AV.cells,AV.okv,Ai.below,overlay,hp_set]
theorem s_rDeep {b0 : Nat} {v : Int} (hlt : n < H.length) (hok : Rok s r) (hv : 0 ≤ v ∧ v ≤ 1000) (h : ∀ r' : Rd,Rok s r' → 0 ≤ r'.i → r'.i ≤ s.toks.length → r'.i = r.i → r'.deep = v → r'.code = r.code → K ⟨hp H n (blk s r') M,rw⟩) :
  StAt b0 1 (.ptr n (0 + 3)) (.int .i64 v) ⟨hp H n (blk s r) M,rw⟩ K:=by
 refine ⟨_,?_,h {r with deep:=v} ⟨hok.lo,hok.hi,hv.1,hv.2⟩ hok.lo hok.hi rfl rfl rfl⟩
 unfold storeV
 simp only [hp_get hlt]
 simp [blk,AV.cells,AV.okv,Ai.below,overlay,hp_set]
end
theorem row_tok (t : Tok) : Row 3 (Tok.row t):=⟨rfl,rfl,rfl⟩
theorem i_tok {K : AV → Prop} {s : Src} {i : Int} (hlo : 0 ≤ i) (hi : i < s.toks.length) (h : ∀ t : Tok,t.text.length ≤ 6000 → s.toks[i.toNat]? = some t → K (.ref (Tok.row t))) : IaAt 3 (.list s.sz s.tag (s.toks.map Tok.row)) (.int .i64 i) K:=by
 have hlt : i.toNat < s.toks.length:=by omega
 have e1 : s.toks[i.toNat]? = some s.toks[i.toNat]:=List.getElem?_eq_getElem hlt
 have hsz:=s.hsz (by intro h; rw [h] at hlt; simp at hlt)
 rw [hsz]
 refine i_list (m:=i.toNat) (r:=Tok.row s.toks[i.toNat]) ?_ (by omega) (h _ (s.txt _ (List.getElem_mem hlt)) e1)
 rw [List.getElem?_map,e1]; rfl
structure LibX (pr : Prims) (F : Nat → Option IFn) : Prop extends LibR pr F where
 f192 : Has pr F 192 i192
 f193 : Has pr F 193 i193
 f195 : Has pr F 195 i195
 f201 : Has pr F 201 i201
 f227 : Has pr F 227 i227
 f228 : Has pr F 228 i228
 f244 : Has pr F 244 i244
 f245 : Has pr F 245 i245
 f253 : Has pr F 253 i253
theorem Rok.nx {s : Src} {r r' : Rd} (h : Rok s r') (h1 : r.i ≤ r'.i) (h2 : r'.code = 0 → r.code = 0) : Nx s r r':=⟨h.lo,h.hi,h.dlo,h.dhi,h1,h2⟩
def isP (k : Nat) (s : Src) (r : Rd) : Bool → Prop
 | true => r.code = 0 ∧ r.i + k < s.toks.length
 | false => True ∧ True
def placeP (_ : Src) (_ : Rd) (_ : Int) : Prop:=True
def failP (_ : Src) (r : Rd) (_ : Unit) (r' : Rd) : Prop:=r'.code ≠ 0 ∧ r'.i = r.i ∧ r'.deep = r.deep
def takeP (_ : Src) (r : Rd) : Bool → Rd → Prop
 | true,r' => r'.deep = r.deep ∧ r'.code = r.code ∧ r.code = 0 ∧ r'.i = r.i + 1
 | false,r' => r'.deep = r.deep ∧ r'.code = r.code ∧ r'.i = r.i
def needP (_ : Src) (r : Rd) (_ : Unit) (r' : Rd) : Prop:=r'.deep = r.deep ∧ (r'.code = 0 → r'.i = r.i + 1)
def enterP (_ : Src) (r : Rd) : Bool → Rd → Prop
 | true,r' => r'.deep = r.deep + 1 ∧ r'.i = r.i ∧ r'.code = 0 ∧ r.code = 0 ∧ r.deep < 100
 | false,r' => r'.deep = r.deep + 1 ∧ r'.i = r.i ∧ r'.code ≠ 0
def nameP (_ : Src) (r : Rd) (x : Str) (r' : Rd) : Prop:=r'.deep = r.deep ∧ (x.length ≤ 40 ∧ (r'.code = 0 → r'.i = r.i + 1)) ∧ (r'.code = 0 → Nm x)
theorem rq_is (L : LibR pr F) (k : Nat) (hk : k ≤ 5) (x : Str) : RQ pr F AV.bool (isP k) 90 [.int .i64 k,.str x]:=by
 intro H rw n s r M hlt hr
 refine ⟨isF s r k x,?_,det_is (S:=⟨_,_⟩) L (hp_get hlt) hr k hk x⟩
 cases h : isF s r k x with
 | true =>
  have:=isF_lt h
  have h0:=hr.lo
  exact ⟨this.1,by omega⟩
 | false => exact ⟨trivial,trivial⟩
theorem rq_place (L : LibR pr F) : RQ pr F (AV.int .i64) placeP 134 []:=fun _ _rw _ s r _ hlt hr =>
 ⟨placeF s r,trivial,det_place (S:=⟨_,_⟩) L (hp_get hlt) hr⟩
theorem rc_fail (L : LibR pr F) (c : Int) (hc : c ≠ 0) (m : Int) : RC pr F (fun _ : Unit => AV.tup []) failP 95 [.int .i64 c] m:=by
 intro H rw n s r M hlt hr _ _
 have hA:=Adv.fail hr hc
 refine ⟨⟨(),failF s r c,rw⟩,⟨(hr.fail c).nx hA.mono hA.code,Rx.rfl,fail_code hc,enter_fail.2,enter_fail.1⟩,?_⟩
 have:=det_fail (rw:=rw) L (hp_get (L:=M) hlt) hr c
 rwa [hp_set] at this
theorem rc_take (L : LibR pr F) (x : Str) (m : Int) : RC pr F AV.bool takeP 136 [.str x] m:=by
 intro H rw n s r M hlt hr _ _
 have hA:=Adv.take hr x
 have hcode : (takeF s r x).code = r.code:=by unfold takeF; split <;> rfl
 refine ⟨⟨isF s r 0 x,takeF s r x,rw⟩,⟨(hr.take x).nx hA.mono hA.code,Rx.rfl,?_⟩,?_⟩
 ·simp only
  cases h : isF s r 0 x with
  | true =>
   have:=isF_lt h
   exact ⟨hA.deep,hcode,this.1,by unfold takeF; rw [if_pos h]⟩
  | false => exact ⟨hA.deep,hcode,by unfold takeF; rw [if_neg (by rw [h]; simp)]⟩
 ·have:=det_take (rw:=rw) L (hp_get (L:=M) hlt) hr x
  rwa [hp_set] at this
theorem rc_need (L : LibR pr F) (x : Str) (m : Int) : RC pr F (fun _ : Unit => AV.tup []) needP 93 [.str x] m:=by
 intro H rw n s r M hlt hr _ _
 have hA:=Adv.need hr x
 refine ⟨⟨(),needF s r x,rw⟩,⟨(hr.need x).nx hA.mono hA.code,Rx.rfl,hA.deep,fun h => ?_⟩,?_⟩
 ·have:=(need_code h).2
  simp only at this ⊢
  rw [this]
 ·have:=det_need (rw:=rw) L (hp_get (L:=M) hlt) hr x
  rwa [hp_set] at this
theorem rc_enter (L : LibR pr F) (m : Int) : RC pr F AV.bool enterP 140 [] m:=by
 intro H rw n s r M hlt hr _ hd
 have he:=@enterF_deep s r
 have hre:=hr.enter (by omega)
 refine ⟨⟨(enterF s r).code == 0,enterF s r,rw⟩,⟨hre.nx (by omega) (fun h => (enterF_code h).1),Rx.rfl,?_⟩,?_⟩
 ·simp only
  cases h : ((enterF s r).code == 0) with
  | true =>
   rw [beq_iff_eq] at h
   have:=enterF_code h
   exact ⟨he.1,he.2,h,this.1,this.2.1⟩
  | false =>
   rw [beq_eq_false_iff_ne] at h
   exact ⟨he.1,he.2,h⟩
 ·have:=det_enter (rw:=rw) L (hp_get (L:=M) hlt) hr
  rwa [hp_set] at this
theorem rc_name (L : LibR pr F) (m : Int) : RC pr F AV.str nameP 135 [] m:=by
 intro H rw n s r M hlt hr _ _
 obtain ⟨o,⟨hA,hl,hc⟩,hd⟩:=det_nm (rw:=rw) L (hp_get (b:=blk s r) (L:=M) hlt) hr
 refine ⟨⟨o.x,o.r,rw⟩,⟨hA.ok.nx hA.mono hA.code,Rx.rfl,hA.deep,⟨hl,fun h => ?_⟩,fun h => (hc h).1⟩,?_⟩
 ·have:=(hc h).2
  simp only
  rw [this]
 ·rwa [hp_set] at hd
end Go.Proofs.YtmeakjgbjldkdaaGreat.Ai
namespace Go.Proofs.YtmeakjgbjldkdaaGreat.Ai
open Go
variable {pr : Prims} {F : Nat → Option IFn}
def exP (_ : Src) (r : Rd) (x : Xp) (r' : Rd) : Prop:=r'.deep = r.deep ∧ (r'.code = 0 → r.i < r'.i ∧ (wEx x : Int) ≤ 7000 * (r'.i - r.i)) ∧ (r'.code = 0 → okEx x)
theorem expr_of_level (L : LibX pr F) {m : Int} (hl : RC pr F (fun x : Xp => AV.agg (exRow x)) exP 228 [.int .i64 0] m) : RC pr F (fun x : Xp => AV.agg (exRow x)) exP 193 [] (m + 1):=by
 have hm:=L.hm
 have cis0:=fun x => rq_is L.toLibR 0 (by omega) x
 have cis1:=fun x => rq_is L.toLibR 1 (by omega) x
 have cis2:=fun x => rq_is L.toLibR 2 (by omega) x
 have cpl:=rq_place L.toLibR
 have ctk:=fun x => rc_take L.toLibR x 2000
 have cen:=rc_enter L.toLibR 2000
 have cnd:=fun x => rc_need L.toLibR x 2000
 have cfl:=rc_fail L.toLibR 110 (by omega) 2000
 have cnm:=rc_name L.toLibR 2000
 refine rc_start hm L.f193.1 L.f193.2 rfl ?_
 intro H rw n s r hlt hsm hok _ _ _ _ _
 have hR : Rx rw rw:=Rx.rfl
 refine' hG
 ·refine g_call rfl rfl rfl ?_; refine c_rc (hl) hlt (by assumption) (by omega) (by omega) ?_; intro x1 r1 rw_r1 hR' hok_r1 _ _ _ _ _ hP_x1; replace hR:=hR.trans hR'; (try replace hRL:=hRL.trans hR'); obtain ⟨_,_,hP_x1⟩:=hP_x1; refine zrk ?_
  refine' hG
  refine fin_cell hlt rfl rfl (row_ex x1).load ((row_ex _).below _) ?_
  exact rend x1 hR rfl ⟨by omega,by omega,by omega,by omega,by omega,by omega⟩ ⟨by omega,by omega,fun h => hP_x1 (by omega)⟩
 ·refine fin_cell hlt rfl rfl (row_ex (.mk [] [] [] [] 0)).load ((row_ex _).below _) ?_
  exact rend (.mk [] [] [] [] 0) hR rfl ⟨by omega,by omega,by omega,by omega,by omega,by omega⟩ ⟨by omega,by omega,fun h => by omega⟩
end Go.Proofs.YtmeakjgbjldkdaaGreat.Ai
namespace Go.Proofs.YtmeakjgbjldkdaaGreat.Ai
open Go
variable {pr : Prims} {F : Nat → Option IFn}
theorem det_Level (L : LibX pr F) (S : St) (x : Str) : Det pr F 201 [.str x] S (.ret (.int .i64 (levelF x))) S:=by
 have hm:=L.hm
 obtain ⟨H,rw⟩:=S
 refine Det.of hm (at_start hm L.f201.1 L.f201.2 rfl ?_)
 refine' hG
 all_goals
  refine fin_ret rfl rfl (List.take_length) ⟨?_,rfl⟩
  simp only [Res.ret.injEq,AV.int.injEq,true_and,levelF]
 all_goals first | (subst hq; rfl) | simp only [*,or_self,if_false]
def nextP (k : Int) (s : Src) (r : Rd) (x : Str) : Prop:=x ≠ [] → r.code = 0 ∧ r.i < s.toks.length ∧ x.length ≤ 6000 ∧ levelF x = k
theorem rq_next (L : LibX pr F) (k : Int) : RQ pr F AV.str (nextP k) 245 [.int .i64 k]:=by
 intro H rw n s r M hlt hr
 have hm:=L.hm
 refine det_of_ex (r:=fun x => .ret (AV.str x)) hm ?_
 have hn : (hp H n (blk s r) M)[n]? = some (blk s r):=hp_get hlt
 generalize hp H n (blk s r) M = H' at hn
 refine at_start hm L.f245.1 L.f245.2 rfl ?_
 have hsm:=s.small
 have hnone : nextP k s r []:=fun h => absurd rfl h
 obtain ⟨j,hj⟩:=Int.eq_ofNat_of_zero_le hr.lo
 have hn1:=hn
 simp only [blk,hj] at hn1
 by_cases h0 : r.code = 0
 ·rw [h0] at hn1
  by_cases h1 : j < s.toks.length
  ·have e1 : s.toks[j]? = some s.toks[j]:=List.getElem?_eq_getElem h1
   have e2 : (s.toks.map Tok.row)[j]? = some (Tok.row s.toks[j]):=by rw [List.getElem?_map,e1]; rfl
   have hsz:=s.hsz (by intro h; rw [h] at h1; simp at h1)
   rw [hsz] at hn1
   have hd1:=det_Level L ⟨H',rw⟩ s.toks[j].text
   by_cases hq : levelF s.toks[j].text = k
   ·have hsome : nextP k s r s.toks[j].text:=fun _ => ⟨h0,by omega,s.txt _ (List.getElem_mem h1),hq⟩
    refine' hG
    exact fin_ret rfl rfl (List.take_length) ⟨_,hsome,rfl,rfl⟩
   ·refine' hG
    exact fin_ret rfl rfl (List.take_length) ⟨_,hnone,rfl,rfl⟩
  ·refine' hG
   exact fin_ret rfl rfl (List.take_length) ⟨_,hnone,rfl,rfl⟩
 ·refine' hG
  exact fin_ret rfl rfl (List.take_length) ⟨_,hnone,rfl,rfl⟩
def signs (l : List (Str × Int)) : List Xp:=l.map fun p => .mk p.1 [] [] [] p.2
def wS : List (Str × Int) → Nat
 | [] => 0
 | p :: l => 1 + p.1.length + wS l
theorem wS_append (a b : List (Str × Int)) : wS (a ++ b) = wS a + wS b:=by
 induction a with
 | nil => simp [wS]
 | cons x xs ih => simp [wS,ih]; omega
theorem signs_get {ss : List (Str × Int)} {i : Nat} {p : Str × Int} (h : ss[i]? = some p) : (exRows (signs ss))[i]? = some (exRow (.mk p.1 [] [] [] p.2)):=by
 simp [exRows_map,signs,h]
theorem xs_get {xs : List Xp} {i : Nat} {x : Xp} (h : xs[i]? = some x) : (exRows xs)[i]? = some (exRow x):=by
 simp [exRows_map,h]
theorem wExs_split (xs : List Xp) (i : Nat) (x : Xp) (h : xs[i]? = some x) : wExs (xs.take (i + 1)) = wExs (xs.take i) + wEx x ∧ wExs (xs.drop i) = wEx x + wExs (xs.drop (i + 1)):=by
 induction xs generalizing i with
 | nil => simp at h
 | cons y ys ih =>
  cases i with
  | zero => simp at h; subst h; simp [wExs]
  | succ i =>
   simp only [List.getElem?_cons_succ] at h
   have:=ih i h
   simp only [List.take_succ_cons,wExs,List.drop_succ_cons]
   exact ⟨by omega,this.2⟩
theorem wS_split (xs : List (Str × Int)) (i : Nat) (x : Str × Int) (h : xs[i]? = some x) : wS (xs.take (i + 1)) = wS (xs.take i) + (1 + x.1.length) ∧ wS (xs.drop i) = 1 + x.1.length + wS (xs.drop (i + 1)):=by
 induction xs generalizing i with
 | nil => simp at h
 | cons y ys ih =>
  cases i with
  | zero => simp at h; subst h; simp [wS]
  | succ i =>
   simp only [List.getElem?_cons_succ] at h
   have:=ih i h
   simp only [List.take_succ_cons,wS,List.drop_succ_cons]
   exact ⟨by omega,this.2⟩
noncomputable def levelTail : IC:=(.seq (.seq r228_9 (.cond (.tmp 57) (.seq r228_10 (.seq (.seq r228_11 (.block 2 (.loop [4,5,6,7,8] (.seq (.seq r228_12 (.cond (.tmp 68) (.skip) (.exit 2))) (.seq (.block 3 r228_13) r228_14))))) (.seq r228_15 .ret))) (.skip))) (.seq r228_16 (.seq (.seq r228_17 (.block 4 (.loop [4,5,6,9,10] (.seq (.seq r228_18 (.cond (.tmp 95) (.skip) (.exit 4))) (.seq (.block 5 r228_19) r228_20))))) (.seq r228_21 .ret))))
end Go.Proofs.YtmeakjgbjldkdaaGreat.Ai
namespace Go.Proofs.YtmeakjgbjldkdaaGreat.Ai
open Go
variable {pr : Prims} {F : Nat → Option IFn}
theorem level6 (L : LibX pr F) {m : Int} (hl : RC pr F (fun x : Xp => AV.agg (exRow x)) exP 244 [] m) : RC pr F (fun x : Xp => AV.agg (exRow x)) exP 228 [.int .i64 6] m:=by
 have hm:=L.hm
 have cis0:=fun x => rq_is L.toLibR 0 (by omega) x
 have cis1:=fun x => rq_is L.toLibR 1 (by omega) x
 have cis2:=fun x => rq_is L.toLibR 2 (by omega) x
 have cpl:=rq_place L.toLibR
 have ctk:=fun x => rc_take L.toLibR x 2000
 have cen:=rc_enter L.toLibR 2000
 have cnd:=fun x => rc_need L.toLibR x 2000
 have cfl:=rc_fail L.toLibR 110 (by omega) 2000
 have cnm:=rc_name L.toLibR 2000
 refine rc_start hm L.f228.1 L.f228.2 rfl ?_
 intro H rw n s r hlt hsm hok _ _ _ _ _
 have hR : Rx rw rw:=Rx.rfl
 refine' hG
 refine g_call rfl rfl rfl ?_; refine c_rc (hl) hlt (by assumption) (by omega) (by omega) ?_; intro x1 r1 rw_r1 hR' hok_r1 _ _ _ _ _ hP_x1; replace hR:=hR.trans hR'; (try replace hRL:=hRL.trans hR'); obtain ⟨_,_,hP_x1⟩:=hP_x1; refine zrk ?_
 refine' hG
 refine fin_cell hlt rfl rfl (row_ex x1).load ((row_ex _).below _) ?_
 exact rend x1 hR rfl (hok_r1.nx (by omega) (by omega)) ⟨by omega,by omega,hP_x1⟩
structure LevelEnd (k : Int) (s : Src) (r : Rd) (rw : List Nat) (r' : Rd) (rw' : List Nat) (xs : List Xp) (ss : List (Str × Int)) : Prop where
 ok : Rok s r'
 mono : r.i ≤ r'.i
 deep : r'.deep = r.deep
 code : r'.code = 0 → r.code = 0
 rx : Rx rw rw'
 len : xs.length = ss.length + 1
 few : (ss.length : Int) ≤ r'.i - r.i
 wt : r'.code = 0 → r.i < r'.i ∧ (wExs xs + wS ss : Int) ≤ 7000 * (r'.i - r.i)
 okx : r'.code = 0 → okExs xs
 oks : ∀ p ∈ ss,levelF p.1 = k
theorem okExs_get {xs : List Xp} {i : Nat} {x : Xp} (h : okExs xs) (hx : xs[i]? = some x) : okEx x:=by
 induction xs generalizing i with
 | nil => simp at hx
 | cons y ys ih =>
  cases i with
  | zero => simp at hx; subst hx; exact h.1
  | succ i => exact ih h.2 (by simpa using hx)
theorem ok_bin {k : Int} (hk : 0 ≤ k) {op : Str} {a b : Xp} {at_ : Int} (h : levelF op = k) (ha : okEx a) (hb : okEx b) : okEx (.mk op [] [a,b] [] at_):=by
 simp only [okEx,okExs,okTys,and_true]
 refine ⟨?_,ha,hb⟩
 unfold okOp
 iterate 10 apply Or.inr
 exact ⟨by omega,⟨a,b,rfl⟩,rfl⟩
theorem level_tail (hm : Mono pr) {H : List Blk} {n : Nat} (hlt : n < H.length) {s : Src} {r r' : Rd} {rw rw' : List Nat} {xs : List Xp} {ss : List (Str × Int)} (hr : Rok s r) (k : Int) (hk0 : 0 ≤ k) (h : LevelEnd k s r rw r' rw' xs ss) (tag tag2 : Tag) (sz2 : Nat) (hsz : ss ≠ [] → sz2 = 5) :
  At pr F H.length (fin [RVar.cell 4 (some 5)] H.length (REnd (fun x : Xp => AV.agg (exRow x)) exP H n s r rw)) levelTail []
   [(0,.ptr n 0),(1,.int .i64 k),(4,.ptr (H.length + 0) 0),(5,.list 5 tag (exRows xs)),(6,.list sz2 tag2 (exRows (signs ss))),(32,.bool false)] ⟨hp H n (blk s r') [.cells (exRow (.mk [] [] [] [] 0))],rw'⟩:=by
 have hsm:=s.small
 have e1 : (exRows (signs ss)).length = ss.length:=by simp [exRows_len,signs]
 have e2 : (exRows xs).length = xs.length:=exRows_len xs
 have hlen:=h.len
 have hfew:=h.few
 have hi1:=h.ok.hi
 have hi0:=h.mono
 have hi2:=hr.lo
 have hend : ∀ u : Xp,wEx u = wExs xs + wS ss → (r'.code = 0 → okEx u) → REnd (fun x : Xp => AV.agg (exRow x)) exP H n s r rw (.ret (.agg (exRow u))) ⟨hp H n (blk s r') [],rw'⟩:=by
  intro u hu ho
  have hd:=h.deep
  have hw:=h.wt
  have hcd:=h.code
  exact rend u h.rx rfl (h.ok.nx (by omega) hcd) ⟨hd,fun h0 => by have:=hw h0; omega,ho⟩
 unfold levelTail
 by_cases hk : k = 0
 ·obtain ⟨x,hx⟩ : ∃ x,xs[ss.length]? = some x:=⟨_,List.getElem?_eq_getElem (by omega)⟩
  have hx2:=xs_get hx
  refine' hG
  refine at_loop hm (fun m e S' => ∃ (u : Xp) (C : List AV),canonL C = exRow u ∧ C.length = 5 ∧ S' = ⟨hp H n (blk s r') [.cells (exRow (.mk [] [] [] [] 0)),.cells C],rw'⟩ ∧ m ≤ ss.length ∧ wEx u = wExs (xs.drop m) + wS (ss.drop m) ∧ (r'.code = 0 → okEx u) ∧
   e = [(4,.ptr (H.length + 0) 0),(5,.list 5 tag (exRows xs)),(6,.list sz2 tag2 (exRows (signs ss))),(7,.ptr (H.length + 1) 0),(8,.int .i64 ((m : Int) - 1))]) ?_ (m:=ss.length) ⟨x,exRow x,(row_ex x).can,(row_ex x).len,rfl,Nat.le_refl _,?_,fun h0 => okExs_get (h.okx h0) hx,?_⟩
  ·rintro m e S' ⟨u,C,hC,hCl,rfl,hms,hu,hou,rfl⟩
   by_cases h0 : m = 0
   ·subst h0
    refine' hG
    refine fin_cell hlt rfl rfl (row_ex u).load ((row_ex _).below _) (hend u ?_ hou)
    rw [hu]; simp
   ·obtain ⟨j,rfl⟩ : ∃ j,m = j + 1:=⟨m - 1,by omega⟩
    have hsz2 : sz2 = 5:=hsz (by intro h; rw [h] at hms; simp at hms)
    subst hsz2
    obtain ⟨y,hy⟩ : ∃ x,xs[j]? = some x:=⟨_,List.getElem?_eq_getElem (by omega)⟩
    obtain ⟨p,hp'⟩ : ∃ x,ss[j]? = some x:=⟨_,List.getElem?_eq_getElem (by omega)⟩
    have hy2:=xs_get hy
    have hp2:=signs_get hp'
    refine' hG
    refine ⟨j,by omega,.mk p.1 [] [y,u] [] p.2,_,?_,rfl,rfl,by omega,?_,?_,?_⟩
    ·simp only [overlay,canonL,cells_int,cells_str,cells_list,exRow,exRows,tyRows,lst_nil,List.take_succ_cons,List.take_zero,List.drop_succ_cons,List.drop_zero,List.map_cons,List.map_nil,List.nil_append,List.append_nil,List.cons_append,List.length_cons,List.length_nil,Nat.reduceAdd,Nat.zero_add,canon_str,canon_int,canon_nil]
     rfl
    ·have h1:=(wExs_split xs j y hy).2
     have h2:=(wS_split ss j p hp').2
     simp only [wEx,wExs,wTys,List.length_nil]
     omega
    ·intro h0
     exact ok_bin hk0 (h.oks p (List.mem_of_getElem? hp')) (okExs_get (h.okx h0) hy) (hou h0)
    ·rw [show (((j + 1 : Nat) : Int) - 1 - 1) = (j : Int) - 1 by omega]
     rfl
  ·have:=(wExs_split xs ss.length x hx).2
   rw [this]
   have e3 : xs.drop (ss.length + 1) = []:=List.drop_eq_nil_of_le (by omega)
   have e4 : ss.drop ss.length = []:=List.drop_eq_nil_of_le (by omega)
   rw [e3,e4]
   rfl
  ·simp only [e1]
   rfl
 ·obtain ⟨x,hx⟩ : ∃ x,xs[0]? = some x:=⟨_,List.getElem?_eq_getElem (by omega)⟩
  have hx2:=xs_get hx
  refine' hG
  refine at_loop hm (fun m e S' => ∃ (u : Xp) (C : List AV) (i : Nat),canonL C = exRow u ∧ C.length = 5 ∧ S' = ⟨hp H n (blk s r') [.cells (exRow (.mk [] [] [] [] 0)),.cells C],rw'⟩ ∧ m + i = ss.length ∧ wEx u = wExs (xs.take (i + 1)) + wS (ss.take i) ∧ (r'.code = 0 → okEx u) ∧
   e = [(4,.ptr (H.length + 0) 0),(5,.list 5 tag (exRows xs)),(6,.list sz2 tag2 (exRows (signs ss))),(9,.ptr (H.length + 1) 0),(10,.int .i64 i)]) ?_ (m:=ss.length) ⟨x,exRow x,0,(row_ex x).can,(row_ex x).len,rfl,rfl,?_,fun h0 => okExs_get (h.okx h0) hx,rfl⟩
  ·rintro m e S' ⟨u,C,i,hC,hCl,rfl,hms,hu,hou,rfl⟩
   by_cases h0 : i < ss.length
   ·have hsz2 : sz2 = 5:=hsz (by intro h; rw [h] at h0; simp at h0)
    subst hsz2
    obtain ⟨y,hy⟩ : ∃ x,xs[i + 1]? = some x:=⟨_,List.getElem?_eq_getElem (by omega)⟩
    obtain ⟨p,hp'⟩ : ∃ x,ss[i]? = some x:=⟨_,List.getElem?_eq_getElem (by omega)⟩
    have hy2:=xs_get hy
    have hp2:=signs_get hp'
    refine' hG
    refine ⟨m - 1,by omega,.mk p.1 [] [u,y] [] p.2,_,i + 1,?_,rfl,rfl,by omega,?_,?_,rfl⟩
    ·simp only [overlay,canonL,cells_int,cells_str,cells_list,exRow,exRows,tyRows,lst_nil,List.take_succ_cons,List.take_zero,List.drop_succ_cons,List.drop_zero,List.map_cons,List.map_nil,List.nil_append,List.append_nil,List.cons_append,List.length_cons,List.length_nil,Nat.reduceAdd,Nat.zero_add,canon_str,canon_int,canon_nil]
     rfl
    ·have h1:=(wExs_split xs (i + 1) y hy).1
     have h2:=(wS_split ss i p hp').1
     simp only [wEx,wExs,wTys,List.length_nil]
     omega
    ·intro h0
     exact ok_bin hk0 (h.oks p (List.mem_of_getElem? hp')) (hou h0) (okExs_get (h.okx h0) hy)
   ·have hi : i = ss.length:=by omega
    subst hi
    refine' hG
    refine fin_cell hlt rfl rfl (row_ex u).load ((row_ex _).below _) (hend u ?_ hou)
    rw [hu,List.take_of_length_le (by omega),List.take_of_length_le (by omega)]
  ·have:=(wExs_split xs 0 x hx).1
   simp only [wS,List.take_zero,wExs] at this ⊢
   omega
end Go.Proofs.YtmeakjgbjldkdaaGreat.Ai
namespace Go.Proofs.YtmeakjgbjldkdaaGreat.Ai
open Go
variable {pr : Prims} {F : Nat → Option IFn}
theorem ap_lst {K : AV → St → Prop} {rw0 rw : List Nat} {sz by_ : Nat} {v : AV} {rows : List (List AV)} {row : List AV} {H : List Blk} (h : Lst rw0 sz v rows rw) (hx : Rx rw0 rw) (hb : (rows.length + 1) * by_ ≤ maxRow) (hl : rows.length + 1 ≤ maxRow) (hs : 0 < sz)
  (hk : ∀ v' rw',Lst rw0 sz v' (rows ++ [row]) rw' → Rx rw0 rw' → K v' ⟨H,rw'⟩) : ApAt sz by_ v (.list sz .full [row]) ⟨H,rw⟩ K:=by
 obtain ⟨v',rw',h1,h2,h3⟩:=h.push (H:=H) (row:=row) hx hb hl hs
 exact ⟨_,_,h1,hk v' rw' h2 h3⟩
theorem ap_lst2 {K : AV → St → Prop} {rw0 rw : List Nat} {sz by_ : Nat} {v : AV} {rows : List (List AV)} {row : List AV} {H : List Blk} (h : Lst rw0 sz v rows rw) (hx : Rx rw0 rw) (hb : (rows.length + 1) * by_ ≤ maxRow) (hl : rows.length + 1 ≤ maxRow) (hs : 0 < sz)
  {sz2 : Nat} {v2 : AV} {rows2 : List (List AV)} (h2 : Lst rw0 sz2 v2 rows2 rw) (hd : Disj v v2)
  (hk : ∀ v' rw',Lst rw0 sz v' (rows ++ [row]) rw' → Rx rw0 rw' → Lst rw0 sz2 v2 rows2 rw' → Disj v' v2 → K v' ⟨H,rw'⟩) : ApAt sz by_ v (.list sz .full [row]) ⟨H,rw⟩ K:=by
 obtain ⟨v',rw',h1,h3,h4,h5,h6⟩:=h.push2 (H:=H) (row:=row) hx hb hl hs h2 hd
 exact ⟨_,_,h1,hk v' rw' h3 h4 h5 h6⟩
theorem levelk (L : LibX pr F) {m : Int} (k : Int) (hk0 : 0 ≤ k) (hk5 : k ≤ 5) (hl : RC pr F (fun x : Xp => AV.agg (exRow x)) exP 228 [.int .i64 (k + 1)] m) : RC pr F (fun x : Xp => AV.agg (exRow x)) exP 228 [.int .i64 k] m:=by
 have hm:=L.hm
 have cis0:=fun x => rq_is L.toLibR 0 (by omega) x
 have cis1:=fun x => rq_is L.toLibR 1 (by omega) x
 have cis2:=fun x => rq_is L.toLibR 2 (by omega) x
 have cpl:=rq_place L.toLibR
 have ctk:=fun x => rc_take L.toLibR x 2000
 have cen:=rc_enter L.toLibR 2000
 have cnd:=fun x => rc_need L.toLibR x 2000
 have cfl:=rc_fail L.toLibR 110 (by omega) 2000
 have cnm:=rc_name L.toLibR 2000
 refine rc_start hm L.f228.1 L.f228.2 rfl ?_
 intro H rw n s r hlt hsm hok _ _ _ _ _
 have hR : Rx rw rw:=Rx.rfl
 refine' hG
 refine g_call rfl rfl rfl ?_; refine c_rc (hl) hlt (by assumption) (by omega) (by omega) ?_; intro x0 r0 rw_r0 hR' hok_r0 _ _ _ _ _ hP_x0; replace hR:=hR.trans hR'; (try replace hRL:=hRL.trans hR'); obtain ⟨_,_,hP_x0⟩:=hP_x0; refine zrk ?_
 have ht:=fun (r' : Rd) (rw' : List Nat) (xs : List Xp) (ss : List (Str × Int)) (h : LevelEnd k s r rw r' rw' xs ss) (tag tag2 : Tag) (sz2 : Nat) (hsz : ss ≠ [] → sz2 = 5) => level_tail (pr:=pr) (F:=F) hm hlt hok k hk0 h tag tag2 sz2 hsz
 refine' hG
 change At pr F H.length _ (IC.loop _ _) [Fr.blk 0,Fr.code levelTail] _ _
 generalize levelTail = T at ht ⊢
 refine at_loop hm (fun m e S' => ∃ (r' : Rd) (rw' : List Nat) (l sg : AV) (xs : List Xp) (ss : List (Str × Int)),S' = ⟨hp H n (blk s r') [.cells (exRow (.mk [] [] [] [] 0))],rw'⟩ ∧ LevelEnd k s r rw r' rw' xs ss ∧
   Lst rw 5 l (exRows xs) rw' ∧ Lst rw 5 sg (exRows (signs ss)) rw' ∧ Disj l sg ∧ (m : Int) = s.toks.length - r'.i ∧
   e = [(0,.ptr n 0),(1,.int .i64 k),(4,.ptr (H.length + 0) 0),(5,l),(6,sg)]) ?_ (m:=(s.toks.length - r0.i).toNat) ⟨r0,rw_r0,_,_,[x0],[],rfl,⟨hok_r0,by omega,by omega,by omega,hR,rfl,by simp; omega,?_,fun h => ⟨hP_x0 h,trivial⟩,by simp⟩,.lit (by simp [exRows]),.nil,fun a ha => by simp [rowOf] at ha,by omega,rfl⟩
 ·rintro m' e S' ⟨r',rw',l,sg,xs,ss,rfl,hend,hl1,hs1,hdj,hmm,rfl⟩
  have hx:=rq_next L k
  have hok':=hend.ok
  have hA1:=hok'.hi
  have hA2:=hend.mono
  have hA3:=hend.deep
  have hA4:=hend.code
  have hR2:=hend.rx
  have hfew:=hend.few
  have hlen:=hend.len
  have hwt:=hend.wt
  clear hok_r0 hP_x0 hR cpl
  have e1 : (exRows (signs ss)).length = ss.length:=by simp [exRows_len,signs]
  have e2 : (exRows xs).length = xs.length:=exRows_len xs
  obtain ⟨sz',tag,rfl,hsz1,hsz2⟩:=hs1.tag
  obtain ⟨sz1,tag1,rfl,hsz3,-⟩:=hl1.tag
  have hsz4 : sz1 = 5:=hsz3 (by intro h; rw [← exRows_len,h] at hlen; simp at hlen)
  subst hsz4
  have hsz5 : ss ≠ [] → sz' = 5:=fun h => hsz1 (by intro h2; rw [h2] at e1; simp at e1; exact h (List.eq_nil_of_length_eq_zero e1.symm))
  obtain ⟨x,hxP,hd⟩:=hx H rw' n s r' [.cells (exRow (.mk [] [] [] [] 0))] hlt hok'
  have next : ∀ (pl : Int) (r1 : Rd) (rw3 rw4 : List Nat) (x1 : Xp),r'.code = 0 → x.length ≤ 6000 → levelF x = k → Rok s r1 → r'.i + 1 ≤ r1.i → r1.deep = r'.deep → Rx rw rw4 → (r1.code = 0 → r'.i + 1 < r1.i ∧ (wEx x1 : Int) ≤ 7000 * (r1.i - (r'.i + 1))) → (r1.code = 0 → okEx x1) → LevelEnd k s r rw r1 rw4 (xs ++ [x1]) (ss ++ [(x,pl)]):=by
   intro pl r1 rw3 rw4 x1 h0 hx6 hxk ok1 hi1 hd1 hR4 hw1 ho1
   refine ⟨ok1,by omega,by omega,fun _ => hA4 h0,hR4,by simp; omega,by simp; omega,fun h1 => ?_,fun h1 => ?_,?_⟩
   ·have:=hw1 h1
    have:=hwt h0
    rw [wExs_append,wS_append]
    simp only [wExs,wS]
    omega
   ·rw [okExs_append]
    exact ⟨hend.okx h0,ho1 h1,trivial⟩
   ·intro p hp
    rcases List.mem_append.1 hp with h | h
    ·exact hend.oks p h
    ·rw [List.mem_singleton] at h
     subst h
     exact hxk
  by_cases hxe : x = []
  ·refine' hG
   exact ht r' rw' xs ss hend tag1 tag sz' hsz5
  ·obtain ⟨hx1,hx2,hx3,hx4⟩:=hxP hxe
   by_cases hk3 : k = 3 ∧ ss.length ≠ 0
   ·obtain ⟨hk3,hse⟩:=hk3
    refine' hG
    exact ht r' rw' xs ss hend tag1 tag sz' hsz5
   ·by_cases hk3' : k = 3
    ·have hse : ss.length = 0:=by omega
     clear hk3
     refine' hG
     refine g_call rfl rfl rfl ?_
     refine c_rq (rq_place L.toLibR) hlt (by assumption) ?_
     intro pl _
     refine zrk ?_
     refine' hG
     refine g_append rfl rfl rfl ?_
     refine ap_lst2 (row:=exRow (.mk x [] [] [] pl)) hs1 hR2 (by rw [e1]; simp only [maxRow]; omega) (by rw [e1]; simp only [maxRow]; omega) (by omega) hl1 hdj.symm ?_
     intro sg2 rw2 hs2 hR3 hl2 hdj2
     refine zrk ?_
     refine' hG
     refine g_call rfl rfl rfl ?_
     refine c_rc hl hlt (by assumption) (by omega) (by omega) ?_
     intro x1 r1 rw3 hR4 hok1 _ _ _ _ _ hP1
     obtain ⟨hP1,hP2,hP3⟩:=hP1
     refine zrk ?_
     refine' hG
     refine g_append rfl rfl rfl ?_
     refine ap_lst2 (hl2.ext hR4) (hR3.trans hR4) (by rw [e2]; simp only [maxRow]; omega) (by rw [e2]; simp only [maxRow]; omega) (by omega) (hs2.ext hR4) hdj2.symm ?_
     intro l4 rw4 hl4 hR5 hs4 hdj4
     refine zrk ?_
     refine' hG
     refine ⟨(s.toks.length - r1.i).toNat,by omega,r1,rw4,l4,sg2,xs ++ [x1],ss ++ [(x,pl)],rfl,next pl r1 rw3 rw4 x1 hx1 hx3 hx4 hok1 (by omega) (by omega) hR5 (fun h => by have:=hP2 h; omega) hP3,by rw [exRows_append]; exact hl4,?_,hdj4,by omega,rfl⟩
     rw [show exRows (signs (ss ++ [(x,pl)])) = exRows (signs ss) ++ [exRow (.mk x [] [] [] pl)] by simp [signs,exRows_map]]
     exact hs4
    ·clear hk3
     refine' hG
     refine g_call rfl rfl rfl ?_
     refine c_rq (rq_place L.toLibR) hlt (by assumption) ?_
     intro pl _
     refine zrk ?_
     refine' hG
     refine g_append rfl rfl rfl ?_
     refine ap_lst2 (row:=exRow (.mk x [] [] [] pl)) hs1 hR2 (by rw [e1]; simp only [maxRow]; omega) (by rw [e1]; simp only [maxRow]; omega) (by omega) hl1 hdj.symm ?_
     intro sg2 rw2 hs2 hR3 hl2 hdj2
     refine zrk ?_
     refine' hG
     refine g_call rfl rfl rfl ?_
     refine c_rc hl hlt (by assumption) (by omega) (by omega) ?_
     intro x1 r1 rw3 hR4 hok1 _ _ _ _ _ hP1
     obtain ⟨hP1,hP2,hP3⟩:=hP1
     refine zrk ?_
     refine' hG
     refine g_append rfl rfl rfl ?_
     refine ap_lst2 (hl2.ext hR4) (hR3.trans hR4) (by rw [e2]; simp only [maxRow]; omega) (by rw [e2]; simp only [maxRow]; omega) (by omega) (hs2.ext hR4) hdj2.symm ?_
     intro l4 rw4 hl4 hR5 hs4 hdj4
     refine zrk ?_
     refine' hG
     refine ⟨(s.toks.length - r1.i).toNat,by omega,r1,rw4,l4,sg2,xs ++ [x1],ss ++ [(x,pl)],rfl,next pl r1 rw3 rw4 x1 hx1 hx3 hx4 hok1 (by omega) (by omega) hR5 (fun h => by have:=hP2 h; omega) hP3,by rw [exRows_append]; exact hl4,?_,hdj4,by omega,rfl⟩
     rw [show exRows (signs (ss ++ [(x,pl)])) = exRows (signs ss) ++ [exRow (.mk x [] [] [] pl)] by simp [signs,exRows_map]]
     exact hs4
 ·intro h
  simp only [wExs,wS]
  omega
end Go.Proofs.YtmeakjgbjldkdaaGreat.Ai
namespace Go.Proofs.YtmeakjgbjldkdaaGreat.Ai
open Go
variable {pr : Prims} {F : Nat → Option IFn}
abbrev LX:=LT (α:=Xp) 5 exRows
def LT.nil {α : Type} {sz : Nat} {rows : List α → List (List AV)} (h : rows [] = []) : LT sz rows:=⟨.list 0 .full [],[],by rw [h]; exact IsL.nil⟩
def exsP (_ : Src) (r : Rd) (l : LX) (r' : Rd) : Prop:=r'.deep = r.deep ∧ ((l.xs.length : Int) ≤ r'.i - r.i + 1 ∧ (r'.code = 0 → r.i < r'.i ∧ (wExs l.xs : Int) ≤ 7000 * (r'.i - r.i))) ∧ (r'.code = 0 → okExs l.xs)
def predP (_ : Src) (r : Rd) (l : LX) (r' : Rd) : Prop:=r'.deep = r.deep ∧ (r'.code = 0 → (wExs l.xs : Int) ≤ 7000 * (r'.i - r.i)) ∧ (r'.code = 0 → okExs l.xs ∧ l.xs.length ≤ 1)
theorem exprs_of (L : LibX pr F) {m : Int} (hl : RC pr F (fun x : Xp => AV.agg (exRow x)) exP 193 [] m) : RC pr F LT.v exsP 195 [] m:=by
 have hm:=L.hm
 have cis0:=fun x => rq_is L.toLibR 0 (by omega) x
 have cis1:=fun x => rq_is L.toLibR 1 (by omega) x
 have cis2:=fun x => rq_is L.toLibR 2 (by omega) x
 have cpl:=rq_place L.toLibR
 have ctk:=fun x => rc_take L.toLibR x 2000
 have cen:=rc_enter L.toLibR 2000
 have cnd:=fun x => rc_need L.toLibR x 2000
 have cfl:=rc_fail L.toLibR 110 (by omega) 2000
 have cnm:=rc_name L.toLibR 2000
 refine rc_start hm L.f195.1 L.f195.2 rfl ?_
 intro H rw n s r hlt hsm hok _ _ _ _ _
 have hR : Rx rw rw:=Rx.rfl
 refine' hG
 ·refine fin_ret rfl rfl (hp_take hlt) ?_
  exact rend (LT.nil rfl) hR rfl (Rok.nx (by assumption) (by omega) (by omega)) ⟨by omega,by simp only [LT.nil,wExs,List.length_nil]; omega,fun _ => trivial⟩
 ·refine at_loop hm (fun m e S' => ∃ (r' : Rd) (rw' : List Nat) (l : AV) (xs : List Xp),S' = ⟨hp H n (blk s r') [],rw'⟩ ∧ Rok s r' ∧ r.i ≤ r'.i ∧ r'.deep = r.deep ∧ (r'.code = 0 → r.code = 0) ∧ Rx rw rw' ∧ Lst rw 5 l (exRows xs) rw' ∧ (xs.length : Int) ≤ r'.i - r.i + 1 ∧
   (r'.code = 0 → (xs.length : Int) ≤ r'.i - r.i ∧ (wExs xs : Int) ≤ 7000 * (r'.i - r.i)) ∧ (r'.code = 0 → okExs xs) ∧ (m : Int) = 2 * (s.toks.length - r'.i) + (if r'.code = 0 then 1 else 0) ∧
   e = [(0,.ptr n 0),(3,l)]) ?_ (m:=(2 * (s.toks.length - rc.i) + (if rc.code = 0 then 1 else 0)).toNat) ⟨rc,rwc,_,[],rfl,by assumption,by omega,by omega,by omega,hR,.nil,by simp; omega,fun _ => ⟨by simp; omega,by simp [wExs]; omega⟩,fun _ => trivial,by split <;> omega,rfl⟩
  rintro m' e S' ⟨r',rw',l,xs,rfl,hok',hA2,hA3,hA4,hR2,hl1,hxl,hwt,hoks,hmm,rfl⟩
  have e2 : (exRows xs).length = xs.length:=exRows_len xs
  have hA1:=hok'.hi
  have hA0:=hok'.lo
  clear hR
  have hR:=hR2
  by_cases hc : r'.code = 0
  ·obtain ⟨hw1,hw2⟩:=hwt hc
   rw [if_pos hc] at hmm
   refine' hG
   refine g_call rfl rfl rfl ?_; refine c_rc (hl) hlt (by assumption) (by omega) (by omega) ?_; intro x1 r1 rw_r1 hR' hok_r1 _ _ _ _ _ hP_x1; replace hR:=hR.trans hR'; (try replace hRL:=hRL.trans hR'); obtain ⟨_,_,hP_x1⟩:=hP_x1; refine zrk ?_
   refine' hG
   refine g_append rfl rfl rfl ?_
   refine ap_lst (hl1.ext (by assumption)) hR (by rw [e2]; simp only [maxRow]; omega) (by rw [e2]; simp only [maxRow]; omega) (by omega) ?_
   intro l4 rw4 hl4 hR4
   refine zrk ?_
   have hrow : exRows (xs ++ [x1]) = exRows xs ++ [exRow x1]:=exRows_append xs [x1]
   rw [← hrow] at hl4
   have hR:=hR4
   have hwx : wExs (xs ++ [x1]) = wExs xs + wEx x1:=by rw [wExs_append]; simp [wExs]
   have hox : r1.code = 0 → okExs (xs ++ [x1]):=fun h => by rw [okExs_append]; exact ⟨hoks hc,hP_x1 h,trivial⟩
   have hlx : (xs ++ [x1]).length = xs.length + 1:=by simp
   refine' hG
   ·refine fin_ret rfl ?_ (hp_take hlt) ?_
    ·exact hl4.isL.below _
    ·exact rend (enc:=LT.v) ⟨l4,xs ++ [x1],hl4.isL⟩ hR rfl (Rok.nx (by assumption) (by omega) (by omega)) ⟨by omega,by simp only [hwx,hlx]; omega,fun h => hox (by omega)⟩
   ·refine ⟨(2 * (s.toks.length - rc.i) + (if rc.code = 0 then 1 else 0)).toNat,?_,rc,rwc,l4,xs ++ [x1],rfl,by assumption,by omega,by omega,by omega,hR,hl4.ext (Rx.trans (by assumption) hR'),by rw [hlx]; omega,?_,fun h => hox (by omega),by split <;> omega,rfl⟩
    ·split <;> omega
    ·intro h0
     rw [hwx,hlx]
     omega
  ·refine' hG
   refine fin_ret rfl ?_ (hp_take hlt) ?_
   ·exact hl1.isL.below _
   ·exact rend (enc:=LT.v) ⟨l,xs,hl1.isL⟩ hR rfl (Rok.nx (by assumption) (by omega) (by omega)) ⟨by omega,⟨hxl,fun h => absurd h hc⟩,fun h => absurd h hc⟩
theorem pred_of (L : LibX pr F) {m : Int} (hl : RC pr F (fun x : Xp => AV.agg (exRow x)) exP 193 [] m) : RC pr F LT.v predP 227 [] m:=by
 have hm:=L.hm
 have cis0:=fun x => rq_is L.toLibR 0 (by omega) x
 have cis1:=fun x => rq_is L.toLibR 1 (by omega) x
 have cis2:=fun x => rq_is L.toLibR 2 (by omega) x
 have cpl:=rq_place L.toLibR
 have ctk:=fun x => rc_take L.toLibR x 2000
 have cen:=rc_enter L.toLibR 2000
 have cnd:=fun x => rc_need L.toLibR x 2000
 have cfl:=rc_fail L.toLibR 110 (by omega) 2000
 have cnm:=rc_name L.toLibR 2000
 refine rc_start hm L.f227.1 L.f227.2 rfl ?_
 intro H rw n s r hlt hsm hok _ _ _ _ _
 have hR : Rx rw rw:=Rx.rfl
 refine' hG
 ·refine g_call rfl rfl rfl ?_; refine c_rc (hl) hlt (by assumption) (by omega) (by omega) ?_; intro x1 r1 rw_r1 hR' hok_r1 _ _ _ _ _ hP_x1; replace hR:=hR.trans hR'; (try replace hRL:=hRL.trans hR'); obtain ⟨_,_,hP_x1⟩:=hP_x1; refine zrk ?_
  refine' hG
  refine fin_ret rfl rfl (hp_take hlt) ?_
  exact rend (enc:=LT.v) ⟨_,[x1],IsL.lit (rows:=exRows [x1]) (by simp [exRows])⟩ hR rfl (Rok.nx (by assumption) (by omega) (by omega)) ⟨by omega,by simp only [wExs]; omega,fun h => ⟨⟨hP_x1 (by omega),trivial⟩,by simp⟩⟩
 all_goals
  refine fin_ret rfl rfl (hp_take hlt) ?_
  exact rend (enc:=LT.v) (LT.nil rfl) hR rfl (Rok.nx (by assumption) (by omega) (by omega)) ⟨by omega,by simp only [LT.nil,wExs]; omega,fun h => ⟨trivial,by simp [LT.nil]⟩⟩
end Go.Proofs.YtmeakjgbjldkdaaGreat.Ai
namespace Go.Proofs.YtmeakjgbjldkdaaGreat.Ai
open Go
variable {pr : Prims} {F : Nat → Option IFn}
def tyP (_ : Src) (r : Rd) (t : Ty) (r' : Rd) : Prop:=r'.deep = r.deep ∧ (r'.code = 0 → r.i < r'.i ∧ (wTy t : Int) ≤ 7000 * (r'.i - r.i)) ∧ (r'.code = 0 → okTy t)
structure TyIn (s : Src) (r : Rd) (rw : List Nat) (r' : Rd) (rw' : List Nat) (t : Ty) (C : List AV) : Prop where
 ok : Rok s r'
 mono : r.i ≤ r'.i
 deep : r'.deep = r.deep + 1
 code : r'.code = 0 → r.code = 0
 rx : Rx rw rw'
 can : canonL C = tyRow t
 len : C.length = 6
 wt : r'.code = 0 → r.i < r'.i ∧ (wTy t : Int) ≤ 7000 * (r'.i - r.i)
 okt : r'.code = 0 → okTy t
theorem typ_loop (L : LibX pr F) {m : Int} (hl : RC pr F LT.v predP 227 [] m) {H : List Blk} {n : Nat} (hlt : n < H.length) {s : Src} {r r0 : Rd} {rw rw0 : List Nat} {t0 : Ty} {C0 : List AV} {Z : List AV} (hZ : Z.length = 6) (hok : Rok s r) (hd0 : r.deep < 100) (hdm : 101 ≤ r.deep + (m + 1)) (h : TyIn s r rw r0 rw0 t0 C0) :
  At pr F H.length (fin [RVar.cell 2 (some 6)] H.length (REnd (fun x : Ty => AV.agg (tyRow x)) tyP H n s r rw))
   (.loop [0,2,3] (.seq (.seq r192_11 (.cond (.tmp 27) .skip (.exit 0))) (.block 1 (.seq r192_12 (.seq r192_13 (.seq r192_14 (.seq r192_15 (.seq r192_16 r192_17))))))))
   [Fr.blk 0,Fr.code (.seq r192_18 (.seq r192_19 .ret))] [(0,.ptr n 0),(2,.ptr (H.length + 0) 0),(3,.ptr (H.length + 1) 0)] ⟨hp H n (blk s r0) [.cells Z,.cells C0],rw0⟩:=by
 have hm:=L.hm
 have cis0:=fun x => rq_is L.toLibR 0 (by omega) x
 have cis1:=fun x => rq_is L.toLibR 1 (by omega) x
 have cis2:=fun x => rq_is L.toLibR 2 (by omega) x
 have cpl:=rq_place L.toLibR
 have ctk:=fun x => rc_take L.toLibR x 2000
 have cen:=rc_enter L.toLibR 2000
 have cnd:=fun x => rc_need L.toLibR x 2000
 have cfl:=rc_fail L.toLibR 110 (by omega) 2000
 have cnm:=rc_name L.toLibR 2000
 have hsm:=s.small
 have hi2:=hok.lo
 have hi3:=hok.dlo
 have h01:=h.ok.hi
 refine at_loop hm (fun m e S' => ∃ (r' : Rd) (rw' : List Nat) (t : Ty) (C : List AV) (J : List Blk),S' = ⟨hp H n (blk s r') (.cells Z :: .cells C :: J),rw'⟩ ∧ TyIn s r rw r' rw' t C ∧ (m : Int) = s.toks.length - r'.i ∧
   e = [(0,.ptr n 0),(2,.ptr (H.length + 0) 0),(3,.ptr (H.length + 1) 0)]) ?_ (m:=(s.toks.length - r0.i).toNat) ⟨r0,rw0,t0,C0,[],rfl,h,by omega,rfl⟩
 rintro m' e S' ⟨r',rw',t,C,J,rfl,hin,hmm,rfl⟩
 obtain ⟨hok',h2,h3,h4,hR,hC,hCl,h8,h9⟩:=hin
 have h5:=hok'.lo
 have h6:=hok'.hi
 have h7:=hok'.dlo
 refine' hG
 ·refine g_call rfl rfl rfl ?_; refine c_rc (hl) hlt (by assumption) (by omega) (by omega) ?_; intro p1 r1 rw_r1 hR' hok_r1 _ _ _ _ _ hP_p1; replace hR:=hR.trans hR'; (try replace hRL:=hRL.trans hR'); obtain ⟨_,_,hP_p1⟩:=hP_p1; refine zrk ?_
  refine' hG
  refine ⟨(s.toks.length - r1.i).toNat,by omega,r1,rw_r1,.mk 4 [] true [t] p1.xs _,_,_,rfl,⟨by assumption,by omega,by omega,by omega,hR,by (simp only [canonL,tyRow,tyRows,LT.canon,List.map_cons,List.map_nil,canon_lst,canon_str,canon_int,canon_bool]; try rfl),rfl,fun h => ?_,fun h => ?_⟩,by omega,rfl⟩
  ·have:=h8 (by omega)
   simp only [wTy,wTys,List.length_nil]
   omega
  ·have:=h9 (by omega)
   have:=hP_p1 h
   rw [okTy]
   exact ⟨.inr (.inr (.inr ⟨rfl,rfl,t,rfl⟩)),this.2,by rw [okTys,okTys]; exact ⟨by assumption,trivial⟩,this.1⟩
 ·refine g_call rfl rfl rfl ?_; refine c_rc (hl) hlt (by assumption) (by omega) (by omega) ?_; intro p1 r1 rw_r1 hR' hok_r1 _ _ _ _ _ hP_p1; replace hR:=hR.trans hR'; (try replace hRL:=hRL.trans hR'); obtain ⟨_,_,hP_p1⟩:=hP_p1; refine zrk ?_
  refine' hG
  refine ⟨(s.toks.length - r1.i).toNat,by omega,r1,rw_r1,.mk 4 [] false [t] p1.xs _,_,_,rfl,⟨by assumption,by omega,by omega,by omega,hR,by (simp only [canonL,tyRow,tyRows,LT.canon,List.map_cons,List.map_nil,canon_lst,canon_str,canon_int,canon_bool]; try rfl),rfl,fun h => ?_,fun h => ?_⟩,by omega,rfl⟩
  ·have:=h8 (by omega)
   simp only [wTy,wTys,List.length_nil]
   omega
  ·have:=h9 (by omega)
   have:=hP_p1 h
   rw [okTy]
   exact ⟨.inr (.inr (.inr ⟨rfl,rfl,t,rfl⟩)),this.2,by rw [okTys,okTys]; exact ⟨by assumption,trivial⟩,this.1⟩
 ·refine fin_cell hlt rfl rfl (row_ty t).load ((row_ty _).below _) ?_
  exact rend t hR rfl (Rok.nx (by assumption) (by omega) (by omega)) ⟨by omega,fun h => by have:=h8 (by omega); omega,fun h => h9 (by omega)⟩
theorem typ_of (L : LibX pr F) {m : Int} (hl : RC pr F LT.v predP 227 [] m) : RC pr F (fun x : Ty => AV.agg (tyRow x)) tyP 192 [] (m + 1):=by
 have hm:=L.hm
 have cis0:=fun x => rq_is L.toLibR 0 (by omega) x
 have cis1:=fun x => rq_is L.toLibR 1 (by omega) x
 have cis2:=fun x => rq_is L.toLibR 2 (by omega) x
 have cpl:=rq_place L.toLibR
 have ctk:=fun x => rc_take L.toLibR x 2000
 have cen:=rc_enter L.toLibR 2000
 have cnd:=fun x => rc_need L.toLibR x 2000
 have cfl:=rc_fail L.toLibR 110 (by omega) 2000
 have cnm:=rc_name L.toLibR 2000
 refine rc_start hm L.f192.1 L.f192.2 rfl ?_
 intro H rw n s r hlt hsm hok _ _ _ _ _
 have hR : Rx rw rw:=Rx.rfl
 refine' hG
 ·refine g_call rfl rfl rfl ?_; refine c_rc (hl) hlt (by assumption) (by omega) (by omega) ?_; intro p1 r1 rw_r1 hR' hok_r1 _ _ _ _ _ hP_p1; replace hR:=hR.trans hR'; (try replace hRL:=hRL.trans hR'); obtain ⟨_,_,hP_p1⟩:=hP_p1; refine zrk ?_
  refine' hG
  refine typ_loop L hl hlt rfl hok (by omega) (by omega) (t0:=.mk 1 [] false [] p1.xs _) ⟨by assumption,by omega,by omega,by omega,hR,by simp only [canonL,tyRow,tyRows,lst_nil,LT.canon,List.map_cons,List.map_nil,canon_str,canon_int,canon_bool,canon_nil]; rfl,rfl,fun h => ?_,fun h => ?_⟩
  ·simp only [wTy,wTys,List.length_nil]
   omega
  ·have:=hP_p1 h
   rw [okTy]
   exact ⟨.inl ⟨rfl,rfl,rfl,rfl⟩,this.2,by rw [okTys]; trivial,this.1⟩
 ·refine g_call rfl rfl rfl ?_; refine c_rc (hl) hlt (by assumption) (by omega) (by omega) ?_; intro p1 r1 rw_r1 hR' hok_r1 _ _ _ _ _ hP_p1; replace hR:=hR.trans hR'; (try replace hRL:=hRL.trans hR'); obtain ⟨_,_,hP_p1⟩:=hP_p1; refine zrk ?_
  refine' hG
  refine typ_loop L hl hlt rfl hok (by omega) (by omega) (t0:=.mk 2 [] false [] p1.xs _) ⟨by assumption,by omega,by omega,by omega,hR,by simp only [canonL,tyRow,tyRows,lst_nil,LT.canon,List.map_cons,List.map_nil,canon_str,canon_int,canon_bool,canon_nil]; rfl,rfl,fun h => ?_,fun h => ?_⟩
  ·simp only [wTy,wTys,List.length_nil]
   omega
  ·have:=hP_p1 h
   rw [okTy]
   exact ⟨.inr (.inl ⟨rfl,rfl,rfl,rfl⟩),this.2,by rw [okTys]; trivial,this.1⟩
 ·refine g_call rfl rfl rfl ?_; refine c_rc (cnm) hlt (by assumption) (by omega) (by omega) ?_; intro x1 r1 rw_r1 hR' hok_r1 _ _ _ _ _ hP_x1; replace hR:=hR.trans hR'; (try replace hRL:=hRL.trans hR'); obtain ⟨_,_,hP_x1⟩:=hP_x1; refine zrk ?_
  refine' hG
  all_goals
   refine g_call rfl rfl rfl ?_; refine c_rc (hl) hlt (by assumption) (by omega) (by omega) ?_; intro p1 r2 rw_r2 hR' hok_r2 _ _ _ _ _ hP_p1; replace hR:=hR.trans hR'; (try replace hRL:=hRL.trans hR'); obtain ⟨_,_,hP_p1⟩:=hP_p1; refine zrk ?_
   refine' hG
   refine typ_loop L hl hlt rfl hok (by omega) (by omega) (t0:=.mk 3 x1 _ [] p1.xs _) ⟨by assumption,by omega,by omega,by omega,hR,by simp only [canonL,tyRow,tyRows,lst_nil,LT.canon,List.map_cons,List.map_nil,canon_str,canon_int,canon_bool,canon_nil]; rfl,rfl,fun h => ?_,fun h => ?_⟩
   ·simp only [wTy,wTys]
    omega
   ·have:=hP_p1 h
    have hx:=hP_x1 (by omega)
    rw [okTy]
    exact ⟨.inr (.inr (.inl ⟨rfl,rfl,hx⟩)),this.2,by rw [okTys]; trivial,this.1⟩
 ·refine fin_cell hlt rfl rfl (v:=.agg (tyRow (.mk 0 [] false [] [] _))) (by (simp only [aload,overlay,canonL,cells_int,tyRow,exRows,tyRows,lst_nil,List.getElem?_cons_zero,List.take_succ_cons,List.take_zero,List.drop_succ_cons,List.drop_zero,List.map_cons,List.map_nil,List.nil_append,List.append_nil,List.cons_append,List.length_cons,List.length_nil,Nat.reduceAdd,Nat.zero_add,Nat.le_refl,if_true,canon_str,canon_int,canon_bool,canon_nil]; try rfl)) ((row_ty _).below _) ?_
  exact rend (.mk 0 [] false [] [] _) hR rfl (Rok.nx (by assumption) (by omega) (by omega)) ⟨by omega,fun h => by omega,fun h => by omega⟩
end Go.Proofs.YtmeakjgbjldkdaaGreat.Ai
