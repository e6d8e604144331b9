/- A part of what is proved: R10, L3, R11, R12, R13, R14, R15, R16, R17, R18. No condition. -/
import Derived.Test.YtmeakjgbjldkdaaGreatY8
import Derived.Test.YtmeakjgbjldkdaaGreatProg
import Derived.KernelRfl
set_option maxRecDepth 100000
set_option maxHeartbeats 16000000
namespace Go.Proofs.YtmeakjgbjldkdaaGreat.Ai
open Go
variable {pr : Prims} {F : Nat → Option IFn}
theorem rc_low {α : Type} {enc : α → AV} {post : Src → Rd → α → Rd → Prop} {f : Nat} {args : List AV} {m : Int} (hm : m ≤ -100) : RC pr F enc post f args m:=by
 intro H rw n s r M _ _ h1 h2
 omega
theorem rc_mono {α : Type} {enc : α → AV} {post : Src → Rd → α → Rd → Prop} {f : Nat} {args : List AV} {m m' : Int} (h : RC pr F enc post f args m) (hm : m' ≤ m) : RC pr F enc post f args m':=by
 intro H rw n s r M a b h1 h2
 exact h H rw n s r M a b (by omega) h2
theorem exprs_all (L : LibX pr F) : ∀ k : Nat,RC pr F (fun x : Xp => AV.agg (exRow x)) exP 193 [] (k - 100) ∧ RC pr F (fun x : Ty => AV.agg (tyRow x)) tyP 192 [] (k - 100) ∧ RC pr F (fun x : Xp => AV.agg (exRow x)) exP 244 [] (k - 101)
 | 0 => ⟨rc_low (by omega),rc_low (by omega),rc_low (by omega)⟩
 | k + 1 => by
  obtain ⟨h1,h2,h3⟩:=exprs_all L k
  have hxs:=exprs_of L h1
  have hpr:=pred_of L h1
  have hp:=primary_of L h1 hxs h2
  have ho:=operand_of L hp h1 hxs (by rw [show ((k : Int) - 100 - 1) = k - 101 by omega]; exact h3)
  have l6:=level6 L ho
  have l5:=levelk L 5 (by omega) (by omega) l6
  have l4:=levelk L 4 (by omega) (by omega) l5
  have l3:=levelk L 3 (by omega) (by omega) l4
  have l2:=levelk L 2 (by omega) (by omega) l3
  have l1:=levelk L 1 (by omega) (by omega) l2
  have l0:=levelk L 0 (by omega) (by omega) l1
  refine ⟨?_,?_,?_⟩
  ·rw [show (((k + 1 : Nat) : Int) - 100) = ((k : Int) - 100) + 1 by omega]
   exact expr_of_level L l0
  ·rw [show (((k + 1 : Nat) : Int) - 100) = ((k : Int) - 100) + 1 by omega]
   exact typ_of L hpr
  ·rw [show (((k + 1 : Nat) : Int) - 101) = ((k : Int) - 100) by omega]
   exact ho
theorem rc_expr (L : LibX pr F) : RC pr F (fun x : Xp => AV.agg (exRow x)) exP 193 [] 2000:=by
 have:=(exprs_all L 2100).1
 exact rc_mono this (by omega)
theorem rc_typ (L : LibX pr F) : RC pr F (fun x : Ty => AV.agg (tyRow x)) tyP 192 [] 2000:=by
 have:=(exprs_all L 2100).2.1
 exact rc_mono this (by omega)
theorem rc_exprs (L : LibX pr F) : RC pr F LT.v exsP 195 [] 2000:=exprs_of L (rc_expr L)
end Go.Proofs.YtmeakjgbjldkdaaGreat.Ai
namespace Go.Proofs.YtmeakjgbjldkdaaGreat.Ai
open Go
set_option maxRecDepth 100000
set_option maxHeartbeats 16000000
def F94a : {l : List IC // Tr.fn Tr.TT Tryz.f94 0 [[0],[0,3],[0,3,5],[0,3],[0,3,17],[0,3],[3],[2]] = l}:=⟨_,by cbv⟩
def r94_0 : IC:=Tr.pk F94a.1 0
def r94_1 : IC:=Tr.pk F94a.1 1
def r94_2 : IC:=Tr.pk F94a.1 2
def r94_3 : IC:=Tr.pk F94a.1 3
def r94_4 : IC:=Tr.pk F94a.1 4
def r94_5 : IC:=Tr.pk F94a.1 5
def r94_6 : IC:=Tr.pk F94a.1 6
def r94_7 : IC:=Tr.pk F94a.1 7
noncomputable def i94 : IFn:=⟨1,(.seq r94_0 (.seq r94_1 (.seq (.seq r94_2 (.cond (.tmp 5) (.seq r94_3 (.block 0 (.loop [0,3] (.seq (.seq r94_4 (.cond (.tmp 17) (.skip) (.exit 0))) (.block 1 r94_5))))) (.skip))) (.seq r94_6 (.seq r94_7 .ret))))),[.tmp 2]⟩
theorem c94 : chkFn Tryz.prog Tryz.f94 i94 = true:=by kernel_rfl
def F141a : {l : List IC // Tr.fn Tr.TT Tryz.f141 0 [[0,2,56],[0,2,3,56],[0,2,3,9,56],[0,2,3],[0,2,3],[0,2,3,17],[0,2,3],[0,2,3],[0,2,3],[2,3],[0,2,3,30,56],[2,3],[0,2,3,35,56],[0,2,3,56],[0,2,3,56],[0,2,3,56],[0,2,3,56],[0,2,3,48,56],[0,2,3,56],[2,3],[0,2,3,61],[0,2,3],[0,2,3,67],[0,2,3],[2,3],[0,2,3,74],[0,2,3],[0,2,3],[0,2,3],[2,3],[2,3],[2]] = l}:=⟨_,by cbv⟩
def r141_0 : IC:=Tr.pk F141a.1 0
def r141_1 : IC:=Tr.pk F141a.1 1
def r141_2 : IC:=Tr.pk F141a.1 2
def r141_3 : IC:=Tr.pk F141a.1 3
def r141_4 : IC:=Tr.pk F141a.1 4
def r141_5 : IC:=Tr.pk F141a.1 5
def r141_6 : IC:=Tr.pk F141a.1 6
def r141_7 : IC:=Tr.pk F141a.1 7
def r141_8 : IC:=Tr.pk F141a.1 8
def r141_9 : IC:=Tr.pk F141a.1 9
def r141_10 : IC:=Tr.pk F141a.1 10
def r141_11 : IC:=Tr.pk F141a.1 11
def r141_12 : IC:=Tr.pk F141a.1 12
def r141_13 : IC:=Tr.pk F141a.1 13
def r141_14 : IC:=Tr.pk F141a.1 14
def r141_15 : IC:=Tr.pk F141a.1 15
def r141_16 : IC:=Tr.pk F141a.1 16
def r141_17 : IC:=Tr.pk F141a.1 17
def r141_18 : IC:=.region [] [Qf 0 49 3 3,Qd 1 50 49,Qm 2 51 0,Qn 4 53 50,Qq 5 54 (.mkList 5 [(.const (.agg [(.str []),(.str []),(.list 0 .full []),(.list 0 .full []),(Qz 0)]))]),Qc 3 52 193 [(.tmp 51)] [1],Ql 6 55 (.append1 5 88 (.tmp 50) (.tmp 54) (.tmp 53) (.tmp 52) 56 7 8) [],Qf 9 57 3 3,Qs 10 1 57 55 []] [0,2,3,56]
def r141_19 : IC:=Tr.pk F141a.1 19
def r141_20 : IC:=Tr.pk F141a.1 20
def r141_21 : IC:=Tr.pk F141a.1 21
def r141_22 : IC:=Tr.pk F141a.1 22
def r141_23 : IC:=Tr.pk F141a.1 23
def r141_24 : IC:=Tr.pk F141a.1 24
def r141_25 : IC:=Tr.pk F141a.1 25
def r141_26 : IC:=Tr.pk F141a.1 26
def r141_27 : IC:=Tr.pk F141a.1 27
def r141_28 : IC:=Tr.pk F141a.1 28
def r141_29 : IC:=Tr.pk F141a.1 29
def r141_30 : IC:=Tr.pk F141a.1 30
def r141_31 : IC:=Tr.pk F141a.1 31
noncomputable def i141 : IFn:=⟨1,(.seq r141_0 (.seq r141_1 (.seq (.block 0 (.seq r141_2 (.cond (.tmp 9) (.seq r141_3 (.seq r141_4 (.seq (.seq r141_5 (.cond (.tmp 17) r141_6 (.skip))) (.seq r141_7 (.seq r141_8 r141_9))))) (.seq r141_10 (.cond (.tmp 30) r141_11 (.seq r141_12 (.cond (.tmp 35) (.seq r141_13 (.seq r141_14 (.seq r141_15 (.seq r141_16 (.seq (.block 1 (.loop [0,2,3,56] (.seq (.seq r141_17 (.cond (.tmp 48) (.skip) (.exit 1))) (.block 2 r141_18)))) r141_19))))) (.seq r141_20 (.cond (.tmp 61) (.seq r141_21 (.seq r141_22 (.cond (.tmp 67) (.seq r141_23 r141_24) (.skip)))) (.seq r141_25 (.cond (.tmp 74) (.seq r141_26 (.seq r141_27 (.seq r141_28 r141_29))) r141_30))))))))))) (.seq r141_31 .ret)))),[.cell 2 (some 7)]⟩
theorem c141 : chkFn Tryz.prog Tryz.f141 i141 = true:=by kernel_rfl
def F196a : {l : List IC // Tr.fn Tr.TT Tryz.f196 0 [[0,2],[0,2,3],[0,2,3],[0,2,3],[0,2,3],[0,2,3],[0,2,3],[0,2,3,21],[0,2,3,23],[0,2,3,25],[0,2,3],[2,3],[2,3],[2]] = l}:=⟨_,by cbv⟩
def r196_0 : IC:=Tr.pk F196a.1 0
def r196_1 : IC:=Tr.pk F196a.1 1
def r196_2 : IC:=Tr.pk F196a.1 2
def r196_3 : IC:=Tr.pk F196a.1 3
def r196_4 : IC:=Tr.pk F196a.1 4
def r196_5 : IC:=Tr.pk F196a.1 5
def r196_6 : IC:=Tr.pk F196a.1 6
def r196_7 : IC:=Tr.pk F196a.1 7
def r196_8 : IC:=Tr.pk F196a.1 8
def r196_9 : IC:=Tr.pk F196a.1 9
def r196_10 : IC:=Tr.pk F196a.1 10
def r196_11 : IC:=Tr.pk F196a.1 11
def r196_12 : IC:=Tr.pk F196a.1 12
def r196_13 : IC:=Tr.pk F196a.1 13
noncomputable def i196 : IFn:=⟨1,(.seq r196_0 (.seq r196_1 (.seq r196_2 (.seq r196_3 (.seq r196_4 (.seq r196_5 (.seq r196_6 (.seq (.seq r196_7 (.cond (.tmp 21) (.seq r196_8 (.cond (.tmp 23) (.seq (.seq r196_9 (.cond (.tmp 25) r196_10 (.skip))) r196_11) r196_12)) (.skip))) (.seq r196_13 .ret))))))))),[.cell 2 (some 7)]⟩
theorem c196 : chkFn Tryz.prog Tryz.f196 i196 = true:=by kernel_rfl
def F197a : {l : List IC // Tr.fn Tr.TT Tryz.f197 0 [[0,1,4,80],[0,1,4,80],[0,1,4,80],[0,1,4,16,80],[0,1,4,18,80],[0,1,4,18,21,80],[0,1,80],[0,1,4,18,34,80],[0,1,80],[0,1,4,52,80],[0,1,80],[0,1,80],[0,1,80],[0],[]] = l}:=⟨_,by cbv⟩
def r197_0 : IC:=Tr.pk F197a.1 0
def r197_1 : IC:=Tr.pk F197a.1 1
def r197_2 : IC:=Tr.pk F197a.1 2
def r197_3 : IC:=Tr.pk F197a.1 3
def r197_4 : IC:=Tr.pk F197a.1 4
def r197_5 : IC:=Tr.pk F197a.1 5
def r197_6 : IC:=Tr.pk F197a.1 6
def r197_7 : IC:=Tr.pk F197a.1 7
def r197_8 : IC:=Tr.pk F197a.1 8
def r197_9 : IC:=Tr.pk F197a.1 9
def r197_10 : IC:=Tr.pk F197a.1 10
def r197_11 : IC:=Tr.pk F197a.1 11
def r197_12 : IC:=Tr.pk F197a.1 12
def r197_13 : IC:=.region [] [Qm 0 71 1,Qq 1 72 (.nilCheck (.tmp 71)),Qf 2 73 3 72,Qd 3 74 73,Qm 4 75 0,Qn 6 77 74,Qq 7 78 (.mkList 5 [(.const (.agg [(.str []),(.str []),(.list 0 .full []),(.list 0 .full []),(Qz 0)]))]),Qc 5 76 193 [(.tmp 75)] [3],Ql 8 79 (.append1 5 88 (.tmp 74) (.tmp 78) (.tmp 77) (.tmp 76) 80 9 10) [],Qq 11 81 (.nilCheck (.tmp 71)),Qf 12 82 3 81,Qs 13 1 82 79 []] [0]
def r197_14 : IC:=Tr.pk F197a.1 14
noncomputable def i197 : IFn:=⟨2,(.seq r197_0 (.seq r197_1 (.seq r197_2 (.seq (.seq r197_3 (.cond (.tmp 16) (.seq (.seq r197_4 (.block 0 (.seq r197_5 (.cond (.tmp 21) r197_6 (.seq r197_7 (.cond (.tmp 34) r197_8 (.seq r197_9 (.cond (.tmp 52) r197_10 r197_11)))))))) (.seq r197_12 r197_13)) (.skip))) r197_14)))),[]⟩
theorem c197 : chkFn Tryz.prog Tryz.f197 i197 = true:=by kernel_rfl
def F194a : {l : List IC // Tr.fn Tr.TT Tryz.f194 0 [[0],[0,3],[0,3],[0,3,8],[2],[0,3,13],[0,3,4],[0,3,4],[0,3,4],[0,3,4],[0,3],[0,3,30],[2],[0,3],[2]] = l}:=⟨_,by cbv⟩
def r194_0 : IC:=Tr.pk F194a.1 0
def r194_1 : IC:=Tr.pk F194a.1 1
def r194_2 : IC:=Tr.pk F194a.1 2
def r194_3 : IC:=Tr.pk F194a.1 3
def r194_4 : IC:=Tr.pk F194a.1 4
def r194_5 : IC:=Tr.pk F194a.1 5
def r194_6 : IC:=Tr.pk F194a.1 6
def r194_7 : IC:=Tr.pk F194a.1 7
def r194_8 : IC:=Tr.pk F194a.1 8
def r194_9 : IC:=Tr.pk F194a.1 9
def r194_10 : IC:=Tr.pk F194a.1 10
def r194_11 : IC:=Tr.pk F194a.1 11
def r194_12 : IC:=Tr.pk F194a.1 12
def r194_13 : IC:=Tr.pk F194a.1 13
def r194_14 : IC:=Tr.pk F194a.1 14
noncomputable def i194 : IFn:=⟨1,(.seq r194_0 (.seq r194_1 (.seq r194_2 (.seq (.seq r194_3 (.cond (.tmp 8) (.seq r194_4 .ret) (.skip))) (.seq (.block 0 (.loop [0,3] (.seq (.seq r194_5 (.cond (.tmp 13) (.skip) (.exit 0))) (.block 1 (.seq r194_6 (.seq r194_7 (.seq r194_8 (.seq r194_9 (.seq r194_10 (.seq (.seq r194_11 (.cond (.tmp 30) (.seq r194_12 .ret) (.skip))) r194_13)))))))))) (.seq r194_14 .ret)))))),[.tmp 2]⟩
theorem c194 : chkFn Tryz.prog Tryz.f194 i194 = true:=by kernel_rfl
def F139a : {l : List IC // Tr.fn Tr.TT Tryz.f139 0 [[0,2],[0,2],[0,2,3],[0,2,3],[0,2,3],[0,2,3],[0,2,3,4],[0,2,3,4,21],[2,3],[2,3],[2]] = l}:=⟨_,by cbv⟩
def r139_0 : IC:=Tr.pk F139a.1 0
def r139_1 : IC:=Tr.pk F139a.1 1
def r139_2 : IC:=Tr.pk F139a.1 2
def r139_3 : IC:=Tr.pk F139a.1 3
def r139_4 : IC:=Tr.pk F139a.1 4
def r139_5 : IC:=Tr.pk F139a.1 5
def r139_6 : IC:=Tr.pk F139a.1 6
def r139_7 : IC:=Tr.pk F139a.1 7
def r139_8 : IC:=Tr.pk F139a.1 8
def r139_9 : IC:=Tr.pk F139a.1 9
def r139_10 : IC:=Tr.pk F139a.1 10
noncomputable def i139 : IFn:=⟨1,(.seq r139_0 (.seq r139_1 (.seq r139_2 (.seq r139_3 (.seq r139_4 (.seq r139_5 (.seq r139_6 (.seq (.seq r139_7 (.cond (.tmp 21) r139_8 r139_9)) (.seq r139_10 .ret))))))))),[.cell 2 (some 11)]⟩
theorem c139 : chkFn Tryz.prog Tryz.f139 i139 = true:=by kernel_rfl
def F138a : {l : List IC // Tr.fn Tr.TT Tryz.f138 0 [[0,1,9,61],[0,1,4],[0,1,4],[0,1,4],[0,1,4],[0,1,4],[0,1,4],[1,4],[],[0,1,49,61],[0],[],[0,1,66],[0,1,5],[0,1,5],[0,1,5],[0,1,5,83],[0,1,5],[0,1,5],[0,1,5],[1,5],[],[0,1,103],[0,1,6],[1,6],[],[]] = l}:=⟨_,by cbv⟩
def r138_0 : IC:=Tr.pk F138a.1 0
def r138_1 : IC:=Tr.pk F138a.1 1
def r138_2 : IC:=Tr.pk F138a.1 2
def r138_3 : IC:=Tr.pk F138a.1 3
def r138_4 : IC:=Tr.pk F138a.1 4
def r138_5 : IC:=Tr.pk F138a.1 5
def r138_6 : IC:=Tr.pk F138a.1 6
def r138_7 : IC:=Tr.pk F138a.1 7
def r138_8 : IC:=Tr.pk F138a.1 8
def r138_9 : IC:=Tr.pk F138a.1 9
def r138_10 : IC:=.region [] [Qm 0 52 1,Qq 1 53 (.nilCheck (.tmp 52)),Qf 2 54 5 53,Qd 3 55 54,Qm 4 56 0,Qn 6 58 55,Qq 7 59 (.mkList 5 [(.const (.agg [(.str []),(.str []),(.list 0 .full []),(.list 0 .full []),(Qz 0)]))]),Qc 5 57 193 [(.tmp 56)] [3],Ql 8 60 (.append1 5 88 (.tmp 55) (.tmp 59) (.tmp 58) (.tmp 57) 61 9 10) [],Qq 11 62 (.nilCheck (.tmp 52)),Qf 12 63 5 62,Qs 13 1 63 60 []] [0]
def r138_11 : IC:=Tr.pk F138a.1 11
def r138_12 : IC:=Tr.pk F138a.1 12
def r138_13 : IC:=Tr.pk F138a.1 13
def r138_14 : IC:=Tr.pk F138a.1 14
def r138_15 : IC:=Tr.pk F138a.1 15
def r138_16 : IC:=Tr.pk F138a.1 16
def r138_17 : IC:=Tr.pk F138a.1 17
def r138_18 : IC:=Tr.pk F138a.1 18
def r138_19 : IC:=Tr.pk F138a.1 19
def r138_20 : IC:=Tr.pk F138a.1 20
def r138_21 : IC:=Tr.pk F138a.1 21
def r138_22 : IC:=Tr.pk F138a.1 22
def r138_23 : IC:=Tr.pk F138a.1 23
def r138_24 : IC:=Tr.pk F138a.1 24
def r138_25 : IC:=Tr.pk F138a.1 25
def r138_26 : IC:=Tr.pk F138a.1 26
noncomputable def i138 : IFn:=⟨2,(.block 0 (.seq r138_0 (.cond (.tmp 9) (.seq r138_1 (.seq r138_2 (.seq r138_3 (.seq r138_4 (.seq r138_5 (.seq r138_6 (.seq r138_7 r138_8))))))) (.seq r138_9 (.cond (.tmp 49) (.seq r138_10 r138_11) (.seq r138_12 (.cond (.tmp 66) (.seq r138_13 (.seq r138_14 (.seq r138_15 (.seq (.seq r138_16 (.cond (.tmp 83) (.seq r138_17 (.seq r138_18 r138_19)) (.skip))) (.seq r138_20 r138_21))))) (.seq r138_22 (.cond (.tmp 103) (.seq r138_23 (.seq r138_24 r138_25)) r138_26))))))))),[]⟩
theorem c138 : chkFn Tryz.prog Tryz.f138 i138 = true:=by kernel_rfl
def F91a : {l : List IC // Tr.fn Tr.TT Tryz.f91 0 [[0,2],[0,2],[0,2,3],[0,2,3],[0,2,3,13],[0,2,3],[0,2,3,18],[0,2,3],[0,2,3],[0,2,3,33],[0,2,3],[2]] = l}:=⟨_,by cbv⟩
def r91_0 : IC:=Tr.pk F91a.1 0
def r91_1 : IC:=Tr.pk F91a.1 1
def r91_2 : IC:=Tr.pk F91a.1 2
def r91_3 : IC:=Tr.pk F91a.1 3
def r91_4 : IC:=Tr.pk F91a.1 4
def r91_5 : IC:=Tr.pk F91a.1 5
def r91_6 : IC:=Tr.pk F91a.1 6
def r91_7 : IC:=Tr.pk F91a.1 7
def r91_8 : IC:=Tr.pk F91a.1 8
def r91_9 : IC:=Tr.pk F91a.1 9
def r91_10 : IC:=Tr.pk F91a.1 10
def r91_11 : IC:=Tr.pk F91a.1 11
noncomputable def i91 : IFn:=⟨1,(.seq r91_0 (.seq r91_1 (.seq r91_2 (.seq r91_3 (.seq (.seq r91_4 (.cond (.tmp 13) r91_5 (.skip))) (.seq (.seq r91_6 (.cond (.tmp 18) r91_7 (.skip))) (.seq r91_8 (.seq (.block 0 (.loop [0,2,3] (.seq (.seq r91_9 (.cond (.tmp 33) (.skip) (.exit 0))) (.block 1 r91_10)))) (.seq r91_11 .ret))))))))),[.cell 2 (some 9)]⟩
theorem c91 : chkFn Tryz.prog Tryz.f91 i91 = true:=by kernel_rfl
def F92a : {l : List IC // Tr.fn Tr.TT Tryz.f92 0 [[0,2],[0,2],[0,2,3],[0,2,3],[0,2,3,14],[0,2,3],[0,2,3],[0,2,3,29],[0,2,3,4],[0,2,3,4],[0,2,3,4],[0,2,3],[2]] = l}:=⟨_,by cbv⟩
def r92_0 : IC:=Tr.pk F92a.1 0
def r92_1 : IC:=Tr.pk F92a.1 1
def r92_2 : IC:=Tr.pk F92a.1 2
def r92_3 : IC:=Tr.pk F92a.1 3
def r92_4 : IC:=Tr.pk F92a.1 4
def r92_5 : IC:=Tr.pk F92a.1 5
def r92_6 : IC:=Tr.pk F92a.1 6
def r92_7 : IC:=Tr.pk F92a.1 7
def r92_8 : IC:=Tr.pk F92a.1 8
def r92_9 : IC:=Tr.pk F92a.1 9
def r92_10 : IC:=Tr.pk F92a.1 10
def r92_11 : IC:=Tr.pk F92a.1 11
def r92_12 : IC:=Tr.pk F92a.1 12
noncomputable def i92 : IFn:=⟨1,(.seq r92_0 (.seq r92_1 (.seq r92_2 (.seq r92_3 (.seq (.seq r92_4 (.cond (.tmp 14) r92_5 (.skip))) (.seq r92_6 (.seq (.block 0 (.loop [0,2,3] (.seq (.seq r92_7 (.cond (.tmp 29) (.skip) (.exit 0))) (.block 1 (.seq r92_8 (.seq r92_9 (.seq r92_10 r92_11))))))) (.seq r92_12 .ret)))))))),[.cell 2 (some 9)]⟩
theorem c92 : chkFn Tryz.prog Tryz.f92 i92 = true:=by kernel_rfl
def F51a : {l : List IC // Tr.fn Tr.TT Tryz.f51 0 [[0,2],[0,2,5,6,7],[0,2,5,6,7,17],[2,3,4],[2,8],[2,8,9],[2,8,9,31],[2,8,9,33],[2,8,9],[2,8,9],[2,8,9],[2,8,9],[2,8,9,62],[2,8,9],[2,8,9,69],[2,3,4],[2,3,4]] = l}:=⟨_,by cbv⟩
def r51_0 : IC:=Tr.pk F51a.1 0
def r51_1 : IC:=Tr.pk F51a.1 1
def r51_2 : IC:=Tr.pk F51a.1 2
def r51_3 : IC:=Tr.pk F51a.1 3
def r51_4 : IC:=Tr.pk F51a.1 4
def r51_5 : IC:=Tr.pk F51a.1 5
def r51_6 : IC:=Tr.pk F51a.1 6
def r51_7 : IC:=Tr.pk F51a.1 7
def r51_8 : IC:=Tr.pk F51a.1 8
def r51_9 : IC:=Tr.pk F51a.1 9
def r51_10 : IC:=Tr.pk F51a.1 10
def r51_11 : IC:=Tr.pk F51a.1 11
def r51_12 : IC:=Tr.pk F51a.1 12
def r51_13 : IC:=Tr.pk F51a.1 13
def r51_14 : IC:=Tr.pk F51a.1 14
def r51_15 : IC:=Tr.pk F51a.1 15
def r51_16 : IC:=Tr.pk F51a.1 16
noncomputable def i51 : IFn:=⟨1,(.seq r51_0 (.seq r51_1 (.seq (.seq r51_2 (.cond (.tmp 17) (.seq r51_3 .ret) (.skip))) (.seq r51_4 (.seq r51_5 (.seq (.block 0 (.loop [2,8,9] (.seq (.seq r51_6 (.cond (.tmp 31) (.skip) (.exit 0))) (.block 1 (.seq r51_7 (.cond (.tmp 33) r51_8 r51_9)))))) (.seq r51_10 (.seq r51_11 (.seq (.seq r51_12 (.cond (.tmp 62) r51_13 (.skip))) (.seq (.seq r51_14 (.cond (.tmp 69) (.seq r51_15 .ret) (.skip))) (.seq r51_16 .ret))))))))))),[.cell 2 (some 2),.tmp 3,.tmp 4]⟩
theorem c51 : chkFn Tryz.prog Tryz.f51 i51 = true:=by kernel_rfl
end Go.Proofs.YtmeakjgbjldkdaaGreat.Ai
namespace Go.Proofs.YtmeakjgbjldkdaaGreat.Ai
open Go
variable {pr : Prims} {F : Nat → Option IFn}
structure LibS (pr : Prims) (F : Nat → Option IFn) : Prop extends LibX pr F where
 f94 : Has pr F 94 i94
 f141 : Has pr F 141 i141
 f196 : Has pr F 196 i196
 f197 : Has pr F 197 i197
 f137 : Has pr F 137 i137
 f194 : Has pr F 194 i194
 f139 : Has pr F 139 i139
 f138 : Has pr F 138 i138
 f91 : Has pr F 91 i91
 f92 : Has pr F 92 i92
 f51 : Has pr F 51 i51
abbrev LN:=LT (α:=Str) 1 (List.map nmRow)
abbrev LP:=LT (α:=Par) 8 (List.map parRow)
def nmsP (_ : Src) (r : Rd) (l : LN) (r' : Rd) : Prop:=r'.deep = r.deep ∧ (r'.code = 0 → r.i < r'.i ∧ (wL wNm l.xs : Int) ≤ 7000 * (r'.i - r.i)) ∧ (r'.code = 0 → ∀ x ∈ l.xs,Nm x)
def parsP (_ : Src) (r : Rd) (l : LP) (r' : Rd) : Prop:=r'.deep = r.deep ∧ (r'.code = 0 → r.i < r'.i ∧ (wL wPar l.xs : Int) ≤ 7000 * (r'.i - r.i)) ∧ (r'.code = 0 → ∀ x ∈ l.xs,okPar x)
def headP (_ : Src) (r : Rd) (x : Mth) (r' : Rd) : Prop:=r'.deep = r.deep ∧ (r'.code = 0 → r.i < r'.i ∧ (wMth x : Int) ≤ 7000 * (r'.i - r.i)) ∧ (x.body = [] ∧ x.abs = false ∧ (r'.code = 0 → okMth x))
theorem rc_names (L : LibS pr F) : RC pr F LT.v nmsP 137 [] 2000:=by
 have hm:=L.hm
 have cis0:=fun x => rq_is L.toLibR 0 (by omega) x
 have cis1:=fun x => rq_is L.toLibR 1 (by omega) x
 have cis2:=fun x => rq_is L.toLibR 2 (by omega) x
 have cpl:=rq_place L.toLibR
 have ctk:=fun x => rc_take L.toLibR x 2000
 have cen:=rc_enter L.toLibR 2000
 have cnd:=fun x => rc_need L.toLibR x 2000
 have cfl:=rc_fail L.toLibR 110 (by omega) 2000
 have cnm:=rc_name L.toLibR 2000
 refine rc_start hm L.f137.1 L.f137.2 rfl ?_
 intro H rw n s r hlt hsm hok _ _ _ _ _
 have hR : Rx rw rw:=Rx.rfl
 refine' hG
 refine g_call rfl rfl rfl ?_; refine c_rc (cnm) hlt (by assumption) (by omega) (by omega) ?_; intro x0 r0 rw_r0 hR' hok_r0 _ _ _ _ _ hP_x0; replace hR:=hR.trans hR'; (try replace hRL:=hRL.trans hR'); obtain ⟨_,_,hP_x0⟩:=hP_x0; refine zrk ?_
 refine' hG
 refine at_loop hm (fun m e S' => ∃ (r' : Rd) (rw' : List Nat) (l : AV) (xs : List Str),S' = ⟨hp H n (blk s r') [],rw'⟩ ∧ Rok s r' ∧ r.i ≤ r'.i ∧ r'.deep = r.deep ∧ (r'.code = 0 → r.code = 0) ∧ Rx rw rw' ∧ Lst rw 1 l (xs.map nmRow) rw' ∧ xs.length ≤ 1 + r'.i ∧
   (r'.code = 0 → r.i < r'.i ∧ (wL wNm xs : Int) ≤ 7000 * (r'.i - r.i)) ∧ (r'.code = 0 → ∀ x ∈ xs,Nm x) ∧ (m : Int) = s.toks.length - r'.i ∧
   e = [(0,.ptr n 0),(3,l)]) ?_ (m:=(s.toks.length - r0.i).toNat) ⟨r0,rw_r0,_,[x0],rfl,hok_r0,by omega,by omega,by omega,hR,.lit (by simp),by simp; omega,by simp only [wL,wNm]; omega,fun h x hx => by rw [List.mem_singleton] at hx; subst hx; exact hP_x0 h,by omega,rfl⟩
 clear hok_r0 hP_x0 hR
 rintro m' e S' ⟨r',rw',l,xs,rfl,hok',h2,h3,h4,hR,hl1,hxl,h8,h9,hmm,rfl⟩
 have h5:=hok'.lo
 have h6:=hok'.hi
 have h7:=hok'.dlo
 refine' hG
 ·refine g_call rfl rfl rfl ?_; refine c_rc (cnm) hlt (by assumption) (by omega) (by omega) ?_; intro x1 r1 rw_r1 hR' hok_r1 _ _ _ _ _ hP_x1; replace hR:=hR.trans hR'; (try replace hRL:=hRL.trans hR'); obtain ⟨_,_,hP_x1⟩:=hP_x1; refine zrk ?_
  refine' hG
  refine id_append ?_
  refine g_append rfl rfl rfl ?_
  refine ap_lst (row:=nmRow x1) (hl1.ext (Rx.trans (by assumption) (by assumption))) hR (by simp only [List.length_map,maxRow]; omega) (by simp only [List.length_map,maxRow]; omega) (by omega) ?_
  intro l4 rw4 hl4 hR4
  refine zrk ?_
  refine' hG
  refine ⟨(s.toks.length - r1.i).toNat,by omega,r1,rw4,l4,xs ++ [x1],rfl,hok_r1,by omega,by omega,by omega,hR4,by rw [List.map_append]; exact hl4,by simp; omega,?_,?_,by omega,rfl⟩
  ·intro h0
   rw [wL_append]
   simp only [wL,wNm]
   omega
  ·intro h0 x hx
   rcases List.mem_append.1 hx with h | h
   ·exact h9 (by omega) x h
   ·rw [List.mem_singleton] at h; subst h; exact hP_x1 h0
 ·refine fin_ret rfl ?_ (hp_take hlt) ?_
  ·exact hl1.isL.below _
  ·exact rend (enc:=LT.v) ⟨l,xs,hl1.isL⟩ hR rfl (Rok.nx (by assumption) (by omega) (by omega)) ⟨by omega,fun h => by have:=h8 (by omega); simp only; omega,fun h => h9 (by omega)⟩
end Go.Proofs.YtmeakjgbjldkdaaGreat.Ai
namespace Go.Proofs.YtmeakjgbjldkdaaGreat.Ai
open Go
variable {pr : Prims} {F : Nat → Option IFn}
theorem rc_params (L : LibS pr F) : RC pr F LT.v parsP 194 [] 2000:=by
 have hm:=L.hm
 have cis0:=fun x => rq_is L.toLibR 0 (by omega) x
 have cis1:=fun x => rq_is L.toLibR 1 (by omega) x
 have cis2:=fun x => rq_is L.toLibR 2 (by omega) x
 have cpl:=rq_place L.toLibR
 have ctk:=fun x => rc_take L.toLibR x 2000
 have cen:=rc_enter L.toLibR 2000
 have cnd:=fun x => rc_need L.toLibR x 2000
 have cfl:=rc_fail L.toLibR 110 (by omega) 2000
 have cnm:=rc_name L.toLibR 2000
 have hty:=rc_typ L.toLibX
 refine rc_start hm L.f194.1 L.f194.2 rfl ?_
 intro H rw n s r hlt hsm hok _ _ _ _ _
 have hR : Rx rw rw:=Rx.rfl
 refine' hG
 ·refine fin_ret rfl rfl (hp_take hlt) ?_
  exact rend (LT.nil rfl) hR rfl (Rok.nx (by assumption) (by omega) (by omega)) ⟨by omega,by simp only [LT.nil,wL]; omega,fun _ x hx => by cases hx⟩
 ·refine at_loop hm (fun m e S' => ∃ (r' : Rd) (rw' : List Nat) (l : AV) (xs : List Par) (J : List Blk),S' = ⟨hp H n (blk s r') J,rw'⟩ ∧ Rok s r' ∧ r.i ≤ r'.i ∧ r'.deep = r.deep ∧ (r'.code = 0 → r.code = 0) ∧ Rx rw rw' ∧ Lst rw 8 l (xs.map parRow) rw' ∧ xs.length ≤ 1 + r'.i ∧
   (r'.code = 0 → r.i < r'.i ∧ (wL wPar xs : Int) ≤ 7000 * (r'.i - r.i)) ∧ (r'.code = 0 → xs.length ≤ r'.i) ∧ (r'.code = 0 → ∀ x ∈ xs,okPar x) ∧ (m : Int) = 2 * (s.toks.length - r'.i) + (if r'.code = 0 then 1 else 0) ∧
   e = [(0,.ptr n 0),(3,l)]) ?_ (m:=(2 * (s.toks.length - rc.i) + (if rc.code = 0 then 1 else 0)).toNat) ⟨rc,rwc,_,[],[],rfl,by assumption,by omega,by omega,by omega,hR,.nil,by simp; omega,by simp only [wL]; omega,by simp; omega,fun h x hx => (by cases hx),by split <;> omega,rfl⟩
  clear hR
  rintro m' e S' ⟨r',rw',l,xs,J,rfl,hok',h2,h3,h4,hR,hl1,hxl,h8,hxl2,h9,hmm,rfl⟩
  have h5:=hok'.lo
  have h6:=hok'.hi
  have h7:=hok'.dlo
  have hRL : Rx rw' rw':=Rx.rfl
  by_cases hc : r'.code = 0
  ·rw [if_pos hc] at hmm
   clear cpl
   refine' hG
   refine g_call rfl rfl rfl ?_
   refine c_rq (rq_place L.toLibR) hlt (by assumption) ?_
   intro pl _
   refine zrk ?_
   refine' hG
   refine g_call rfl rfl rfl ?_; refine c_rc (cnm) hlt (by assumption) (by omega) (by omega) ?_; intro x1 r1 rw_r1 hR' hok_r1 _ _ _ _ _ hP_x1; replace hR:=hR.trans hR'; (try replace hRL:=hRL.trans hR'); obtain ⟨_,_,hP_x1⟩:=hP_x1; refine zrk ?_
   refine' hG
   refine g_call rfl rfl rfl ?_; refine c_rc (hty) hlt (by assumption) (by omega) (by omega) ?_; intro t1 r2 rw_r2 hR' hok_r2 _ _ _ _ _ hP_t1; replace hR:=hR.trans hR'; (try replace hRL:=hRL.trans hR'); obtain ⟨_,_,hP_t1⟩:=hP_t1; refine zrk ?_
   refine' hG
   refine id_load ?_
   refine g_load rfl rfl ?_
   refine l_ownR (vs:=parRow ⟨x1,t1,pl⟩) hlt at_bk0 (row_par _) ?_
   refine' hG
   refine id_append ?_
   refine g_append rfl rfl rfl ?_
   refine ap_lst (hl1.ext hRL) hR (by simp only [List.length_map,maxRow]; omega) (by simp only [List.length_map,maxRow]; omega) (by omega) ?_
   intro l4 rw4 hl4 hR4
   refine zrk ?_
   rw [show xs.map parRow ++ [parRow ⟨x1,t1,pl⟩] = (xs ++ [(⟨x1,t1,pl⟩ : Par)]).map parRow by simp] at hl4
   have hw4 : wL wPar (xs ++ [(⟨x1,t1,pl⟩ : Par)]) = wL wPar xs + (1 + x1.length + wTy t1):=by rw [wL_append]; simp [wL,wPar]
   have hn4 : (xs ++ [(⟨x1,t1,pl⟩ : Par)]).length = xs.length + 1:=by simp
   have ho4 : r2.code = 0 → ∀ x ∈ xs ++ [(⟨x1,t1,pl⟩ : Par)],okPar x:=by
    intro h x hx
    rcases List.mem_append.1 hx with hh | hh
    ·exact h9 (by omega) x hh
    ·rw [List.mem_singleton] at hh
     subst hh
     exact ⟨hP_x1 (by omega),hP_t1 (by omega)⟩
   clear hR hRL
   have hR:=hR4
   have hRL : Rx rw4 rw4:=Rx.rfl
   refine' hG
   ·refine fin_ret rfl ?_ (hp_take hlt) ?_
    ·exact hl4.isL.below _
    ·exact rend (enc:=LT.v) ⟨l4,_,hl4.isL⟩ hR rfl (Rok.nx (by assumption) (by omega) (by omega)) ⟨by omega,fun h => by have:=h8 hc; simp only [hw4]; omega,fun h => ho4 (by omega)⟩
   ·refine ⟨(2 * (s.toks.length - rc.i) + (if rc.code = 0 then 1 else 0)).toNat,?_,rc,rwc,l4,_,_,rfl,by assumption,by omega,by omega,by omega,hR,hl4.ext hRL,by rw [hn4]; omega,?_,by rw [hn4]; omega,fun h => ho4 (by omega),by split <;> omega,rfl⟩
    ·split <;> omega
    ·intro h0
     rw [hw4]
     omega
  ·refine' hG
   refine fin_ret rfl ?_ (hp_take hlt) ?_
   ·exact hl1.isL.below _
   ·exact rend (enc:=LT.v) ⟨l,xs,hl1.isL⟩ hR rfl (Rok.nx (by assumption) (by omega) (by omega)) ⟨by omega,fun h => absurd h hc,fun h => absurd h hc⟩
end Go.Proofs.YtmeakjgbjldkdaaGreat.Ai
namespace Go.Proofs.YtmeakjgbjldkdaaGreat.Ai
open Go
variable {pr : Prims} {F : Nat → Option IFn}
theorem rc_head (L : LibS pr F) : RC pr F (fun x : Mth => AV.agg (mthRow x)) headP 139 [] 2000:=by
 have hm:=L.hm
 have cis0:=fun x => rq_is L.toLibR 0 (by omega) x
 have cis1:=fun x => rq_is L.toLibR 1 (by omega) x
 have cis2:=fun x => rq_is L.toLibR 2 (by omega) x
 have cpl:=rq_place L.toLibR
 have ctk:=fun x => rc_take L.toLibR x 2000
 have cen:=rc_enter L.toLibR 2000
 have cnd:=fun x => rc_need L.toLibR x 2000
 have cfl:=rc_fail L.toLibR 110 (by omega) 2000
 have cnm:=rc_name L.toLibR 2000
 have hty:=rc_typ L.toLibX
 have hps:=rc_params L
 refine rc_start hm L.f139.1 L.f139.2 rfl ?_
 intro H rw n s r hlt hsm hok _ _ _ _ _
 have hR : Rx rw rw:=Rx.rfl
 clear cpl
 refine' hG
 refine g_call rfl rfl rfl ?_
 refine c_rq (rq_place L.toLibR) hlt (by assumption) ?_
 intro at_ _
 refine zrk ?_
 refine' hG
 refine g_call rfl rfl rfl ?_; refine c_rc (cnm) hlt (by assumption) (by omega) (by omega) ?_; intro nm r1 rw_r1 hR' hok_r1 _ _ _ _ _ hP_nm; replace hR:=hR.trans hR'; (try replace hRL:=hRL.trans hR'); obtain ⟨_,_,hP_nm⟩:=hP_nm; refine zrk ?_
 refine' hG
 refine g_call rfl rfl rfl ?_; refine c_rc (hps) hlt (by assumption) (by omega) (by omega) ?_; intro ps r2 rw_r2 hR' hok_r2 _ _ _ _ _ hP_ps; replace hR:=hR.trans hR'; (try replace hRL:=hRL.trans hR'); obtain ⟨_,_,hP_ps⟩:=hP_ps; refine zrk ?_
 refine' hG
 refine g_call rfl rfl rfl ?_
 refine c_rq (rq_place L.toLibR) hlt (by assumption) ?_
 intro pl _
 refine zrk ?_
 refine' hG
 ·refine fin_cell hlt rfl rfl (v:=.agg (mthRow ⟨nm,ps.xs,.mk 0 [] false [] [] pl,[],false,at_⟩)) (by (simp only [aload,canonL,tyRow,mthRow,exRows,tyRows,smRows,lst_nil,LT.canon,List.getElem?_cons_zero,List.take_succ_cons,List.take_zero,List.drop_zero,List.map_cons,List.map_nil,List.nil_append,List.cons_append,List.length_cons,List.length_nil,Nat.reduceAdd,Nat.zero_add,Nat.le_refl,if_true,canon_lst,canon_str,canon_int,canon_bool,canon_nil]; try rfl)) ((row_mth _).below _) ?_
  refine rend ⟨nm,ps.xs,.mk 0 [] false [] [] pl,[],false,at_⟩ hR rfl (Rok.nx (by assumption) (by omega) (by omega)) ⟨by omega,?_,rfl,rfl,?_⟩
  ·simp only [wMth,wTy,wTys,wExs,wSms,List.length_nil]; omega
  ·exact fun h => ⟨hP_nm (by omega),hP_ps (by omega),.inr ⟨_,rfl⟩,trivial⟩
 ·refine g_call rfl rfl rfl ?_; refine c_rc (hty) hlt (by assumption) (by omega) (by omega) ?_; intro t r3 rw_r3 hR' hok_r3 _ _ _ _ _ hP_t; replace hR:=hR.trans hR'; (try replace hRL:=hRL.trans hR'); obtain ⟨_,_,hP_t⟩:=hP_t; refine zrk ?_
  refine' hG
  refine id_load ?_
  refine g_load rfl rfl ?_
  refine l_ownC (vs:=mthRow ⟨nm,ps.xs,t,[],false,at_⟩) hlt rfl (by (simp only [canonL,mthRow,smRows,lst_nil,LT.canon,List.map_cons,List.map_nil,List.map_append,map_canon_ty,canon_str,canon_int,canon_bool,canon_nil]; try rfl)) (by simp [len_tyRow]) ?_
  refine' hG
  refine fin_cell hlt rfl rfl (row_mth _).load ((row_mth _).below _) ?_
  refine rend ⟨nm,ps.xs,t,[],false,at_⟩ hR rfl (Rok.nx (by assumption) (by omega) (by omega)) ⟨by omega,?_,rfl,rfl,?_⟩
  ·simp only [wMth,wSms]; omega
  ·exact fun h => ⟨hP_nm (by omega),hP_ps (by omega),.inl (hP_t (by omega)),trivial⟩
end Go.Proofs.YtmeakjgbjldkdaaGreat.Ai
namespace Go.Proofs.YtmeakjgbjldkdaaGreat.Ai
open Go
variable {pr : Prims} {F : Nat → Option IFn}
structure OutC where
 C : List AV
 r : Rd
 rw : List Nat
def RP (pr : Prims) (F : Nat → Option IFn) (pre : List Nat → List AV → Prop) (post : Src → Rd → List Nat → List AV → Rd → List Nat → List AV → Prop) (f : Nat) (m : Int) : Prop:=
 ∀ (H : List Blk) (rw : List Nat) (n : Nat) (s : Src) (r : Rd) (C : List AV) (J : List Blk),n < H.length → Rok s r → 101 ≤ r.deep + m → r.deep ≤ 200 → pre rw C →
  ∃ o : OutC,(Nx s r o.r ∧ post s r rw C o.r o.rw o.C) ∧ Det pr F f [.ptr n 0,.ptr (H.length + 0) 0] ⟨hp H n (blk s r) (.cells C :: J),rw⟩ (.ret (.tup [])) ⟨hp H n (blk s o.r) (.cells o.C :: J),o.rw⟩
def PEnd (post : Src → Rd → List Nat → List AV → Rd → List Nat → List AV → Prop) (H : List Blk) (n : Nat) (s : Src) (r : Rd) (rw : List Nat) (C : List AV) (J : List Blk) (q : Res) (S' : St) : Prop:=
 ∃ o : OutC,(Nx s r o.r ∧ post s r rw C o.r o.rw o.C) ∧ q = .ret (.tup []) ∧ S' = ⟨hp H n (blk s o.r) (.cells o.C :: J),o.rw⟩
theorem pend {post : Src → Rd → List Nat → List AV → Rd → List Nat → List AV → Prop} {H : List Blk} {n : Nat} {s : Src} {r r' : Rd} {rw rw' : List Nat} {C C' : List AV} {J : List Blk} (hn : Nx s r r') (hp' : post s r rw C r' rw' C') : PEnd post H n s r rw C J (.ret (.tup [])) ⟨hp H n (blk s r') (.cells C' :: J),rw'⟩:=
 ⟨⟨C',r',rw'⟩,⟨hn,hp'⟩,rfl,rfl⟩
theorem rp_start (hm : Mono pr) {pre : List Nat → List AV → Prop} {post : Src → Rd → List Nat → List AV → Rd → List Nat → List AV → Prop} {f na : Nat} {c : IC} {res : List RVar} {m : Int} (h1 : pr f = none) (h2 : F f = some ⟨na,c,res⟩) (h3 : 2 = na)
  (h : ∀ (H : List Blk) (rw : List Nat) (n : Nat) (s : Src) (r : Rd) (C : List AV) (J : List Blk),n < H.length → s.toks.length ≤ 6000 → Rok s r → 0 ≤ r.i → r.i ≤ s.toks.length → 0 ≤ r.deep → r.deep ≤ 200 → 101 ≤ r.deep + m → pre rw C →
   At pr F (H.length + (J.length + 1)) (fin res (H.length + (J.length + 1)) (PEnd post H n s r rw C J)) c [] (args0 [.ptr n 0,.ptr (H.length + 0) 0]) ⟨hp H n (blk s r) (.cells C :: J),rw⟩) : RP pr F pre post f m:=by
 intro H rw n s r C J hlt hr hd hd2 hpre
 have hw : Wp pr F f [.ptr n 0,.ptr (H.length + 0) 0] ⟨hp H n (blk s r) (.cells C :: J),rw⟩ (PEnd post H n s r rw C J):=by
  refine at_start hm h1 h2 (by simp [← h3]) ?_
  have:=h H rw n s r C J hlt s.small hr hr.lo hr.hi hr.dlo hd2 hd hpre
  rw [show (St.heap ⟨hp H n (blk s r) (.cells C :: J),rw⟩).length = H.length + (J.length + 1) by simp [hp_len]]
  exact this
 obtain ⟨q,S',hd,o,hp,rfl,rfl⟩:=hw.det hm
 exact ⟨o,hp,hd⟩
theorem c_rp {K : AV → St → Prop} {H : List Blk} {rw : List Nat} {n : Nat} {s : Src} {r : Rd} {c0 : Blk} {C : List AV} {J : List Blk} {pre : List Nat → List AV → Prop} {post : Src → Rd → List Nat → List AV → Rd → List Nat → List AV → Prop} {fn : Nat} {m : Int} (hc : RP pr F pre post fn m) (hlt : n < H.length) (hok : Rok s r) (hd : 101 ≤ r.deep + m) (hd2 : r.deep ≤ 200) (hpre : pre rw C)
  (h : ∀ (C' : List AV) (r' : Rd) (rw' : List Nat),Rok s r' → 0 ≤ r'.i → r'.i ≤ s.toks.length → 0 ≤ r'.deep → r.i ≤ r'.i → (r'.code = 0 → r.code = 0) → post s r rw C r' rw' C' → K (.tup []) ⟨hp H n (blk s r') (c0 :: .cells C' :: J),rw'⟩) :
  ClAt pr F fn [.ptr n 0,.ptr (H.length + 1) 0] ⟨hp H n (blk s r) (c0 :: .cells C :: J),rw⟩ K:=by
 obtain ⟨o,⟨hn,hp'⟩,hdet⟩:=hc (H ++ [c0]) rw n s r C J (by simp; omega) hok hd hd2 hpre
 have e : ∀ (b : Blk) (L : List Blk),hp (H ++ [c0]) n b L = hp H n b (c0 :: L):=by intro b L; simp [hp]
 rw [e,e] at hdet
 have e2 : (H ++ [c0]).length + 0 = H.length + 1:=by simp
 rw [e2] at hdet
 exact ⟨_,_,hdet,h o.C o.r o.rw ⟨hn.lo,hn.hi,hn.dlo,hn.dhi⟩ hn.lo hn.hi hn.dlo hn.mono hn.code hp'⟩
theorem hp_takeJ {H : List Blk} {n : Nat} {b c : Blk} {J L : List Blk} (_hn : n < H.length) : (hp H n b (c :: (J ++ L))).take (H.length + (J.length + 1)) = hp H n b (c :: J):=by
 unfold hp
 have e : H ++ c :: (J ++ L) = (H ++ c :: J) ++ L:=by simp
 have e2 : H.length + (J.length + 1) = (H ++ c :: J).length:=by simp
 rw [List.take_set,e,e2,List.take_left]
theorem fin_p {H : List Blk} {n : Nat} {b c : Blk} {J L : List Blk} {rw : List Nat} {e : Env} {Q : Res → St → Prop} (hn : n < H.length) (h : Q (.ret (.tup [])) ⟨hp H n b (c :: J),rw⟩) : fin [] (H.length + (J.length + 1)) Q .normal e ⟨hp H n b (c :: (J ++ L)),rw⟩:=
 fin_none' (hp_takeJ hn) h
structure OthP (s : Src) (r : Rd) (r' : Rd) (C' : List AV) (t : Sm) : Prop where
 deep : r'.deep = r.deep
 can : canonL C' = smRow t
 len : C'.length = 7
 wt : r'.code = 0 → r.i < r'.i ∧ (wSm t : Int) ≤ 7000 * (r'.i - r.i)
 ok : r'.code = 0 → okSm t
def othPre (_ : List Nat) (C : List AV) : Prop:=∃ a,C = [.str [],.str [],.list 0 .full [],.list 0 .full [],.list 0 .full [],.list 0 .full [],.int .i64 a]
def othPost (s : Src) (r : Rd) (rw : List Nat) (_ : List AV) (r' : Rd) (rw' : List Nat) (C' : List AV) : Prop:=Rx rw rw' ∧ ∃ t,OthP s r r' C' t
theorem ap_x {K : AV → St → Prop} {rw0 rw : List Nat} {v : AV} {xs : List Xp} {x : Xp} {H : List Blk} (h : Lst rw0 5 v (exRows xs) rw) (hx : Rx rw0 rw) (hl : xs.length ≤ 10000) (hk : ∀ (l : LT 5 exRows) (rw' : List Nat),l.xs = xs ++ [x] → Rx rw0 rw' → K l.v ⟨H,rw'⟩) : ApAt 5 88 v (.list 5 .full [exRow x]) ⟨H,rw⟩ K:=by
 have e:=exRows_len xs
 refine ap_lst h hx (by rw [e]; simp only [maxRow]; omega) (by rw [e]; simp only [maxRow]; omega) (by omega) ?_
 intro v' rw' h1 h2
 exact hk ⟨v',xs ++ [x],by rw [exRows_append]; exact h1.isL⟩ rw' rfl h2
theorem ok_sm {k nm : Str} {ty : List Ty} {exs : List Xp} {body els : List Sm} {a : Int} (h : okKind k nm ty exs body els) (h1 : okTys ty) (h2 : okExs exs) (h3 : okSms body) (h4 : okSms els) : okSm (.mk k nm ty exs body els a):=by
 rw [okSm]; exact ⟨h,h1,h2,h3,h4⟩
theorem okSms_nil : okSms []:=by rw [okSms]; trivial
theorem okExs_3 {a b c : Xp} (h : okEx a) (h' : okEx b) (h'' : okEx c) : okExs [a,b,c]:=by rw [okExs,okExs,okExs,okExs]; exact ⟨h,h',h'',trivial⟩
theorem args_var {op nm : Str} {args : List Xp} {ty : List Ty} {a : Int} (h : okEx (.mk op nm args ty a)) (ho : op = [118,97,114]) : Nm nm:=by
 subst ho
 rw [okEx] at h
 obtain ⟨h,-,-⟩:=h
 unfold okOp at h
 rcases h with h | h | h | h | h | h | h | h | h | h | h
 all_goals first
  | exact h.2.2.2
  | (exfalso; revert h; simp [levelF])
theorem args_field {op nm : Str} {args : List Xp} {ty : List Ty} {a : Int} (h : okEx (.mk op nm args ty a)) (ho : op = [102,105,101,108,100]) : ∃ x,args = [x] ∧ okEx x ∧ Nm nm:=by
 subst ho
 rw [okEx] at h
 obtain ⟨h,h2,-⟩:=h
 unfold okOp at h
 rcases h with h | h | h | h | h | h | h | h | h | h | h
 all_goals first
  | (obtain ⟨-,⟨x,rfl⟩,-,hn⟩:=h; exact ⟨x,rfl,h2.1,hn⟩)
  | (exfalso; revert h; simp [levelF])
theorem args_index {op nm : Str} {args : List Xp} {ty : List Ty} {a : Int} (h : okEx (.mk op nm args ty a)) (ho : op = [105,110,100,101,120]) : ∃ x y,args = [x,y] ∧ okEx x ∧ okEx y:=by
 subst ho
 rw [okEx] at h
 obtain ⟨h,h2,-⟩:=h
 unfold okOp at h
 rcases h with h | h | h | h | h | h | h | h | h | h | h
 all_goals first
  | (obtain ⟨-,⟨x,y,rfl⟩,-⟩:=h; exact ⟨x,y,rfl,h2.1,h2.2.1⟩)
  | (exfalso; revert h; simp [])
theorem rp_other (L : LibS pr F) : RP pr F othPre othPost 197 2000:=by
 have hm:=L.hm
 have cis0:=fun x => rq_is L.toLibR 0 (by omega) x
 have cis1:=fun x => rq_is L.toLibR 1 (by omega) x
 have cis2:=fun x => rq_is L.toLibR 2 (by omega) x
 have cpl:=rq_place L.toLibR
 have ctk:=fun x => rc_take L.toLibR x 2000
 have cen:=rc_enter L.toLibR 2000
 have cnd:=fun x => rc_need L.toLibR x 2000
 have cfl:=rc_fail L.toLibR 110 (by omega) 2000
 have cnm:=rc_name L.toLibR 2000
 have hex:=rc_expr L.toLibX
 refine rp_start hm L.f197.1 L.f197.2 rfl ?_
 intro H rw n s r C J hlt hsm hok _ _ _ _ _ hpre
 obtain ⟨a,rfl⟩:=hpre
 have hR : Rx rw rw:=Rx.rfl
 refine' hG
 refine g_call rfl rfl rfl ?_; refine c_rc (hex) hlt (by assumption) (by omega) (by omega) ?_; intro x1 r1 rw_r1 hR' hok_r1 _ _ _ _ _ hP_x1; replace hR:=hR.trans hR'; (try replace hRL:=hRL.trans hR'); obtain ⟨_,_,hP_x1⟩:=hP_x1; refine zrk ?_
 obtain ⟨op,nm,args,ty,pos⟩:=x1
 refine' hG
 ·refine g_call rfl rfl rfl ?_; refine c_rc (hex) hlt (by assumption) (by omega) (by omega) ?_; intro x2 r2 rw_r2 hR' hok_r2 _ _ _ _ _ hP_x2; replace hR:=hR.trans hR'; (try replace hRL:=hRL.trans hR'); obtain ⟨_,_,hP_x2⟩:=hP_x2; refine zrk ?_
  refine id_append1 ?_
  refine g_append1 rfl rfl rfl rfl rfl ⟨rfl,rfl,(row_ex x2).len,by simp only [closed1]; exact (row_ex x2).clo,rfl,rfl⟩ (row_ex x2).can ?_
  refine ap_x (xs:=[]) .nil hR (by simp) ?_
  intro l3 rw3 hl3 hR3
  replace hR:=hR3
  refine zrk ?_
  refine' hG
  refine fin_p hlt ?_
  refine pend (Rok.nx (by assumption) (by omega) (by omega)) ⟨hR,.mk [115,101,116] nm [] [x2] [] [] a,⟨by omega,by ((simp only [canonL,smRow,exRows,tyRows,smRows,lst_nil,LT.canon,List.map_cons,List.map_nil,canon_str,canon_int,canon_nil]; try rfl); rw [hl3]; rfl),rfl,?_,?_⟩⟩
  ·simp only [wSm,wSms,wEx,wExs,wTys,List.length_nil,List.length_cons] at *; omega
  ·exact fun h => ok_sm (.inr (.inl ⟨rfl,args_var (hP_x1 (by omega)) (by assumption),rfl,⟨_,rfl⟩,rfl,rfl⟩)) okTys_nil (okExs_1 (hP_x2 (by omega))) okSms_nil okSms_nil
 ·obtain ⟨x,rfl,hx,hfn⟩:=args_field (hP_x1 (by omega)) (by assumption)
  refine' hG
  refine g_call rfl rfl rfl ?_; refine c_rc (hex) hlt (by assumption) (by omega) (by omega) ?_; intro x2 r2 rw_r2 hR' hok_r2 _ _ _ _ _ hP_x2; replace hR:=hR.trans hR'; (try replace hRL:=hRL.trans hR'); obtain ⟨_,_,hP_x2⟩:=hP_x2; refine zrk ?_
  refine id_append1 ?_
  refine g_append1 rfl rfl rfl rfl rfl ⟨rfl,rfl,(row_ex x2).len,by simp only [closed1]; exact (row_ex x2).clo,rfl,rfl⟩ (row_ex x2).can ?_
  refine ap_x (xs:=[x]) (.lit (by simp [])) hR (by simp) ?_
  intro l3 rw3 hl3 hR3
  replace hR:=hR3
  refine zrk ?_
  refine' hG
  refine fin_p hlt ?_
  refine pend (Rok.nx (by assumption) (by omega) (by omega)) ⟨hR,.mk [102,105,101,108,100] nm [] [x,x2] [] [] a,⟨by omega,by ((simp only [canonL,smRow,exRows,tyRows,smRows,lst_nil,LT.canon,List.map_cons,List.map_nil,canon_str,canon_int,canon_nil]; try rfl); rw [hl3]; rfl),rfl,?_,?_⟩⟩
  ·simp only [wSm,wSms,wEx,wExs,wTys,List.length_nil,List.length_cons] at *; omega
  ·exact fun h => ok_sm (.inr (.inr (.inl ⟨rfl,hfn,rfl,⟨_,_,rfl⟩,rfl,rfl⟩))) okTys_nil (okExs_2 hx (hP_x2 (by omega))) okSms_nil okSms_nil
 ·obtain ⟨x,y,rfl,hx,hy⟩:=args_index (hP_x1 (by omega)) (by assumption)
  refine' hG
  refine g_call rfl rfl rfl ?_; refine c_rc (hex) hlt (by assumption) (by omega) (by omega) ?_; intro x2 r2 rw_r2 hR' hok_r2 _ _ _ _ _ hP_x2; replace hR:=hR.trans hR'; (try replace hRL:=hRL.trans hR'); obtain ⟨_,_,hP_x2⟩:=hP_x2; refine zrk ?_
  refine id_append1 ?_
  refine g_append1 rfl rfl rfl rfl rfl ⟨rfl,rfl,(row_ex x2).len,by simp only [closed1]; exact (row_ex x2).clo,rfl,rfl⟩ (row_ex x2).can ?_
  refine ap_x (xs:=[x,y]) (.lit (by simp [])) hR (by simp) ?_
  intro l3 rw3 hl3 hR3
  replace hR:=hR3
  refine zrk ?_
  refine' hG
  refine fin_p hlt ?_
  refine pend (Rok.nx (by assumption) (by omega) (by omega)) ⟨hR,.mk [101,108,101,109] [] [] [x,y,x2] [] [] a,⟨by omega,by ((simp only [canonL,smRow,exRows,tyRows,smRows,lst_nil,LT.canon,List.map_cons,List.map_nil,canon_str,canon_int,canon_nil]; try rfl); rw [hl3]; rfl),rfl,?_,?_⟩⟩
  ·simp only [wSm,wSms,wEx,wExs,wTys,List.length_nil,List.length_cons] at *; omega
  ·exact fun h => ok_sm (.inr (.inr (.inr (.inl ⟨rfl,rfl,rfl,⟨_,_,_,rfl⟩,rfl,rfl⟩)))) okTys_nil (okExs_3 hx hy (hP_x2 (by omega))) okSms_nil okSms_nil
 ·refine g_call rfl rfl rfl ?_; refine c_rc (hex) hlt (by assumption) (by omega) (by omega) ?_; intro x2 r2 rw_r2 hR' hok_r2 _ _ _ _ _ hP_x2; replace hR:=hR.trans hR'; (try replace hRL:=hRL.trans hR'); obtain ⟨_,_,hP_x2⟩:=hP_x2; refine zrk ?_
  refine id_append1 ?_
  refine g_append1 rfl rfl rfl rfl rfl ⟨rfl,rfl,(row_ex x2).len,by simp only [closed1]; exact (row_ex x2).clo,rfl,rfl⟩ (row_ex x2).can ?_
  refine ap_x (xs:=[.mk op nm args ty pos]) (.lit (by simp [])) hR (by simp) ?_
  intro l3 rw3 hl3 hR3
  replace hR:=hR3
  refine zrk ?_
  refine' hG
  refine fin_p hlt ?_
  refine pend (Rok.nx (by assumption) (by omega) (by omega)) ⟨hR,.mk [100,111] [] [] [.mk op nm args ty pos,x2] [] [] a,⟨by omega,by ((simp only [canonL,exRow,smRow,exRows,tyRows,smRows,lst_nil,LT.canon,List.map_cons,List.map_nil,canon_str,canon_int,canon_nil]; try rfl); rw [hl3]; rfl),rfl,?_,?_⟩⟩
  ·simp only [wSm,wSms,wEx,wExs,wTys,List.length_nil,List.length_cons] at *; omega
  ·intro h; omega
 ·refine fin_p hlt ?_
  refine pend (Rok.nx (by assumption) (by omega) (by omega)) ⟨hR,.mk [100,111] [] [] [.mk op nm args ty pos] [] [] a,⟨by omega,by (simp only [canonL,exRow,smRow,exRows,tyRows,smRows,lst_nil,List.map_cons,List.map_nil,canon_str,canon_int,canon_nil]; try rfl),rfl,?_,?_⟩⟩
  ·simp only [wSm,wSms,wEx,wExs,wTys,List.length_nil,List.length_cons] at *; omega
  ·exact fun h => ok_sm (.inr (.inr (.inr (.inr (.inr (.inr (.inr ⟨.inr (.inr rfl),rfl,rfl,⟨_,rfl⟩,rfl,rfl⟩))))))) okTys_nil (okExs_1 (hP_x1 (by omega))) okSms_nil okSms_nil
end Go.Proofs.YtmeakjgbjldkdaaGreat.Ai
namespace Go.Proofs.YtmeakjgbjldkdaaGreat.Ai
open Go
variable {pr : Prims} {F : Nat → Option IFn}
abbrev LS:=LT (α:=Sm) 7 smRows
def blkP (_ : Src) (r : Rd) (l : LS) (r' : Rd) : Prop:=r'.deep = r.deep ∧ (r'.code = 0 → r.i < r'.i ∧ (wSms l.xs : Int) ≤ 7000 * (r'.i - r.i)) ∧ (r'.code = 0 → okSms l.xs)
def smP (_ : Src) (r : Rd) (t : Sm) (r' : Rd) : Prop:=r'.deep = r.deep ∧ (r'.code = 0 → r.i < r'.i ∧ (wSm t : Int) ≤ 7000 * (r'.i - r.i)) ∧ (r'.code = 0 → okSm t)
theorem smRows_append (a b : List Sm) : smRows (a ++ b) = smRows a ++ smRows b:=by simp [smRows_map]
theorem block_of (L : LibS pr F) {m : Int} (hst : RC pr F (fun x : Sm => AV.agg (smRow x)) smP 141 [] m) : RC pr F LT.v blkP 94 [] (m + 1):=by
 have hm:=L.hm
 have cis0:=fun x => rq_is L.toLibR 0 (by omega) x
 have cis1:=fun x => rq_is L.toLibR 1 (by omega) x
 have cis2:=fun x => rq_is L.toLibR 2 (by omega) x
 have cpl:=rq_place L.toLibR
 have ctk:=fun x => rc_take L.toLibR x 2000
 have cen:=rc_enter L.toLibR 2000
 have cnd:=fun x => rc_need L.toLibR x 2000
 have cfl:=rc_fail L.toLibR 110 (by omega) 2000
 have cnm:=rc_name L.toLibR 2000
 refine rc_start hm L.f94.1 L.f94.2 rfl ?_
 intro H rw n s r hlt hsm hok _ _ _ _ _
 have hR : Rx rw rw:=Rx.rfl
 refine' hG
 ·refine at_loop hm (fun m e S' => ∃ (r' : Rd) (rw' : List Nat) (l : AV) (xs : List Sm),S' = ⟨hp H n (blk s r') [],rw'⟩ ∧ Rok s r' ∧ r.i ≤ r'.i ∧ r'.deep = r.deep + 1 ∧ (r'.code = 0 → r.code = 0) ∧ Rx rw rw' ∧ Lst rw 7 l (smRows xs) rw' ∧ (xs.length : Int) ≤ r'.i + 1 ∧
   (r'.code = 0 → r.i < r'.i ∧ (xs.length : Int) ≤ r'.i ∧ (wSms xs : Int) ≤ 7000 * (r'.i - r.i)) ∧ (r'.code = 0 → okSms xs) ∧ (m : Int) = 2 * (s.toks.length - r'.i) + (if r'.code = 0 then 1 else 0) ∧
   e = [(0,.ptr n 0),(3,l)]) ?_ (m:=(2 * (s.toks.length - rc.i) + (if rc.code = 0 then 1 else 0)).toNat) ⟨rc,rwc,_,[],rfl,by assumption,by omega,by omega,by omega,hR,.nil,by simp; omega,fun _ => ⟨by omega,by simp; omega,by simp [wSms]; omega⟩,fun _ => okSms_nil,by split <;> omega,rfl⟩
  clear hR
  rintro m' e S' ⟨r',rw',l,xs,rfl,hok',h2,h3,h4,hR,hl1,hxl,h8,h9,hmm,rfl⟩
  have h5:=hok'.lo
  have h6:=hok'.hi
  have h7:=hok'.dlo
  have hRL : Rx rw' rw':=Rx.rfl
  by_cases hc : r'.code = 0
  ·rw [if_pos hc] at hmm
   have e2 : (smRows xs).length = xs.length:=smRows_len xs
   refine' hG
   ·refine fin_ret rfl ?_ (hp_take hlt) ?_
    ·exact hl1.isL.below _
    ·exact rend (enc:=LT.v) ⟨l,xs,hl1.isL⟩ hR rfl (Rok.nx (by assumption) (by omega) (by omega)) ⟨by omega,fun h => by have:=h8 hc; simp only; omega,fun h => h9 hc⟩
   ·refine g_call rfl rfl rfl ?_; refine c_rc (hst) hlt (by assumption) (by omega) (by omega) ?_; intro t1 r1 rw_r1 hR' hok_r1 _ _ _ _ _ hP_t1; replace hR:=hR.trans hR'; (try replace hRL:=hRL.trans hR'); obtain ⟨_,_,hP_t1⟩:=hP_t1; refine zrk ?_
    refine' hG
    refine id_append ?_
    refine g_append rfl rfl rfl ?_
    refine ap_lst (hl1.ext hRL) hR (by rw [e2]; simp only [maxRow]; omega) (by rw [e2]; simp only [maxRow]; omega) (by omega) ?_
    intro l4 rw4 hl4 hR4
    refine zrk ?_
    refine' hG
    refine ⟨(2 * (s.toks.length - r1.i) + (if r1.code = 0 then 1 else 0)).toNat,?_,r1,rw4,l4,xs ++ [t1],rfl,hok_r1,by omega,by omega,by omega,hR4,by rw [smRows_append]; exact hl4,by simp; omega,?_,?_,by split <;> omega,rfl⟩
    ·split <;> omega
    ·intro h0
     rw [wSms_append]
     simp only [wSms,List.length_append,List.length_cons,List.length_nil]
     omega
    ·intro h0
     rw [okSms_append]
     exact ⟨h9 hc,by rw [okSms]; exact ⟨hP_t1 h0,okSms_nil⟩⟩
  ·refine' hG
   refine fin_ret rfl ?_ (hp_take hlt) ?_
   ·exact hl1.isL.below _
   ·exact rend (enc:=LT.v) ⟨l,xs,hl1.isL⟩ hR rfl (Rok.nx (by assumption) (by omega) (by omega)) ⟨by omega,fun h => absurd h (by omega),fun h => absurd h (by omega)⟩
 ·refine fin_ret rfl rfl (hp_take hlt) ?_
  exact rend (LT.nil (by simp [smRows])) hR rfl (Rok.nx (by assumption) (by omega) (by omega)) ⟨by omega,fun h => by omega,fun h => by omega⟩
end Go.Proofs.YtmeakjgbjldkdaaGreat.Ai
namespace Go.Proofs.YtmeakjgbjldkdaaGreat.Ai
open Go
variable {pr : Prims} {F : Nat → Option IFn}
theorem ok_if {c : Xp} {b e : List Sm} {a : Int} (h : okEx c) (hb : okSms b) (he : okSms e) : okSm (.mk [105,102] [] [] [c] b e a):=
 ok_sm (.inr (.inr (.inr (.inr (.inl ⟨rfl,rfl,rfl,⟨_,rfl⟩⟩))))) okTys_nil (okExs_1 h) hb he
theorem okSms_1 {a : Sm} (h : okSm a) : okSms [a]:=by rw [okSms]; exact ⟨h,okSms_nil⟩
theorem choice_of (L : LibS pr F) {m : Int} (hb : RC pr F LT.v blkP 94 [] m) (hc : RC pr F (fun x : Sm => AV.agg (smRow x)) smP 196 [] (m - 1)) : RC pr F (fun x : Sm => AV.agg (smRow x)) smP 196 [] m:=by
 have hm:=L.hm
 have cis0:=fun x => rq_is L.toLibR 0 (by omega) x
 have cis1:=fun x => rq_is L.toLibR 1 (by omega) x
 have cis2:=fun x => rq_is L.toLibR 2 (by omega) x
 have cpl:=rq_place L.toLibR
 have ctk:=fun x => rc_take L.toLibR x 2000
 have cen:=rc_enter L.toLibR 2000
 have cnd:=fun x => rc_need L.toLibR x 2000
 have cfl:=rc_fail L.toLibR 110 (by omega) 2000
 have cnm:=rc_name L.toLibR 2000
 have hex:=rc_expr L.toLibX
 refine rc_start hm L.f196.1 L.f196.2 rfl ?_
 intro H rw n s r hlt hsm hok _ _ _ _ _
 have hR : Rx rw rw:=Rx.rfl
 refine' hG
 refine g_call rfl rfl rfl ?_; refine c_rc (hex) hlt (by assumption) (by omega) (by omega) ?_; intro c1 r1 rw_r1 hR' hok_r1 _ _ _ _ _ hP_c1; replace hR:=hR.trans hR'; (try replace hRL:=hRL.trans hR'); obtain ⟨_,_,hP_c1⟩:=hP_c1; refine zrk ?_
 refine' hG
 refine g_call rfl rfl rfl ?_; refine c_rc (hb) hlt (by assumption) (by omega) (by omega) ?_; intro b1 r2 rw_r2 hR' hok_r2 _ _ _ _ _ hP_b1; replace hR:=hR.trans hR'; (try replace hRL:=hRL.trans hR'); obtain ⟨_,_,hP_b1⟩:=hP_b1; refine zrk ?_
 refine' hG
 ·refine g_call rfl rfl rfl ?_; refine c_rc (hc) hlt (by assumption) (by omega) (by omega) ?_; intro e1 r3 rw_r3 hR' hok_r3 _ _ _ _ _ hP_e1; replace hR:=hR.trans hR'; (try replace hRL:=hRL.trans hR'); obtain ⟨_,_,hP_e1⟩:=hP_e1; refine zrk ?_
  refine' hG
  refine fin_cell hlt rfl rfl (v:=.agg (smRow (.mk [105,102] [] [] [c1] b1.xs [e1] _))) (by (simp only [aload,canonL,smRow,exRows,tyRows,smRows,lst_nil,LT.canon,List.getElem?_cons_zero,List.take_succ_cons,List.take_zero,List.drop_zero,List.map_cons,List.map_nil,List.length_cons,List.length_nil,Nat.reduceAdd,Nat.zero_add,Nat.le_refl,if_true,canon_lst,canon_str,canon_int,canon_nil]; try rfl)) ((row_sm _).below _) ?_
  refine rend (.mk [105,102] [] [] [c1] b1.xs [e1] _) hR rfl (Rok.nx (by assumption) (by omega) (by omega)) ⟨by omega,?_,?_⟩
  ·simp only [wSm,wSms,wExs,wTys,List.length_nil,List.length_cons]; omega
  ·exact fun h => ok_if (hP_c1 (by omega)) (hP_b1 (by omega)) (okSms_1 (hP_e1 (by omega)))
 ·refine fin_cell hlt rfl rfl (v:=.agg (smRow (.mk [105,102] [] [] [c1] b1.xs [] _))) (by (simp only [aload,canonL,smRow,exRows,tyRows,smRows,lst_nil,LT.canon,List.getElem?_cons_zero,List.take_succ_cons,List.take_zero,List.drop_zero,List.map_cons,List.map_nil,List.length_cons,List.length_nil,Nat.reduceAdd,Nat.zero_add,Nat.le_refl,if_true,canon_lst,canon_str,canon_int,canon_nil]; try rfl)) ((row_sm _).below _) ?_
  refine rend (.mk [105,102] [] [] [c1] b1.xs [] _) hR rfl (Rok.nx (by assumption) (by omega) (by omega)) ⟨by omega,?_,?_⟩
  ·simp only [wSm,wSms,wExs,wTys,List.length_nil,List.length_cons]; omega
  ·intro h; omega
 ·refine g_call rfl rfl rfl ?_; refine c_rc (hb) hlt (by assumption) (by omega) (by omega) ?_; intro b2 r3 rw_r3 hR' hok_r3 _ _ _ _ _ hP_b2; replace hR:=hR.trans hR'; (try replace hRL:=hRL.trans hR'); obtain ⟨_,_,hP_b2⟩:=hP_b2; refine zrk ?_
  refine' hG
  refine fin_cell hlt rfl rfl (v:=.agg (smRow (.mk [105,102] [] [] [c1] b1.xs b2.xs _))) (by (simp only [aload,canonL,smRow,exRows,tyRows,lst_nil,LT.canon,List.getElem?_cons_zero,List.take_succ_cons,List.take_zero,List.drop_zero,List.map_cons,List.map_nil,List.length_cons,List.length_nil,Nat.reduceAdd,Nat.zero_add,Nat.le_refl,if_true,canon_lst,canon_str,canon_int,canon_nil]; try rfl)) ((row_sm _).below _) ?_
  refine rend (.mk [105,102] [] [] [c1] b1.xs b2.xs _) hR rfl (Rok.nx (by assumption) (by omega) (by omega)) ⟨by omega,?_,?_⟩
  ·simp only [wSm,wExs,wTys,List.length_nil,List.length_cons]; omega
  ·exact fun h => ok_if (hP_c1 (by omega)) (hP_b1 (by omega)) (hP_b2 (by omega))
 ·refine fin_cell hlt rfl rfl (v:=.agg (smRow (.mk [105,102] [] [] [c1] b1.xs [] _))) (by (simp only [aload,canonL,smRow,exRows,tyRows,smRows,lst_nil,LT.canon,List.getElem?_cons_zero,List.take_succ_cons,List.take_zero,List.drop_zero,List.map_cons,List.map_nil,List.length_cons,List.length_nil,Nat.reduceAdd,Nat.zero_add,Nat.le_refl,if_true,canon_lst,canon_str,canon_int,canon_nil]; try rfl)) ((row_sm _).below _) ?_
  refine rend (.mk [105,102] [] [] [c1] b1.xs [] _) hR rfl (Rok.nx (by assumption) (by omega) (by omega)) ⟨by omega,?_,?_⟩
  ·simp only [wSm,wSms,wExs,wTys,List.length_nil,List.length_cons]; omega
  ·exact fun h => ok_if (hP_c1 (by omega)) (hP_b1 (by omega)) okSms_nil
end Go.Proofs.YtmeakjgbjldkdaaGreat.Ai
namespace Go.Proofs.YtmeakjgbjldkdaaGreat.Ai
open Go
variable {pr : Prims} {F : Nat → Option IFn}
def isTP (k : Nat) (x : Str) (s : Src) (r : Rd) : Bool → Prop
 | true => r.code = 0 ∧ (r.i + k < s.toks.length ∧ ∀ t : Tok,s.toks[r.i.toNat + k]? = some t → t.text = x)
 | false => True ∧ True
theorem rq_isT (L : LibR pr F) (k : Nat) (hk : k ≤ 5) (x : Str) : RQ pr F AV.bool (isTP k x) 90 [.int .i64 k,.str x]:=by
 intro H rw n s r M hlt hr
 refine ⟨isF s r k x,?_,det_is (S:=⟨_,_⟩) L (hp_get hlt) hr k hk x⟩
 cases h : isF s r k x with
 | true =>
  have:=isF_lt h
  have h0:=hr.lo
  refine ⟨this.1,by omega,fun t ht => ?_⟩
  unfold isF at h
  rw [ht] at h
  simp at h
  exact h.2.2
 | false => exact ⟨trivial,trivial⟩
theorem ok_let {nm : Str} {ty : List Ty} {x : Xp} {a : Int} (h : Nm nm) (hl : ty.length ≤ 1) (ht : okTys ty) (hx : okEx x) : okSm (.mk [108,101,116] nm ty [x] [] [] a):=
 ok_sm (.inl ⟨rfl,h,hl,⟨_,rfl⟩,rfl,rfl⟩) ht (okExs_1 hx) okSms_nil okSms_nil
theorem ok_while {c : Xp} {l : List Xp} {b : List Sm} {a : Int} (h : okExs (c :: l)) (hb : okSms b) : okSm (.mk [119,104,105,108,101] [] [] (c :: l) b [] a):=
 ok_sm (.inr (.inr (.inr (.inr (.inr (.inl ⟨rfl,rfl,rfl,⟨_,_,rfl⟩,rfl⟩)))))) okTys_nil h hb okSms_nil
theorem ok_ret {l : List Xp} {a : Int} (hl : l.length ≤ 1) (h : okExs l) : okSm (.mk [114,101,116,117,114,110] [] [] l [] [] a):=
 ok_sm (.inr (.inr (.inr (.inr (.inr (.inr (.inl ⟨rfl,rfl,rfl,hl,rfl,rfl⟩))))))) okTys_nil h okSms_nil okSms_nil
theorem ok_ap {k : Str} {x : Xp} {a : Int} (hk : k = [97,115,115,101,114,116] ∨ k = [112,114,105,110,116]) (h : okEx x) : okSm (.mk k [] [] [x] [] [] a):=
 ok_sm (.inr (.inr (.inr (.inr (.inr (.inr (.inr ⟨hk.elim .inl (fun h => .inr (.inl h)),rfl,rfl,⟨_,rfl⟩,rfl,rfl⟩))))))) okTys_nil (okExs_1 h) okSms_nil okSms_nil
theorem stmt_of (L : LibS pr F) {m : Int} (hb : RC pr F LT.v blkP 94 [] m) (hc : RC pr F (fun x : Sm => AV.agg (smRow x)) smP 196 [] m) : RC pr F (fun x : Sm => AV.agg (smRow x)) smP 141 [] m:=by
 have hm:=L.hm
 have cis0:=fun x => rq_is L.toLibR 0 (by omega) x
 have cis1:=fun x => rq_is L.toLibR 1 (by omega) x
 have cis2:=fun x => rq_is L.toLibR 2 (by omega) x
 have cpl:=rq_place L.toLibR
 have ctk:=fun x => rc_take L.toLibR x 2000
 have cen:=rc_enter L.toLibR 2000
 have cnd:=fun x => rc_need L.toLibR x 2000
 have cfl:=rc_fail L.toLibR 110 (by omega) 2000
 have cnm:=rc_name L.toLibR 2000
 clear cis0
 have cis0:=fun x => rq_isT L.toLibR 0 (by omega) x
 have hex:=rc_expr L.toLibX
 have hty:=rc_typ L.toLibX
 have hot:=rp_other L
 refine rc_start hm L.f141.1 L.f141.2 rfl ?_
 intro H rw n s r hlt hsm hok _ _ _ _ _
 have hR : Rx rw rw:=Rx.rfl
 refine' hG
 ·refine g_call rfl rfl rfl ?_; refine c_rc (cnm) hlt (by assumption) (by omega) (by omega) ?_; intro nm r1 rw_r1 hR' hok_r1 _ _ _ _ _ hP_nm; replace hR:=hR.trans hR'; (try replace hRL:=hRL.trans hR'); obtain ⟨_,_,hP_nm⟩:=hP_nm; refine zrk ?_
  refine' hG
  ·refine g_call rfl rfl rfl ?_; refine c_rc (hty) hlt (by assumption) (by omega) (by omega) ?_; intro t1 r2 rw_r2 hR' hok_r2 _ _ _ _ _ hP_t1; replace hR:=hR.trans hR'; (try replace hRL:=hRL.trans hR'); obtain ⟨_,_,hP_t1⟩:=hP_t1; refine zrk ?_
   refine' hG
   refine g_call rfl rfl rfl ?_; refine c_rc (hex) hlt (by assumption) (by omega) (by omega) ?_; intro x1 r3 rw_r3 hR' hok_r3 _ _ _ _ _ hP_x1; replace hR:=hR.trans hR'; (try replace hRL:=hRL.trans hR'); obtain ⟨_,_,hP_x1⟩:=hP_x1; refine zrk ?_
   refine' hG
   refine fin_cell hlt rfl rfl (v:=.agg (smRow (.mk [108,101,116] nm [t1] [x1] [] [] _))) (by (simp only [aload,canonL,smRow,exRows,tyRows,smRows,lst_nil,List.getElem?_cons_zero,List.take_succ_cons,List.take_zero,List.drop_zero,List.map_cons,List.map_nil,List.length_cons,List.length_nil,Nat.reduceAdd,Nat.zero_add,Nat.le_refl,if_true,canon_str,canon_int,canon_nil]; try rfl)) ((row_sm _).below _) ?_
   refine rend (.mk [108,101,116] nm [t1] [x1] [] [] _) hR rfl (Rok.nx (by assumption) (by omega) (by omega)) ⟨by omega,?_,?_⟩
   ·simp only [wSm,wSms,wExs,wTys,List.length_nil,List.length_cons]; omega
   ·exact fun h => ok_let (hP_nm (by omega)) (by simp) (okTys_1 (hP_t1 (by omega))) (hP_x1 (by omega))
  ·refine g_call rfl rfl rfl ?_; refine c_rc (hex) hlt (by assumption) (by omega) (by omega) ?_; intro x1 r3 rw_r3 hR' hok_r3 _ _ _ _ _ hP_x1; replace hR:=hR.trans hR'; (try replace hRL:=hRL.trans hR'); obtain ⟨_,_,hP_x1⟩:=hP_x1; refine zrk ?_
   refine' hG
   refine fin_cell hlt rfl rfl (v:=.agg (smRow (.mk [108,101,116] nm [] [x1] [] [] _))) (by (simp only [aload,canonL,smRow,exRows,tyRows,smRows,lst_nil,List.getElem?_cons_zero,List.take_succ_cons,List.take_zero,List.drop_zero,List.map_cons,List.map_nil,List.length_cons,List.length_nil,Nat.reduceAdd,Nat.zero_add,Nat.le_refl,if_true,canon_str,canon_int,canon_nil]; try rfl)) ((row_sm _).below _) ?_
   refine rend (.mk [108,101,116] nm [] [x1] [] [] _) hR rfl (Rok.nx (by assumption) (by omega) (by omega)) ⟨by omega,?_,?_⟩
   ·simp only [wSm,wSms,wExs,wTys,List.length_nil,List.length_cons]; omega
   ·exact fun h => ok_let (hP_nm (by omega)) (by simp) okTys_nil (hP_x1 (by omega))
 ·refine g_call rfl rfl rfl ?_; refine c_rc (hc) hlt (by assumption) (by omega) (by omega) ?_; intro t1 r1 rw_r1 hR' hok_r1 _ _ _ _ _ hP_t1; replace hR:=hR.trans hR'; (try replace hRL:=hRL.trans hR'); obtain ⟨_,_,hP_t1⟩:=hP_t1; refine zrk ?_
  refine' hG
  refine fin_cell hlt rfl rfl (row_sm t1).load ((row_sm _).below _) ?_
  exact rend t1 hR rfl (Rok.nx (by assumption) (by omega) (by omega)) ⟨by omega,by omega,fun h => hP_t1 (by omega)⟩
 ·refine g_call rfl rfl rfl ?_; refine c_rc (hex) hlt (by assumption) (by omega) (by omega) ?_; intro c1 r1 rw_r1 hR' hok_r1 _ _ _ _ _ hP_c1; replace hR:=hR.trans hR'; (try replace hRL:=hRL.trans hR'); obtain ⟨_,_,hP_c1⟩:=hP_c1; refine zrk ?_
  refine' hG
  rename Int => pl
  refine at_loop hm (fun m e S' => ∃ (r' : Rd) (rw' : List Nat) (v : AV) (xs : List Xp),S' = ⟨hp H n (blk s r') [.cells (smRow (.mk [] [] [] [] [] [] 0)),.cells [.str [119,104,105,108,101],.str [],.list 0 .full [],v,.list 0 .full [],.list 0 .full [],.int .i64 pl]],rw'⟩ ∧ Rok s r' ∧ r.i ≤ r'.i ∧ r'.deep = r.deep ∧ (r'.code = 0 → r.code = 0) ∧ Rx rw rw' ∧ Lst rw 5 v (exRows (c1 :: xs)) rw' ∧ (xs.length : Int) ≤ r'.i ∧
   (r'.code = 0 → r.i < r'.i ∧ (wExs (c1 :: xs) + 6 : Int) ≤ 7000 * (r'.i - r.i)) ∧ (r'.code = 0 → okExs (c1 :: xs)) ∧ (m : Int) = s.toks.length - r'.i ∧
   e = [(0,.ptr n 0),(2,.ptr (H.length + 0) 0),(3,.ptr (H.length + 1) 0)]) ?_ (m:=(s.toks.length - rc.i).toNat) ⟨rc,rwc,_,[],rfl,by assumption,by omega,by omega,by omega,hR,.lit (by simp []),by simp; omega,by simp only [wExs]; omega,fun h => okExs_1 (hP_c1 (by omega)),by omega,rfl⟩
  clear hR
  rintro m' e S' ⟨r',rw',v,xs,rfl,hok',h2,h3,h4,hR,hl1,hxl,h8,h9,hmm,rfl⟩
  have h5:=hok'.lo
  have h6:=hok'.hi
  have h7:=hok'.dlo
  have hRL : Rx rw' rw':=Rx.rfl
  have hcan:=hl1.isL.canon
  have e2 : (exRows (c1 :: xs)).length = xs.length + 1:=by rw [exRows_len]; simp
  obtain ⟨sz,tag,rfl,hs1,-⟩:=hl1.tag
  have hs2:=hs1 (by simp [exRows])
  subst hs2
  refine' hG
  ·refine g_call rfl rfl rfl ?_; refine c_rc (hex) hlt (by assumption) (by omega) (by omega) ?_; intro x2 r2 rw_r2 hR' hok_r2 _ _ _ _ _ hP_x2; replace hR:=hR.trans hR'; (try replace hRL:=hRL.trans hR'); obtain ⟨_,_,hP_x2⟩:=hP_x2; refine zrk ?_
   refine id_append1 ?_
   refine g_append1 rfl rfl rfl rfl rfl ⟨rfl,rfl,(row_ex x2).len,by simp only [closed1]; exact (row_ex x2).clo,rfl,rfl⟩ (row_ex x2).can ?_
   refine ap_lst (hl1.ext hRL) hR (by rw [e2]; simp only [maxRow]; omega) (by rw [e2]; simp only [maxRow]; omega) (by omega) ?_
   intro l4 rw4 hl4 hR4
   obtain ⟨sz4,tag4,rfl,hs4,-⟩:=hl4.tag
   refine zrk ?_
   refine' hG
   refine ⟨(s.toks.length - r2.i).toNat,by omega,r2,rw4,_,xs ++ [x2],rfl,hok_r2,by omega,by omega,by omega,hR4,by rw [← List.cons_append,exRows_append]; exact hl4,by simp; omega,?_,?_,by omega,rfl⟩
   ·intro h0
    have:=h8 (by omega)
    rw [← List.cons_append,wExs_append]
    simp only [wExs] at *
    omega
   ·intro h0
    rw [← List.cons_append,okExs_append]
    exact ⟨h9 (by omega),okExs_1 (hP_x2 h0)⟩
  ·refine g_call rfl rfl rfl ?_; refine c_rc (hb) hlt (by assumption) (by omega) (by omega) ?_; intro b1 r2 rw_r2 hR' hok_r2 _ _ _ _ _ hP_b1; replace hR:=hR.trans hR'; (try replace hRL:=hRL.trans hR'); obtain ⟨_,_,hP_b1⟩:=hP_b1; refine zrk ?_
   refine' hG
   simp only [exRows] at hcan
   refine fin_cell hlt rfl rfl (v:=.agg (smRow (.mk [119,104,105,108,101] [] [] (c1 :: xs) b1.xs [] pl))) (by simp only [aload,canonL,smRow,exRows,tyRows,smRows,lst_nil,LT.canon,List.getElem?_cons_zero,List.take_succ_cons,List.take_zero,List.drop_zero,List.map_cons,List.map_nil,List.length_cons,List.length_nil,Nat.reduceAdd,Nat.zero_add,Nat.le_refl,if_true,canon_lst,canon_str,canon_int,canon_nil]; simp only [hcan,canon_lst]) ((row_sm _).below _) ?_
   refine rend (.mk [119,104,105,108,101] [] [] (c1 :: xs) b1.xs [] pl) hR rfl (Rok.nx (by assumption) (by omega) (by omega)) ⟨by omega,?_,?_⟩
   ·intro h0
    have:=h8 (by omega)
    simp only [wSm,wSms,wTys,List.length_nil,List.length_cons]
    omega
   ·exact fun h => ok_while (h9 (by omega)) (hP_b1 (by omega))
 ·refine fin_cell hlt rfl rfl (v:=.agg (smRow (.mk [114,101,116,117,114,110] [] [] [] [] [] _))) (by (simp only [aload,canonL,smRow,exRows,tyRows,smRows,lst_nil,List.getElem?_cons_zero,List.take_succ_cons,List.take_zero,List.drop_zero,List.map_cons,List.map_nil,List.length_cons,List.length_nil,Nat.reduceAdd,Nat.zero_add,Nat.le_refl,if_true,canon_str,canon_int,canon_nil]; try rfl)) ((row_sm _).below _) ?_
  refine rend (.mk [114,101,116,117,114,110] [] [] [] [] [] _) hR rfl (Rok.nx (by assumption) (by omega) (by omega)) ⟨by omega,?_,?_⟩
  ·simp only [wSm,wSms,wExs,wTys,List.length_nil,List.length_cons]; omega
  ·exact fun h => ok_ret (by simp) okExs_nil
 ·refine g_call rfl rfl rfl ?_; refine c_rc (hex) hlt (by assumption) (by omega) (by omega) ?_; intro x1 r1 rw_r1 hR' hok_r1 _ _ _ _ _ hP_x1; replace hR:=hR.trans hR'; (try replace hRL:=hRL.trans hR'); obtain ⟨_,_,hP_x1⟩:=hP_x1; refine zrk ?_
  refine' hG
  refine fin_cell hlt rfl rfl (v:=.agg (smRow (.mk [114,101,116,117,114,110] [] [] [x1] [] [] _))) (by (simp only [aload,canonL,smRow,exRows,tyRows,smRows,lst_nil,List.getElem?_cons_zero,List.take_succ_cons,List.take_zero,List.drop_zero,List.map_cons,List.map_nil,List.length_cons,List.length_nil,Nat.reduceAdd,Nat.zero_add,Nat.le_refl,if_true,canon_str,canon_int,canon_nil]; try rfl)) ((row_sm _).below _) ?_
  refine rend (.mk [114,101,116,117,114,110] [] [] [x1] [] [] _) hR rfl (Rok.nx (by assumption) (by omega) (by omega)) ⟨by omega,?_,?_⟩
  ·simp only [wSm,wSms,wExs,wTys,List.length_nil,List.length_cons]; omega
  ·exact fun h => ok_ret (by simp) (okExs_1 (hP_x1 (by omega)))
 ·refine g_call rfl rfl rfl ?_; refine c_rc (hex) hlt (by assumption) (by omega) (by omega) ?_; intro x1 r1 rw_r1 hR' hok_r1 _ _ _ _ _ hP_x1; replace hR:=hR.trans hR'; (try replace hRL:=hRL.trans hR'); obtain ⟨_,_,hP_x1⟩:=hP_x1; refine zrk ?_
  refine' hG
  refine fin_cell hlt rfl rfl (v:=.agg (smRow (.mk tk.text [] [] [x1] [] [] _))) (by (simp only [aload,canonL,smRow,exRows,tyRows,smRows,lst_nil,List.getElem?_cons_zero,List.take_succ_cons,List.take_zero,List.drop_zero,List.map_cons,List.map_nil,List.length_cons,List.length_nil,Nat.reduceAdd,Nat.zero_add,Nat.le_refl,if_true,canon_str,canon_int,canon_nil]; try rfl)) ((row_sm _).below _) ?_
  refine rend (.mk tk.text [] [] [x1] [] [] _) hR rfl (Rok.nx (by assumption) (by omega) (by omega)) ⟨by omega,?_,?_⟩
  ·simp only [wSm,wSms,wExs,wTys,List.length_nil]; omega
  ·exact fun h => ok_ap (.inl ((‹_ ∧ ∀ t : Tok,s.toks[_]? = some t → t.text = [97,115,115,101,114,116]›).2 tk htk2)) (hP_x1 (by omega))
 ·refine g_call rfl rfl rfl ?_; refine c_rc (hex) hlt (by assumption) (by omega) (by omega) ?_; intro x1 r1 rw_r1 hR' hok_r1 _ _ _ _ _ hP_x1; replace hR:=hR.trans hR'; (try replace hRL:=hRL.trans hR'); obtain ⟨_,_,hP_x1⟩:=hP_x1; refine zrk ?_
  refine' hG
  refine fin_cell hlt rfl rfl (v:=.agg (smRow (.mk tk.text [] [] [x1] [] [] _))) (by (simp only [aload,canonL,smRow,exRows,tyRows,smRows,lst_nil,List.getElem?_cons_zero,List.take_succ_cons,List.take_zero,List.drop_zero,List.map_cons,List.map_nil,List.length_cons,List.length_nil,Nat.reduceAdd,Nat.zero_add,Nat.le_refl,if_true,canon_str,canon_int,canon_nil]; try rfl)) ((row_sm _).below _) ?_
  refine rend (.mk tk.text [] [] [x1] [] [] _) hR rfl (Rok.nx (by assumption) (by omega) (by omega)) ⟨by omega,?_,?_⟩
  ·simp only [wSm,wSms,wExs,wTys,List.length_nil]; omega
  ·exact fun h => ok_ap (.inr ((‹_ ∧ ∀ t : Tok,s.toks[_]? = some t → t.text = [112,114,105,110,116]›).2 tk htk2)) (hP_x1 (by omega))
 ·refine g_call rfl rfl rfl ?_
  refine c_rp hot hlt (by assumption) (by omega) (by omega) ⟨_,rfl⟩ ?_
  intro C r1 rw1 hok1 _ _ _ _ _ hP
  obtain ⟨hR',t,hP⟩:=hP
  obtain ⟨h1,h2,h3,h4,h5⟩:=hP
  replace hR:=hR.trans hR'
  refine zrk ?_
  refine' hG
  refine fin_cell hlt rfl rfl (row_sm t).load ((row_sm _).below _) ?_
  exact rend t hR rfl (Rok.nx (by assumption) (by omega) (by omega)) ⟨by omega,by omega,fun h => h5 (by omega)⟩
end Go.Proofs.YtmeakjgbjldkdaaGreat.Ai
namespace Go.Proofs.YtmeakjgbjldkdaaGreat.Ai
open Go
variable {pr : Prims} {F : Nat → Option IFn}
theorem stmts_all (L : LibS pr F) : ∀ k : Nat,RC pr F (fun x : Sm => AV.agg (smRow x)) smP 141 [] (k - 100) ∧ RC pr F (fun x : Sm => AV.agg (smRow x)) smP 196 [] (k - 100) ∧ RC pr F LT.v blkP 94 [] (k - 100)
 | 0 => ⟨rc_low (by omega),rc_low (by omega),rc_low (by omega)⟩
 | k + 1 => by
  obtain ⟨h1,h2,-⟩:=stmts_all L k
  have e : (((k + 1 : Nat) : Int) - 100) = ((k : Int) - 100) + 1:=by omega
  have hb : RC pr F LT.v blkP 94 [] (((k + 1 : Nat) : Int) - 100):=by rw [e]; exact block_of L h1
  have hc : RC pr F (fun x : Sm => AV.agg (smRow x)) smP 196 [] (((k + 1 : Nat) : Int) - 100):=choice_of L hb (by rw [show (((k + 1 : Nat) : Int) - 100 - 1) = (k : Int) - 100 by omega]; exact h2)
  exact ⟨stmt_of L hb hc,hc,hb⟩
theorem rc_block (L : LibS pr F) : RC pr F LT.v blkP 94 [] 2000:=by
 have:=(stmts_all L 2100).2.2
 exact rc_mono this (by omega)
end Go.Proofs.YtmeakjgbjldkdaaGreat.Ai
