/- A part of what is proved: R8, R9, R10, L3, R11, R12, R13. No condition. -/
import Derived.Test.YtmeakjgbjldkdaaGreatVa8
import Derived.Test.YtmeakjgbjldkdaaGreatProg
import Derived.KernelRfl
set_option maxRecDepth 100000
set_option maxHeartbeats 16000000
namespace Go.Proofs.YtmeakjgbjldkdaaGreat.Ai
open Go
variable {pr : Prims} {F : Nat → Option IFn}
theorem ok_mk {op nm : Str} {args : List Xp} {ty : List Ty} {a : Int} (h : okOp op nm args ty) (h1 : okExs args) (h2 : okTys ty) : okEx (.mk op nm args ty a):=by
 rw [okEx]; exact ⟨h,h1,h2⟩
theorem okExs_nil : okExs []:=trivial
theorem okTys_nil : okTys []:=by rw [okTys]; trivial
theorem okExs_1 {a : Xp} (h : okEx a) : okExs [a]:=by rw [okExs,okExs]; exact ⟨h,trivial⟩
theorem okExs_2 {a b : Xp} (h : okEx a) (h' : okEx b) : okExs [a,b]:=by rw [okExs,okExs,okExs]; exact ⟨h,h',trivial⟩
theorem okTys_1 {a : Ty} (h : okTy a) : okTys [a]:=by rw [okTys,okTys]; exact ⟨h,trivial⟩
theorem primary_of (L : LibX pr F) {m : Int} (hx : RC pr F (fun x : Xp => AV.agg (exRow x)) exP 193 [] m) (hxs : RC pr F LT.v exsP 195 [] m) (ht : RC pr F (fun x : Ty => AV.agg (tyRow x)) tyP 192 [] m) : RC pr F (fun x : Xp => AV.agg (exRow x)) exP 253 [] m:=by
 have hm:=L.hm
 have cis0:=fun x => rq_is L.toLibR 0 (by omega) x
 have cis1:=fun x => rq_is L.toLibR 1 (by omega) x
 have cis2:=fun x => rq_is L.toLibR 2 (by omega) x
 have cpl:=rq_place L.toLibR
 have ctk:=fun x => rc_take L.toLibR x 2000
 have cen:=rc_enter L.toLibR 2000
 have cnd:=fun x => rc_need L.toLibR x 2000
 have cfl:=rc_fail L.toLibR 110 (by omega) 2000
 have cnm:=rc_name L.toLibR 2000
 refine rc_start hm L.f253.1 L.f253.2 rfl ?_
 intro H rw n s r hlt hsm hok _ _ _ _ _
 have hR : Rx rw rw:=Rx.rfl
 refine' hG
 ·refine fin_cell hlt rfl rfl (v:=.agg (exRow (.mk [] [] [] [] _))) (by (simp only [aload,overlay,canonL,cells_int,exRow,exRows,tyRows,lst_nil,List.getElem?_cons_zero,List.take_succ_cons,List.take_zero,List.drop_succ_cons,List.drop_zero,List.map_cons,List.map_nil,List.nil_append,List.append_nil,List.cons_append,List.length_cons,List.length_nil,Nat.reduceAdd,Nat.zero_add,Nat.le_refl,if_true,canon_str,canon_int,canon_nil]; try rfl)) ((row_ex _).below _) ?_
  refine rend (.mk [] [] [] [] _) hR rfl (Rok.nx (by assumption) (by omega) (by omega)) ⟨by omega,?_,?_⟩
  ·simp only [wEx,wExs,wTys,List.length_nil]; omega
  ·intro h; omega
 ·refine fin_cell hlt rfl rfl (v:=.agg (exRow (.mk [] [] [] [] _))) (by (simp only [aload,overlay,canonL,cells_int,exRow,exRows,tyRows,lst_nil,List.getElem?_cons_zero,List.take_succ_cons,List.take_zero,List.drop_succ_cons,List.drop_zero,List.map_cons,List.map_nil,List.nil_append,List.append_nil,List.cons_append,List.length_cons,List.length_nil,Nat.reduceAdd,Nat.zero_add,Nat.le_refl,if_true,canon_str,canon_int,canon_nil]; try rfl)) ((row_ex _).below _) ?_
  refine rend (.mk [] [] [] [] _) hR rfl (Rok.nx (by assumption) (by omega) (by omega)) ⟨by omega,?_,?_⟩
  ·simp only [wEx,wExs,wTys,List.length_nil]; omega
  ·intro h; omega
 ·refine fin_cell hlt rfl rfl (v:=.agg (exRow (.mk [110,117,109] tk.text [] [] _))) (by (simp only [aload,canonL,exRow,exRows,tyRows,lst_nil,List.getElem?_cons_zero,List.take_succ_cons,List.take_zero,List.drop_zero,List.map_cons,List.map_nil,List.length_cons,List.length_nil,Nat.reduceAdd,Nat.zero_add,Nat.le_refl,if_true,canon_str,canon_int,canon_nil]; try rfl)) ((row_ex _).below _) ?_
  refine rend (.mk [110,117,109] tk.text [] [] _) hR rfl (Rok.nx (by assumption) (by omega) (by omega)) ⟨by omega,?_,?_⟩
  ·simp only [wEx,wExs,wTys,List.length_nil,List.length_cons]; omega
  ·exact fun _ => ok_mk (.inl ⟨rfl,rfl,rfl⟩) okExs_nil okTys_nil
 ·refine fin_cell hlt rfl rfl (v:=.agg (exRow (.mk tk.text [] [] [] _))) (by (simp only [aload,canonL,exRow,exRows,tyRows,lst_nil,List.getElem?_cons_zero,List.take_succ_cons,List.take_zero,List.drop_zero,List.map_cons,List.map_nil,List.length_cons,List.length_nil,Nat.reduceAdd,Nat.zero_add,Nat.le_refl,if_true,canon_str,canon_int,canon_nil]; try rfl)) ((row_ex _).below _) ?_
  refine rend (.mk tk.text [] [] [] _) hR rfl (Rok.nx (by assumption) (by omega) (by omega)) ⟨by omega,?_,?_⟩
  ·simp only [wEx,wExs,wTys,List.length_nil]; omega
  ·exact fun _ => ok_mk (.inr (.inr (.inl ⟨.inl (by assumption),rfl,rfl⟩))) okExs_nil okTys_nil
 ·refine fin_cell hlt rfl rfl (v:=.agg (exRow (.mk tk.text [] [] [] _))) (by (simp only [aload,canonL,exRow,exRows,tyRows,lst_nil,List.getElem?_cons_zero,List.take_succ_cons,List.take_zero,List.drop_zero,List.map_cons,List.map_nil,List.length_cons,List.length_nil,Nat.reduceAdd,Nat.zero_add,Nat.le_refl,if_true,canon_str,canon_int,canon_nil]; try rfl)) ((row_ex _).below _) ?_
  refine rend (.mk tk.text [] [] [] _) hR rfl (Rok.nx (by assumption) (by omega) (by omega)) ⟨by omega,?_,?_⟩
  ·simp only [wEx,wExs,wTys,List.length_nil]; omega
  ·exact fun _ => ok_mk (.inr (.inr (.inl ⟨.inr (.inl (by assumption)),rfl,rfl⟩))) okExs_nil okTys_nil
 ·refine fin_cell hlt rfl rfl (v:=.agg (exRow (.mk tk.text [] [] [] _))) (by (simp only [aload,canonL,exRow,exRows,tyRows,lst_nil,List.getElem?_cons_zero,List.take_succ_cons,List.take_zero,List.drop_zero,List.map_cons,List.map_nil,List.length_cons,List.length_nil,Nat.reduceAdd,Nat.zero_add,Nat.le_refl,if_true,canon_str,canon_int,canon_nil]; try rfl)) ((row_ex _).below _) ?_
  refine rend (.mk tk.text [] [] [] _) hR rfl (Rok.nx (by assumption) (by omega) (by omega)) ⟨by omega,?_,?_⟩
  ·simp only [wEx,wExs,wTys,List.length_nil]; omega
  ·exact fun _ => ok_mk (.inr (.inr (.inl ⟨.inr (.inr (.inl (by assumption))),rfl,rfl⟩))) okExs_nil okTys_nil
 ·refine fin_cell hlt rfl rfl (v:=.agg (exRow (.mk tk.text [] [] [] _))) (by (simp only [aload,canonL,exRow,exRows,tyRows,lst_nil,List.getElem?_cons_zero,List.take_succ_cons,List.take_zero,List.drop_zero,List.map_cons,List.map_nil,List.length_cons,List.length_nil,Nat.reduceAdd,Nat.zero_add,Nat.le_refl,if_true,canon_str,canon_int,canon_nil]; try rfl)) ((row_ex _).below _) ?_
  refine rend (.mk tk.text [] [] [] _) hR rfl (Rok.nx (by assumption) (by omega) (by omega)) ⟨by omega,?_,?_⟩
  ·simp only [wEx,wExs,wTys,List.length_nil]; omega
  ·exact fun _ => ok_mk (.inr (.inr (.inl ⟨.inr (.inr (.inr (.inl (by assumption)))),rfl,rfl⟩))) okExs_nil okTys_nil
 ·refine g_call rfl rfl rfl ?_; refine c_rc (hx) hlt (by assumption) (by omega) (by omega) ?_; intro x1 r1 rw_r1 hR' hok_r1 _ _ _ _ _ hP_x1; replace hR:=hR.trans hR'; (try replace hRL:=hRL.trans hR'); obtain ⟨_,_,hP_x1⟩:=hP_x1; refine zrk ?_
  refine' hG
  refine fin_cell hlt rfl rfl (row_ex x1).load ((row_ex _).below _) ?_
  exact rend x1 hR rfl (Rok.nx (by assumption) (by omega) (by omega)) ⟨by omega,by omega,fun h => hP_x1 (by omega)⟩
 ·refine g_call rfl rfl rfl ?_; refine c_rc (cnm) hlt (by assumption) (by omega) (by omega) ?_; intro x1 r1 rw_r1 hR' hok_r1 _ _ _ _ _ hP_x1; replace hR:=hR.trans hR'; (try replace hRL:=hRL.trans hR'); obtain ⟨_,_,hP_x1⟩:=hP_x1; refine zrk ?_
  refine' hG
  refine g_call rfl rfl rfl ?_; refine c_rc (hxs) hlt (by assumption) (by omega) (by omega) ?_; intro l1 r2 rw_r2 hR' hok_r2 _ _ _ _ _ hP_l1; replace hR:=hR.trans hR'; (try replace hRL:=hRL.trans hR'); obtain ⟨_,_,hP_l1⟩:=hP_l1; refine zrk ?_
  refine' hG
  refine fin_cell hlt rfl rfl (v:=.agg (exRow (.mk [110,101,119] x1 l1.xs [] _))) (by (simp only [aload,canonL,exRow,tyRows,lst_nil,LT.canon,List.getElem?_cons_zero,List.take_succ_cons,List.take_zero,List.drop_zero,List.map_cons,List.map_nil,List.length_cons,List.length_nil,Nat.reduceAdd,Nat.zero_add,Nat.le_refl,if_true,canon_lst,canon_str,canon_int,canon_nil]; try rfl)) ((row_ex _).below _) ?_
  refine rend (.mk [110,101,119] x1 l1.xs [] _) hR rfl (Rok.nx (by assumption) (by omega) (by omega)) ⟨by omega,?_,?_⟩
  ·simp only [wEx,wTys,List.length_nil,List.length_cons]; omega
  ·exact fun h => ok_mk (.inr (.inr (.inr (.inr (.inl ⟨rfl,rfl,hP_x1 (by omega)⟩))))) (hP_l1 (by omega)) okTys_nil
 ·refine g_call rfl rfl rfl ?_; refine c_rc (ht) hlt (by assumption) (by omega) (by omega) ?_; intro t1 r1 rw_r1 hR' hok_r1 _ _ _ _ _ hP_t1; replace hR:=hR.trans hR'; (try replace hRL:=hRL.trans hR'); obtain ⟨_,_,hP_t1⟩:=hP_t1; refine zrk ?_
  refine' hG
  refine g_call rfl rfl rfl ?_; refine c_rc (hx) hlt (by assumption) (by omega) (by omega) ?_; intro x1 r2 rw_r2 hR' hok_r2 _ _ _ _ _ hP_x1; replace hR:=hR.trans hR'; (try replace hRL:=hRL.trans hR'); obtain ⟨_,_,hP_x1⟩:=hP_x1; refine zrk ?_
  refine' hG
  refine g_call rfl rfl rfl ?_; refine c_rc (hx) hlt (by assumption) (by omega) (by omega) ?_; intro x2 r3 rw_r3 hR' hok_r3 _ _ _ _ _ hP_x2; replace hR:=hR.trans hR'; (try replace hRL:=hRL.trans hR'); obtain ⟨_,_,hP_x2⟩:=hP_x2; refine zrk ?_
  refine' hG
  refine fin_cell hlt rfl rfl (v:=.agg (exRow (.mk [108,105,115,116] [] [x1,x2] [t1] _))) (by (simp only [aload,canonL,exRow,exRows,tyRows,List.getElem?_cons_zero,List.take_succ_cons,List.take_zero,List.drop_zero,List.map_cons,List.map_nil,List.length_cons,List.length_nil,Nat.reduceAdd,Nat.zero_add,Nat.le_refl,if_true,canon_str,canon_int]; try rfl)) ((row_ex _).below _) ?_
  refine rend (.mk [108,105,115,116] [] [x1,x2] [t1] _) hR rfl (Rok.nx (by assumption) (by omega) (by omega)) ⟨by omega,?_,?_⟩
  ·simp only [wEx,wExs,wTys,List.length_nil,List.length_cons]; omega
  ·exact fun h => ok_mk (.inr (.inr (.inr (.inr (.inr (.inl ⟨rfl,⟨_,_,rfl⟩,_,rfl⟩)))))) (okExs_2 (hP_x1 (by omega)) (hP_x2 (by omega))) (okTys_1 (hP_t1 (by omega)))
 ·refine g_call rfl rfl rfl ?_; refine c_rc (hx) hlt (by assumption) (by omega) (by omega) ?_; intro x1 r1 rw_r1 hR' hok_r1 _ _ _ _ _ hP_x1; replace hR:=hR.trans hR'; (try replace hRL:=hRL.trans hR'); obtain ⟨_,_,hP_x1⟩:=hP_x1; refine zrk ?_
  refine' hG
  refine fin_cell hlt rfl rfl (v:=.agg (exRow (.mk [108,101,110] [] [x1] [] _))) (by (simp only [aload,canonL,exRow,exRows,tyRows,lst_nil,List.getElem?_cons_zero,List.take_succ_cons,List.take_zero,List.drop_zero,List.map_cons,List.map_nil,List.length_cons,List.length_nil,Nat.reduceAdd,Nat.zero_add,Nat.le_refl,if_true,canon_str,canon_int,canon_nil]; try rfl)) ((row_ex _).below _) ?_
  refine rend (.mk [108,101,110] [] [x1] [] _) hR rfl (Rok.nx (by assumption) (by omega) (by omega)) ⟨by omega,?_,?_⟩
  ·simp only [wEx,wExs,wTys,List.length_nil,List.length_cons]; omega
  ·exact fun h => ok_mk (.inr (.inr (.inr (.inl ⟨rfl,⟨_,rfl⟩,rfl⟩)))) (okExs_1 (hP_x1 (by omega))) okTys_nil
 ·refine fin_cell hlt rfl rfl (v:=.agg (exRow (.mk [114,101,97,100] [] [] [] _))) (by (simp only [aload,canonL,exRow,exRows,tyRows,lst_nil,List.getElem?_cons_zero,List.take_succ_cons,List.take_zero,List.drop_zero,List.map_cons,List.map_nil,List.length_cons,List.length_nil,Nat.reduceAdd,Nat.zero_add,Nat.le_refl,if_true,canon_str,canon_int,canon_nil]; try rfl)) ((row_ex _).below _) ?_
  refine rend (.mk [114,101,97,100] [] [] [] _) hR rfl (Rok.nx (by assumption) (by omega) (by omega)) ⟨by omega,?_,?_⟩
  ·simp only [wEx,wExs,wTys,List.length_nil,List.length_cons]; omega
  ·exact fun _ => ok_mk (.inr (.inr (.inl ⟨.inr (.inr (.inr (.inr rfl))),rfl,rfl⟩))) okExs_nil okTys_nil
 ·refine g_call rfl rfl rfl ?_; refine c_rc (cnm) hlt (by assumption) (by omega) (by omega) ?_; intro x1 r1 rw_r1 hR' hok_r1 _ _ _ _ _ hP_x1; replace hR:=hR.trans hR'; (try replace hRL:=hRL.trans hR'); obtain ⟨_,_,hP_x1⟩:=hP_x1; refine zrk ?_
  refine' hG
  refine fin_cell hlt rfl rfl (v:=.agg (exRow (.mk [118,97,114] x1 [] [] _))) (by (simp only [aload,canonL,exRow,exRows,tyRows,lst_nil,List.getElem?_cons_zero,List.take_succ_cons,List.take_zero,List.drop_zero,List.map_cons,List.map_nil,List.length_cons,List.length_nil,Nat.reduceAdd,Nat.zero_add,Nat.le_refl,if_true,canon_str,canon_int,canon_nil]; try rfl)) ((row_ex _).below _) ?_
  refine rend (.mk [118,97,114] x1 [] [] _) hR rfl (Rok.nx (by assumption) (by omega) (by omega)) ⟨by omega,?_,?_⟩
  ·simp only [wEx,wExs,wTys,List.length_nil,List.length_cons]; omega
  ·exact fun h => ok_mk (.inr (.inl ⟨rfl,rfl,rfl,hP_x1 (by omega)⟩)) okExs_nil okTys_nil
end Go.Proofs.YtmeakjgbjldkdaaGreat.Ai
namespace Go.Proofs.YtmeakjgbjldkdaaGreat.Ai
open Go
variable {pr : Prims} {F : Nat → Option IFn}
structure ExIn (s : Src) (r : Rd) (rw : List Nat) (r' : Rd) (rw' : List Nat) (t : Xp) (C : List AV) : Prop where
 ok : Rok s r'
 mono : r.i ≤ r'.i
 deep : r'.deep = r.deep
 code : r'.code = 0 → r.code = 0
 rx : Rx rw rw'
 can : canonL C = exRow t
 len : C.length = 5
 wt : r'.code = 0 → r.i < r'.i ∧ (wEx t : Int) ≤ 7000 * (r'.i - r.i)
 okt : r'.code = 0 → okEx t
theorem exRows_le (l : List Xp) : (exRows l).length ≤ wExs l:=by
 rw [exRows_len]
 induction l with
 | nil => simp
 | cons x xs ih =>
  obtain ⟨op,nm,a,t,p⟩:=x
  simp only [List.length_cons,wExs,wEx]
  omega
theorem ap_lt {K : AV → St → Prop} {α : Type} {sz by_ : Nat} {rowsF : List α → List (List AV)} {rows : List (List AV)} {xs : List α} {H : List Blk} {rw : List Nat} (l : LT sz rowsF) (hx : rowsF xs = rows) (ha : rowsF (xs ++ l.xs) = rowsF xs ++ rowsF l.xs) (hn : rows ≠ []) (hb : (rows.length + (rowsF l.xs).length) * by_ ≤ maxRow) (hl : rows.length + (rowsF l.xs).length ≤ maxRow) (hs : 0 < sz)
  (hk : ∀ (l' : LT sz rowsF) (rw' : List Nat),l'.xs = xs ++ l.xs → Rx rw rw' → K l'.v ⟨H,rw'⟩) : ApAt sz by_ (.list sz .full rows) l.v ⟨H,rw⟩ K:=by
 obtain ⟨v,ys,⟨sz',tag,hv,h1,h2⟩⟩:=l
 simp only at ha hb hl hk ⊢
 subst hv
 subst hx
 by_cases hy : rowsF ys = []
 ·refine ⟨.list sz .full (rowsF xs),⟨H,rw⟩,by simp [aappend,hy],?_⟩
  exact hk ⟨.list sz .full (rowsF xs),xs ++ ys,by rw [ha,hy,List.append_nil]; exact IsL.lit hn⟩ rw rfl Rx.rfl
 ·have hsz:=h1 hy
  subst hsz
  refine ⟨.list sz' (.row rw.length ((rowsF xs).length + (rowsF ys).length)) (rowsF xs ++ rowsF ys),⟨H,rw ++ [(rowsF xs).length + (rowsF ys).length]⟩,?_,?_⟩
  ·simp [aappend,hy,hs,hb,hl]
  ·exact hk ⟨_,xs ++ ys,by rw [ha]; exact IsL.lit (by simp [hy])⟩ _ rfl (Rx.rfl.push _)
theorem operand_of (L : LibX pr F) {m : Int} (hp1 : RC pr F (fun x : Xp => AV.agg (exRow x)) exP 253 [] m) (hx : RC pr F (fun x : Xp => AV.agg (exRow x)) exP 193 [] m) (hxs : RC pr F LT.v exsP 195 [] m) (ho : RC pr F (fun x : Xp => AV.agg (exRow x)) exP 244 [] (m - 1)) :
  RC pr F (fun x : Xp => AV.agg (exRow x)) exP 244 [] m:=by
 have hm:=L.hm
 have cis0:=fun x => rq_is L.toLibR 0 (by omega) x
 have cis1:=fun x => rq_is L.toLibR 1 (by omega) x
 have cis2:=fun x => rq_is L.toLibR 2 (by omega) x
 have cpl:=rq_place L.toLibR
 have ctk:=fun x => rc_take L.toLibR x 2000
 have cen:=rc_enter L.toLibR 2000
 have cnd:=fun x => rc_need L.toLibR x 2000
 have cfl:=rc_fail L.toLibR 110 (by omega) 2000
 have cnm:=rc_name L.toLibR 2000
 refine rc_start hm L.f244.1 L.f244.2 rfl ?_
 intro H rw n s r hlt hsm hok _ _ _ _ _
 have hR : Rx rw rw:=Rx.rfl
 refine' hG
 ·refine g_call rfl rfl rfl ?_; refine c_rc (ho) hlt (by assumption) (by omega) (by omega) ?_; intro x1 r1 rw_r1 hR' hok_r1 _ _ _ _ _ hP_x1; replace hR:=hR.trans hR'; (try replace hRL:=hRL.trans hR'); obtain ⟨_,_,hP_x1⟩:=hP_x1; refine zrk ?_
  refine' hG
  refine fin_cell hlt rfl rfl (v:=.agg (exRow (.mk [110,111,116] [] [x1] [] _))) (by (simp only [aload,canonL,exRow,exRows,tyRows,lst_nil,List.getElem?_cons_zero,List.take_succ_cons,List.take_zero,List.drop_zero,List.map_cons,List.map_nil,List.length_cons,List.length_nil,Nat.reduceAdd,Nat.zero_add,Nat.le_refl,if_true,canon_str,canon_int,canon_nil]; try rfl)) ((row_ex _).below _) ?_
  refine rend (.mk [110,111,116] [] [x1] [] _) hR rfl (Rok.nx (by assumption) (by omega) (by omega)) ⟨by omega,?_,?_⟩
  ·simp only [wEx,wExs,wTys,List.length_nil,List.length_cons]; omega
  ·exact fun h => ok_mk (.inr (.inr (.inr (.inr (.inr (.inr (.inr (.inr (.inr (.inl ⟨.inr rfl,⟨_,rfl⟩,rfl⟩)))))))))) (okExs_1 (hP_x1 (by omega))) okTys_nil
 ·refine fin_cell hlt rfl rfl (v:=.agg (exRow (.mk [110,111,116] [] [] [] _))) (by (simp only [aload,canonL,exRow,exRows,tyRows,lst_nil,List.getElem?_cons_zero,List.take_succ_cons,List.take_zero,List.drop_zero,List.map_cons,List.map_nil,List.length_cons,List.length_nil,Nat.reduceAdd,Nat.zero_add,Nat.le_refl,if_true,canon_str,canon_int,canon_nil]; try rfl)) ((row_ex _).below _) ?_
  refine rend (.mk [110,111,116] [] [] [] _) hR rfl (Rok.nx (by assumption) (by omega) (by omega)) ⟨by omega,?_,?_⟩
  ·simp only [wEx,wExs,wTys,List.length_nil,List.length_cons]; omega
  ·intro h; omega
 ·refine g_call rfl rfl rfl ?_; refine c_rc (ho) hlt (by assumption) (by omega) (by omega) ?_; intro x1 r1 rw_r1 hR' hok_r1 _ _ _ _ _ hP_x1; replace hR:=hR.trans hR'; (try replace hRL:=hRL.trans hR'); obtain ⟨_,_,hP_x1⟩:=hP_x1; refine zrk ?_
  refine' hG
  refine fin_cell hlt rfl rfl (v:=.agg (exRow (.mk [110,101,103] [] [x1] [] _))) (by (simp only [aload,canonL,exRow,exRows,tyRows,lst_nil,List.getElem?_cons_zero,List.take_succ_cons,List.take_zero,List.drop_zero,List.map_cons,List.map_nil,List.length_cons,List.length_nil,Nat.reduceAdd,Nat.zero_add,Nat.le_refl,if_true,canon_str,canon_int,canon_nil]; try rfl)) ((row_ex _).below _) ?_
  refine rend (.mk [110,101,103] [] [x1] [] _) hR rfl (Rok.nx (by assumption) (by omega) (by omega)) ⟨by omega,?_,?_⟩
  ·simp only [wEx,wExs,wTys,List.length_nil,List.length_cons]; omega
  ·exact fun h => ok_mk (.inr (.inr (.inr (.inr (.inr (.inr (.inr (.inr (.inr (.inl ⟨.inl rfl,⟨_,rfl⟩,rfl⟩)))))))))) (okExs_1 (hP_x1 (by omega))) okTys_nil
 ·refine fin_cell hlt rfl rfl (v:=.agg (exRow (.mk [110,101,103] [] [] [] _))) (by (simp only [aload,overlay,canonL,cells_int,cells_str,exRow,exRows,tyRows,lst_nil,List.getElem?_cons_zero,List.take_succ_cons,List.take_zero,List.drop_succ_cons,List.drop_zero,List.map_cons,List.map_nil,List.nil_append,List.append_nil,List.cons_append,List.length_cons,List.length_nil,Nat.reduceAdd,Nat.zero_add,Nat.le_refl,if_true,canon_str,canon_int,canon_nil]; try rfl)) ((row_ex _).below _) ?_
  refine rend (.mk [110,101,103] [] [] [] _) hR rfl (Rok.nx (by assumption) (by omega) (by omega)) ⟨by omega,?_,?_⟩
  ·simp only [wEx,wExs,wTys,List.length_nil,List.length_cons]; omega
  ·intro h; omega
 ·refine g_call rfl rfl rfl ?_; refine c_rc (ho) hlt (by assumption) (by omega) (by omega) ?_; intro x1 r1 rw_r1 hR' hok_r1 _ _ _ _ _ hP_x1; replace hR:=hR.trans hR'; (try replace hRL:=hRL.trans hR'); obtain ⟨_,_,hP_x1⟩:=hP_x1; refine zrk ?_
  refine' hG
  refine fin_cell hlt rfl rfl (v:=.agg (exRow (.mk [110,111,116] [] [x1] [] _))) (by (simp only [aload,canonL,exRow,exRows,tyRows,lst_nil,List.getElem?_cons_zero,List.take_succ_cons,List.take_zero,List.drop_zero,List.map_cons,List.map_nil,List.length_cons,List.length_nil,Nat.reduceAdd,Nat.zero_add,Nat.le_refl,if_true,canon_str,canon_int,canon_nil]; try rfl)) ((row_ex _).below _) ?_
  refine rend (.mk [110,111,116] [] [x1] [] _) hR rfl (Rok.nx (by assumption) (by omega) (by omega)) ⟨by omega,?_,?_⟩
  ·simp only [wEx,wExs,wTys,List.length_nil,List.length_cons]; omega
  ·exact fun h => ok_mk (.inr (.inr (.inr (.inr (.inr (.inr (.inr (.inr (.inr (.inl ⟨.inr rfl,⟨_,rfl⟩,rfl⟩)))))))))) (okExs_1 (hP_x1 (by omega))) okTys_nil
 ·refine fin_cell hlt rfl rfl (v:=.agg (exRow (.mk [110,111,116] [] [] [] _))) (by (simp only [aload,canonL,exRow,exRows,tyRows,lst_nil,List.getElem?_cons_zero,List.take_succ_cons,List.take_zero,List.drop_zero,List.map_cons,List.map_nil,List.length_cons,List.length_nil,Nat.reduceAdd,Nat.zero_add,Nat.le_refl,if_true,canon_str,canon_int,canon_nil]; try rfl)) ((row_ex _).below _) ?_
  refine rend (.mk [110,111,116] [] [] [] _) hR rfl (Rok.nx (by assumption) (by omega) (by omega)) ⟨by omega,?_,?_⟩
  ·simp only [wEx,wExs,wTys,List.length_nil,List.length_cons]; omega
  ·intro h; omega
 ·refine g_call rfl rfl rfl ?_; refine c_rc (ho) hlt (by assumption) (by omega) (by omega) ?_; intro x1 r1 rw_r1 hR' hok_r1 _ _ _ _ _ hP_x1; replace hR:=hR.trans hR'; (try replace hRL:=hRL.trans hR'); obtain ⟨_,_,hP_x1⟩:=hP_x1; refine zrk ?_
  refine' hG
  refine fin_cell hlt rfl rfl (v:=.agg (exRow (.mk [110,101,103] [] [x1] [] _))) (by (simp only [aload,canonL,exRow,exRows,tyRows,lst_nil,List.getElem?_cons_zero,List.take_succ_cons,List.take_zero,List.drop_zero,List.map_cons,List.map_nil,List.length_cons,List.length_nil,Nat.reduceAdd,Nat.zero_add,Nat.le_refl,if_true,canon_str,canon_int,canon_nil]; try rfl)) ((row_ex _).below _) ?_
  refine rend (.mk [110,101,103] [] [x1] [] _) hR rfl (Rok.nx (by assumption) (by omega) (by omega)) ⟨by omega,?_,?_⟩
  ·simp only [wEx,wExs,wTys,List.length_nil,List.length_cons]; omega
  ·exact fun h => ok_mk (.inr (.inr (.inr (.inr (.inr (.inr (.inr (.inr (.inr (.inl ⟨.inl rfl,⟨_,rfl⟩,rfl⟩)))))))))) (okExs_1 (hP_x1 (by omega))) okTys_nil
 ·refine fin_cell hlt rfl rfl (v:=.agg (exRow (.mk [110,101,103] [] [] [] _))) (by (simp only [aload,overlay,canonL,cells_int,cells_str,exRow,exRows,tyRows,lst_nil,List.getElem?_cons_zero,List.take_succ_cons,List.take_zero,List.drop_succ_cons,List.drop_zero,List.map_cons,List.map_nil,List.nil_append,List.append_nil,List.cons_append,List.length_cons,List.length_nil,Nat.reduceAdd,Nat.zero_add,Nat.le_refl,if_true,canon_str,canon_int,canon_nil]; try rfl)) ((row_ex _).below _) ?_
  refine rend (.mk [110,101,103] [] [] [] _) hR rfl (Rok.nx (by assumption) (by omega) (by omega)) ⟨by omega,?_,?_⟩
  ·simp only [wEx,wExs,wTys,List.length_nil,List.length_cons]; omega
  ·intro h; omega
 ·refine g_call rfl rfl rfl ?_; refine c_rc (hp1) hlt (by assumption) (by omega) (by omega) ?_; intro x0 r0 rw_r0 hR' hok_r0 _ _ _ _ _ hP_x0; replace hR:=hR.trans hR'; (try replace hRL:=hRL.trans hR'); obtain ⟨_,_,hP_x0⟩:=hP_x0; refine zrk ?_
  refine' hG
  refine at_loop hm (fun m e S' => ∃ (r' : Rd) (rw' : List Nat) (t : Xp) (C Z : List AV) (J : List Blk),Z.length = 5 ∧ S' = ⟨hp H n (blk s r') (.cells Z :: .cells C :: J),rw'⟩ ∧ ExIn s r rw r' rw' t C ∧ (m : Int) = s.toks.length - r'.i ∧
   e = [(0,.ptr n 0),(2,.ptr (H.length + 0) 0),(4,.ptr (H.length + 1) 0)]) ?_ (m:=(s.toks.length - r0.i).toNat) ⟨r0,rw_r0,x0,exRow x0,_,[],rfl,rfl,⟨hok_r0,by omega,by omega,by omega,hR,(row_ex x0).can,(row_ex x0).len,by omega,hP_x0⟩,by omega,rfl⟩
  clear hok_r0 hP_x0 hR
  rintro m' e S' ⟨r',rw',t,C,Z,J,hZ,rfl,hin,hmm,rfl⟩
  obtain ⟨hok',h2,h3,h4,hR,hC,hCl,h8,h9⟩:=hin
  have h5:=hok'.lo
  have h6:=hok'.hi
  have h7:=hok'.dlo
  refine' hG
  ·refine g_call rfl rfl rfl ?_; refine c_rc (hx) hlt (by assumption) (by omega) (by omega) ?_; intro x1 r1 rw_r1 hR' hok_r1 _ _ _ _ _ hP_x1; replace hR:=hR.trans hR'; (try replace hRL:=hRL.trans hR'); obtain ⟨_,_,hP_x1⟩:=hP_x1; refine zrk ?_
   refine' hG
   refine ⟨(s.toks.length - rc.i).toNat,by omega,rc,rwc,.mk [105,110,100,101,120] [] [t,x1] [] _,_,_,_,hZ,rfl,⟨by assumption,by omega,by omega,by omega,hR,by (simp only [canonL,exRow,exRows,tyRows,lst_nil,List.map_cons,List.map_nil,canon_str,canon_int,canon_nil]; try rfl),rfl,fun h => ?_,fun h => ?_⟩,by omega,rfl⟩
   ·have:=h8 (by omega)
    simp only [wEx,wExs,wTys,List.length_nil,List.length_cons]
    omega
   ·exact ok_mk (.inr (.inr (.inr (.inr (.inr (.inr (.inr (.inr (.inl ⟨rfl,⟨_,_,rfl⟩,rfl⟩))))))))) (okExs_2 (h9 (by omega)) (hP_x1 (by omega))) okTys_nil
  ·refine g_call rfl rfl rfl ?_; refine c_rc (cnm) hlt (by assumption) (by omega) (by omega) ?_; intro x1 r1 rw_r1 hR' hok_r1 _ _ _ _ _ hP_x1; replace hR:=hR.trans hR'; (try replace hRL:=hRL.trans hR'); obtain ⟨_,_,hP_x1⟩:=hP_x1; refine zrk ?_
   refine' hG
   ·refine g_call rfl rfl rfl ?_
    refine c_rc hxs hlt (by assumption) (by omega) (by omega) ?_
    intro l1 r2 rw_r2 hR' hok_r2 _ _ _ _ _ hP_l1
    replace hR:=hR.trans hR'
    obtain ⟨_,hw_l1,hP_l1⟩:=hP_l1
    refine zrk ?_
    refine id_append ?_
    refine g_append rfl rfl rfl ?_
    have hll : (exRows l1.xs).length = l1.xs.length:=exRows_len _
    refine ap_lt (xs:=[t]) l1 rfl (exRows_append _ _) (by simp) (by simp only [List.length_cons,List.length_nil,maxRow]; omega) (by simp only [List.length_cons,List.length_nil,maxRow]; omega) (by omega) ?_
    intro l2 rw3 hl2 hR3
    replace hR:=hR.trans hR3
    refine zrk ?_
    refine' hG
    refine ⟨(s.toks.length - r2.i).toNat,by omega,r2,rw3,.mk [99,97,108,108] x1 (t :: l1.xs) [] _,_,_,_,hZ,rfl,⟨by assumption,by omega,by omega,by omega,hR,by ((simp only [canonL,exRow,exRows,tyRows,lst_nil,LT.canon,List.map_cons,List.map_nil,canon_lst,canon_str,canon_int,canon_nil]; try rfl); rw [hl2]; rfl),rfl,fun h => ?_,fun h => ?_⟩,by omega,rfl⟩
    ·have:=h8 (by omega)
     simp only [wEx,wExs,wTys,List.length_nil,List.length_cons]
     omega
    ·exact ok_mk (.inr (.inr (.inr (.inr (.inr (.inr (.inr (.inl ⟨rfl,⟨_,_,rfl⟩,rfl,hP_x1 (by omega)⟩)))))))) (by rw [okExs]; exact ⟨h9 (by omega),hP_l1 h⟩) okTys_nil
   ·refine ⟨(s.toks.length - rc.i).toNat,by omega,rc,rwc,.mk [102,105,101,108,100] x1 [t] [] _,_,_,_,hZ,rfl,⟨by assumption,by omega,by omega,by omega,hR,by (simp only [canonL,exRow,exRows,tyRows,lst_nil,List.map_cons,List.map_nil,canon_str,canon_int,canon_nil]; try rfl),rfl,fun h => ?_,fun h => ?_⟩,by omega,rfl⟩
    ·have:=h8 (by omega)
     simp only [wEx,wExs,wTys,List.length_nil,List.length_cons]
     omega
    ·exact ok_mk (.inr (.inr (.inr (.inr (.inr (.inr (.inl ⟨rfl,⟨_,rfl⟩,rfl,hP_x1 (by omega)⟩))))))) (okExs_1 (h9 (by omega))) okTys_nil
  ·refine g_call rfl rfl rfl ?_; refine c_rc (hx) hlt (by assumption) (by omega) (by omega) ?_; intro x1 r1 rw_r1 hR' hok_r1 _ _ _ _ _ hP_x1; replace hR:=hR.trans hR'; (try replace hRL:=hRL.trans hR'); obtain ⟨_,_,hP_x1⟩:=hP_x1; refine zrk ?_
   refine' hG
   refine ⟨(s.toks.length - rc.i).toNat,by omega,rc,rwc,.mk [105,110,100,101,120] [] [t,x1] [] _,_,_,_,hZ,rfl,⟨by assumption,by omega,by omega,by omega,hR,by (simp only [canonL,exRow,exRows,tyRows,lst_nil,List.map_cons,List.map_nil,canon_str,canon_int,canon_nil]; try rfl),rfl,fun h => ?_,fun h => ?_⟩,by omega,rfl⟩
   ·have:=h8 (by omega)
    simp only [wEx,wExs,wTys,List.length_nil,List.length_cons]
    omega
   ·exact ok_mk (.inr (.inr (.inr (.inr (.inr (.inr (.inr (.inr (.inl ⟨rfl,⟨_,_,rfl⟩,rfl⟩))))))))) (okExs_2 (h9 (by omega)) (hP_x1 (by omega))) okTys_nil
  ·refine g_call rfl rfl rfl ?_; refine c_rc (cnm) hlt (by assumption) (by omega) (by omega) ?_; intro x1 r1 rw_r1 hR' hok_r1 _ _ _ _ _ hP_x1; replace hR:=hR.trans hR'; (try replace hRL:=hRL.trans hR'); obtain ⟨_,_,hP_x1⟩:=hP_x1; refine zrk ?_
   refine' hG
   ·refine g_call rfl rfl rfl ?_
    refine c_rc hxs hlt (by assumption) (by omega) (by omega) ?_
    intro l1 r2 rw_r2 hR' hok_r2 _ _ _ _ _ hP_l1
    replace hR:=hR.trans hR'
    obtain ⟨_,hw_l1,hP_l1⟩:=hP_l1
    refine zrk ?_
    refine id_append ?_
    refine g_append rfl rfl rfl ?_
    have hll : (exRows l1.xs).length = l1.xs.length:=exRows_len _
    refine ap_lt (xs:=[t]) l1 rfl (exRows_append _ _) (by simp) (by simp only [List.length_cons,List.length_nil,maxRow]; omega) (by simp only [List.length_cons,List.length_nil,maxRow]; omega) (by omega) ?_
    intro l2 rw3 hl2 hR3
    replace hR:=hR.trans hR3
    refine zrk ?_
    refine' hG
    refine ⟨(s.toks.length - r2.i).toNat,by omega,r2,rw3,.mk [99,97,108,108] x1 (t :: l1.xs) [] _,_,_,_,hZ,rfl,⟨by assumption,by omega,by omega,by omega,hR,by ((simp only [canonL,exRow,exRows,tyRows,lst_nil,LT.canon,List.map_cons,List.map_nil,canon_lst,canon_str,canon_int,canon_nil]; try rfl); rw [hl2]; rfl),rfl,fun h => ?_,fun h => ?_⟩,by omega,rfl⟩
    ·have:=h8 (by omega)
     simp only [wEx,wExs,wTys,List.length_nil,List.length_cons]
     omega
    ·exact ok_mk (.inr (.inr (.inr (.inr (.inr (.inr (.inr (.inl ⟨rfl,⟨_,_,rfl⟩,rfl,hP_x1 (by omega)⟩)))))))) (by rw [okExs]; exact ⟨h9 (by omega),hP_l1 h⟩) okTys_nil
   ·refine ⟨(s.toks.length - rc.i).toNat,by omega,rc,rwc,.mk [102,105,101,108,100] x1 [t] [] _,_,_,_,hZ,rfl,⟨by assumption,by omega,by omega,by omega,hR,by (simp only [canonL,exRow,exRows,tyRows,lst_nil,List.map_cons,List.map_nil,canon_str,canon_int,canon_nil]; try rfl),rfl,fun h => ?_,fun h => ?_⟩,by omega,rfl⟩
    ·have:=h8 (by omega)
     simp only [wEx,wExs,wTys,List.length_nil,List.length_cons]
     omega
    ·exact ok_mk (.inr (.inr (.inr (.inr (.inr (.inr (.inl ⟨rfl,⟨_,rfl⟩,rfl,hP_x1 (by omega)⟩))))))) (okExs_1 (h9 (by omega))) okTys_nil
  ·refine fin_cell hlt rfl rfl (row_ex t).load ((row_ex _).below _) ?_
   exact rend t hR rfl (Rok.nx (by assumption) (by omega) (by omega)) ⟨by omega,fun h => by have:=h8 (by omega); omega,fun h => h9 (by omega)⟩
end Go.Proofs.YtmeakjgbjldkdaaGreat.Ai
namespace Go.Proofs.YtmeakjgbjldkdaaGreat.Ai
open Go
variable {pr : Prims} {F : Nat → Option IFn}
theorem rc_low {α : Type} {enc : α → AV} {post : Src → Rd → α → Rd → Prop} {f : Nat} {args : List AV} {m : Int} (hm : m ≤ -100) : RC pr F enc post f args m:=by
 intro H rw n s r M _ _ h1 h2
 omega
theorem rc_mono {α : Type} {enc : α → AV} {post : Src → Rd → α → Rd → Prop} {f : Nat} {args : List AV} {m m' : Int} (h : RC pr F enc post f args m) (hm : m' ≤ m) : RC pr F enc post f args m':=by
 intro H rw n s r M a b h1 h2
 exact h H rw n s r M a b (by omega) h2
theorem exprs_all (L : LibX pr F) : ∀ k : Nat,RC pr F (fun x : Xp => AV.agg (exRow x)) exP 193 [] (k - 100) ∧ RC pr F (fun x : Ty => AV.agg (tyRow x)) tyP 192 [] (k - 100) ∧ RC pr F (fun x : Xp => AV.agg (exRow x)) exP 244 [] (k - 101)
 | 0 => ⟨rc_low (by omega),rc_low (by omega),rc_low (by omega)⟩
 | k + 1 => by
  obtain ⟨h1,h2,h3⟩:=exprs_all L k
  have hxs:=exprs_of L h1
  have hpr:=pred_of L h1
  have hp:=primary_of L h1 hxs h2
  have ho:=operand_of L hp h1 hxs (by rw [show ((k : Int) - 100 - 1) = k - 101 by omega]; exact h3)
  have l6:=level6 L ho
  have l5:=levelk L 5 (by omega) (by omega) l6
  have l4:=levelk L 4 (by omega) (by omega) l5
  have l3:=levelk L 3 (by omega) (by omega) l4
  have l2:=levelk L 2 (by omega) (by omega) l3
  have l1:=levelk L 1 (by omega) (by omega) l2
  have l0:=levelk L 0 (by omega) (by omega) l1
  refine ⟨?_,?_,?_⟩
  ·rw [show (((k + 1 : Nat) : Int) - 100) = ((k : Int) - 100) + 1 by omega]
   exact expr_of_level L l0
  ·rw [show (((k + 1 : Nat) : Int) - 100) = ((k : Int) - 100) + 1 by omega]
   exact typ_of L hpr
  ·rw [show (((k + 1 : Nat) : Int) - 101) = ((k : Int) - 100) by omega]
   exact ho
theorem rc_expr (L : LibX pr F) : RC pr F (fun x : Xp => AV.agg (exRow x)) exP 193 [] 2000:=by
 have:=(exprs_all L 2100).1
 exact rc_mono this (by omega)
theorem rc_typ (L : LibX pr F) : RC pr F (fun x : Ty => AV.agg (tyRow x)) tyP 192 [] 2000:=by
 have:=(exprs_all L 2100).2.1
 exact rc_mono this (by omega)
theorem rc_exprs (L : LibX pr F) : RC pr F LT.v exsP 195 [] 2000:=exprs_of L (rc_expr L)
end Go.Proofs.YtmeakjgbjldkdaaGreat.Ai
namespace Go.Proofs.YtmeakjgbjldkdaaGreat.Ai
open Go
def r94_0 : IC:=.region [] [Qk 0 2 (.list 0 .full [])] [0]
def r94_1 : IC:=.region [] [Qk 0 3 (.list 0 .full [])] [0,3]
def r94_2 : IC:=.region [] [Qm 0 4 0,Qc 1 5 140 [(.tmp 4)] []] [0,3,5]
def r94_3 : IC:=.region [] [Qm 0 6 0,Qc 1 7 93 [(.tmp 6),(.const (.str [123]))] []] [0,3]
def r94_4 : IC:=.region [] [Qm 0 8 0,Qq 1 9 (.nilCheck (.tmp 8)),Qf 2 10 4 9,Qd 3 11 10,Qv 4 12 .eql 11 (Qz 0),Qm 5 13 12,Qmg 6 14 13 true 0,Qcg 7 15 13 true 136 [(.tmp 14),(.const (.str [125]))] [],Qug 8 16 13 true 15,Qa 9 17 13 16] [0,3,17]
def r94_5 : IC:=.region [] [Qm 0 18 3,Qm 1 19 0,Qc 2 20 141 [(.tmp 19)] [],Qq 3 21 (.mkList 7 [(.tmp 20)]),Ql 4 22 (.append 7 136 (.tmp 18) (.tmp 21)) [],Qm 5 3 22] [0,3]
def r94_6 : IC:=.region [] [Qm 0 23 0,Qq 1 24 (.nilCheck (.tmp 23)),Qf 2 25 3 24,Qd 3 26 25,Qv 4 27 .sub 26 (Qz 1),Qq 5 28 (.nilCheck (.tmp 23)),Qf 6 29 3 28,Qs 7 1 29 27 []] [3]
def r94_7 : IC:=.region [] [Qm 0 30 3,Qm 1 2 30] [2]
noncomputable def i94 : IFn:=⟨1,(.seq r94_0 (.seq r94_1 (.seq (.seq r94_2 (.cond (.tmp 5) (.seq r94_3 (.block 0 (.loop [0,3] (.seq (.seq r94_4 (.cond (.tmp 17) (.skip) (.exit 0))) (.block 1 r94_5))))) (.skip))) (.seq r94_6 (.seq r94_7 .ret))))),[.tmp 2]⟩
theorem c94 : chkFn Tryz.prog Tryz.f94 i94 = true:=by kernel_rfl
def r141_0 : IC:=.region [[(.str []),(.str []),(.list 0 .full []),(.list 0 .full []),(.list 0 .full []),(.list 0 .full []),(Qz 0)]] [Qq 0 2 (.alloc 0 [(.str []),(.str []),(.list 0 .full []),(.list 0 .full []),(.list 0 .full []),(.list 0 .full []),(Qz 0)])] [0,2,56]
def r141_1 : IC:=.region [[(.str []),(.str []),(.list 0 .full []),(.list 0 .full []),(.list 0 .full []),(.list 0 .full []),(Qz 0)]] [Qm 0 4 0,Qc 1 5 134 [(.tmp 4)] [],Qq 2 6 (.build [(.str []),(.str []),(.list 0 .full []),(.list 0 .full []),(.list 0 .full []),(.list 0 .full []),(Qz 0)] [(6,1,(.tmp 5))]),Qq 3 3 (.alloc 0 [(.str []),(.str []),(.list 0 .full []),(.list 0 .full []),(.list 0 .full []),(.list 0 .full []),(Qz 0)]),Qs 4 7 3 6 []] [0,2,3,56]
def r141_2 : IC:=.region [] [Qm 0 10 0,Qc 1 11 136 [(.tmp 10),(.const (.str [108,101,116]))] [],Qm 2 9 11] [0,2,3,9,56]
def r141_3 : IC:=.region [] [Qf 0 12 0 3,Qw 1 (.store 1 (.tmp 12) (.const (.str [108,101,116]))) []] [0,2,3]
def r141_4 : IC:=.region [] [Qm 0 13 0,Qc 1 14 135 [(.tmp 13)] [],Qf 2 15 1 3,Qs 3 1 15 14 []] [0,2,3]
def r141_5 : IC:=.region [] [Qm 0 16 0,Qc 1 17 136 [(.tmp 16),(.const (.str [58]))] []] [0,2,3,17]
def r141_6 : IC:=.region [] [Qm 0 18 0,Qc 1 19 192 [(.tmp 18)] [],Qq 2 20 (.mkList 6 [(.tmp 19)]),Qf 3 21 2 3,Qs 4 1 21 20 []] [0,2,3]
def r141_7 : IC:=.region [] [Qm 0 22 0,Qc 1 23 93 [(.tmp 22),(.const (.str [61]))] []] [0,2,3]
def r141_8 : IC:=.region [] [Qm 0 24 0,Qc 1 25 193 [(.tmp 24)] [],Qq 2 26 (.mkList 5 [(.tmp 25)]),Qf 3 27 3 3,Qs 4 1 27 26 []] [0,2,3]
def r141_9 : IC:=.region [] [Qm 0 28 0,Qc 1 29 93 [(.tmp 28),(.const (.str [59]))] []] [2,3]
def r141_10 : IC:=.region [] [Qm 0 31 0,Qc 1 32 90 [(.tmp 31),(.const (Qz 0)),(.const (.str [105,102]))] [],Qm 2 30 32] [0,2,3,30,56]
def r141_11 : IC:=.region [] [Qm 0 33 0,Qc 1 34 196 [(.tmp 33)] [],Qs 2 7 3 34 []] [2,3]
def r141_12 : IC:=.region [] [Qm 0 36 0,Qc 1 37 136 [(.tmp 36),(.const (.str [119,104,105,108,101]))] [],Qm 2 35 37] [0,2,3,35,56]
def r141_13 : IC:=.region [] [Qf 0 38 0 3,Qw 1 (.store 1 (.tmp 38) (.const (.str [119,104,105,108,101]))) []] [0,2,3,56]
def r141_14 : IC:=.region [] [Qm 0 39 0,Qc 1 40 93 [(.tmp 39),(.const (.str [40]))] []] [0,2,3,56]
def r141_15 : IC:=.region [] [Qm 0 41 0,Qc 1 42 193 [(.tmp 41)] [],Qq 2 43 (.mkList 5 [(.tmp 42)]),Qf 3 44 3 3,Qs 4 1 44 43 []] [0,2,3,56]
def r141_16 : IC:=.region [] [Qm 0 45 0,Qc 1 46 93 [(.tmp 45),(.const (.str [41]))] []] [0,2,3,56]
def r141_17 : IC:=.region [] [Qm 0 47 0,Qc 1 48 136 [(.tmp 47),(.const (.str [105,110,118,97,114,105,97,110,116]))] []] [0,2,3,48,56]
def r141_18 : IC:=.region [] [Qf 0 49 3 3,Qd 1 50 49,Qm 2 51 0,Qn 4 53 50,Qq 5 54 (.mkList 5 [(.const (.agg [(.str []),(.str []),(.list 0 .full []),(.list 0 .full []),(Qz 0)]))]),Qc 3 52 193 [(.tmp 51)] [1],Ql 6 55 (.append1 5 88 (.tmp 50) (.tmp 54) (.tmp 53) (.tmp 52) 56 7 8) [],Qf 9 57 3 3,Qs 10 1 57 55 []] [0,2,3,56]
def r141_19 : IC:=.region [] [Qm 0 58 0,Qc 1 59 94 [(.tmp 58)] [],Qf 2 60 4 3,Qs 3 1 60 59 []] [2,3]
def r141_20 : IC:=.region [] [Qm 0 62 0,Qc 1 63 136 [(.tmp 62),(.const (.str [114,101,116,117,114,110]))] [],Qm 2 61 63] [0,2,3,61]
def r141_21 : IC:=.region [] [Qf 0 64 0 3,Qw 1 (.store 1 (.tmp 64) (.const (.str [114,101,116,117,114,110]))) []] [0,2,3]
def r141_22 : IC:=.region [] [Qm 0 65 0,Qc 1 66 136 [(.tmp 65),(.const (.str [59]))] [],Qu 2 67 66] [0,2,3,67]
def r141_23 : IC:=.region [] [Qm 0 68 0,Qc 1 69 193 [(.tmp 68)] [],Qq 2 70 (.mkList 5 [(.tmp 69)]),Qf 3 71 3 3,Qs 4 1 71 70 []] [0,2,3]
def r141_24 : IC:=.region [] [Qm 0 72 0,Qc 1 73 93 [(.tmp 72),(.const (.str [59]))] []] [2,3]
def r141_25 : IC:=.region [] [Qm 0 75 0,Qc 1 76 90 [(.tmp 75),(.const (Qz 0)),(.const (.str [97,115,115,101,114,116]))] [],Qm 2 77 76,Qmg 3 78 77 false 0,Qcg 4 79 77 false 90 [(.tmp 78),(.const (Qz 0)),(.const (.str [112,114,105,110,116]))] [],Qo 5 80 77 79,Qm 6 74 80] [0,2,3,74]
def r141_26 : IC:=.region [] [Qm 0 81 0,Qq 1 82 (.nilCheck (.tmp 81)),Qf 2 83 0 82,Qd 3 84 83,Qm 4 85 0,Qq 5 86 (.nilCheck (.tmp 85)),Qf 6 87 1 86,Qd 7 88 87,Qi 8 89 3 84 88,Qf 9 90 1 89,Qd 10 91 90,Qf 11 92 0 3,Qs 12 1 92 91 []] [0,2,3]
def r141_27 : IC:=.region [] [Qm 0 93 0,Qq 1 94 (.nilCheck (.tmp 93)),Qf 2 95 1 94,Qd 3 96 95,Qv 4 97 .add 96 (Qz 1),Qq 5 98 (.nilCheck (.tmp 93)),Qf 6 99 1 98,Qs 7 1 99 97 []] [0,2,3]
def r141_28 : IC:=.region [] [Qm 0 100 0,Qc 1 101 193 [(.tmp 100)] [],Qq 2 102 (.mkList 5 [(.tmp 101)]),Qf 3 103 3 3,Qs 4 1 103 102 []] [0,2,3]
def r141_29 : IC:=.region [] [Qm 0 104 0,Qc 1 105 93 [(.tmp 104),(.const (.str [59]))] []] [2,3]
def r141_30 : IC:=.region [] [Qm 0 7 0,Qc 1 8 197 [(.tmp 7),(.tmp 3)] []] [2,3]
def r141_31 : IC:=.region [] [Qe 0 106 7 3,Qs 1 7 2 106 []] [2]
noncomputable def i141 : IFn:=⟨1,(.seq r141_0 (.seq r141_1 (.seq (.block 0 (.seq r141_2 (.cond (.tmp 9) (.seq r141_3 (.seq r141_4 (.seq (.seq r141_5 (.cond (.tmp 17) r141_6 (.skip))) (.seq r141_7 (.seq r141_8 r141_9))))) (.seq r141_10 (.cond (.tmp 30) r141_11 (.seq r141_12 (.cond (.tmp 35) (.seq r141_13 (.seq r141_14 (.seq r141_15 (.seq r141_16 (.seq (.block 1 (.loop [0,2,3,56] (.seq (.seq r141_17 (.cond (.tmp 48) (.skip) (.exit 1))) (.block 2 r141_18)))) r141_19))))) (.seq r141_20 (.cond (.tmp 61) (.seq r141_21 (.seq r141_22 (.cond (.tmp 67) (.seq r141_23 r141_24) (.skip)))) (.seq r141_25 (.cond (.tmp 74) (.seq r141_26 (.seq r141_27 (.seq r141_28 r141_29))) r141_30))))))))))) (.seq r141_31 .ret)))),[.cell 2 (some 7)]⟩
theorem c141 : chkFn Tryz.prog Tryz.f141 i141 = true:=by kernel_rfl
def r196_0 : IC:=.region [[(.str []),(.str []),(.list 0 .full []),(.list 0 .full []),(.list 0 .full []),(.list 0 .full []),(Qz 0)]] [Qq 0 2 (.alloc 0 [(.str []),(.str []),(.list 0 .full []),(.list 0 .full []),(.list 0 .full []),(.list 0 .full []),(Qz 0)])] [0,2]
def r196_1 : IC:=.region [[(.str []),(.str []),(.list 0 .full []),(.list 0 .full []),(.list 0 .full []),(.list 0 .full []),(Qz 0)]] [Qm 0 4 0,Qc 1 5 134 [(.tmp 4)] [],Qq 2 6 (.build [(.str []),(.str []),(.list 0 .full []),(.list 0 .full []),(.list 0 .full []),(.list 0 .full []),(Qz 0)] [(0,1,(.const (.str [105,102]))),(6,1,(.tmp 5))]),Qq 3 3 (.alloc 0 [(.str []),(.str []),(.list 0 .full []),(.list 0 .full []),(.list 0 .full []),(.list 0 .full []),(Qz 0)]),Qs 4 7 3 6 []] [0,2,3]
def r196_2 : IC:=.region [] [Qm 0 7 0,Qc 1 8 93 [(.tmp 7),(.const (.str [105,102]))] []] [0,2,3]
def r196_3 : IC:=.region [] [Qm 0 9 0,Qc 1 10 93 [(.tmp 9),(.const (.str [40]))] []] [0,2,3]
def r196_4 : IC:=.region [] [Qm 0 11 0,Qc 1 12 193 [(.tmp 11)] [],Qq 2 13 (.mkList 5 [(.tmp 12)]),Qf 3 14 3 3,Qs 4 1 14 13 []] [0,2,3]
def r196_5 : IC:=.region [] [Qm 0 15 0,Qc 1 16 93 [(.tmp 15),(.const (.str [41]))] []] [0,2,3]
def r196_6 : IC:=.region [] [Qm 0 17 0,Qc 1 18 94 [(.tmp 17)] [],Qf 2 19 4 3,Qs 3 1 19 18 []] [0,2,3]
def r196_7 : IC:=.region [] [Qm 0 20 0,Qc 1 21 136 [(.tmp 20),(.const (.str [101,108,115,101]))] []] [0,2,3,21]
def r196_8 : IC:=.region [] [Qm 0 22 0,Qc 1 23 90 [(.tmp 22),(.const (Qz 0)),(.const (.str [105,102]))] []] [0,2,3,23]
def r196_9 : IC:=.region [] [Qm 0 24 0,Qc 1 25 140 [(.tmp 24)] []] [0,2,3,25]
def r196_10 : IC:=.region [] [Qm 0 26 0,Qc 1 27 196 [(.tmp 26)] [],Qq 2 28 (.mkList 7 [(.tmp 27)]),Qf 3 29 5 3,Qs 4 1 29 28 []] [0,2,3]
def r196_11 : IC:=.region [] [Qm 0 30 0,Qq 1 31 (.nilCheck (.tmp 30)),Qf 2 32 3 31,Qd 3 33 32,Qv 4 34 .sub 33 (Qz 1),Qq 5 35 (.nilCheck (.tmp 30)),Qf 6 36 3 35,Qs 7 1 36 34 []] [2,3]
def r196_12 : IC:=.region [] [Qm 0 37 0,Qc 1 38 94 [(.tmp 37)] [],Qf 2 39 5 3,Qs 3 1 39 38 []] [2,3]
def r196_13 : IC:=.region [] [Qe 0 40 7 3,Qs 1 7 2 40 []] [2]
noncomputable def i196 : IFn:=⟨1,(.seq r196_0 (.seq r196_1 (.seq r196_2 (.seq r196_3 (.seq r196_4 (.seq r196_5 (.seq r196_6 (.seq (.seq r196_7 (.cond (.tmp 21) (.seq r196_8 (.cond (.tmp 23) (.seq (.seq r196_9 (.cond (.tmp 25) r196_10 (.skip))) r196_11) r196_12)) (.skip))) (.seq r196_13 .ret))))))))),[.cell 2 (some 7)]⟩
theorem c196 : chkFn Tryz.prog Tryz.f196 i196 = true:=by kernel_rfl
def r197_0 : IC:=.region [[(.str []),(.str []),(.list 0 .full []),(.list 0 .full []),(Qz 0)]] [Qm 0 5 0,Qc 1 6 193 [(.tmp 5)] [],Qq 2 4 (.alloc 0 [(.str []),(.str []),(.list 0 .full []),(.list 0 .full []),(Qz 0)]),Qs 3 5 4 6 []] [0,1,4,80]
def r197_1 : IC:=.region [] [Qm 0 7 1,Qq 1 8 (.nilCheck (.tmp 7)),Qf 2 9 0 8,Qw 3 (.store 1 (.tmp 9) (.const (.str [100,111]))) []] [0,1,4,80]
def r197_2 : IC:=.region [] [Qm 0 10 1,Qe 1 11 5 4,Qq 2 12 (.mkList 5 [(.tmp 11)]),Qq 3 13 (.nilCheck (.tmp 10)),Qf 4 14 3 13,Qs 5 1 14 12 []] [0,1,4,80]
def r197_3 : IC:=.region [] [Qm 0 15 0,Qc 1 16 90 [(.tmp 15),(.const (Qz 0)),(.const (.str [61]))] []] [0,1,4,16,80]
def r197_4 : IC:=.region [] [Qf 0 17 0 4,Qd 1 18 17] [0,1,4,18,80]
def r197_5 : IC:=.region [] [Qv 0 22 .eql 18 (.str [118,97,114]),Qm 1 21 22] [0,1,4,18,21,80]
def r197_6 : IC:=.region [] [Qm 0 23 1,Qm 1 24 1,Qm 2 25 1,Qf 3 26 1 4,Qd 4 27 26,Qq 5 28 (.nilCheck (.tmp 23)),Qf 6 29 0 28,Qw 7 (.store 1 (.tmp 29) (.const (.str [115,101,116]))) [4],Qq 8 30 (.nilCheck (.tmp 24)),Qf 9 31 1 30,Qs 10 1 31 27 [],Qq 11 32 (.nilCheck (.tmp 25)),Qf 12 33 3 32,Qw 13 (.store 1 (.tmp 33) (.const (.list 0 .full []))) []] [0,1,80]
def r197_7 : IC:=.region [] [Qv 0 35 .eql 18 (.str [102,105,101,108,100]),Qm 1 34 35] [0,1,4,18,34,80]
def r197_8 : IC:=.region [] [Qm 0 36 1,Qm 1 37 1,Qm 2 38 1,Qf 3 39 1 4,Qd 4 40 39,Qf 5 41 2 4,Qd 6 42 41,Qq 7 43 (.indexAddr 5 (.tmp 42) (.const (Qz 0))),Qe 8 44 5 43,Qq 9 45 (.mkList 5 [(.tmp 44)]),Qq 10 46 (.nilCheck (.tmp 36)),Qf 11 47 0 46,Qw 12 (.store 1 (.tmp 47) (.const (.str [102,105,101,108,100]))) [4],Qq 13 48 (.nilCheck (.tmp 37)),Qf 14 49 1 48,Qs 15 1 49 40 [],Qq 16 50 (.nilCheck (.tmp 38)),Qf 17 51 3 50,Qs 18 1 51 45 []] [0,1,80]
def r197_9 : IC:=.region [] [Qv 0 53 .eql 18 (.str [105,110,100,101,120]),Qm 1 52 53] [0,1,4,52,80]
def r197_10 : IC:=.region [] [Qm 0 54 1,Qm 1 55 1,Qf 2 56 2 4,Qd 3 57 56,Qq 4 58 (.indexAddr 5 (.tmp 57) (.const (Qz 0))),Qe 5 59 5 58,Qf 6 60 2 4,Qd 7 61 60,Qq 8 62 (.indexAddr 5 (.tmp 61) (.const (Qz 1))),Qe 9 63 5 62,Qq 10 64 (.mkList 5 [(.tmp 59),(.tmp 63)]),Qq 11 65 (.nilCheck (.tmp 54)),Qf 12 66 0 65,Qw 13 (.store 1 (.tmp 66) (.const (.str [101,108,101,109]))) [],Qq 14 67 (.nilCheck (.tmp 55)),Qf 15 68 3 67,Qs 16 1 68 64 []] [0,1,80]
def r197_11 : IC:=.region [] [Qm 0 19 0,Qc 1 20 95 [(.tmp 19),(.const (Qz 110))] []] [0,1,80]
def r197_12 : IC:=.region [] [Qm 0 69 0,Qc 1 70 93 [(.tmp 69),(.const (.str [61]))] []] [0,1,80]
def r197_13 : IC:=.region [] [Qm 0 71 1,Qq 1 72 (.nilCheck (.tmp 71)),Qf 2 73 3 72,Qd 3 74 73,Qm 4 75 0,Qn 6 77 74,Qq 7 78 (.mkList 5 [(.const (.agg [(.str []),(.str []),(.list 0 .full []),(.list 0 .full []),(Qz 0)]))]),Qc 5 76 193 [(.tmp 75)] [3],Ql 8 79 (.append1 5 88 (.tmp 74) (.tmp 78) (.tmp 77) (.tmp 76) 80 9 10) [],Qq 11 81 (.nilCheck (.tmp 71)),Qf 12 82 3 81,Qs 13 1 82 79 []] [0]
def r197_14 : IC:=.region [] [Qm 0 83 0,Qc 1 84 93 [(.tmp 83),(.const (.str [59]))] []] []
noncomputable def i197 : IFn:=⟨2,(.seq r197_0 (.seq r197_1 (.seq r197_2 (.seq (.seq r197_3 (.cond (.tmp 16) (.seq (.seq r197_4 (.block 0 (.seq r197_5 (.cond (.tmp 21) r197_6 (.seq r197_7 (.cond (.tmp 34) r197_8 (.seq r197_9 (.cond (.tmp 52) r197_10 r197_11)))))))) (.seq r197_12 r197_13)) (.skip))) r197_14)))),[]⟩
theorem c197 : chkFn Tryz.prog Tryz.f197 i197 = true:=by kernel_rfl
def r194_0 : IC:=.region [] [Qk 0 2 (.list 0 .full [])] [0]
def r194_1 : IC:=.region [] [Qk 0 3 (.list 0 .full [])] [0,3]
def r194_2 : IC:=.region [] [Qm 0 5 0,Qc 1 6 93 [(.tmp 5),(.const (.str [40]))] []] [0,3]
def r194_3 : IC:=.region [] [Qm 0 7 0,Qc 1 8 136 [(.tmp 7),(.const (.str [41]))] []] [0,3,8]
def r194_4 : IC:=.region [] [Qk 0 2 (.list 0 .full [])] [2]
def r194_5 : IC:=.region [] [Qm 0 9 0,Qq 1 10 (.nilCheck (.tmp 9)),Qf 2 11 4 10,Qd 3 12 11,Qv 4 13 .eql 12 (Qz 0)] [0,3,13]
def r194_6 : IC:=.region [[(.str []),(Qz 0),(.str []),(.bool false),(.list 0 .full []),(.list 0 .full []),(Qz 0),(Qz 0)]] [Qm 0 14 0,Qc 1 15 134 [(.tmp 14)] [],Qq 2 16 (.build [(.str []),(Qz 0),(.str []),(.bool false),(.list 0 .full []),(.list 0 .full []),(Qz 0),(Qz 0)] [(7,1,(.tmp 15))]),Qq 3 4 (.alloc 0 [(.str []),(Qz 0),(.str []),(.bool false),(.list 0 .full []),(.list 0 .full []),(Qz 0),(Qz 0)]),Qs 4 8 4 16 []] [0,3,4]
def r194_7 : IC:=.region [] [Qm 0 17 0,Qc 1 18 135 [(.tmp 17)] [],Qf 2 19 0 4,Qs 3 1 19 18 []] [0,3,4]
def r194_8 : IC:=.region [] [Qm 0 20 0,Qc 1 21 93 [(.tmp 20),(.const (.str [58]))] []] [0,3,4]
def r194_9 : IC:=.region [] [Qm 0 22 0,Qc 1 23 192 [(.tmp 22)] [],Qf 2 24 1 4,Qs 3 6 24 23 []] [0,3,4]
def r194_10 : IC:=.region [] [Qm 0 25 3,Qe 1 26 8 4,Qq 2 27 (.mkList 8 [(.tmp 26)]),Ql 3 28 (.append 8 112 (.tmp 25) (.tmp 27)) [],Qm 4 3 28] [0,3]
def r194_11 : IC:=.region [] [Qm 0 29 0,Qc 1 30 136 [(.tmp 29),(.const (.str [41]))] []] [0,3,30]
def r194_12 : IC:=.region [] [Qm 0 31 3,Qm 1 2 31] [2]
def r194_13 : IC:=.region [] [Qm 0 32 0,Qc 1 33 93 [(.tmp 32),(.const (.str [44]))] []] [0,3]
def r194_14 : IC:=.region [] [Qm 0 34 3,Qm 1 2 34] [2]
noncomputable def i194 : IFn:=⟨1,(.seq r194_0 (.seq r194_1 (.seq r194_2 (.seq (.seq r194_3 (.cond (.tmp 8) (.seq r194_4 .ret) (.skip))) (.seq (.block 0 (.loop [0,3] (.seq (.seq r194_5 (.cond (.tmp 13) (.skip) (.exit 0))) (.block 1 (.seq r194_6 (.seq r194_7 (.seq r194_8 (.seq r194_9 (.seq r194_10 (.seq (.seq r194_11 (.cond (.tmp 30) (.seq r194_12 .ret) (.skip))) r194_13)))))))))) (.seq r194_14 .ret)))))),[.tmp 2]⟩
theorem c194 : chkFn Tryz.prog Tryz.f194 i194 = true:=by kernel_rfl
def r139_0 : IC:=.region [[(.str []),(.list 0 .full []),(Qz 0),(.str []),(.bool false),(.list 0 .full []),(.list 0 .full []),(Qz 0),(.list 0 .full []),(.bool false),(Qz 0)]] [Qq 0 2 (.alloc 0 [(.str []),(.list 0 .full []),(Qz 0),(.str []),(.bool false),(.list 0 .full []),(.list 0 .full []),(Qz 0),(.list 0 .full []),(.bool false),(Qz 0)])] [0,2]
def r139_1 : IC:=.region [] [Qm 0 5 0,Qc 1 6 93 [(.tmp 5),(.const (.str [100,101,102]))] []] [0,2]
def r139_2 : IC:=.region [[(.str []),(.list 0 .full []),(Qz 0),(.str []),(.bool false),(.list 0 .full []),(.list 0 .full []),(Qz 0),(.list 0 .full []),(.bool false),(Qz 0)]] [Qm 0 7 0,Qc 1 8 134 [(.tmp 7)] [],Qq 2 9 (.build [(.str []),(.list 0 .full []),(Qz 0),(.str []),(.bool false),(.list 0 .full []),(.list 0 .full []),(Qz 0),(.list 0 .full []),(.bool false),(Qz 0)] [(10,1,(.tmp 8))]),Qq 3 3 (.alloc 0 [(.str []),(.list 0 .full []),(Qz 0),(.str []),(.bool false),(.list 0 .full []),(.list 0 .full []),(Qz 0),(.list 0 .full []),(.bool false),(Qz 0)]),Qs 4 11 3 9 []] [0,2,3]
def r139_3 : IC:=.region [] [Qm 0 10 0,Qc 1 11 135 [(.tmp 10)] [],Qf 2 12 0 3,Qs 3 1 12 11 []] [0,2,3]
def r139_4 : IC:=.region [] [Qm 0 13 0,Qc 1 14 194 [(.tmp 13)] [],Qf 2 15 1 3,Qs 3 1 15 14 []] [0,2,3]
def r139_5 : IC:=.region [] [Qm 0 16 0,Qc 1 17 93 [(.tmp 16),(.const (.str [58]))] []] [0,2,3]
def r139_6 : IC:=.region [] [Qm 0 18 0,Qc 1 19 134 [(.tmp 18)] [],Qm 2 4 19] [0,2,3,4]
def r139_7 : IC:=.region [] [Qm 0 20 0,Qc 1 21 136 [(.tmp 20),(.const (.str [118,111,105,100]))] []] [0,2,3,4,21]
def r139_8 : IC:=.region [] [Qm 0 22 4,Qq 1 23 (.build [(Qz 0),(.str []),(.bool false),(.list 0 .full []),(.list 0 .full []),(Qz 0)] [(5,1,(.tmp 22))]),Qf 2 24 2 3,Qs 3 6 24 23 []] [2,3]
def r139_9 : IC:=.region [] [Qm 0 25 0,Qc 1 26 192 [(.tmp 25)] [],Qf 2 27 2 3,Qs 3 6 27 26 []] [2,3]
def r139_10 : IC:=.region [] [Qe 0 28 11 3,Qs 1 11 2 28 []] [2]
noncomputable def i139 : IFn:=⟨1,(.seq r139_0 (.seq r139_1 (.seq r139_2 (.seq r139_3 (.seq r139_4 (.seq r139_5 (.seq r139_6 (.seq (.seq r139_7 (.cond (.tmp 21) r139_8 r139_9)) (.seq r139_10 .ret))))))))),[.cell 2 (some 11)]⟩
theorem c139 : chkFn Tryz.prog Tryz.f139 i139 = true:=by kernel_rfl
def r138_0 : IC:=.region [] [Qm 0 10 0,Qc 1 11 90 [(.tmp 10),(.const (Qz 0)),(.const (.str [102,105,110,97,108]))] [],Qm 2 12 11,Qmg 3 13 12 false 0,Qcg 4 14 12 false 90 [(.tmp 13),(.const (Qz 0)),(.const (.str [118,97,114]))] [],Qo 5 15 12 14,Qm 6 9 15] [0,1,9,61]
def r138_1 : IC:=.region [[(.str []),(Qz 0),(.str []),(.bool false),(.list 0 .full []),(.list 0 .full []),(Qz 0),(.bool false),(Qz 0)]] [Qm 0 16 0,Qc 1 17 90 [(.tmp 16),(.const (Qz 0)),(.const (.str [102,105,110,97,108]))] [],Qq 2 18 (.build [(.str []),(Qz 0),(.str []),(.bool false),(.list 0 .full []),(.list 0 .full []),(Qz 0),(.bool false),(Qz 0)] [(7,1,(.tmp 17))]),Qq 3 4 (.alloc 0 [(.str []),(Qz 0),(.str []),(.bool false),(.list 0 .full []),(.list 0 .full []),(Qz 0),(.bool false),(Qz 0)]),Qs 4 9 4 18 []] [0,1,4]
def r138_2 : IC:=.region [] [Qm 0 19 0,Qq 1 20 (.nilCheck (.tmp 19)),Qf 2 21 1 20,Qd 3 22 21,Qv 4 23 .add 22 (Qz 1),Qq 5 24 (.nilCheck (.tmp 19)),Qf 6 25 1 24,Qs 7 1 25 23 []] [0,1,4]
def r138_3 : IC:=.region [] [Qm 0 26 0,Qc 1 27 134 [(.tmp 26)] [],Qf 2 28 8 4,Qs 3 1 28 27 []] [0,1,4]
def r138_4 : IC:=.region [] [Qm 0 29 0,Qc 1 30 135 [(.tmp 29)] [],Qf 2 31 0 4,Qs 3 1 31 30 []] [0,1,4]
def r138_5 : IC:=.region [] [Qm 0 32 0,Qc 1 33 93 [(.tmp 32),(.const (.str [58]))] []] [0,1,4]
def r138_6 : IC:=.region [] [Qm 0 34 0,Qc 1 35 192 [(.tmp 34)] [],Qf 2 36 1 4,Qs 3 6 36 35 []] [0,1,4]
def r138_7 : IC:=.region [] [Qm 0 37 0,Qc 1 38 93 [(.tmp 37),(.const (.str [59]))] []] [1,4]
def r138_8 : IC:=.region [] [Qm 0 39 1,Qm 1 40 1,Qq 2 41 (.nilCheck (.tmp 40)),Qf 3 42 4 41,Qd 4 43 42,Qe 5 44 9 4,Qq 6 45 (.mkList 9 [(.tmp 44)]),Ql 7 46 (.append 9 120 (.tmp 43) (.tmp 45)) [],Qq 8 47 (.nilCheck (.tmp 39)),Qf 9 48 4 47,Qs 10 1 48 46 []] []
def r138_9 : IC:=.region [] [Qm 0 50 0,Qc 1 51 136 [(.tmp 50),(.const (.str [105,110,118,97,114,105,97,110,116]))] [],Qm 2 49 51] [0,1,49,61]
def r138_10 : IC:=.region [] [Qm 0 52 1,Qq 1 53 (.nilCheck (.tmp 52)),Qf 2 54 5 53,Qd 3 55 54,Qm 4 56 0,Qn 6 58 55,Qq 7 59 (.mkList 5 [(.const (.agg [(.str []),(.str []),(.list 0 .full []),(.list 0 .full []),(Qz 0)]))]),Qc 5 57 193 [(.tmp 56)] [3],Ql 8 60 (.append1 5 88 (.tmp 55) (.tmp 59) (.tmp 58) (.tmp 57) 61 9 10) [],Qq 11 62 (.nilCheck (.tmp 52)),Qf 12 63 5 62,Qs 13 1 63 60 []] [0]
def r138_11 : IC:=.region [] [Qm 0 64 0,Qc 1 65 93 [(.tmp 64),(.const (.str [59]))] []] []
def r138_12 : IC:=.region [] [Qm 0 67 0,Qc 1 68 90 [(.tmp 67),(.const (Qz 0)),(.const (.str [110,101,119]))] [],Qm 2 66 68] [0,1,66]
def r138_13 : IC:=.region [[(.list 0 .full []),(.bool false),(.list 0 .full []),(.list 0 .full []),(Qz 0)]] [Qm 0 69 0,Qc 1 70 134 [(.tmp 69)] [],Qq 2 71 (.build [(.list 0 .full []),(.bool false),(.list 0 .full []),(.list 0 .full []),(Qz 0)] [(4,1,(.tmp 70))]),Qq 3 5 (.alloc 0 [(.list 0 .full []),(.bool false),(.list 0 .full []),(.list 0 .full []),(Qz 0)]),Qs 4 5 5 71 []] [0,1,5]
def r138_14 : IC:=.region [] [Qm 0 72 0,Qq 1 73 (.nilCheck (.tmp 72)),Qf 2 74 1 73,Qd 3 75 74,Qv 4 76 .add 75 (Qz 1),Qq 5 77 (.nilCheck (.tmp 72)),Qf 6 78 1 77,Qs 7 1 78 76 []] [0,1,5]
def r138_15 : IC:=.region [] [Qm 0 79 0,Qc 1 80 194 [(.tmp 79)] [],Qf 2 81 0 5,Qs 3 1 81 80 []] [0,1,5]
def r138_16 : IC:=.region [] [Qm 0 82 0,Qc 1 83 136 [(.tmp 82),(.const (.str [115,117,112,101,114]))] []] [0,1,5,83]
def r138_17 : IC:=.region [] [Qf 0 84 1 5,Qw 1 (.store 1 (.tmp 84) (.const (.bool true))) []] [0,1,5]
def r138_18 : IC:=.region [] [Qm 0 85 0,Qc 1 86 93 [(.tmp 85),(.const (.str [40]))] []] [0,1,5]
def r138_19 : IC:=.region [] [Qm 0 87 0,Qc 1 88 195 [(.tmp 87)] [],Qf 2 89 2 5,Qs 3 1 89 88 []] [0,1,5]
def r138_20 : IC:=.region [] [Qm 0 90 0,Qc 1 91 94 [(.tmp 90)] [],Qf 2 92 3 5,Qs 3 1 92 91 []] [1,5]
def r138_21 : IC:=.region [] [Qm 0 93 1,Qm 1 94 1,Qq 2 95 (.nilCheck (.tmp 94)),Qf 3 96 6 95,Qd 4 97 96,Qe 5 98 5 5,Qq 6 99 (.mkList 5 [(.tmp 98)]),Ql 7 100 (.append 5 88 (.tmp 97) (.tmp 99)) [],Qq 8 101 (.nilCheck (.tmp 93)),Qf 9 102 6 101,Qs 10 1 102 100 []] []
def r138_22 : IC:=.region [] [Qm 0 104 0,Qc 1 105 90 [(.tmp 104),(.const (Qz 0)),(.const (.str [100,101,102]))] [],Qm 2 103 105] [0,1,103]
def r138_23 : IC:=.region [[(.str []),(.list 0 .full []),(Qz 0),(.str []),(.bool false),(.list 0 .full []),(.list 0 .full []),(Qz 0),(.list 0 .full []),(.bool false),(Qz 0)]] [Qm 0 106 0,Qc 1 107 139 [(.tmp 106)] [],Qq 2 6 (.alloc 0 [(.str []),(.list 0 .full []),(Qz 0),(.str []),(.bool false),(.list 0 .full []),(.list 0 .full []),(Qz 0),(.list 0 .full []),(.bool false),(Qz 0)]),Qs 3 11 6 107 []] [0,1,6]
def r138_24 : IC:=.region [] [Qm 0 108 0,Qc 1 109 94 [(.tmp 108)] [],Qf 2 110 8 6,Qs 3 1 110 109 []] [1,6]
def r138_25 : IC:=.region [] [Qm 0 111 1,Qm 1 112 1,Qq 2 113 (.nilCheck (.tmp 112)),Qf 3 114 7 113,Qd 4 115 114,Qe 5 116 11 6,Qq 6 117 (.mkList 11 [(.tmp 116)]),Ql 7 118 (.append 11 168 (.tmp 115) (.tmp 117)) [],Qq 8 119 (.nilCheck (.tmp 111)),Qf 9 120 7 119,Qs 10 1 120 118 []] []
def r138_26 : IC:=.region [] [Qm 0 7 0,Qc 1 8 95 [(.tmp 7),(.const (Qz 110))] []] []
noncomputable def i138 : IFn:=⟨2,(.block 0 (.seq r138_0 (.cond (.tmp 9) (.seq r138_1 (.seq r138_2 (.seq r138_3 (.seq r138_4 (.seq r138_5 (.seq r138_6 (.seq r138_7 r138_8))))))) (.seq r138_9 (.cond (.tmp 49) (.seq r138_10 r138_11) (.seq r138_12 (.cond (.tmp 66) (.seq r138_13 (.seq r138_14 (.seq r138_15 (.seq (.seq r138_16 (.cond (.tmp 83) (.seq r138_17 (.seq r138_18 r138_19)) (.skip))) (.seq r138_20 r138_21))))) (.seq r138_22 (.cond (.tmp 103) (.seq r138_23 (.seq r138_24 r138_25)) r138_26))))))))),[]⟩
theorem c138 : chkFn Tryz.prog Tryz.f138 i138 = true:=by kernel_rfl
def r91_0 : IC:=.region [[(.str []),(.bool false),(.str []),(.list 0 .full []),(.list 0 .full []),(.list 0 .full []),(.list 0 .full []),(.list 0 .full []),(Qz 0)]] [Qq 0 2 (.alloc 0 [(.str []),(.bool false),(.str []),(.list 0 .full []),(.list 0 .full []),(.list 0 .full []),(.list 0 .full []),(.list 0 .full []),(Qz 0)])] [0,2]
def r91_1 : IC:=.region [] [Qm 0 4 0,Qc 1 5 93 [(.tmp 4),(.const (.str [99,108,97,115,115]))] []] [0,2]
def r91_2 : IC:=.region [[(.str []),(.bool false),(.str []),(.list 0 .full []),(.list 0 .full []),(.list 0 .full []),(.list 0 .full []),(.list 0 .full []),(Qz 0)]] [Qm 0 6 0,Qc 1 7 134 [(.tmp 6)] [],Qq 2 8 (.build [(.str []),(.bool false),(.str []),(.list 0 .full []),(.list 0 .full []),(.list 0 .full []),(.list 0 .full []),(.list 0 .full []),(Qz 0)] [(8,1,(.tmp 7))]),Qq 3 3 (.alloc 0 [(.str []),(.bool false),(.str []),(.list 0 .full []),(.list 0 .full []),(.list 0 .full []),(.list 0 .full []),(.list 0 .full []),(Qz 0)]),Qs 4 9 3 8 []] [0,2,3]
def r91_3 : IC:=.region [] [Qm 0 9 0,Qc 1 10 135 [(.tmp 9)] [],Qf 2 11 0 3,Qs 3 1 11 10 []] [0,2,3]
def r91_4 : IC:=.region [] [Qm 0 12 0,Qc 1 13 136 [(.tmp 12),(.const (.str [101,120,116,101,110,100,115]))] []] [0,2,3,13]
def r91_5 : IC:=.region [] [Qm 0 14 0,Qc 1 15 135 [(.tmp 14)] [],Qf 2 16 2 3,Qs 3 1 16 15 []] [0,2,3]
def r91_6 : IC:=.region [] [Qm 0 17 0,Qc 1 18 136 [(.tmp 17),(.const (.str [105,109,112,108,101,109,101,110,116,115]))] []] [0,2,3,18]
def r91_7 : IC:=.region [] [Qm 0 19 0,Qc 1 20 137 [(.tmp 19)] [],Qf 2 21 3 3,Qs 3 1 21 20 []] [0,2,3]
def r91_8 : IC:=.region [] [Qm 0 22 0,Qc 1 23 93 [(.tmp 22),(.const (.str [123]))] []] [0,2,3]
def r91_9 : IC:=.region [] [Qm 0 24 0,Qq 1 25 (.nilCheck (.tmp 24)),Qf 2 26 4 25,Qd 3 27 26,Qv 4 28 .eql 27 (Qz 0),Qm 5 29 28,Qmg 6 30 29 true 0,Qcg 7 31 29 true 136 [(.tmp 30),(.const (.str [125]))] [],Qug 8 32 29 true 31,Qa 9 33 29 32] [0,2,3,33]
def r91_10 : IC:=.region [] [Qm 0 34 0,Qc 1 35 138 [(.tmp 34),(.tmp 3)] []] [0,2,3]
def r91_11 : IC:=.region [] [Qe 0 36 9 3,Qs 1 9 2 36 []] [2]
noncomputable def i91 : IFn:=⟨1,(.seq r91_0 (.seq r91_1 (.seq r91_2 (.seq r91_3 (.seq (.seq r91_4 (.cond (.tmp 13) r91_5 (.skip))) (.seq (.seq r91_6 (.cond (.tmp 18) r91_7 (.skip))) (.seq r91_8 (.seq (.block 0 (.loop [0,2,3] (.seq (.seq r91_9 (.cond (.tmp 33) (.skip) (.exit 0))) (.block 1 r91_10)))) (.seq r91_11 .ret))))))))),[.cell 2 (some 9)]⟩
theorem c91 : chkFn Tryz.prog Tryz.f91 i91 = true:=by kernel_rfl
def r92_0 : IC:=.region [[(.str []),(.bool false),(.str []),(.list 0 .full []),(.list 0 .full []),(.list 0 .full []),(.list 0 .full []),(.list 0 .full []),(Qz 0)]] [Qq 0 2 (.alloc 0 [(.str []),(.bool false),(.str []),(.list 0 .full []),(.list 0 .full []),(.list 0 .full []),(.list 0 .full []),(.list 0 .full []),(Qz 0)])] [0,2]
def r92_1 : IC:=.region [] [Qm 0 5 0,Qc 1 6 93 [(.tmp 5),(.const (.str [105,110,116,101,114,102,97,99,101]))] []] [0,2]
def r92_2 : IC:=.region [[(.str []),(.bool false),(.str []),(.list 0 .full []),(.list 0 .full []),(.list 0 .full []),(.list 0 .full []),(.list 0 .full []),(Qz 0)]] [Qm 0 7 0,Qc 1 8 134 [(.tmp 7)] [],Qq 2 9 (.build [(.str []),(.bool false),(.str []),(.list 0 .full []),(.list 0 .full []),(.list 0 .full []),(.list 0 .full []),(.list 0 .full []),(Qz 0)] [(1,1,(.const (.bool true))),(8,1,(.tmp 8))]),Qq 3 3 (.alloc 0 [(.str []),(.bool false),(.str []),(.list 0 .full []),(.list 0 .full []),(.list 0 .full []),(.list 0 .full []),(.list 0 .full []),(Qz 0)]),Qs 4 9 3 9 []] [0,2,3]
def r92_3 : IC:=.region [] [Qm 0 10 0,Qc 1 11 135 [(.tmp 10)] [],Qf 2 12 0 3,Qs 3 1 12 11 []] [0,2,3]
def r92_4 : IC:=.region [] [Qm 0 13 0,Qc 1 14 136 [(.tmp 13),(.const (.str [101,120,116,101,110,100,115]))] []] [0,2,3,14]
def r92_5 : IC:=.region [] [Qm 0 15 0,Qc 1 16 137 [(.tmp 15)] [],Qf 2 17 3 3,Qs 3 1 17 16 []] [0,2,3]
def r92_6 : IC:=.region [] [Qm 0 18 0,Qc 1 19 93 [(.tmp 18),(.const (.str [123]))] []] [0,2,3]
def r92_7 : IC:=.region [] [Qm 0 20 0,Qq 1 21 (.nilCheck (.tmp 20)),Qf 2 22 4 21,Qd 3 23 22,Qv 4 24 .eql 23 (Qz 0),Qm 5 25 24,Qmg 6 26 25 true 0,Qcg 7 27 25 true 136 [(.tmp 26),(.const (.str [125]))] [],Qug 8 28 25 true 27,Qa 9 29 25 28] [0,2,3,29]
def r92_8 : IC:=.region [[(.str []),(.list 0 .full []),(Qz 0),(.str []),(.bool false),(.list 0 .full []),(.list 0 .full []),(Qz 0),(.list 0 .full []),(.bool false),(Qz 0)]] [Qm 0 30 0,Qc 1 31 139 [(.tmp 30)] [],Qq 2 4 (.alloc 0 [(.str []),(.list 0 .full []),(Qz 0),(.str []),(.bool false),(.list 0 .full []),(.list 0 .full []),(Qz 0),(.list 0 .full []),(.bool false),(Qz 0)]),Qs 3 11 4 31 []] [0,2,3,4]
def r92_9 : IC:=.region [] [Qf 0 32 9 4,Qw 1 (.store 1 (.tmp 32) (.const (.bool true))) []] [0,2,3,4]
def r92_10 : IC:=.region [] [Qm 0 33 0,Qc 1 34 93 [(.tmp 33),(.const (.str [59]))] []] [0,2,3,4]
def r92_11 : IC:=.region [] [Qf 0 35 7 3,Qd 1 36 35,Qe 2 37 11 4,Qq 3 38 (.mkList 11 [(.tmp 37)]),Ql 4 39 (.append 11 168 (.tmp 36) (.tmp 38)) [],Qf 5 40 7 3,Qs 6 1 40 39 []] [0,2,3]
def r92_12 : IC:=.region [] [Qe 0 41 9 3,Qs 1 9 2 41 []] [2]
noncomputable def i92 : IFn:=⟨1,(.seq r92_0 (.seq r92_1 (.seq r92_2 (.seq r92_3 (.seq (.seq r92_4 (.cond (.tmp 14) r92_5 (.skip))) (.seq r92_6 (.seq (.block 0 (.loop [0,2,3] (.seq (.seq r92_7 (.cond (.tmp 29) (.skip) (.exit 0))) (.block 1 (.seq r92_8 (.seq r92_9 (.seq r92_10 r92_11))))))) (.seq r92_12 .ret)))))))),[.cell 2 (some 9)]⟩
theorem c92 : chkFn Tryz.prog Tryz.f92 i92 = true:=by kernel_rfl
def r51_0 : IC:=.region [[(.list 0 .full []),(.list 0 .full [])]] [Qq 0 2 (.alloc 0 [(.list 0 .full []),(.list 0 .full [])]),Qk 1 3 (Qz 0),Qk 2 4 (Qz 0)] [0,2]
def r51_1 : IC:=.region [] [Qm 0 11 0,Qc 1 12 89 [(.tmp 11)] [],Qm 2 10 12,Qx 3 13 10 0,Qx 4 14 10 1,Qx 5 15 10 2,Qm 6 5 13,Qm 7 6 14,Qm 8 7 15] [0,2,5,6,7]
def r51_2 : IC:=.region [] [Qm 0 16 6,Qv 1 17 .neq 16 (Qz 0)] [0,2,5,6,7,17]
def r51_3 : IC:=.region [] [Qq 0 18 (.build [(.list 0 .full []),(.list 0 .full [])] []),Qm 1 19 6,Qm 2 20 7,Qs 3 2 2 18 [],Qm 4 3 19,Qm 5 4 20] [2,3,4]
def r51_4 : IC:=.region [] [Qm 0 21 5,Qm 1 22 0,Qq 2 23 (.lenS (.tmp 22)),Qq 3 24 (.build [(.list 0 .full []),(Qz 0),(Qz 0),(Qz 0),(Qz 0),(Qz 0)] [(0,1,(.tmp 21)),(2,1,(.tmp 23))]),Ql 4 25 (.box (.tmp 24)) [],Qm 5 8 25] [2,8]
def r51_5 : IC:=.region [[(.list 0 .full []),(.list 0 .full [])]] [Qq 0 9 (.alloc 0 [(.list 0 .full []),(.list 0 .full [])])] [2,8,9]
def r51_6 : IC:=.region [] [Qm 0 26 8,Qc 1 27 90 [(.tmp 26),(.const (Qz 0)),(.const (.str [99,108,97,115,115]))] [],Qm 2 28 27,Qmg 3 29 28 false 8,Qcg 4 30 28 false 90 [(.tmp 29),(.const (Qz 0)),(.const (.str [105,110,116,101,114,102,97,99,101]))] [],Qo 5 31 28 30] [2,8,9,31]
def r51_7 : IC:=.region [] [Qm 0 32 8,Qc 1 33 90 [(.tmp 32),(.const (Qz 0)),(.const (.str [99,108,97,115,115]))] []] [2,8,9,33]
def r51_8 : IC:=.region [] [Qf 0 34 0 9,Qd 1 35 34,Qm 2 36 8,Qc 3 37 91 [(.tmp 36)] [1],Qq 4 38 (.mkList 9 [(.tmp 37)]),Ql 5 39 (.append 9 168 (.tmp 35) (.tmp 38)) [],Qf 6 40 0 9,Qs 7 1 40 39 []] [2,8,9]
def r51_9 : IC:=.region [] [Qf 0 41 0 9,Qd 1 42 41,Qm 2 43 8,Qc 3 44 92 [(.tmp 43)] [1],Qq 4 45 (.mkList 9 [(.tmp 44)]),Ql 5 46 (.append 9 168 (.tmp 42) (.tmp 45)) [],Qf 6 47 0 9,Qs 7 1 47 46 []] [2,8,9]
def r51_10 : IC:=.region [] [Qm 0 48 8,Qc 1 49 93 [(.tmp 48),(.const (.str [109,97,105,110]))] []] [2,8,9]
def r51_11 : IC:=.region [] [Qm 0 50 8,Qc 1 51 94 [(.tmp 50)] [],Qf 2 52 1 9,Qs 3 1 52 51 []] [2,8,9]
def r51_12 : IC:=.region [] [Qm 0 53 8,Qq 1 54 (.nilCheck (.tmp 53)),Qf 2 55 1 54,Qd 3 56 55,Qm 4 57 8,Qq 5 58 (.nilCheck (.tmp 57)),Qf 6 59 0 58,Qd 7 60 59,Qn 8 61 60,Qb 9 62 .lss 56 61] [2,8,9,62]
def r51_13 : IC:=.region [] [Qm 0 63 8,Qc 1 64 95 [(.tmp 63),(.const (Qz 110))] []] [2,8,9]
def r51_14 : IC:=.region [] [Qm 0 65 8,Qq 1 66 (.nilCheck (.tmp 65)),Qf 2 67 4 66,Qd 3 68 67,Qv 4 69 .neq 68 (Qz 0)] [2,8,9,69]
def r51_15 : IC:=.region [] [Qq 0 70 (.build [(.list 0 .full []),(.list 0 .full [])] []),Qm 1 71 8,Qq 2 72 (.nilCheck (.tmp 71)),Qf 3 73 4 72,Qd 4 74 73,Qm 5 75 8,Qq 6 76 (.nilCheck (.tmp 75)),Qf 7 77 5 76,Qd 8 78 77,Qs 9 2 2 70 [4,8],Qm 10 3 74,Qm 11 4 78] [2,3,4]
def r51_16 : IC:=.region [] [Qe 0 79 2 9,Qs 1 2 2 79 [],Qk 2 3 (Qz 0),Qk 3 4 (Qz 0)] [2,3,4]
noncomputable def i51 : IFn:=⟨1,(.seq r51_0 (.seq r51_1 (.seq (.seq r51_2 (.cond (.tmp 17) (.seq r51_3 .ret) (.skip))) (.seq r51_4 (.seq r51_5 (.seq (.block 0 (.loop [2,8,9] (.seq (.seq r51_6 (.cond (.tmp 31) (.skip) (.exit 0))) (.block 1 (.seq r51_7 (.cond (.tmp 33) r51_8 r51_9)))))) (.seq r51_10 (.seq r51_11 (.seq (.seq r51_12 (.cond (.tmp 62) r51_13 (.skip))) (.seq (.seq r51_14 (.cond (.tmp 69) (.seq r51_15 .ret) (.skip))) (.seq r51_16 .ret))))))))))),[.cell 2 (some 2),.tmp 3,.tmp 4]⟩
theorem c51 : chkFn Tryz.prog Tryz.f51 i51 = true:=by kernel_rfl
end Go.Proofs.YtmeakjgbjldkdaaGreat.Ai
namespace Go.Proofs.YtmeakjgbjldkdaaGreat.Ai
open Go
variable {pr : Prims} {F : Nat → Option IFn}
structure LibS (pr : Prims) (F : Nat → Option IFn) : Prop extends LibX pr F where
 f94 : Has pr F 94 i94
 f141 : Has pr F 141 i141
 f196 : Has pr F 196 i196
 f197 : Has pr F 197 i197
 f137 : Has pr F 137 i137
 f194 : Has pr F 194 i194
 f139 : Has pr F 139 i139
 f138 : Has pr F 138 i138
 f91 : Has pr F 91 i91
 f92 : Has pr F 92 i92
 f51 : Has pr F 51 i51
abbrev LN:=LT (α:=Str) 1 (List.map nmRow)
abbrev LP:=LT (α:=Par) 8 (List.map parRow)
def nmsP (_ : Src) (r : Rd) (l : LN) (r' : Rd) : Prop:=r'.deep = r.deep ∧ (r'.code = 0 → r.i < r'.i ∧ (wL wNm l.xs : Int) ≤ 7000 * (r'.i - r.i)) ∧ (r'.code = 0 → ∀ x ∈ l.xs,Nm x)
def parsP (_ : Src) (r : Rd) (l : LP) (r' : Rd) : Prop:=r'.deep = r.deep ∧ (r'.code = 0 → r.i < r'.i ∧ (wL wPar l.xs : Int) ≤ 7000 * (r'.i - r.i)) ∧ (r'.code = 0 → ∀ x ∈ l.xs,okPar x)
def headP (_ : Src) (r : Rd) (x : Mth) (r' : Rd) : Prop:=r'.deep = r.deep ∧ (r'.code = 0 → r.i < r'.i ∧ (wMth x : Int) ≤ 7000 * (r'.i - r.i)) ∧ (x.body = [] ∧ x.abs = false ∧ (r'.code = 0 → okMth x))
theorem rc_names (L : LibS pr F) : RC pr F LT.v nmsP 137 [] 2000:=by
 have hm:=L.hm
 have cis0:=fun x => rq_is L.toLibR 0 (by omega) x
 have cis1:=fun x => rq_is L.toLibR 1 (by omega) x
 have cis2:=fun x => rq_is L.toLibR 2 (by omega) x
 have cpl:=rq_place L.toLibR
 have ctk:=fun x => rc_take L.toLibR x 2000
 have cen:=rc_enter L.toLibR 2000
 have cnd:=fun x => rc_need L.toLibR x 2000
 have cfl:=rc_fail L.toLibR 110 (by omega) 2000
 have cnm:=rc_name L.toLibR 2000
 refine rc_start hm L.f137.1 L.f137.2 rfl ?_
 intro H rw n s r hlt hsm hok _ _ _ _ _
 have hR : Rx rw rw:=Rx.rfl
 refine' hG
 refine g_call rfl rfl rfl ?_; refine c_rc (cnm) hlt (by assumption) (by omega) (by omega) ?_; intro x0 r0 rw_r0 hR' hok_r0 _ _ _ _ _ hP_x0; replace hR:=hR.trans hR'; (try replace hRL:=hRL.trans hR'); obtain ⟨_,_,hP_x0⟩:=hP_x0; refine zrk ?_
 refine' hG
 refine at_loop hm (fun m e S' => ∃ (r' : Rd) (rw' : List Nat) (l : AV) (xs : List Str),S' = ⟨hp H n (blk s r') [],rw'⟩ ∧ Rok s r' ∧ r.i ≤ r'.i ∧ r'.deep = r.deep ∧ (r'.code = 0 → r.code = 0) ∧ Rx rw rw' ∧ Lst rw 1 l (xs.map nmRow) rw' ∧ xs.length ≤ 1 + r'.i ∧
   (r'.code = 0 → r.i < r'.i ∧ (wL wNm xs : Int) ≤ 7000 * (r'.i - r.i)) ∧ (r'.code = 0 → ∀ x ∈ xs,Nm x) ∧ (m : Int) = s.toks.length - r'.i ∧
   e = [(0,.ptr n 0),(3,l)]) ?_ (m:=(s.toks.length - r0.i).toNat) ⟨r0,rw_r0,_,[x0],rfl,hok_r0,by omega,by omega,by omega,hR,.lit (by simp),by simp; omega,by simp only [wL,wNm]; omega,fun h x hx => by rw [List.mem_singleton] at hx; subst hx; exact hP_x0 h,by omega,rfl⟩
 clear hok_r0 hP_x0 hR
 rintro m' e S' ⟨r',rw',l,xs,rfl,hok',h2,h3,h4,hR,hl1,hxl,h8,h9,hmm,rfl⟩
 have h5:=hok'.lo
 have h6:=hok'.hi
 have h7:=hok'.dlo
 refine' hG
 ·refine g_call rfl rfl rfl ?_; refine c_rc (cnm) hlt (by assumption) (by omega) (by omega) ?_; intro x1 r1 rw_r1 hR' hok_r1 _ _ _ _ _ hP_x1; replace hR:=hR.trans hR'; (try replace hRL:=hRL.trans hR'); obtain ⟨_,_,hP_x1⟩:=hP_x1; refine zrk ?_
  refine' hG
  refine id_append ?_
  refine g_append rfl rfl rfl ?_
  refine ap_lst (row:=nmRow x1) (hl1.ext (Rx.trans (by assumption) (by assumption))) hR (by simp only [List.length_map,maxRow]; omega) (by simp only [List.length_map,maxRow]; omega) (by omega) ?_
  intro l4 rw4 hl4 hR4
  refine zrk ?_
  refine' hG
  refine ⟨(s.toks.length - r1.i).toNat,by omega,r1,rw4,l4,xs ++ [x1],rfl,hok_r1,by omega,by omega,by omega,hR4,by rw [List.map_append]; exact hl4,by simp; omega,?_,?_,by omega,rfl⟩
  ·intro h0
   rw [wL_append]
   simp only [wL,wNm]
   omega
  ·intro h0 x hx
   rcases List.mem_append.1 hx with h | h
   ·exact h9 (by omega) x h
   ·rw [List.mem_singleton] at h; subst h; exact hP_x1 h0
 ·refine fin_ret rfl ?_ (hp_take hlt) ?_
  ·exact hl1.isL.below _
  ·exact rend (enc:=LT.v) ⟨l,xs,hl1.isL⟩ hR rfl (Rok.nx (by assumption) (by omega) (by omega)) ⟨by omega,fun h => by have:=h8 (by omega); simp only; omega,fun h => h9 (by omega)⟩
end Go.Proofs.YtmeakjgbjldkdaaGreat.Ai
namespace Go.Proofs.YtmeakjgbjldkdaaGreat.Ai
open Go
variable {pr : Prims} {F : Nat → Option IFn}
theorem rc_params (L : LibS pr F) : RC pr F LT.v parsP 194 [] 2000:=by
 have hm:=L.hm
 have cis0:=fun x => rq_is L.toLibR 0 (by omega) x
 have cis1:=fun x => rq_is L.toLibR 1 (by omega) x
 have cis2:=fun x => rq_is L.toLibR 2 (by omega) x
 have cpl:=rq_place L.toLibR
 have ctk:=fun x => rc_take L.toLibR x 2000
 have cen:=rc_enter L.toLibR 2000
 have cnd:=fun x => rc_need L.toLibR x 2000
 have cfl:=rc_fail L.toLibR 110 (by omega) 2000
 have cnm:=rc_name L.toLibR 2000
 have hty:=rc_typ L.toLibX
 refine rc_start hm L.f194.1 L.f194.2 rfl ?_
 intro H rw n s r hlt hsm hok _ _ _ _ _
 have hR : Rx rw rw:=Rx.rfl
 refine' hG
 ·refine fin_ret rfl rfl (hp_take hlt) ?_
  exact rend (LT.nil rfl) hR rfl (Rok.nx (by assumption) (by omega) (by omega)) ⟨by omega,by simp only [LT.nil,wL]; omega,fun _ x hx => by cases hx⟩
 ·refine at_loop hm (fun m e S' => ∃ (r' : Rd) (rw' : List Nat) (l : AV) (xs : List Par) (J : List Blk),S' = ⟨hp H n (blk s r') J,rw'⟩ ∧ Rok s r' ∧ r.i ≤ r'.i ∧ r'.deep = r.deep ∧ (r'.code = 0 → r.code = 0) ∧ Rx rw rw' ∧ Lst rw 8 l (xs.map parRow) rw' ∧ xs.length ≤ 1 + r'.i ∧
   (r'.code = 0 → r.i < r'.i ∧ (wL wPar xs : Int) ≤ 7000 * (r'.i - r.i)) ∧ (r'.code = 0 → xs.length ≤ r'.i) ∧ (r'.code = 0 → ∀ x ∈ xs,okPar x) ∧ (m : Int) = 2 * (s.toks.length - r'.i) + (if r'.code = 0 then 1 else 0) ∧
   e = [(0,.ptr n 0),(3,l)]) ?_ (m:=(2 * (s.toks.length - rc.i) + (if rc.code = 0 then 1 else 0)).toNat) ⟨rc,rwc,_,[],[],rfl,by assumption,by omega,by omega,by omega,hR,.nil,by simp; omega,by simp only [wL]; omega,by simp; omega,fun h x hx => (by cases hx),by split <;> omega,rfl⟩
  clear hR
  rintro m' e S' ⟨r',rw',l,xs,J,rfl,hok',h2,h3,h4,hR,hl1,hxl,h8,hxl2,h9,hmm,rfl⟩
  have h5:=hok'.lo
  have h6:=hok'.hi
  have h7:=hok'.dlo
  have hRL : Rx rw' rw':=Rx.rfl
  by_cases hc : r'.code = 0
  ·rw [if_pos hc] at hmm
   clear cpl
   refine' hG
   refine g_call rfl rfl rfl ?_
   refine c_rq (rq_place L.toLibR) hlt (by assumption) ?_
   intro pl _
   refine zrk ?_
   refine' hG
   refine g_call rfl rfl rfl ?_; refine c_rc (cnm) hlt (by assumption) (by omega) (by omega) ?_; intro x1 r1 rw_r1 hR' hok_r1 _ _ _ _ _ hP_x1; replace hR:=hR.trans hR'; (try replace hRL:=hRL.trans hR'); obtain ⟨_,_,hP_x1⟩:=hP_x1; refine zrk ?_
   refine' hG
   refine g_call rfl rfl rfl ?_; refine c_rc (hty) hlt (by assumption) (by omega) (by omega) ?_; intro t1 r2 rw_r2 hR' hok_r2 _ _ _ _ _ hP_t1; replace hR:=hR.trans hR'; (try replace hRL:=hRL.trans hR'); obtain ⟨_,_,hP_t1⟩:=hP_t1; refine zrk ?_
   refine' hG
   refine id_load ?_
   refine g_load rfl rfl ?_
   refine l_ownR (vs:=parRow ⟨x1,t1,pl⟩) hlt at_bk0 (row_par _) ?_
   refine' hG
   refine id_append ?_
   refine g_append rfl rfl rfl ?_
   refine ap_lst (hl1.ext hRL) hR (by simp only [List.length_map,maxRow]; omega) (by simp only [List.length_map,maxRow]; omega) (by omega) ?_
   intro l4 rw4 hl4 hR4
   refine zrk ?_
   rw [show xs.map parRow ++ [parRow ⟨x1,t1,pl⟩] = (xs ++ [(⟨x1,t1,pl⟩ : Par)]).map parRow by simp] at hl4
   have hw4 : wL wPar (xs ++ [(⟨x1,t1,pl⟩ : Par)]) = wL wPar xs + (1 + x1.length + wTy t1):=by rw [wL_append]; simp [wL,wPar]
   have hn4 : (xs ++ [(⟨x1,t1,pl⟩ : Par)]).length = xs.length + 1:=by simp
   have ho4 : r2.code = 0 → ∀ x ∈ xs ++ [(⟨x1,t1,pl⟩ : Par)],okPar x:=by
    intro h x hx
    rcases List.mem_append.1 hx with hh | hh
    ·exact h9 (by omega) x hh
    ·rw [List.mem_singleton] at hh
     subst hh
     exact ⟨hP_x1 (by omega),hP_t1 (by omega)⟩
   clear hR hRL
   have hR:=hR4
   have hRL : Rx rw4 rw4:=Rx.rfl
   refine' hG
   ·refine fin_ret rfl ?_ (hp_take hlt) ?_
    ·exact hl4.isL.below _
    ·exact rend (enc:=LT.v) ⟨l4,_,hl4.isL⟩ hR rfl (Rok.nx (by assumption) (by omega) (by omega)) ⟨by omega,fun h => by have:=h8 hc; simp only [hw4]; omega,fun h => ho4 (by omega)⟩
   ·refine ⟨(2 * (s.toks.length - rc.i) + (if rc.code = 0 then 1 else 0)).toNat,?_,rc,rwc,l4,_,_,rfl,by assumption,by omega,by omega,by omega,hR,hl4.ext hRL,by rw [hn4]; omega,?_,by rw [hn4]; omega,fun h => ho4 (by omega),by split <;> omega,rfl⟩
    ·split <;> omega
    ·intro h0
     rw [hw4]
     omega
  ·refine' hG
   refine fin_ret rfl ?_ (hp_take hlt) ?_
   ·exact hl1.isL.below _
   ·exact rend (enc:=LT.v) ⟨l,xs,hl1.isL⟩ hR rfl (Rok.nx (by assumption) (by omega) (by omega)) ⟨by omega,fun h => absurd h hc,fun h => absurd h hc⟩
end Go.Proofs.YtmeakjgbjldkdaaGreat.Ai
namespace Go.Proofs.YtmeakjgbjldkdaaGreat.Ai
open Go
variable {pr : Prims} {F : Nat → Option IFn}
theorem rc_head (L : LibS pr F) : RC pr F (fun x : Mth => AV.agg (mthRow x)) headP 139 [] 2000:=by
 have hm:=L.hm
 have cis0:=fun x => rq_is L.toLibR 0 (by omega) x
 have cis1:=fun x => rq_is L.toLibR 1 (by omega) x
 have cis2:=fun x => rq_is L.toLibR 2 (by omega) x
 have cpl:=rq_place L.toLibR
 have ctk:=fun x => rc_take L.toLibR x 2000
 have cen:=rc_enter L.toLibR 2000
 have cnd:=fun x => rc_need L.toLibR x 2000
 have cfl:=rc_fail L.toLibR 110 (by omega) 2000
 have cnm:=rc_name L.toLibR 2000
 have hty:=rc_typ L.toLibX
 have hps:=rc_params L
 refine rc_start hm L.f139.1 L.f139.2 rfl ?_
 intro H rw n s r hlt hsm hok _ _ _ _ _
 have hR : Rx rw rw:=Rx.rfl
 clear cpl
 refine' hG
 refine g_call rfl rfl rfl ?_
 refine c_rq (rq_place L.toLibR) hlt (by assumption) ?_
 intro at_ _
 refine zrk ?_
 refine' hG
 refine g_call rfl rfl rfl ?_; refine c_rc (cnm) hlt (by assumption) (by omega) (by omega) ?_; intro nm r1 rw_r1 hR' hok_r1 _ _ _ _ _ hP_nm; replace hR:=hR.trans hR'; (try replace hRL:=hRL.trans hR'); obtain ⟨_,_,hP_nm⟩:=hP_nm; refine zrk ?_
 refine' hG
 refine g_call rfl rfl rfl ?_; refine c_rc (hps) hlt (by assumption) (by omega) (by omega) ?_; intro ps r2 rw_r2 hR' hok_r2 _ _ _ _ _ hP_ps; replace hR:=hR.trans hR'; (try replace hRL:=hRL.trans hR'); obtain ⟨_,_,hP_ps⟩:=hP_ps; refine zrk ?_
 refine' hG
 refine g_call rfl rfl rfl ?_
 refine c_rq (rq_place L.toLibR) hlt (by assumption) ?_
 intro pl _
 refine zrk ?_
 refine' hG
 ·refine fin_cell hlt rfl rfl (v:=.agg (mthRow ⟨nm,ps.xs,.mk 0 [] false [] [] pl,[],false,at_⟩)) (by (simp only [aload,canonL,tyRow,mthRow,exRows,tyRows,smRows,lst_nil,LT.canon,List.getElem?_cons_zero,List.take_succ_cons,List.take_zero,List.drop_zero,List.map_cons,List.map_nil,List.nil_append,List.cons_append,List.length_cons,List.length_nil,Nat.reduceAdd,Nat.zero_add,Nat.le_refl,if_true,canon_lst,canon_str,canon_int,canon_bool,canon_nil]; try rfl)) ((row_mth _).below _) ?_
  refine rend ⟨nm,ps.xs,.mk 0 [] false [] [] pl,[],false,at_⟩ hR rfl (Rok.nx (by assumption) (by omega) (by omega)) ⟨by omega,?_,rfl,rfl,?_⟩
  ·simp only [wMth,wTy,wTys,wExs,wSms,List.length_nil]; omega
  ·exact fun h => ⟨hP_nm (by omega),hP_ps (by omega),.inr ⟨_,rfl⟩,trivial⟩
 ·refine g_call rfl rfl rfl ?_; refine c_rc (hty) hlt (by assumption) (by omega) (by omega) ?_; intro t r3 rw_r3 hR' hok_r3 _ _ _ _ _ hP_t; replace hR:=hR.trans hR'; (try replace hRL:=hRL.trans hR'); obtain ⟨_,_,hP_t⟩:=hP_t; refine zrk ?_
  refine' hG
  refine id_load ?_
  refine g_load rfl rfl ?_
  refine l_ownC (vs:=mthRow ⟨nm,ps.xs,t,[],false,at_⟩) hlt rfl (by (simp only [canonL,mthRow,smRows,lst_nil,LT.canon,List.map_cons,List.map_nil,List.map_append,map_canon_ty,canon_str,canon_int,canon_bool,canon_nil]; try rfl)) (by simp [len_tyRow]) ?_
  refine' hG
  refine fin_cell hlt rfl rfl (row_mth _).load ((row_mth _).below _) ?_
  refine rend ⟨nm,ps.xs,t,[],false,at_⟩ hR rfl (Rok.nx (by assumption) (by omega) (by omega)) ⟨by omega,?_,rfl,rfl,?_⟩
  ·simp only [wMth,wSms]; omega
  ·exact fun h => ⟨hP_nm (by omega),hP_ps (by omega),.inl (hP_t (by omega)),trivial⟩
end Go.Proofs.YtmeakjgbjldkdaaGreat.Ai
