/- A part of what is proved: C7, C9, P3, P4, P4a, P4b, P4c, P4d, P4e, P5, P6, C10, C11p, C11, C12. No condition. -/
import Derived.Test.YtmeakjgbjldkdaaGreatY11
set_option maxRecDepth 100000
set_option maxHeartbeats 16000000
namespace Go.Proofs.YtmeakjgbjldkdaaGreat.Ai
open Go
variable {pr : Prims} {F : Nat → Option IFn}
theorem TabL.keep {H H' : List Blk} {n mb z : Nat} {tg : Tag} {cs : List Cls} {ab o1 o2 o3 sl : AV} (T : TabL H n mb cs z tg ab o1 o2 o3 sl) (h : Keep H H') : TabL H' n mb cs z tg ab o1 o2 o3 sl:=
 {T.toTabM.keep h with linked:=T.linked,unlike:=T.unlike,wt:=T.wt}
section
variable {b0 base ix : Nat} {d : Option Nat} {g : Option (Nat × Bool)} {prev items : List Item} {kp : List Nat} {k : List Fr} {e : Env} {Q : Ex → Env → St → Prop} {S : St} {H M M' : List Blk} {n : Nat} {b : Blk} {rw : List Nat} {re : List Nat}
theorem id_mkS {sz by_ : Nat} {zs : List AV} {x y : Opd} (h : In pr F b0 Q base prev (⟨ix,d,g,.l (.mkSlice sz by_ zs x y) re⟩ :: items) kp k e S) : In pr F b0 Q base prev (⟨ix,d,g,.l (.mkSlice sz by_ zs x y) re⟩ :: items) kp k e S:=h
theorem g_mkS {sz by_ m q : Nat} {zs : List AV} {x y : Opd} (hlt : n < H.length) (hw : wanted g (eget e) = some true) (hx : x.val (eget e) = some (.int .i64 (m : Int))) (hy : y.val (eget e) = some (.int .i64 (m : Int)))
  (hb : m * by_ ≤ maxRow ∧ m ≤ maxRow ∧ zs.length = sz) (hM : M ++ [.cells (List.replicate m zs).flatten] = M') (hq : M.length = q)
  (h : recheck prev re (eput e d (.arr (H.length + q) 0 sz m)) (hp H n b M') base = true ∧ In pr F b0 Q base (⟨ix,d,g,.l (.mkSlice sz by_ zs x y) re⟩ :: prev) items kp k (eput e d (.arr (H.length + q) 0 sz m)) ⟨hp H n b M',rw⟩) :
  In pr F b0 Q base prev (⟨ix,d,g,.l (.mkSlice sz by_ zs x y) re⟩ :: items) kp k e ⟨hp H n b M,rw⟩:=by
 subst hM hq
 obtain ⟨hr,hk⟩:=h
 refine in_l hw ?_ hr hk
 simp only [lval,hx,hy,Int.toNat_natCast,hp_len,hp_app hlt]
 rw [if_pos ⟨trivial,by omega,hb.1,hb.2.1,hb.2.2⟩]
theorem ap_todo {rw0 : List Nat} {v w : AV} {rows rowsb : List (List AV)} {K : AV → St → Prop} (h : Todo rw0 v rows rw) (hx : Rx rw0 rw) (hw : IsL 1 w rowsb) (hl : (rows.length + rowsb.length) * 8 ≤ maxRow)
  (hk : ∀ v' rw',Todo rw0 v' (rows ++ rowsb) rw' → Rx rw0 rw' → K v' ⟨H,rw'⟩) : ApAt 1 8 v w ⟨H,rw⟩ K:=by
 obtain ⟨v',rw',h1,h2,h3⟩:=h.push (H:=H) hx hw hl
 exact ⟨_,_,h1,hk v' rw' h2 h3⟩
end
def bsRow (bs : List Bool) : List AV:=bs.map AV.bool
theorem bsRow_rep (m : Nat) : (List.replicate m [AV.bool false]).flatten = bsRow (List.replicate m false):=by
 induction m with
 | zero => rfl
 | succ m ih => simp only [List.replicate_succ,List.flatten_cons,ih]; rfl
theorem overlay_at {cs : List AV} {j : Nat} {v : AV} (h : j < cs.length) : overlay cs j [v] = cs.set j v:=by
 unfold overlay
 rw [List.set_eq_take_append_cons_drop,if_pos h]
 simp
theorem bs_chunks : ∀ bs : List Bool,chunks 1 bs.length (bsRow bs) = some (bs.map fun b => [AV.bool b]):=by
 intro bs
 induction bs with
 | nil => rfl
 | cons b bs ih =>
  simp only [bsRow] at ih ⊢
  simp only [List.length_cons,List.map_cons,chunks,List.drop_succ_cons,List.drop_zero,List.take_succ_cons,List.take_zero,ih]
  rw [if_pos (by omega)]
  rfl
theorem bs_closed : ∀ bs : List Bool,closedL (bsRow bs) = true:=by
 intro bs
 induction bs with
 | nil => rfl
 | cons b bs ih => simp only [bsRow] at ih ⊢; simp [closedL,closed1,ih]
theorem bs_canon (bs : List Bool) : (bs.map fun b => [AV.bool b]).map canonL = bs.map fun b => [AV.bool b]:=by
 rw [List.map_map]
 rfl
theorem fin_bools {H M : List Blk} {n : Nat} {b : Blk} {rw : List Nat} {e : Env} {t j : Nat} {bs : List Bool} {m : Nat} {Q : Res → St → Prop} (hlt : n < H.length) (he : eget e t = some (.arr (H.length + j) 0 1 m)) (hM : M[j]? = some (.cells (bsRow bs))) (hmm : m = bs.length)
  (h : Q (.ret (.list 1 .dead (bs.map fun b => [.bool b]))) ⟨hp H n b [],rw⟩) : fin [.tmp t] H.length Q .ret e ⟨hp H n b M,rw⟩:=by
 subst hmm
 have h2:=(hp_own (b:=b) (L:=M) hlt j).trans hM
 have h3 : freeze1 H.length (hp H n b M) (.arr (H.length + j) 0 1 bs.length) = .list 1 .dead (bs.map fun b => [.bool b]):=by
  simp only [freeze1]
  rw [if_neg (by omega),h2]
  simp only [List.drop_zero,bs_chunks,bs_closed,bs_canon,Bool.true_and,Nat.zero_lt_one,decide_true,if_true]
 have h4 : rvals [RVar.tmp t] e (hp H n b M) = some [.arr (H.length + j) 0 1 bs.length]:=by simp only [rvals,he]
 have h5 : Ai.below H.length (.arr (H.length + j) 0 1 bs.length) = false:=by simp [Ai.below]
 have h6 : Ai.below H.length (.list 1 .dead (bs.map fun b => [AV.bool b])) = true:=by simp [Ai.below]
 simp only [fin,h4,packed,leave,h5,freeze,h3,h6,if_true,Bool.false_eq_true,if_false,hp_take hlt]
 exact h
theorem det_reach (L : LibE pr F) (f149 : Has pr F 149 i149) {H : List Blk} {rw : List Nat} {n mb z : Nat} {tg : Tag} {cs : List Cls} {ab o1 o2 o3 sl : AV} (T : TabL H n mb cs z tg ab o1 o2 o3 sl) {i : Nat} (hi : i < cs.length) :
  ∃ (bs : List Bool) (rw' : List Nat),bs.length = cs.length ∧ (∀ k,bs[k]? = some true ↔ Up cs i k) ∧ Rx rw rw' ∧ Det pr F 149 [.ptr n 0,.int .i64 i] ⟨H,rw⟩ (.ret (.list 1 .dead (bs.map fun b => [.bool b]))) ⟨H,rw'⟩:=by
 have hm:=L.hm
 suffices h : Wp pr F 149 [.ptr n 0,.int .i64 i] ⟨H,rw⟩ fun r S' => ∃ (bs : List Bool) (rw' : List Nat),bs.length = cs.length ∧ (∀ k,bs[k]? = some true ↔ Up cs i k) ∧ Rx rw rw' ∧ r = .ret (.list 1 .dead (bs.map fun b => [.bool b])) ∧ S' = ⟨H,rw'⟩ by
  obtain ⟨r,S',hd,v,rw',h1,h2,h3,rfl,rfl⟩:=h.det hm
  exact ⟨v,rw',h1,h2,h3,hd⟩
 have hlt : n < H.length:=(List.getElem?_eq_some_iff.1 T.at_).1
 have hfew:=T.few
 have hlm : (cs.map clsRow).length = cs.length:=List.length_map _
 have hR : Rx rw rw:=Rx.rfl
 have hwt:=T.wt
 refine at_start_hp hm f149.1 f149.2 rfl (hp_of T.at_) ?_
 refine' stH
 refine id_mkS ?_
 refine g_mkS (q:=0) hlt rfl rfl rfl ⟨by simp only [maxRow]; omega,by simp only [maxRow]; omega,rfl⟩ rfl rfl ?_
 rw [bsRow_rep,hlm,List.nil_append]
 refine zrk6 ?_
 refine' stH
 obtain ⟨v0,rw1,hv0,hR1,hd1⟩:=det_next L (T.keep (keep_n T.at_ [.cells (bsRow (List.replicate cs.length false))])) hi (rw:=rw)
 refine g_call rfl rfl rfl ?_
 refine c_det hd1 ?_
 refine zrk6 ?_
 refine' stH
 have hsum:=pendF_le (fun k => (nxt cs k).length) cs 0 (fun j c hj => by simp only [Nat.zero_add,nxt,hj]; exact nxtC_len cs c)
 have hn0 : (nxt cs i).length ≤ 42000000:=by
  obtain ⟨c,hc⟩ : ∃ c,cs[i]? = some c:=⟨_,List.getElem?_eq_getElem hi⟩
  have h1:=nxtC_len cs c
  have h2:=wL_mem wCls (List.mem_of_getElem? hc)
  simp only [nxt,hc]
  omega
 refine at_loop hm (fun mm e S' => ∃ (bs : List Bool) (todo : List Nat) (l : AV) (rw' : List Nat),S' = ⟨hp H n (.cells [.list z tg (cs.map clsRow),.map mb,ab,o1,o2,o3,sl]) [.cells (bsRow bs)],rw'⟩ ∧ Rch cs i bs todo ∧ Todo rw l (ixRows todo) rw' ∧ Rx rw rw' ∧
  mm = todo.length + pendF (fun k => (nxt cs k).length) bs 0 ∧ mm ≤ 84000000 ∧ e = [(0,.ptr n 0),(5,.arr (H.length + 0) 0 1 cs.length),(6,l)]) ?_ (m:=(nxt cs i).length + pendF (fun k => (nxt cs k).length) (List.replicate cs.length false) 0) ⟨_,_,_,_,rfl,Rch.start,Todo.of_lst hv0,hR1,rfl,by omega,rfl⟩
 rintro mm e S' ⟨bs,todo,l,rw',rfl,hrc,htd,hR',rfl,hmm,rfl⟩
 cases todo with
 | nil =>
  obtain ⟨sz,tag,rfl,-,-⟩:=htd.h
  have hl0 : (ixRows []).length = 0:=rfl
  refine' stH
  exact fin_bools hlt rfl rfl hrc.len.symm ⟨bs,rw',hrc.len,hrc.done,hR',rfl,st_of T.at_⟩
 | cons k rest =>
  simp only [ixRows,List.map_cons] at htd
  obtain ⟨tag,rfl,htd1⟩:=htd.tail
  have hk : k < cs.length:=up_lt T.linked (hrc.soundT k List.mem_cons_self)
  have hbl:=hrc.len
  have hl1 : (ixRow k :: List.map ixRow rest).length = rest.length + 1:=by simp
  have h00 : (ixRow k :: List.map ixRow rest)[0]? = some (ixRow k):=rfl
  refine' stH
  refine g_q rfl slice_tail ?_
  refine' stH
  refine g_ixa rfl rfl rfl ?_
  refine i_arr (j:=k) rfl hk ?_
  obtain ⟨bk,hbk⟩ : ∃ bk,bs[k]? = some bk:=⟨_,List.getElem?_eq_getElem (by omega)⟩
  have hbr : (bsRow bs)[0 + k * 1]? = some (.bool bk):=by rw [Nat.zero_add,Nat.mul_one,bsRow,List.getElem?_map,hbk]; rfl
  refine g_load rfl rfl ?_
  refine zlo0 (cs:=bsRow bs) (u:=.bool bk) ?_ hlt rfl hbr
  refine' stH
  ·refine g_ixa rfl rfl rfl ?_
   refine i_arr (j:=k) rfl hk ?_
   refine g_store rfl rfl rfl ?_
   have hst : overlay (bsRow bs) (0 + k * 1) (AV.cells (.bool true)) = bsRow (bs.set k true):=by
    rw [Nat.zero_add,Nat.mul_one,cells_bool,overlay_at (by rw [bsRow,List.length_map]; omega),bsRow,bsRow,List.map_set]
   refine s_own hlt (.inl (Nat.le_add_right _ _)) rfl ⟨rfl,rfl,by rw [bsRow,List.length_map]; omega⟩ hst rfl ?_
   refine zrk6 ?_
   refine' stH
   have hbf : bk = false:=by simpa using hq
   subst hbf
   obtain ⟨v2,rw2,hv2,hR2,hd2⟩:=det_next L (T.keep (keep_n T.at_ [.cells (bsRow (bs.set k true))])) hk (rw:=rw')
   refine g_call rfl rfl rfl ?_
   refine c_det hd2 ?_
   refine zrk6 ?_
   refine' stH
   have hps:=pendF_set (fun k => (nxt cs k).length) bs k 0 hbk
   simp only [Nat.zero_add,List.length_cons] at hps hmm
   refine id_append ?_
   refine g_append rfl rfl rfl ?_
   refine ap_todo (htd1.ext hR2) (hR'.trans hR2) hv2.isL (by simp only [List.length_map,ixRows_len,maxRow]; omega) ?_
   intro v3 rw3 hv3 hR3
   refine zrk6 ?_
   refine' stH
   rw [← ixRows,← ixRows_append] at hv3
   exact ⟨_,by simp only [List.length_append,List.length_cons]; omega,bs.set k true,rest ++ nxt cs k,v3,rw3,rfl,hrc.add (by omega),hv3,hR3,rfl,by simp only [List.length_append]; omega,rfl⟩
  ·have hbt : bk = true:=by simpa using hq
   subst hbt
   simp only [List.length_cons] at hmm
   exact ⟨_,by simp only [List.length_cons]; omega,bs,rest,_,rw',rfl,hrc.pop hbk,htd1,hR',rfl,by omega,rfl⟩
end Go.Proofs.YtmeakjgbjldkdaaGreat.Ai
namespace Go.Proofs.YtmeakjgbjldkdaaGreat.Ai
open Go
variable {pr : Prims} {F : Nat → Option IFn}
theorem TabL.re {H : List Blk} {n mb z : Nat} {tg : Tag} {cs : List Cls} {ab o1 o2 o3 sl : AV} (T : TabL H n mb cs z tg ab o1 o2 o3 sl) (ab' : AV) (M : List Blk) :
  TabL (hp H n (.cells [.list z tg (cs.map clsRow),.map mb,ab',o1,o2,o3,sl]) M) n mb cs z tg ab' o1 o2 o3 sl:=by
 have hlt : n < H.length:=(List.getElem?_eq_some_iff.1 T.at_).1
 have hne : n ≠ mb:=by
  intro h
  have:=T.at_
  rw [h,T.mp] at this
  simp at this
 exact {at_:=hp_get hlt,sz:=T.sz,few:=T.few,big:=T.big,mp:=froz_n hne T.mp _ _,linked:=T.linked,unlike:=T.unlike,wt:=T.wt}
theorem det_circle (L : LibE pr F) {H : List Blk} {rw : List Nat} {n mb z : Nat} {tg : Tag} {cs : List Cls} {ab o1 o2 o3 sl : AV} (T : TabL H n mb cs z tg ab o1 o2 o3 sl) :
  ∃ (f : Int × Int) (rw' : List Nat),(f.1 = 0 → ∀ i,i < cs.length → ¬Up cs i i) ∧ Rx rw rw' ∧ Det pr F 103 [.ptr n 0] ⟨H,rw⟩ (.ret (.agg (fltRow f.1 f.2))) ⟨H,rw'⟩:=by
 have hm:=L.hm
 suffices h : Wp pr F 103 [.ptr n 0] ⟨H,rw⟩ fun r S' => ∃ (f : Int × Int) (rw' : List Nat),(f.1 = 0 → ∀ i,i < cs.length → ¬Up cs i i) ∧ Rx rw rw' ∧ r = .ret (.agg (fltRow f.1 f.2)) ∧ S' = ⟨H,rw'⟩ by
  obtain ⟨r,S',hd,f,rw',h1,h2,rfl,rfl⟩:=h.det hm
  exact ⟨f,rw',h1,h2,hd⟩
 refine at_start hm L.f103.1 L.f103.2 rfl ?_
 refine' hGO
 unfold r103_0
 show At pr F H.length (fin _ H.length _) _ _ _ _
 refine at_first hm ?_
 intro H1 hH1 hlen hlt
 have hF:=froz_first hH1 T.at_
 have hfew:=T.few
 have hlm : (cs.map clsRow).length = cs.length:=List.length_map _
 refine' stH
 refine at_loop hm (fun mm e S' => ∃ (i : Nat) (J : List Blk) (rw' : List Nat),S' = ⟨hp H1 H.length (.cells [.int .i64 0,.int .i64 0]) J,rw'⟩ ∧ i ≤ cs.length ∧ Rx rw rw' ∧ (∀ j,j < i → ¬Up cs j j) ∧ mm = cs.length - i ∧ e = [(0,.ptr n 0),(2,.ptr H.length 0),(8,.list z tg (cs.map clsRow)),(9,.int .i64 ((cs.map clsRow).length : Int)),(10,.int .i64 i)]) ?_ (m:=cs.length) ⟨0,[],rw,rfl,by omega,Rx.rfl,fun j hj => by omega,rfl,rfl⟩
 rintro mm e S' ⟨i,J,rw',rfl,hi,hR,hnc,rfl,rfl⟩
 by_cases hlt2 : i < cs.length
 ·obtain ⟨c,hc⟩ : ∃ c,cs[i]? = some c:=⟨_,List.getElem?_eq_getElem hlt2⟩
  have hcr : (cs.map clsRow)[i]? = some (clsRow c):=by rw [List.getElem?_map,hc]; rfl
  have hz : z = 9:=T.sz (by intro h; rw [h] at hlt2; simp at hlt2)
  subst hz
  refine' stH
  obtain ⟨bs,rw2,hbl,hbu,hR2,hd2⟩:=det_reach L L.f149 (T.keep (keep_first hH1 (.cells [.int .i64 0,.int .i64 0]) (J ++ [.cells (clsRow c)]))) hlt2 (rw:=rw')
  obtain ⟨bi,hbi⟩ : ∃ bi,bs[i]? = some bi:=⟨_,List.getElem?_eq_getElem (by omega)⟩
  have hbr : (bs.map fun b => [AV.bool b])[i]? = some [.bool bi]:=by rw [List.getElem?_map,hbi]; rfl
  refine g_call rfl rfl rfl ?_
  refine c_det hd2 ?_
  refine zrk6 ?_
  refine' stH
  ·exact fin_first hH1 rfl (row_flt _ _) ⟨(_,_),_,fun h => by simp at h,hR.trans hR2,rfl,rfl⟩
  ·refine ⟨cs.length - (i + 1),by omega,i + 1,_,rw2,rfl,by omega,hR.trans hR2,fun j hj => ?_,rfl,rfl⟩
   by_cases hji : j = i
   ·subst hji
    rw [← hbu,hbi,hq]
    simp
   ·exact hnc j (by omega)
 ·refine' stH
  exact fin_first hH1 rfl (row_flt 0 0) ⟨(0,0),rw',fun _ j hj => hnc j (by omega),hR,rfl,rfl⟩
def upRow (l : List Nat) : List AV:=[lst 1 (ixRows l)]
def trues (bs : List Bool) (q : Nat) : List Nat:=(List.range q).filter fun k => bs.getD k false
theorem trues_succ (bs : List Bool) (q : Nat) : trues bs (q + 1) = trues bs q ++ (if bs.getD q false then [q] else []):=by
 unfold trues
 rw [List.range_succ,List.filter_append]
 congr 1
 rw [List.filter_cons]
 rfl
theorem trues_len (bs : List Bool) (q : Nat) : (trues bs q).length ≤ q:=by
 unfold trues
 have:=List.length_filter_le (fun k => bs.getD k false) (List.range q)
 rw [List.length_range] at this
 exact this
def IsUps (cs : List Cls) (i : Nat) (l : List Nat) : Prop:=∃ bs : List Bool,bs.length = cs.length ∧ (∀ k,bs[k]? = some true ↔ Up cs i k) ∧ l = trues bs cs.length
theorem s_nO {b0 n off : Nat} {H M : List Blk} {rw : List Nat} {b : Blk} {v : AV} {cs cs' : List AV} {K : St → Prop} (hlt : n < H.length) (hv : v.cells = [v] ∧ v.okv = true) (hbl : Ai.below (n + 1) v = true) (ho : off < cs.length) (hb : b = .cells cs) (hc : cs.set off v = cs') (h : K ⟨hp H n (.cells cs') M,rw⟩) :
  StAt b0 1 (.ptr n off) v ⟨hp H n b M,rw⟩ K:=by
 subst hb hc
 refine ⟨_,?_,h⟩
 have e1 : (hp H n (.cells cs) M)[n]? = some (.cells cs):=hp_get hlt
 simp only [storeV,e1,hv.1,hv.2,List.length_singleton,hbl,or_true,and_true,true_and]
 rw [if_pos (by omega),hp_set,overlay_at ho]
theorem ls_list {v : AV} {rows : List (List AV)} {L : AV → Prop} (hv : IsL 1 v rows) (h : L (.list 1 .full [[lst 1 rows]])) : LsAt 1 [v] L:=by
 refine ⟨_,?_,h⟩
 simp only [rowsOf,hv.one.1,hv.one.2,hv.closed,List.length_singleton,and_self,if_true,Option.map_some,canonL,List.map_cons,List.map_nil,hv.canon]
theorem det_climb (L : LibE pr F) {H : List Blk} {rw : List Nat} {n mb z : Nat} {tg : Tag} {cs : List Cls} {o1 o2 o3 sl : AV} (T : TabL H n mb cs z tg (.list 0 .full []) o1 o2 o3 sl) :
  ∃ (U : List (List Nat)) (ab : AV) (rw' : List Nat),U.length = cs.length ∧ (∀ i l,U[i]? = some l → IsUps cs i l) ∧ IsL 1 ab (U.map upRow) ∧ Rx rw rw' ∧
   Det pr F 104 [.ptr n 0] ⟨H,rw⟩ (.ret (.tup [])) ⟨H.set n (.cells [.list z tg (cs.map clsRow),.map mb,ab,o1,o2,o3,sl]),rw'⟩:=by
 have hm:=L.hm
 suffices h : Wp pr F 104 [.ptr n 0] ⟨H,rw⟩ fun r S' => ∃ (U : List (List Nat)) (ab : AV) (rw' : List Nat),U.length = cs.length ∧ (∀ i l,U[i]? = some l → IsUps cs i l) ∧ IsL 1 ab (U.map upRow) ∧ Rx rw rw' ∧ r = .ret (.tup []) ∧ S' = ⟨hp H n (.cells [.list z tg (cs.map clsRow),.map mb,ab,o1,o2,o3,sl]) [],rw'⟩ by
  obtain ⟨r,S',hd,U,ab,rw',h1,h2,h3,h4,rfl,rfl⟩:=h.det hm
  rw [hp_nil] at hd
  exact ⟨U,ab,rw',h1,h2,h3,h4,hd⟩
 have hlt : n < H.length:=(List.getElem?_eq_some_iff.1 T.at_).1
 have hfew:=T.few
 have hlm : (cs.map clsRow).length = cs.length:=List.length_map _
 refine at_start_hp hm L.f104.1 L.f104.2 rfl (hp_of T.at_) ?_
 refine' stH
 refine at_loop hm (fun mm e S' => ∃ (i : Nat) (U : List (List Nat)) (ab : AV) (rw' : List Nat),S' = ⟨hp H n (.cells [.list z tg (cs.map clsRow),.map mb,ab,o1,o2,o3,sl]) [],rw'⟩ ∧ i ≤ cs.length ∧ U.length = i ∧ (∀ i l,U[i]? = some l → IsUps cs i l) ∧ Lst rw 1 ab (U.map upRow) rw' ∧ Rx rw rw' ∧ mm = cs.length - i ∧ e = [(0,.ptr n 0),(10,.int .i64 ((cs.map clsRow).length : Int)),(11,.int .i64 i)]) ?_ (m:=cs.length) ⟨0,[],_,rw,rfl,by omega,rfl,by simp,Lst.nil,Rx.rfl,rfl,rfl⟩
 rintro mm e S' ⟨i,U,ab,rw',rfl,hi,hUl,hU,hab,hR,rfl,rfl⟩
 by_cases hlt2 : i < cs.length
 ·refine' stH
  obtain ⟨bs,rw2,hbl,hbu,hR2,hd2⟩:=det_reach L L.f149 (T.re ab []) hlt2 (rw:=rw')
  refine g_call rfl rfl rfl ?_
  refine c_det hd2 ?_
  refine zrk6 ?_
  refine' stH
  refine at_loop hm (fun mm e S' => ∃ (q : Nat) (l : AV) (rw3 : List Nat),S' = ⟨hp H n (.cells [.list z tg (cs.map clsRow),.map mb,ab,o1,o2,o3,sl]) [],rw3⟩ ∧ q ≤ bs.length ∧ Lst rw2 1 l (ixRows (trues bs q)) rw3 ∧ Rx rw2 rw3 ∧ mm = bs.length - q ∧ e = [(0,.ptr n 0),(3,l),(10,.int .i64 ((cs.map clsRow).length : Int)),(11,.int .i64 i),(16,.list 1 .dead (bs.map fun b => [.bool b])),(17,.int .i64 ((bs.map fun b => [AV.bool b]).length : Int)),(18,.int .i64 q)]) ?_ (m:=bs.length) ⟨0,_,rw2,rfl,by omega,Lst.nil,Rx.rfl,rfl,rfl⟩
  rintro mm e S' ⟨q,l,rw3,rfl,hq0,hl,hR3,rfl,rfl⟩
  have hlb : (bs.map fun b => [AV.bool b]).length = bs.length:=List.length_map _
  have htl:=trues_len bs q
  by_cases hq1 : q < bs.length
  ·obtain ⟨bq,hbq⟩ : ∃ bq,bs[q]? = some bq:=⟨_,List.getElem?_eq_getElem hq1⟩
   have hbr : (bs.map fun b => [AV.bool b])[q]? = some [.bool bq]:=by rw [List.getElem?_map,hbq]; rfl
   have hgd : bs.getD q false = bq:=by rw [List.getD_eq_getElem?_getD,hbq]; rfl
   refine' stH
   ·refine id_append ?_
    refine g_append rfl rfl rfl ?_
    refine ap_lst (row:=ixRow q) hl hR3 (by simp only [ixRows_len,maxRow]; omega) (by simp only [ixRows_len,maxRow]; omega) (by omega) ?_
    intro l4 rw4 hl4 hR4
    refine zrk6 ?_
    refine' stH
    refine ⟨bs.length - (q + 1),by omega,q + 1,l4,rw4,rfl,by omega,?_,hR4,rfl,rfl⟩
    rw [trues_succ,hgd,hq,ixRows_append]
    exact hl4
   ·refine ⟨bs.length - (q + 1),by omega,q + 1,l,rw3,rfl,by omega,?_,hR3,rfl,rfl⟩
    rw [trues_succ,hgd,hq]
    simpa using hl
  ·refine' stH
   refine g_list rfl rfl ?_
   refine ls_list hl.isL ?_
   refine' stH
   refine id_append ?_
   refine g_append rfl rfl rfl ?_
   refine ap_lst (row:=upRow (trues bs q)) (hab.ext (hR2.trans hR3)) (hR.trans (hR2.trans hR3)) (by simp only [List.length_map,maxRow]; omega) (by simp only [List.length_map,maxRow]; omega) (by omega) ?_
   intro l4 rw4 hl4 hR4
   refine zrk6 ?_
   refine' stH
   refine g_store rfl rfl rfl ?_
   refine s_nO hlt hl4.isL.one (hl4.isL.below _) (by simp only [List.length_cons,List.length_nil]; omega) rfl rfl ?_
   refine zrk6 ?_
   refine' stH
   refine ⟨cs.length - (i + 1),by omega,i + 1,U ++ [trues bs q],l4,rw4,rfl,by omega,by simp [hUl],?_,by rw [List.map_append]; exact hl4,hR4,rfl,rfl⟩
   intro j l' hj
   by_cases hji : j < U.length
   ·rw [List.getElem?_append_left hji] at hj
    exact hU j l' hj
   ·rw [List.getElem?_append_right (by omega)] at hj
    by_cases hj0 : j - U.length = 0
    ·rw [hj0] at hj
     simp only [List.getElem?_cons_zero,Option.some.injEq] at hj
     have e2 : j = i:=by omega
     subst e2
     exact ⟨bs,hbl,hbu,by rw [← hj,show q = cs.length by omega]⟩
    ·rw [List.getElem?_eq_none (by simp; omega)] at hj
     simp at hj
 ·refine' stH
  exact fin_normalN rfl rfl rfl (hp_take hlt) ⟨U,ab,rw',by omega,hU,hab.isL,hR,rfl,rfl⟩
end Go.Proofs.YtmeakjgbjldkdaaGreat.Ai
namespace Go.Proofs.YtmeakjgbjldkdaaGreat.Ai
open Go
variable {pr : Prims} {F : Nat → Option IFn}
theorem tx_tight (L : LibE pr F) (x : Xp) (hx : TxOk pr F 96 [.agg (exRow x)] (.str (exText x))) (hs : (exText x).length ≤ 2147483648) : TxOk pr F 144 [.agg (exRow x)] (.str (atT (bindF x.op,exText x) 7)):=by
 have hm:=L.hm
 refine TxOk.of hm ?_
 intro H rw hH
 have hR : Rx rw rw:=Rx.rfl
 have hb:=tx_at L x 7 hx hs
 refine at_start hm L.f144.1 L.f144.2 rfl ?_
 refine at_seq hm ?_
 unfold r144_0
 show At pr F H.length (fin _ H.length _) _ _ _ _
 refine at_box hm rfl ?_
 intro H1 hH1 hlen hlt
 refine' stH
 exact fin_retF hH1 rfl rfl ⟨_,hR,rfl,rfl⟩
def nulX : Xp:=.mk [110,117,108,108] [] [] [] 0
theorem exRows_get {xs : List Xp} {i : Nat} {x : Xp} (h : xs[i]? = some x) : (exRows xs)[i]? = some (exRow x):=by rw [exRows_map,List.getElem?_map,h]; rfl
theorem tx_first (L : LibE pr F) (xs : List Xp) (_hxs : xs.length ≤ 42000000) (i : Nat) (_hi : i ≤ 1) : TxOk pr F 142 [lst 5 (exRows xs),.int .i64 (i : Int)] (.agg (exRow (xs.getD i nulX))):=by
 have hm:=L.hm
 refine TxOk.of hm ?_
 intro H rw hH
 have hR : Rx rw rw:=Rx.rfl
 have hlx:=exRows_len xs
 refine at_start hm L.f142.1 L.f142.2 rfl ?_
 refine at_seq hm ?_
 unfold r142_0
 show At pr F H.length (fin _ H.length _) _ _ _ _
 refine at_first hm ?_
 intro H1 hH1 hlen hlt
 by_cases h1 : i < xs.length
 ·obtain ⟨x,hx⟩ : ∃ x,xs[i]? = some x:=⟨_,List.getElem?_eq_getElem h1⟩
  have hxr:=exRows_get hx
  have hl5 : lst 5 (exRows xs) = .list 5 .dead (exRows xs):=lst_of_lt (i:=i) (by omega)
  rw [hl5]
  refine' stH
  exact fin_first hH1 rfl (row_ex x) ⟨_,hR,by rw [List.getD_eq_getElem?_getD,hx]; rfl,rfl⟩
 ·refine' stH
  exact fin_first hH1 rfl (row_ex nulX) ⟨_,hR,by rw [List.getD_eq_getElem?_getD,List.getElem?_eq_none (by omega)]; rfl,rfl⟩
theorem TxOk.of0 (hm : Mono pr) {f na : Nat} {c : IC} {res : List RVar} {args : List AV} {t : AV} (h1 : pr f = none) (h2 : F f = some ⟨na,c,res⟩) (h3 : args.length = na)
  (h : ∀ H rw b,0 < H.length → At pr F H.length (fin res H.length fun r S' => ∃ rw',Rx rw rw' ∧ r = .ret t ∧ S' = ⟨hp H 0 b [],rw'⟩) c [] (args0 args) ⟨hp H 0 b [],rw⟩) : TxOk pr F f args t:=by
 refine TxOk.of hm ?_
 intro H rw hH
 obtain ⟨b,hb⟩ : ∃ b,H[0]? = some b:=⟨_,List.getElem?_eq_getElem hH⟩
 have:=at_start_hp hm h1 h2 h3 (hp_of hb) (h H rw b hH)
 refine this.mono ?_
 rintro r S' ⟨rw',e1,e2,rfl⟩
 exact ⟨rw',e1,e2,st_of hb⟩
theorem tx_texts (L : LibE pr F) (xs : List Xp) (z : Nat) (tag : Tag) (hz : xs ≠ [] → z = 5) (hx : ∀ x ∈ xs,TxOk pr F 96 [.agg (exRow x)] (.str (exText x))) (hs : ((xs.map exText).map fun x => x.length + 2).sum ≤ 2147483648) (hxs : xs.length ≤ 42000000) :
  TxOk pr F 127 [.list z tag (exRows xs)] (.str (joinT [44,32] (xs.map exText))):=by
 have hm:=L.hm
 have hlx:=exRows_len xs
 refine TxOk.of0 hm L.f127.1 L.f127.2 rfl ?_
 intro H rw b hlt
 have hR : Rx rw rw:=Rx.rfl
 refine' stH
 refine at_loop hm (fun mm e S' => ∃ (q : Nat) (l : AV) (J : List Blk) (rw3 : List Nat),S' = ⟨hp H 0 b J,rw3⟩ ∧ q ≤ xs.length ∧ Lst rw 1 l (((xs.take q).map exText).map nmRow) rw3 ∧ Rx rw rw3 ∧ mm = xs.length - q ∧ e = [(3,l),(6,.list z tag (exRows xs)),(7,.int .i64 ((exRows xs).length : Int)),(8,.int .i64 q)]) ?_ (m:=xs.length) ⟨0,_,[],rw,rfl,by omega,Lst.nil,Rx.rfl,rfl,rfl⟩
 clear hR
 rintro mm e S' ⟨q,l,J,rw3,rfl,hq0,hl,hR,rfl,rfl⟩
 by_cases hq1 : q < xs.length
 ·obtain ⟨x,hxq⟩ : ∃ x,xs[q]? = some x:=⟨_,List.getElem?_eq_getElem hq1⟩
  have hxr:=exRows_get hxq
  have hz5 : z = 5:=hz (by intro h; rw [h] at hq1; simp at hq1)
  subst hz5
  have hx1:=hx x (List.mem_of_getElem? hxq)
  have hR0:=hR
  refine' stH
  refine id_append ?_
  refine g_append rfl rfl rfl ?_
  refine ap_lst (row:=nmRow (exText x)) (hl.ext hRt) hR (by simp only [List.length_map,List.length_take,maxRow]; omega) (by simp only [List.length_map,List.length_take,maxRow]; omega) (by omega) ?_
  intro l4 rw4 hl4 hR4
  refine zrk6 ?_
  refine' stH
  refine ⟨xs.length - (q + 1),by omega,q + 1,l4,_,rw4,rfl,by omega,?_,hR4,rfl,rfl⟩
  rw [take_snoc hxq,List.map_append,List.map_append]
  exact hl4
 ·refine' stH
  rw [show q = xs.length by omega,List.take_length] at hl
  refine g_call rfl rfl rfl ?_
  refine ⟨_,_,L.join (xs.map exText) [44,32] l _ _ hl.isL hs,?_⟩
  refine zrk6 ?_
  refine' stH
  exact fin_ret rfl rfl (hp_take hlt) ⟨_,hR,rfl,rfl⟩
end Go.Proofs.YtmeakjgbjldkdaaGreat.Ai
namespace Go.Proofs.YtmeakjgbjldkdaaGreat.Ai
open Go
variable {pr : Prims} {F : Nat → Option IFn}
theorem exTexts_getD (i : Nat) : ∀ (xs : List Xp),(exTexts xs).getD i nulT = (bindF (xs.getD i nulX).op,exText (xs.getD i nulX)):=by
 have hn : nulT = (bindF nulX.op,exText nulX):=by
  unfold nulX
  simp only [exText,exTexts,tysText,Xp.op]
  decide
 induction i with
 | zero =>
  intro xs
  cases xs with
  | nil => rw [exTexts_nil]; exact hn
  | cons x xs => rw [exTexts_cons]; rfl
 | succ i ih =>
  intro xs
  cases xs with
  | nil => rw [exTexts_nil]; exact hn
  | cons x xs => rw [exTexts_cons]; exact ih xs
theorem wExs_mem {x : Xp} : ∀ {xs : List Xp},x ∈ xs → wEx x ≤ wExs xs:=by
 intro xs
 induction xs with
 | nil => intro h; cases h
 | cons y xs ih =>
  intro h
  simp only [wExs]
  rcases List.mem_cons.1 h with h | h
  ·subst h; omega
  ·have:=ih h; omega
theorem wExs_len : ∀ (xs : List Xp),xs.length ≤ wExs xs:=by
 intro xs
 induction xs with
 | nil => simp
 | cons u xs ih =>
  obtain ⟨o,nm,ar,ty,a⟩:=u
  simp only [wExs,wEx,List.length_cons]; omega
theorem okExs_mem {x : Xp} : ∀ {xs : List Xp},okExs xs → x ∈ xs → okEx x:=by
 intro xs
 induction xs with
 | nil => intro _ h; cases h
 | cons y xs ih =>
  intro h hx
  rcases List.mem_cons.1 hx with h1 | h1
  ·subst h1; exact h.1
  ·exact ih h.2 h1
theorem sum_texts (xs : List Xp) : ((xs.map exText).map fun x => x.length + 2).sum ≤ 32 * wExs xs:=by
 have h:=len_exTexts xs
 rw [← exTexts_map,sum_snd]
 omega
section
variable {b0 base ix : Nat} {d : Option Nat} {g : Option (Nat × Bool)} {prev items : List Item} {kp : List Nat} {k : List Fr} {e : Env} {Q : Ex → Env → St → Prop} {S : St}
theorem slice_tailG {sz : Nat} {tag : Tag} {r : List AV} {rows : List (List AV)} : aslice sz (.list sz tag (r :: rows)) (some 1) none = some (.list sz tag rows):=by
 simp [aslice]
 omega
end
end Go.Proofs.YtmeakjgbjldkdaaGreat.Ai
namespace Go.Proofs.YtmeakjgbjldkdaaGreat.Ai
open Go
variable {pr : Prims} {F : Nat → Option IFn}
theorem tx_leaf1 (L : LibE pr F) {op name : Str} {args : List Xp} {ty : List Ty} {a : Int} (hka : okExs args) (hkt : okTys ty) (hw : 1 + op.length + name.length + wExs args + wTys ty ≤ 42000000) (IH : ∀ y,wEx y < 1 + op.length + name.length + wExs args + wTys ty → okEx y → TxOk pr F 96 [.agg (exRow y)] (.str (exText y))) (IHt : ∀ t,wTy t < 1 + op.length + name.length + wExs args + wTys ty → okTy t → TxOk pr F 52 [.agg (tyRow t)] (.str (tyText t))) (hop : (op = [110,117,109] ∨ op = [118,97,114]) ∧ args = [] ∧ ty = []) :
  TxOk pr F 96 [.agg (exRow (.mk op name args ty a))] (.str (exText (.mk op name args ty a))):=by
 have hm:=L.hm
 refine TxOk.of hm ?_
 intro H rw hH
 have hal:=wExs_len args
 have hxs:=exRows_len args
 have hR : Rx rw rw:=Rx.rfl
 have hb:=det_sbind L (.mk op name args ty a)
 have h0:=tx_first L args (by omega) 0 (by omega)
 have h1:=tx_first L args (by omega) 1 (by omega)
 have hA : ∀ y ∈ args,TxOk pr F 96 [.agg (exRow y)] (.str (exText y)) ∧ (exText y).length ≤ 2147483648:=by
  intro y hy
  have h2:=wExs_mem hy
  have h3:=len_exText y
  exact ⟨IH y (by omega) (okExs_mem hka hy),by omega⟩
 have hsum:=sum_texts args
 have hlt0:=len_exTexts args
 have hg0:=exTexts_getD 0 args
 have hg1:=exTexts_getD 1 args
 have hmap:=exTexts_map args
 have hty:=len_tysText ty
 have hnm : name.length ≤ 42000000:=by omega
 have hopl : op.length ≤ 42000000:=by omega
 simp only [exText]
 refine at_start hm L.f96.1 L.f96.2 rfl ?_
 refine at_seq hm ?_
 unfold r96_0
 show At pr F H.length (fin _ H.length _) _ _ _ _
 refine at_box hm rfl ?_
 intro H1 hH1 hlen hlt
 rcases hop with ⟨rfl | rfl,rfl,rfl⟩
 all_goals
  refine' stH
  exact fin_retF hH1 rfl rfl ⟨_,hR,rfl,rfl⟩
theorem tx_leaf2 (L : LibE pr F) {op name : Str} {args : List Xp} {ty : List Ty} {a : Int} (hka : okExs args) (hkt : okTys ty) (hw : 1 + op.length + name.length + wExs args + wTys ty ≤ 42000000) (IH : ∀ y,wEx y < 1 + op.length + name.length + wExs args + wTys ty → okEx y → TxOk pr F 96 [.agg (exRow y)] (.str (exText y))) (IHt : ∀ t,wTy t < 1 + op.length + name.length + wExs args + wTys ty → okTy t → TxOk pr F 52 [.agg (tyRow t)] (.str (tyText t))) (hop : (op = [116,114,117,101] ∨ op = [102,97,108,115,101] ∨ op = [110,117,108,108] ∨ op = [116,104,105,115] ∨ op = [114,101,97,100]) ∧ args = [] ∧ ty = []) :
  TxOk pr F 96 [.agg (exRow (.mk op name args ty a))] (.str (exText (.mk op name args ty a))):=by
 have hm:=L.hm
 refine TxOk.of hm ?_
 intro H rw hH
 have hal:=wExs_len args
 have hxs:=exRows_len args
 have hR : Rx rw rw:=Rx.rfl
 have hb:=det_sbind L (.mk op name args ty a)
 have h0:=tx_first L args (by omega) 0 (by omega)
 have h1:=tx_first L args (by omega) 1 (by omega)
 have hA : ∀ y ∈ args,TxOk pr F 96 [.agg (exRow y)] (.str (exText y)) ∧ (exText y).length ≤ 2147483648:=by
  intro y hy
  have h2:=wExs_mem hy
  have h3:=len_exText y
  exact ⟨IH y (by omega) (okExs_mem hka hy),by omega⟩
 have hsum:=sum_texts args
 have hlt0:=len_exTexts args
 have hg0:=exTexts_getD 0 args
 have hg1:=exTexts_getD 1 args
 have hmap:=exTexts_map args
 have hty:=len_tysText ty
 have hnm : name.length ≤ 42000000:=by omega
 have hopl : op.length ≤ 42000000:=by omega
 simp only [exText]
 refine at_start hm L.f96.1 L.f96.2 rfl ?_
 refine at_seq hm ?_
 unfold r96_0
 show At pr F H.length (fin _ H.length _) _ _ _ _
 refine at_box hm rfl ?_
 intro H1 hH1 hlen hlt
 rcases hop with ⟨rfl | rfl | rfl | rfl | rfl,rfl,rfl⟩
 all_goals
  first | (replace hb : TxOk pr F 143 _ (.int .i64 7):=hb) | skip
  refine' stH
  exact fin_retF hH1 rfl rfl ⟨_,hR,rfl,rfl⟩
end Go.Proofs.YtmeakjgbjldkdaaGreat.Ai
namespace Go.Proofs.YtmeakjgbjldkdaaGreat.Ai
open Go
variable {pr : Prims} {F : Nat → Option IFn}
theorem tx_len (L : LibE pr F) {op name : Str} {args : List Xp} {ty : List Ty} {a : Int} (hka : okExs args) (hkt : okTys ty) (hw : 1 + op.length + name.length + wExs args + wTys ty ≤ 42000000) (IH : ∀ y,wEx y < 1 + op.length + name.length + wExs args + wTys ty → okEx y → TxOk pr F 96 [.agg (exRow y)] (.str (exText y))) (IHt : ∀ t,wTy t < 1 + op.length + name.length + wExs args + wTys ty → okTy t → TxOk pr F 52 [.agg (tyRow t)] (.str (tyText t))) (hop : op = [108,101,110] ∧ (∃ x,args = [x]) ∧ ty = []) :
  TxOk pr F 96 [.agg (exRow (.mk op name args ty a))] (.str (exText (.mk op name args ty a))):=by
 have hm:=L.hm
 refine TxOk.of hm ?_
 intro H rw hH
 have hal:=wExs_len args
 have hxs:=exRows_len args
 have hR : Rx rw rw:=Rx.rfl
 have hb:=det_sbind L (.mk op name args ty a)
 have h0:=tx_first L args (by omega) 0 (by omega)
 have h1:=tx_first L args (by omega) 1 (by omega)
 have hA : ∀ y ∈ args,TxOk pr F 96 [.agg (exRow y)] (.str (exText y)) ∧ (exText y).length ≤ 2147483648:=by
  intro y hy
  have h2:=wExs_mem hy
  have h3:=len_exText y
  exact ⟨IH y (by omega) (okExs_mem hka hy),by omega⟩
 have hsum:=sum_texts args
 have hlt0:=len_exTexts args
 have hg0:=exTexts_getD 0 args
 have hg1:=exTexts_getD 1 args
 have hmap:=exTexts_map args
 have hty:=len_tysText ty
 have hnm : name.length ≤ 42000000:=by omega
 have hopl : op.length ≤ 42000000:=by omega
 simp only [exText]
 refine at_start hm L.f96.1 L.f96.2 rfl ?_
 refine at_seq hm ?_
 unfold r96_0
 show At pr F H.length (fin _ H.length _) _ _ _ _
 refine at_box hm rfl ?_
 intro H1 hH1 hlen hlt
 rcases hop with ⟨rfl,⟨y,rfl⟩,rfl⟩
 ·
  obtain ⟨hy1,hy2⟩:=hA y List.mem_cons_self
  have e : textOf [108,101,110] name (exTexts [y]) (tysText []) = [108,101,110,40] ++ exText y ++ [41]:=by
   show [108,101,110,40] ++ ((exTexts [y]).getD 0 nulT).2 ++ [41] = _
   rw [hg0]; rfl
  rw [e]
  refine' stH
  exact fin_retF hH1 rfl rfl ⟨_,hR,rfl,rfl⟩
theorem tx_new (L : LibE pr F) {op name : Str} {args : List Xp} {ty : List Ty} {a : Int} (hka : okExs args) (hkt : okTys ty) (hw : 1 + op.length + name.length + wExs args + wTys ty ≤ 42000000) (IH : ∀ y,wEx y < 1 + op.length + name.length + wExs args + wTys ty → okEx y → TxOk pr F 96 [.agg (exRow y)] (.str (exText y))) (IHt : ∀ t,wTy t < 1 + op.length + name.length + wExs args + wTys ty → okTy t → TxOk pr F 52 [.agg (tyRow t)] (.str (tyText t))) (hop : op = [110,101,119] ∧ ty = []) :
  TxOk pr F 96 [.agg (exRow (.mk op name args ty a))] (.str (exText (.mk op name args ty a))):=by
 have hm:=L.hm
 refine TxOk.of hm ?_
 intro H rw hH
 have hal:=wExs_len args
 have hxs:=exRows_len args
 have hR : Rx rw rw:=Rx.rfl
 have hb:=det_sbind L (.mk op name args ty a)
 have h0:=tx_first L args (by omega) 0 (by omega)
 have h1:=tx_first L args (by omega) 1 (by omega)
 have hA : ∀ y ∈ args,TxOk pr F 96 [.agg (exRow y)] (.str (exText y)) ∧ (exText y).length ≤ 2147483648:=by
  intro y hy
  have h2:=wExs_mem hy
  have h3:=len_exText y
  exact ⟨IH y (by omega) (okExs_mem hka hy),by omega⟩
 have hsum:=sum_texts args
 have hlt0:=len_exTexts args
 have hg0:=exTexts_getD 0 args
 have hg1:=exTexts_getD 1 args
 have hmap:=exTexts_map args
 have hty:=len_tysText ty
 have hnm : name.length ≤ 42000000:=by omega
 have hopl : op.length ≤ 42000000:=by omega
 simp only [exText]
 refine at_start hm L.f96.1 L.f96.2 rfl ?_
 refine at_seq hm ?_
 unfold r96_0
 show At pr F H.length (fin _ H.length _) _ _ _ _
 refine at_box hm rfl ?_
 intro H1 hH1 hlen hlt
 rcases hop with ⟨rfl,rfl⟩
 ·
  have htx : TxOk pr F 127 [lst 5 (exRows args)] (.str (joinT [44,32] (args.map exText))):=by
   obtain ⟨z,tag,h,h2,-⟩:=isL_lst (sz:=5) (rows:=exRows args)
   rw [h]
   exact tx_texts L args z tag (fun hne => h2 (by intro h3; apply hne; cases args with | nil => rfl | cons u us => simp [exRows] at h3)) (fun y hy => (hA y hy).1) (by omega) (by omega)
  have e : textOf [110,101,119] name (exTexts args) (tysText []) = [110,101,119,32] ++ name ++ [40] ++ joinT [44,32] (args.map exText) ++ [41]:=by
   show [110,101,119,32] ++ name ++ [40] ++ joinT [44,32] ((exTexts args).map (·.2)) ++ [41] = _
   rw [hmap]
  rw [e]
  have hj:=len_joinT [44,32] (args.map exText)
  simp only [List.length_cons,List.length_nil,Nat.reduceAdd,Nat.zero_add] at hj
  refine' stH
  exact fin_retF hH1 rfl rfl ⟨_,hR,rfl,rfl⟩
theorem tx_list (L : LibE pr F) {op name : Str} {args : List Xp} {ty : List Ty} {a : Int} (hka : okExs args) (hkt : okTys ty) (hw : 1 + op.length + name.length + wExs args + wTys ty ≤ 42000000) (IH : ∀ y,wEx y < 1 + op.length + name.length + wExs args + wTys ty → okEx y → TxOk pr F 96 [.agg (exRow y)] (.str (exText y))) (IHt : ∀ t,wTy t < 1 + op.length + name.length + wExs args + wTys ty → okTy t → TxOk pr F 52 [.agg (tyRow t)] (.str (tyText t))) (hop : op = [108,105,115,116] ∧ (∃ x z,args = [x,z]) ∧ ∃ t,ty = [t]) :
  TxOk pr F 96 [.agg (exRow (.mk op name args ty a))] (.str (exText (.mk op name args ty a))):=by
 have hm:=L.hm
 refine TxOk.of hm ?_
 intro H rw hH
 have hal:=wExs_len args
 have hxs:=exRows_len args
 have hR : Rx rw rw:=Rx.rfl
 have hb:=det_sbind L (.mk op name args ty a)
 have h0:=tx_first L args (by omega) 0 (by omega)
 have h1:=tx_first L args (by omega) 1 (by omega)
 have hA : ∀ y ∈ args,TxOk pr F 96 [.agg (exRow y)] (.str (exText y)) ∧ (exText y).length ≤ 2147483648:=by
  intro y hy
  have h2:=wExs_mem hy
  have h3:=len_exText y
  exact ⟨IH y (by omega) (okExs_mem hka hy),by omega⟩
 have hsum:=sum_texts args
 have hlt0:=len_exTexts args
 have hg0:=exTexts_getD 0 args
 have hg1:=exTexts_getD 1 args
 have hmap:=exTexts_map args
 have hty:=len_tysText ty
 have hnm : name.length ≤ 42000000:=by omega
 have hopl : op.length ≤ 42000000:=by omega
 simp only [exText]
 refine at_start hm L.f96.1 L.f96.2 rfl ?_
 refine at_seq hm ?_
 unfold r96_0
 show At pr F H.length (fin _ H.length _) _ _ _ _
 refine at_box hm rfl ?_
 intro H1 hH1 hlen hlt
 rcases hop with ⟨rfl,⟨y,y2,rfl⟩,⟨t,rfl⟩⟩
 ·
  have htx : TxOk pr F 127 [lst 5 (exRows [y,y2])] (.str (joinT [44,32] ([y,y2].map exText))):=tx_texts L [y,y2] 5 .dead (fun _ => rfl) (fun u hu => (hA u hu).1) (by omega) (by omega)
  have hT:=IHt t (by simp only [wTys]; omega) hkt.1
  have hT2:=len_tyText t
  simp only [wTys] at hw
  have e : textOf [108,105,115,116] name (exTexts [y,y2]) (tysText [t]) = [108,105,115,116,32] ++ tyText t ++ [40] ++ joinT [44,32] ([y,y2].map exText) ++ [41]:=by
   show [108,105,115,116,32] ++ tysText [t] ++ [40] ++ joinT [44,32] ((exTexts [y,y2]).map (·.2)) ++ [41] = _
   rw [hmap]
   simp only [tysText]
  rw [e]
  have hj:=len_joinT [44,32] ([y,y2].map exText)
  simp only [List.length_cons,List.length_nil,Nat.reduceAdd,Nat.zero_add] at hj
  have hl1 : (tyRows [t]).length = 1:=rfl
  refine' stH
  refine at_loop hm (fun mm e S' => ∃ (q : Nat) (s : Str) (J : List Blk) (rw3 : List Nat),S' = ⟨hp H1 H.length (.cells (exRow (.mk [108,105,115,116] name [y,y2] [t] a))) J,rw3⟩ ∧ q ≤ 1 ∧ (q = 1 → s = tyText t) ∧ Rx rw rw3 ∧ mm = 1 - q ∧ e = [(1,.ptr H.length 0),(6,.str s),(66,lst 6 (tyRows [t])),(67,.int .i64 ((tyRows [t]).length : Int)),(68,.int .i64 q)]) ?_ (m:=1) ⟨0,_,_,_,rfl,by omega,by omega,hR,rfl,rfl⟩
  clear hR
  rintro mm e S' ⟨q,s,J,rw3,rfl,hq,hs,hR,rfl,rfl⟩
  by_cases hq0 : q = 0
  ·subst hq0
   have htr : (tyRows [t])[0]? = some (tyRow t):=rfl
   have hl5 : lst 6 (tyRows [t]) = .list 6 .dead (tyRows [t]):=rfl
   rw [hl5]
   refine' stH
   exact ⟨0,by omega,1,tyText t,_,rwt,rfl,by omega,fun _ => rfl,hR,rfl,rfl⟩
  ·have hq1 : q = 1:=by omega
   subst hq1
   have hs1:=hs rfl
   subst hs1
   refine' stH
   exact fin_retF hH1 rfl rfl ⟨_,hR,rfl,rfl⟩
end Go.Proofs.YtmeakjgbjldkdaaGreat.Ai
namespace Go.Proofs.YtmeakjgbjldkdaaGreat.Ai
open Go
variable {pr : Prims} {F : Nat → Option IFn}
theorem tx_field (L : LibE pr F) {op name : Str} {args : List Xp} {ty : List Ty} {a : Int} (hka : okExs args) (hkt : okTys ty) (hw : 1 + op.length + name.length + wExs args + wTys ty ≤ 42000000) (IH : ∀ y,wEx y < 1 + op.length + name.length + wExs args + wTys ty → okEx y → TxOk pr F 96 [.agg (exRow y)] (.str (exText y))) (IHt : ∀ t,wTy t < 1 + op.length + name.length + wExs args + wTys ty → okTy t → TxOk pr F 52 [.agg (tyRow t)] (.str (tyText t))) (hop : op = [102,105,101,108,100] ∧ (∃ x,args = [x]) ∧ ty = []) :
  TxOk pr F 96 [.agg (exRow (.mk op name args ty a))] (.str (exText (.mk op name args ty a))):=by
 have hm:=L.hm
 refine TxOk.of hm ?_
 intro H rw hH
 have hal:=wExs_len args
 have hxs:=exRows_len args
 have hR : Rx rw rw:=Rx.rfl
 have hb:=det_sbind L (.mk op name args ty a)
 have h0:=tx_first L args (by omega) 0 (by omega)
 have h1:=tx_first L args (by omega) 1 (by omega)
 have hA : ∀ y ∈ args,TxOk pr F 96 [.agg (exRow y)] (.str (exText y)) ∧ (exText y).length ≤ 2147483648:=by
  intro y hy
  have h2:=wExs_mem hy
  have h3:=len_exText y
  exact ⟨IH y (by omega) (okExs_mem hka hy),by omega⟩
 have hsum:=sum_texts args
 have hlt0:=len_exTexts args
 have hg0:=exTexts_getD 0 args
 have hg1:=exTexts_getD 1 args
 have hmap:=exTexts_map args
 have hty:=len_tysText ty
 have hnm : name.length ≤ 42000000:=by omega
 have hopl : op.length ≤ 42000000:=by omega
 simp only [exText]
 refine at_start hm L.f96.1 L.f96.2 rfl ?_
 refine at_seq hm ?_
 unfold r96_0
 show At pr F H.length (fin _ H.length _) _ _ _ _
 refine at_box hm rfl ?_
 intro H1 hH1 hlen hlt
 rcases hop with ⟨rfl,⟨y,rfl⟩,rfl⟩
 ·
  obtain ⟨hy1,hy2⟩:=hA y List.mem_cons_self
  have ht:=tx_tight L y hy1 hy2
  have hl : (atT (bindF y.op,exText y) 7).length ≤ (exText y).length + 2:=len_atT _ _
  have e : textOf [102,105,101,108,100] name (exTexts [y]) (tysText []) = atT (bindF y.op,exText y) 7 ++ [46] ++ name:=by
   show atT ((exTexts [y]).getD 0 nulT) 7 ++ [46] ++ name = _
   rw [hg0]; rfl
  rw [e]
  refine' stH
  exact fin_retF hH1 rfl rfl ⟨_,hR,rfl,rfl⟩
theorem tx_call (L : LibE pr F) {op name : Str} {args : List Xp} {ty : List Ty} {a : Int} (hka : okExs args) (hkt : okTys ty) (hw : 1 + op.length + name.length + wExs args + wTys ty ≤ 42000000) (IH : ∀ y,wEx y < 1 + op.length + name.length + wExs args + wTys ty → okEx y → TxOk pr F 96 [.agg (exRow y)] (.str (exText y))) (IHt : ∀ t,wTy t < 1 + op.length + name.length + wExs args + wTys ty → okTy t → TxOk pr F 52 [.agg (tyRow t)] (.str (tyText t))) (hop : op = [99,97,108,108] ∧ (∃ x l,args = x :: l) ∧ ty = []) :
  TxOk pr F 96 [.agg (exRow (.mk op name args ty a))] (.str (exText (.mk op name args ty a))):=by
 have hm:=L.hm
 refine TxOk.of hm ?_
 intro H rw hH
 have hal:=wExs_len args
 have hxs:=exRows_len args
 have hR : Rx rw rw:=Rx.rfl
 have hb:=det_sbind L (.mk op name args ty a)
 have h0:=tx_first L args (by omega) 0 (by omega)
 have h1:=tx_first L args (by omega) 1 (by omega)
 have hA : ∀ y ∈ args,TxOk pr F 96 [.agg (exRow y)] (.str (exText y)) ∧ (exText y).length ≤ 2147483648:=by
  intro y hy
  have h2:=wExs_mem hy
  have h3:=len_exText y
  exact ⟨IH y (by omega) (okExs_mem hka hy),by omega⟩
 have hsum:=sum_texts args
 have hlt0:=len_exTexts args
 have hg0:=exTexts_getD 0 args
 have hg1:=exTexts_getD 1 args
 have hmap:=exTexts_map args
 have hty:=len_tysText ty
 have hnm : name.length ≤ 42000000:=by omega
 have hopl : op.length ≤ 42000000:=by omega
 simp only [exText]
 refine at_start hm L.f96.1 L.f96.2 rfl ?_
 refine at_seq hm ?_
 unfold r96_0
 show At pr F H.length (fin _ H.length _) _ _ _ _
 refine at_box hm rfl ?_
 intro H1 hH1 hlen hlt
 rcases hop with ⟨rfl,⟨y,l,rfl⟩,rfl⟩
 ·
  obtain ⟨hy1,hy2⟩:=hA y List.mem_cons_self
  have ht:=tx_tight L y hy1 hy2
  have hl : (atT (bindF y.op,exText y) 7).length ≤ (exText y).length + 2:=len_atT _ _
  have hsl:=sum_texts l
  simp only [wExs,exRows,List.length_cons] at hw hal hxs
  have htx:=tx_texts L l 5 .dead (fun _ => rfl) (fun u hu => (hA u (List.mem_cons_of_mem _ hu)).1) (by omega) (by omega)
  have e : textOf [99,97,108,108] name (exTexts (y :: l)) (tysText []) = atT (bindF y.op,exText y) 7 ++ [46] ++ name ++ [40] ++ joinT [44,32] (l.map exText) ++ [41]:=by
   show atT ((exTexts (y :: l)).getD 0 nulT) 7 ++ [46] ++ name ++ [40] ++ joinT [44,32] (((exTexts (y :: l)).drop 1).map (·.2)) ++ [41] = _
   rw [hg0,exTexts_cons]
   show atT (bindF y.op,exText y) 7 ++ [46] ++ name ++ [40] ++ joinT [44,32] ((exTexts l).map (·.2)) ++ [41] = _
   rw [exTexts_map]
  rw [e]
  have hj:=len_joinT [44,32] (l.map exText)
  simp only [List.length_cons,List.length_nil,Nat.reduceAdd,Nat.zero_add] at hj
  refine' stH
  have hln : ¬((exRows (y :: l)).length : Int) < 1:=by simp only [exRows,List.length_cons]; omega
  rw [if_neg hln]
  refine g_q rfl (v:=.list 5 .dead (exRows l)) slice_tailG ?_
  refine' stH
  exact fin_retF hH1 rfl rfl ⟨_,hR,rfl,rfl⟩
theorem tx_index (L : LibE pr F) {op name : Str} {args : List Xp} {ty : List Ty} {a : Int} (hka : okExs args) (hkt : okTys ty) (hw : 1 + op.length + name.length + wExs args + wTys ty ≤ 42000000) (IH : ∀ y,wEx y < 1 + op.length + name.length + wExs args + wTys ty → okEx y → TxOk pr F 96 [.agg (exRow y)] (.str (exText y))) (IHt : ∀ t,wTy t < 1 + op.length + name.length + wExs args + wTys ty → okTy t → TxOk pr F 52 [.agg (tyRow t)] (.str (tyText t))) (hop : op = [105,110,100,101,120] ∧ (∃ x z,args = [x,z]) ∧ ty = []) :
  TxOk pr F 96 [.agg (exRow (.mk op name args ty a))] (.str (exText (.mk op name args ty a))):=by
 have hm:=L.hm
 refine TxOk.of hm ?_
 intro H rw hH
 have hal:=wExs_len args
 have hxs:=exRows_len args
 have hR : Rx rw rw:=Rx.rfl
 have hb:=det_sbind L (.mk op name args ty a)
 have h0:=tx_first L args (by omega) 0 (by omega)
 have h1:=tx_first L args (by omega) 1 (by omega)
 have hA : ∀ y ∈ args,TxOk pr F 96 [.agg (exRow y)] (.str (exText y)) ∧ (exText y).length ≤ 2147483648:=by
  intro y hy
  have h2:=wExs_mem hy
  have h3:=len_exText y
  exact ⟨IH y (by omega) (okExs_mem hka hy),by omega⟩
 have hsum:=sum_texts args
 have hlt0:=len_exTexts args
 have hg0:=exTexts_getD 0 args
 have hg1:=exTexts_getD 1 args
 have hmap:=exTexts_map args
 have hty:=len_tysText ty
 have hnm : name.length ≤ 42000000:=by omega
 have hopl : op.length ≤ 42000000:=by omega
 simp only [exText]
 refine at_start hm L.f96.1 L.f96.2 rfl ?_
 refine at_seq hm ?_
 unfold r96_0
 show At pr F H.length (fin _ H.length _) _ _ _ _
 refine at_box hm rfl ?_
 intro H1 hH1 hlen hlt
 rcases hop with ⟨rfl,⟨y,y2,rfl⟩,rfl⟩
 ·
  obtain ⟨hy1,hy2⟩:=hA y List.mem_cons_self
  obtain ⟨hy3,hy4⟩:=hA y2 (by simp)
  have ht:=tx_tight L y hy1 hy2
  have hl : (atT (bindF y.op,exText y) 7).length ≤ (exText y).length + 2:=len_atT _ _
  have e : textOf [105,110,100,101,120] name (exTexts [y,y2]) (tysText []) = atT (bindF y.op,exText y) 7 ++ [91] ++ exText y2 ++ [93]:=by
   show atT ((exTexts [y,y2]).getD 0 nulT) 7 ++ [91] ++ ((exTexts [y,y2]).getD 1 nulT).2 ++ [93] = _
   rw [hg0,hg1]; rfl
  rw [e]
  refine' stH
  exact fin_retF hH1 rfl rfl ⟨_,hR,rfl,rfl⟩
end Go.Proofs.YtmeakjgbjldkdaaGreat.Ai
namespace Go.Proofs.YtmeakjgbjldkdaaGreat.Ai
open Go
variable {pr : Prims} {F : Nat → Option IFn}
theorem tx_neg (L : LibE pr F) {op name : Str} {args : List Xp} {ty : List Ty} {a : Int} (hka : okExs args) (hkt : okTys ty) (hw : 1 + op.length + name.length + wExs args + wTys ty ≤ 42000000) (IH : ∀ y,wEx y < 1 + op.length + name.length + wExs args + wTys ty → okEx y → TxOk pr F 96 [.agg (exRow y)] (.str (exText y))) (IHt : ∀ t,wTy t < 1 + op.length + name.length + wExs args + wTys ty → okTy t → TxOk pr F 52 [.agg (tyRow t)] (.str (tyText t))) (hop : (op = [110,101,103] ∨ op = [110,111,116]) ∧ (∃ x,args = [x]) ∧ ty = []) :
  TxOk pr F 96 [.agg (exRow (.mk op name args ty a))] (.str (exText (.mk op name args ty a))):=by
 have hm:=L.hm
 refine TxOk.of hm ?_
 intro H rw hH
 have hal:=wExs_len args
 have hxs:=exRows_len args
 have hR : Rx rw rw:=Rx.rfl
 have hb:=det_sbind L (.mk op name args ty a)
 have h0:=tx_first L args (by omega) 0 (by omega)
 have h1:=tx_first L args (by omega) 1 (by omega)
 have hA : ∀ y ∈ args,TxOk pr F 96 [.agg (exRow y)] (.str (exText y)) ∧ (exText y).length ≤ 2147483648:=by
  intro y hy
  have h2:=wExs_mem hy
  have h3:=len_exText y
  exact ⟨IH y (by omega) (okExs_mem hka hy),by omega⟩
 have hsum:=sum_texts args
 have hlt0:=len_exTexts args
 have hg0:=exTexts_getD 0 args
 have hg1:=exTexts_getD 1 args
 have hmap:=exTexts_map args
 have hty:=len_tysText ty
 have hnm : name.length ≤ 42000000:=by omega
 have hopl : op.length ≤ 42000000:=by omega
 simp only [exText]
 refine at_start hm L.f96.1 L.f96.2 rfl ?_
 refine at_seq hm ?_
 unfold r96_0
 show At pr F H.length (fin _ H.length _) _ _ _ _
 refine at_box hm rfl ?_
 intro H1 hH1 hlen hlt
 rcases hop with ⟨rfl | rfl,⟨y,rfl⟩,rfl⟩
 all_goals
   obtain ⟨hy1,hy2⟩:=hA y List.mem_cons_self
   have ht:=tx_at L y 6 hy1 hy2
   have hl : (atT (bindF y.op,exText y) 6).length ≤ (exText y).length + 2:=len_atT _ _
   refine' stH
   refine fin_retF hH1 rfl rfl ⟨_,hR,?_,rfl⟩
   first
    | (show _ = Res.ret (AV.str ([45] ++ atT ((exTexts [y]).getD 0 nulT) 6)); rw [hg0]; rfl)
    | (show _ = Res.ret (AV.str ([33] ++ atT ((exTexts [y]).getD 0 nulT) 6)); rw [hg0]; rfl)
end Go.Proofs.YtmeakjgbjldkdaaGreat.Ai
namespace Go.Proofs.YtmeakjgbjldkdaaGreat.Ai
open Go
variable {pr : Prims} {F : Nat → Option IFn}
theorem tx_bin (L : LibE pr F) {op name : Str} {args : List Xp} {ty : List Ty} {a : Int} (hka : okExs args) (hkt : okTys ty) (hw : 1 + op.length + name.length + wExs args + wTys ty ≤ 42000000) (IH : ∀ y,wEx y < 1 + op.length + name.length + wExs args + wTys ty → okEx y → TxOk pr F 96 [.agg (exRow y)] (.str (exText y))) (IHt : ∀ t,wTy t < 1 + op.length + name.length + wExs args + wTys ty → okTy t → TxOk pr F 52 [.agg (tyRow t)] (.str (tyText t))) (hop : 0 ≤ levelF op ∧ (∃ x z,args = [x,z]) ∧ ty = []) :
  TxOk pr F 96 [.agg (exRow (.mk op name args ty a))] (.str (exText (.mk op name args ty a))):=by
 have hm:=L.hm
 refine TxOk.of hm ?_
 intro H rw hH
 have hal:=wExs_len args
 have hxs:=exRows_len args
 have hR : Rx rw rw:=Rx.rfl
 have hb:=det_sbind L (.mk op name args ty a)
 have h0:=tx_first L args (by omega) 0 (by omega)
 have h1:=tx_first L args (by omega) 1 (by omega)
 have hA : ∀ y ∈ args,TxOk pr F 96 [.agg (exRow y)] (.str (exText y)) ∧ (exText y).length ≤ 2147483648:=by
  intro y hy
  have h2:=wExs_mem hy
  have h3:=len_exText y
  exact ⟨IH y (by omega) (okExs_mem hka hy),by omega⟩
 have hsum:=sum_texts args
 have hlt0:=len_exTexts args
 have hg0:=exTexts_getD 0 args
 have hg1:=exTexts_getD 1 args
 have hmap:=exTexts_map args
 have hty:=len_tysText ty
 have hnm : name.length ≤ 42000000:=by omega
 have hopl : op.length ≤ 42000000:=by omega
 simp only [exText]
 refine at_start hm L.f96.1 L.f96.2 rfl ?_
 refine at_seq hm ?_
 unfold r96_0
 show At pr F H.length (fin _ H.length _) _ _ _ _
 refine at_box hm rfl ?_
 intro H1 hH1 hlen hlt
 rcases hop with ⟨hlv,⟨y,y2,rfl⟩,rfl⟩
 ·
  obtain ⟨hy1,hy2⟩:=hA y List.mem_cons_self
  obtain ⟨hy3,hy4⟩:=hA y2 (by simp)
  by_cases hop : op = [61,62]
  ·subst hop
   have ht:=tx_at L y 1 hy1 hy2
   have ht2:=tx_at L y2 0 hy3 hy4
   have hl : (atT (bindF y.op,exText y) 1).length ≤ (exText y).length + 2:=len_atT _ _
   have hl2 : (atT (bindF y2.op,exText y2) 0).length ≤ (exText y2).length + 2:=len_atT _ _
   have e : textOf [61,62] name (exTexts [y,y2]) (tysText []) = atT (bindF y.op,exText y) 1 ++ [32,61,62,32] ++ atT (bindF y2.op,exText y2) 0:=by
    show atT ((exTexts [y,y2]).getD 0 nulT) 1 ++ [32] ++ [61,62] ++ [32] ++ atT ((exTexts [y,y2]).getD 1 nulT) 0 = _
    rw [hg0,hg1]
    simp
   rw [e]
   refine' stH
   exact fin_retF hH1 rfl rfl ⟨_,hR,rfl,rfl⟩
  ·have hle : levelF op ≤ 5:=by
    unfold levelF
    repeat' split
    all_goals omega
   have hl0 : levelF op ≠ 0:=by
    intro h
    unfold levelF at h
    rw [if_neg hop] at h
    revert h
    repeat' split
    all_goals omega
   have n1 : op ≠ [110,117,109]:=by rintro rfl; revert hlv; decide
   have n2 : op ≠ [118,97,114]:=by rintro rfl; revert hlv; decide
   have n3 : op ≠ [102,105,101,108,100]:=by rintro rfl; revert hlv; decide
   have n4 : op ≠ [99,97,108,108]:=by rintro rfl; revert hlv; decide
   have n5 : op ≠ [110,101,119]:=by rintro rfl; revert hlv; decide
   have n6 : op ≠ [108,105,115,116]:=by rintro rfl; revert hlv; decide
   have n7 : op ≠ [105,110,100,101,120]:=by rintro rfl; revert hlv; decide
   have n8 : op ≠ [108,101,110]:=by rintro rfl; revert hlv; decide
   have n9 : op ≠ [114,101,97,100]:=by rintro rfl; revert hlv; decide
   have n10 : op ≠ [110,101,103]:=by rintro rfl; revert hlv; decide
   have n11 : op ≠ [110,111,116]:=by rintro rfl; revert hlv; decide
   have hbk : bindF op = levelF op:=by unfold bindF; rw [if_neg (by simp only [n10,n11,or_self,not_false_eq_true]),if_pos hlv]
   replace hb : TxOk pr F 143 [.agg (exRow (.mk op name [y,y2] [] a))] (.int .i64 (levelF op)):=by rw [← hbk]; exact hb
   have e : textOf op name (exTexts [y,y2]) (tysText []) = atT (bindF y.op,exText y) (if levelF op = 3 then 4 else levelF op) ++ [32] ++ op ++ [32] ++ atT (bindF y2.op,exText y2) (levelF op + 1):=by
    unfold textOf
    simp only [n1,n2,n3,n4,n5,n6,n7,n8,n9,n10,n11,or_self,if_false,hl0]
    rw [if_neg (by omega),hg0,hg1]
    rfl
   rw [e]
   have ht:=tx_at L y (levelF op) hy1 hy2
   have ht4:=tx_at L y 4 hy1 hy2
   have ht2:=tx_at L y2 (levelF op + 1) hy3 hy4
   have hl4 : (atT (bindF y.op,exText y) 4).length ≤ (exText y).length + 2:=len_atT _ _
   have hl : (atT (bindF y.op,exText y) (levelF op)).length ≤ (exText y).length + 2:=len_atT _ _
   have hl2 : (atT (bindF y2.op,exText y2) (levelF op + 1)).length ≤ (exText y2).length + 2:=len_atT _ _
   refine' stH
   ·exact fin_retF hH1 rfl rfl ⟨_,hR,by rw [if_pos (by assumption)],rfl⟩
   ·exact fin_retF hH1 rfl rfl ⟨_,hR,by rw [if_neg (by assumption)],rfl⟩
end Go.Proofs.YtmeakjgbjldkdaaGreat.Ai
namespace Go.Proofs.YtmeakjgbjldkdaaGreat.Ai
open Go
variable {pr : Prims} {F : Nat → Option IFn}
theorem tx_text (L : LibE pr F) (x : Xp) (hok : okEx x) (hw : wEx x ≤ 42000000) (IH : ∀ y,wEx y < wEx x → okEx y → TxOk pr F 96 [.agg (exRow y)] (.str (exText y))) (IHt : ∀ t,wTy t < wEx x → okTy t → TxOk pr F 52 [.agg (tyRow t)] (.str (tyText t))) :
  TxOk pr F 96 [.agg (exRow x)] (.str (exText x)):=by
 obtain ⟨op,name,args,ty,a⟩:=x
 simp only [okEx] at hok
 obtain ⟨hop,hka,hkt⟩:=hok
 simp only [wEx] at hw IH IHt
 unfold okOp at hop
 rcases hop with ⟨h1,h2,h3,-⟩ | ⟨h1,h2,h3,-⟩ | ⟨h1,h2,h3,-⟩ | ⟨h1,h2,h3,-⟩ | ⟨h1,h2,-⟩ | ⟨h1,h2,h3,-⟩ | ⟨h1,h2,h3,-⟩ | ⟨h1,h2,h3,-⟩ | ⟨h1,h2,h3,-⟩ | ⟨h1,h2,h3,-⟩ | ⟨h1,h2,h3,-⟩
 ·exact tx_leaf1 L hka hkt hw IH IHt ⟨.inl h1,h2,h3⟩
 ·exact tx_leaf1 L hka hkt hw IH IHt ⟨.inr h1,h2,h3⟩
 ·exact tx_leaf2 L hka hkt hw IH IHt ⟨h1,h2,h3⟩
 ·exact tx_len L hka hkt hw IH IHt ⟨h1,h2,h3⟩
 ·exact tx_new L hka hkt hw IH IHt ⟨h1,h2⟩
 ·exact tx_list L hka hkt hw IH IHt ⟨h1,h2,h3⟩
 ·exact tx_field L hka hkt hw IH IHt ⟨h1,h2,h3⟩
 ·exact tx_call L hka hkt hw IH IHt ⟨h1,h2,h3⟩
 ·exact tx_index L hka hkt hw IH IHt ⟨h1,h2,h3⟩
 ·exact tx_neg L hka hkt hw IH IHt ⟨h1,h2,h3⟩
 ·exact tx_bin L hka hkt hw IH IHt ⟨h1,h2,h3⟩
theorem tx_type (L : LibE pr F) (t : Ty) (hok : okTy t) (hw : wTy t ≤ 42000000) (IH : ∀ y,wEx y < wTy t → okEx y → TxOk pr F 96 [.agg (exRow y)] (.str (exText y))) (IHt : ∀ u,wTy u < wTy t → okTy u → TxOk pr F 52 [.agg (tyRow u)] (.str (tyText u))) :
  TxOk pr F 52 [.agg (tyRow t)] (.str (tyText t)):=by
 have hm:=L.hm
 refine TxOk.of hm ?_
 intro H rw hH
 obtain ⟨kind,name,null,elem,pred,a⟩:=t
 simp only [okTy] at hok
 obtain ⟨hk,hpl,hke,hkp⟩:=hok
 simp only [wTy] at hw IH IHt
 have hR : Rx rw rw:=Rx.rfl
 have hpr : (exRows pred).length = pred.length:=exRows_len pred
 have hnm : name.length ≤ 42000000:=by omega
 refine at_start hm L.f52.1 L.f52.2 rfl ?_
 refine at_seq hm ?_
 unfold r52_0
 show At pr F H.length (fin _ H.length _) _ _ _ _
 refine at_box hm rfl ?_
 intro H1 hH1 hlen hlt
 obtain ⟨bt,hbt,hbe⟩ : ∃ bt : Str,bt.length ≤ 1400000000 ∧ bt = baseT (.mk kind name null elem pred a):=⟨_,by have:=len_baseT (.mk kind name null elem pred a); simp only [wTy] at this; omega,rfl⟩
 have hel : kind = 4 → ∃ u,elem = [u] ∧ TxOk pr F 52 [.agg (tyRow u)] (.str (tyText u)) ∧ (tyText u).length ≤ 1400000000:=by
  intro h4
  rcases hk with ⟨h,-⟩ | ⟨h,-⟩ | ⟨h,-⟩ | ⟨-,-,u,rfl⟩
  ·omega
  ·omega
  ·omega
  ·have hlu:=len_tyText u
   simp only [wTys] at hw IHt
   exact ⟨u,rfl,IHt u (by omega) hke.1,by omega⟩
 have hk4 : kind = 1 ∨ kind = 2 ∨ kind = 3 ∨ kind = 4:=by
  rcases hk with ⟨h,-⟩ | ⟨h,-⟩ | ⟨h,-⟩ | ⟨h,-⟩
  ·exact .inl h
  ·exact .inr (.inl h)
  ·exact .inr (.inr (.inl h))
  ·exact .inr (.inr (.inr h))
 have hE : ∀ s,s = baseT (.mk kind name null elem pred a) ++ (if null then [63] else []) ++ predText pred → s = tyText (.mk kind name null elem pred a):=by
  intro s hs
  rw [hs]
  simp only [tyText,baseT]
 have hB:=len_baseT (.mk kind name null elem pred a)
 simp only [wTy] at hB
 have hS : (baseT (.mk kind name null elem pred a) ++ (if null then [63] else [])).length ≤ 1400000000:=by
  rw [List.length_append]
  split <;> simp only [List.length_cons,List.length_nil] <;> omega
 rcases hk4 with rfl | rfl | rfl | rfl
 rotate_left 3
 ·obtain ⟨u,rfl,hu,hul⟩:=hel rfl
  have htr : (tyRows [u])[0]? = some (tyRow u):=rfl
  have hlt1 : (tyRows [u]).length = 1:=rfl
  refine' stH
  all_goals
   have hb0 : null = true ∨ null = false:=by cases null <;> simp
   obtain ⟨s0,hs0,hs1⟩ : ∃ s0 : Str,s0 = baseT (.mk 4 name null [u] pred a) ++ (if null then [63] else []) ∧ s0.length ≤ 1400000000:=⟨_,rfl,hS⟩
   refine at_loop hm (fun mm e S' => ∃ (q : Nat) (s : Str) (J : List Blk) (rw3 : List Nat),S' = ⟨hp H1 H.length (.cells (tyRow (.mk 4 name null [u] pred a))) J,rw3⟩ ∧ q ≤ pred.length ∧ s = s0 ++ predText (pred.take q) ∧ Rx rw rw3 ∧ mm = pred.length - q ∧ e = [(3,.str s),(38,lst 5 (exRows pred)),(39,.int .i64 ((exRows pred).length : Int)),(40,.int .i64 q)]) ?_ (m:=pred.length) ⟨0,_,_,_,rfl,by omega,?_,hR,rfl,rfl⟩
   rotate_left 1
   ·rw [hs0]
    simp only [List.take_zero,predText,List.append_nil,baseT,tysText,hq,if_true,Bool.false_eq_true,if_false,Int.reduceEq]
   clear hR
   rintro mm e S' ⟨q,s,J,rw3,rfl,hq0,rfl,hR,rfl,rfl⟩
   by_cases hq1 : q < pred.length
   ·obtain ⟨x,hx⟩ : ∃ x,pred[q]? = some x:=⟨_,List.getElem?_eq_getElem hq1⟩
    have hxr:=exRows_get hx
    have hl5 : lst 5 (exRows pred) = .list 5 .dead (exRows pred):=lst_of_lt (i:=q) (by omega)
    have hmem:=List.mem_of_getElem? hx
    have hwx:=wExs_mem hmem
    have hxl:=len_exText x
    have hX:=IH x (by omega) (okExs_mem hkp hmem)
    have hq00 : q = 0:=by omega
    subst hq00
    rw [hl5]
    have e0 : predText (List.take 0 pred) = []:=by simp [predText]
    rw [e0,List.append_nil]
    refine' stH
    refine ⟨pred.length - 1,by omega,1,_,_,rwt,rfl,by omega,?_,hR,rfl,rfl⟩
    rw [show (1 : Nat) = 0 + 1 from rfl,take_snoc hx]
    simp only [List.take_zero,List.nil_append,predText,List.append_nil]
   ·refine' stH
    have e1 : List.take q pred = pred:=by rw [show q = pred.length by omega,List.take_length]
    rw [e1]
    exact fin_retF hH1 rfl rfl ⟨_,hR,by rw [hE (s0 ++ predText pred) (by rw [hs0])],rfl⟩
 all_goals
  clear hel
  refine' stH
  all_goals
   have hb0 : null = true ∨ null = false:=by cases null <;> simp
   obtain ⟨s0,hs0,hs1⟩ : ∃ s0 : Str,s0 = baseT (.mk _ name null elem pred a) ++ (if null then [63] else []) ∧ s0.length ≤ 1400000000:=⟨_,rfl,hS⟩
   refine at_loop hm (fun mm e S' => ∃ (q : Nat) (s : Str) (J : List Blk) (rw3 : List Nat),S' = ⟨hp H1 H.length (.cells (tyRow (.mk _ name null elem pred a))) J,rw3⟩ ∧ q ≤ pred.length ∧ s = s0 ++ predText (pred.take q) ∧ Rx rw rw3 ∧ mm = pred.length - q ∧ e = [(3,.str s),(38,lst 5 (exRows pred)),(39,.int .i64 ((exRows pred).length : Int)),(40,.int .i64 q)]) ?_ (m:=pred.length) ⟨0,_,_,_,rfl,by omega,?_,hR,rfl,rfl⟩
   rotate_left 1
   ·rw [hs0]
    simp only [List.take_zero,predText,List.append_nil,baseT,hq,if_true,Bool.false_eq_true,if_false,Int.reduceEq]
   clear hR
   rintro mm e S' ⟨q,s,J,rw3,rfl,hq0,rfl,hR,rfl,rfl⟩
   by_cases hq1 : q < pred.length
   ·obtain ⟨x,hx⟩ : ∃ x,pred[q]? = some x:=⟨_,List.getElem?_eq_getElem hq1⟩
    have hxr:=exRows_get hx
    have hl5 : lst 5 (exRows pred) = .list 5 .dead (exRows pred):=lst_of_lt (i:=q) (by omega)
    have hmem:=List.mem_of_getElem? hx
    have hwx:=wExs_mem hmem
    have hxl:=len_exText x
    have hX:=IH x (by omega) (okExs_mem hkp hmem)
    have hq00 : q = 0:=by omega
    subst hq00
    rw [hl5]
    have e0 : predText (List.take 0 pred) = []:=by simp [predText]
    rw [e0,List.append_nil]
    refine' stH
    refine ⟨pred.length - 1,by omega,1,_,_,rwt,rfl,by omega,?_,hR,rfl,rfl⟩
    rw [show (1 : Nat) = 0 + 1 from rfl,take_snoc hx]
    simp only [List.take_zero,List.nil_append,predText,List.append_nil]
   ·refine' stH
    have e1 : List.take q pred = pred:=by rw [show q = pred.length by omega,List.take_length]
    rw [e1]
    exact fin_retF hH1 rfl rfl ⟨_,hR,by rw [hE (s0 ++ predText pred) (by rw [hs0])],rfl⟩
end Go.Proofs.YtmeakjgbjldkdaaGreat.Ai
namespace Go.Proofs.YtmeakjgbjldkdaaGreat.Ai
open Go
variable {pr : Prims} {F : Nat → Option IFn}
theorem tx_all (L : LibE pr F) : ∀ k : Nat,(∀ x,wEx x < k → wEx x ≤ 42000000 → okEx x → TxOk pr F 96 [.agg (exRow x)] (.str (exText x))) ∧ (∀ t,wTy t < k → wTy t ≤ 42000000 → okTy t → TxOk pr F 52 [.agg (tyRow t)] (.str (tyText t))):=by
 intro k
 induction k with
 | zero => exact ⟨fun x h => by omega,fun x h => by omega⟩
 | succ k ih =>
  obtain ⟨h1,h2⟩:=ih
  exact ⟨fun x hk hw ho => tx_text L x ho hw (fun y hy hoy => h1 y (by omega) (by omega) hoy) (fun t ht hot => h2 t (by omega) (by omega) hot),
   fun x hk hw ho => tx_type L x ho hw (fun y hy hoy => h1 y (by omega) (by omega) hoy) (fun t ht hot => h2 t (by omega) (by omega) hot)⟩
theorem tx_ty (L : LibE pr F) {t : Ty} (hw : wTy t ≤ 42000000) (ho : okTy t) : TxOk pr F 52 [.agg (tyRow t)] (.str (tyText t)):=(tx_all L (wTy t + 1)).2 t (by omega) hw ho
theorem tx_base (L : LibE pr F) {t : Ty} (hw : wTy t ≤ 42000000) (ho : okTy t ∨ isVoid t) : TxOk pr F 15 [.agg (tyRow t)] (.str (baseT t)):=by
 have hm:=L.hm
 refine TxOk.of hm ?_
 intro H rw hH
 have hR : Rx rw rw:=Rx.rfl
 have hT : ∀ u,wTy u < wTy t → okTy u → TxOk pr F 52 [.agg (tyRow u)] (.str (tyText u)):=fun u hu hou => tx_ty L (by omega) hou
 have hk : ∃ kind name null elem pred a,t = .mk kind name null elem pred a ∧ ((kind = 1 ∨ kind = 2 ∨ kind = 3 ∨ kind = 0) ∨ kind = 4 ∧ ∃ u,elem = [u] ∧ TxOk pr F 52 [.agg (tyRow u)] (.str (tyText u)) ∧ (tyText u).length ≤ 1400000000):=by
  obtain ⟨kind,name,null,elem,pred,a⟩:=t
  refine ⟨kind,name,null,elem,pred,a,rfl,?_⟩
  rcases ho with ho | ⟨a',ha⟩
  ·simp only [okTy] at ho
   obtain ⟨hk,-,hke,-⟩:=ho
   rcases hk with ⟨h,-⟩ | ⟨h,-⟩ | ⟨h,-⟩ | ⟨h,-,u,rfl⟩
   ·exact .inl (.inl h)
   ·exact .inl (.inr (.inl h))
   ·exact .inl (.inr (.inr (.inl h)))
   ·refine .inr ⟨h,u,rfl,?_⟩
    have h1:=len_tyText u
    simp only [wTy,wTys] at hw hT
    exact ⟨hT u (by omega) hke.1,by omega⟩
  ·injection ha with h1
   exact .inl (.inr (.inr (.inr h1)))
 obtain ⟨kind,name,null,elem,pred,a,rfl,hk⟩:=hk
 clear hT ho
 refine at_start hm L.f15.1 L.f15.2 rfl ?_
 refine at_seq hm ?_
 unfold r15_0
 show At pr F H.length (fin _ H.length _) _ _ _ _
 refine at_box hm rfl ?_
 intro H1 hH1 hlen hlt
 rcases hk with (rfl | rfl | rfl | rfl) | ⟨rfl,u,rfl,hu,hul⟩
 rotate_left 4
 ·have htr : (tyRows [u])[0]? = some (tyRow u):=rfl
  have hlt1 : (tyRows [u]).length = 1:=rfl
  refine' stH
  exact fin_retF hH1 rfl rfl ⟨_,hR,rfl,rfl⟩
 all_goals
  refine' stH
  exact fin_retF hH1 rfl rfl ⟨_,hR,rfl,rfl⟩
theorem parRow_len (ps : List Par) : (ps.map parRow).length = ps.length:=List.length_map _
theorem wPar_ty (p : Par) : wTy p.type ≤ wPar p:=by simp only [wPar]; omega
theorem sum_bases (ps : List Par) : ((ps.map fun p => baseT p.type).map fun x => x.length + 1).sum ≤ 33 * wL wPar ps:=by
 induction ps with
 | nil => simp
 | cons p ps ih =>
  have h:=len_baseT p.type
  simp only [List.map_cons,List.sum_cons,wL,wPar] at ih ⊢
  omega
theorem tx_sig (L : LibE pr F) {name : Str} {ps : List Par} (hn : name.length ≤ 42000000) (hw : wL wPar ps ≤ 42000000) (ho : ∀ p ∈ ps,okPar p) : TxOk pr F 17 [.str name,lst 8 (ps.map parRow)] (.str (sigT name ps)):=by
 have hm:=L.hm
 have hlp:=parRow_len ps
 have hpl:=wL_len wPar (fun p => by simp only [wPar]; omega) ps
 have hsum:=sum_bases ps
 have hj:=len_joinT [44] (ps.map fun p => baseT p.type)
 simp only [List.length_cons,List.length_nil,Nat.zero_add] at hj
 refine TxOk.of0 hm L.f17.1 L.f17.2 rfl ?_
 intro H rw b hlt
 have hR : Rx rw rw:=Rx.rfl
 refine' stH
 refine at_loop hm (fun mm e S' => ∃ (q : Nat) (l : AV) (J : List Blk) (rw3 : List Nat),S' = ⟨hp H 0 b J,rw3⟩ ∧ q ≤ ps.length ∧ Lst rw 1 l (((ps.take q).map fun p => baseT p.type).map nmRow) rw3 ∧ Rx rw rw3 ∧ mm = ps.length - q ∧ e = [(0,.str name),(5,l),(8,lst 8 (ps.map parRow)),(9,.int .i64 ((ps.map parRow).length : Int)),(10,.int .i64 q)]) ?_ (m:=ps.length) ⟨0,_,[],rw,rfl,by omega,Lst.nil,Rx.rfl,rfl,rfl⟩
 clear hR
 rintro mm e S' ⟨q,l,J,rw3,rfl,hq0,hl,hR,rfl,rfl⟩
 by_cases hq1 : q < ps.length
 ·obtain ⟨p,hp⟩ : ∃ p,ps[q]? = some p:=⟨_,List.getElem?_eq_getElem hq1⟩
  have hpr : (ps.map parRow)[q]? = some (parRow p):=by rw [List.getElem?_map,hp]; rfl
  have hmem:=List.mem_of_getElem? hp
  have hwp:=wL_mem wPar hmem
  have hwt:=wPar_ty p
  have hx1:=tx_base L (t:=p.type) (by omega) (.inl (ho p hmem).2)
  have hl5 : lst 8 (ps.map parRow) = .list 8 .dead (ps.map parRow):=lst_of_lt (i:=q) (by omega)
  rw [hl5]
  refine' stH
  refine id_append ?_
  refine g_append rfl rfl rfl ?_
  refine ap_lst (row:=nmRow (baseT p.type)) (hl.ext hRt) hR (by simp only [List.length_map,List.length_take,maxRow]; omega) (by simp only [List.length_map,List.length_take,maxRow]; omega) (by omega) ?_
  intro l4 rw4 hl4 hR4
  refine zrk6 ?_
  refine' stH
  refine ⟨ps.length - (q + 1),by omega,q + 1,l4,_,rw4,rfl,by omega,?_,hR4,rfl,rfl⟩
  rw [take_snoc hp,List.map_append,List.map_append]
  exact hl4
 ·refine' stH
  rw [show q = ps.length by omega,List.take_length] at hl
  refine g_call rfl rfl rfl ?_
  refine ⟨_,_,L.join (ps.map fun p => baseT p.type) [44] l _ _ hl.isL (by simp only [List.length_cons,List.length_nil,Nat.zero_add]; omega),?_⟩
  refine zrk6 ?_
  refine' stH
  exact fin_ret rfl rfl (hp_take hlt) ⟨_,hR,rfl,rfl⟩
end Go.Proofs.YtmeakjgbjldkdaaGreat.Ai
namespace Go.Proofs.YtmeakjgbjldkdaaGreat.Ai
open Go
variable {pr : Prims} {F : Nat → Option IFn}
structure TabU (H : List Blk) (n mb : Nat) (cs : List Cls) (z : Nat) (tg : Tag) (zb : Nat) (tb : Tag) (U : List (List Nat)) (o1 o2 o3 sl : AV) : Prop extends TabL H n mb cs z tg (.list zb tb (U.map upRow)) o1 o2 o3 sl where
 okc : ∀ c ∈ cs,okCls c
 ulen : U.length = cs.length
 ups : ∀ i l,U[i]? = some l → IsUps cs i l
 acyc : ∀ i,i < cs.length → ¬Up cs i i
 zbs : U ≠ [] → zb = 1
theorem TabU.keep {H H' : List Blk} {n mb z zb : Nat} {tg tb : Tag} {cs : List Cls} {U : List (List Nat)} {o1 o2 o3 sl : AV} (T : TabU H n mb cs z tg zb tb U o1 o2 o3 sl) (h : Keep H H') : TabU H' n mb cs z tg zb tb U o1 o2 o3 sl:=
 {T.toTabL.keep h with okc:=T.okc,ulen:=T.ulen,ups:=T.ups,acyc:=T.acyc,zbs:=T.zbs}
theorem fin_firstT {H H1 M : List Blk} {rw : List Nat} {z : Blk} {vs : List AV} {t u kd : Nat} {c : Bool} {e : Env} {Q : Res → St → Prop} (hH : H1 = H ++ [z]) (he : eget e t = some (.ptr H.length 0)) (hu : eget e u = some (.bool c)) (hv : Row kd vs) (h : Q (.ret (.tup [.agg vs,.bool c])) ⟨H,rw⟩) :
  fin [.cell t (some kd),.tmp u] H.length Q .ret e ⟨hp H1 H.length (.cells vs) M,rw⟩:=by
 subst hH
 have e2 : rvals [.cell t (some kd),.tmp u] e (hp (H ++ [z]) H.length (.cells vs) M) = some [.agg vs,.bool c]:=by
  simp only [rvals,he,hu,load_own hv]
 refine fin_tup e2 ?_ take_own h
 have this : Ai.belowL H.length vs = true:=hv.below H.length
 simp only [Ai.belowL,this,Ai.below,Bool.and_self]
def mthZ : Mth:=⟨[],[],.mk 0 [] false [] [] 0,[],false,0⟩
def ownM (sig : Str) : List Mth → Option Mth
 | [] => none
 | m :: ms => if sigT m.name m.params = sig then some m else ownM sig ms
def ownF (cs : List Cls) (i : Nat) (sig : Str) : Option Mth:=match cs[i]? with
 | some c => ownM sig c.meths
 | none => none
theorem ownM_drop {sig : Str} {ms : List Mth} {q : Nat} {m : Mth} (h : ms[q]? = some m) : ownM sig (ms.drop q) = if sigT m.name m.params = sig then some m else ownM sig (ms.drop (q + 1)):=by
 obtain ⟨hl,he⟩:=List.getElem?_eq_some_iff.1 h
 rw [List.drop_eq_getElem_cons hl,he]
 rfl
theorem mth_bounds {cs : List Cls} {c : Cls} {m : Mth} (hc : c ∈ cs) (hm : m ∈ c.meths) (hw : wL wCls cs ≤ 42000000) : m.name.length ≤ 42000000 ∧ wL wPar m.params ≤ 42000000 ∧ wTy m.result ≤ 42000000 ∧ c.meths.length ≤ 42000000:=by
 have h1:=wL_mem wCls hc
 have h2:=wL_mem wMth hm
 have h3:=wL_len wMth (fun x => by simp only [wMth]; omega) c.meths
 simp only [wCls,wMth] at h1 h2 h3
 refine ⟨by omega,by omega,by omega,by omega⟩
theorem cls_meths {c : Cls} (h : okCls c) : ∀ m ∈ c.meths,okMth m:=h.2.2.2.2.2.2
theorem mthRow_len (ms : List Mth) : (ms.map mthRow).length = ms.length:=List.length_map _
theorem det_own (L : LibE pr F) {H : List Blk} {rw : List Nat} {n mb z zb : Nat} {tg tb : Tag} {cs : List Cls} {U : List (List Nat)} {o1 o2 o3 sl : AV} (T : TabU H n mb cs z tg zb tb U o1 o2 o3 sl) {i : Nat} (hi : i < cs.length) (sig : Str) :
  ∃ rw',Rx rw rw' ∧ Det pr F 65 [.ptr n 0,.int .i64 i,.str sig] ⟨H,rw⟩ (.ret (.tup [.agg (mthRow ((ownF cs i sig).getD mthZ)),.bool (ownF cs i sig).isSome])) ⟨H,rw'⟩:=by
 have hm:=L.hm
 suffices h : Wp pr F 65 [.ptr n 0,.int .i64 i,.str sig] ⟨H,rw⟩ fun r S' => ∃ rw',Rx rw rw' ∧ r = .ret (.tup [.agg (mthRow ((ownF cs i sig).getD mthZ)),.bool (ownF cs i sig).isSome]) ∧ S' = ⟨H,rw'⟩ by
  obtain ⟨r,S',hd,rw',h1,rfl,rfl⟩:=h.det hm
  exact ⟨rw',h1,hd⟩
 have hR : Rx rw rw:=Rx.rfl
 obtain ⟨c,hc⟩ : ∃ c,cs[i]? = some c:=⟨_,List.getElem?_eq_getElem hi⟩
 have hcr : (cs.map clsRow)[i]? = some (clsRow c):=by rw [List.getElem?_map,hc]; rfl
 have hz : z = 9:=T.sz (by intro h; rw [h] at hi; simp at hi)
 subst hz
 have hcm:=List.mem_of_getElem? hc
 have hmo:=cls_meths (T.okc c hcm)
 have hlm:=mthRow_len c.meths
 have hof : ownF cs i sig = ownM sig c.meths:=by unfold ownF; rw [hc]
 rw [hof]
 refine at_start hm L.f65.1 L.f65.2 rfl ?_
 refine at_seq hm ?_
 unfold r65_0
 show At pr F H.length (fin _ H.length _) _ _ _ _
 refine at_first hm ?_
 intro H1 hH1 hlen hlt
 have hF:=froz_first hH1 T.at_
 have hfew:=T.few
 have hlc : (cs.map clsRow).length = cs.length:=List.length_map _
 have hbig:=(T.big c hcm).2
 refine' stH
 refine at_loop hm (fun mm e S' => ∃ (q : Nat) (J : List Blk) (rw3 : List Nat),S' = ⟨hp H1 H.length (.cells (mthRow mthZ)) J,rw3⟩ ∧ q ≤ c.meths.length ∧ Rx rw rw3 ∧ ownM sig c.meths = ownM sig (c.meths.drop q) ∧ mm = c.meths.length - q ∧ e = [(2,.str sig),(6,.ptr H.length 0),(17,lst 11 (c.meths.map mthRow)),(18,.int .i64 ((c.meths.map mthRow).length : Int)),(19,.int .i64 q)]) ?_ (m:=c.meths.length) ⟨0,[],rw,rfl,by omega,Rx.rfl,rfl,rfl,rfl⟩
 clear hR
 rintro mm e S' ⟨q,J,rw3,rfl,hq0,hR,hod,rfl,rfl⟩
 by_cases hq1 : q < c.meths.length
 ·obtain ⟨m,hmq⟩ : ∃ m,c.meths[q]? = some m:=⟨_,List.getElem?_eq_getElem hq1⟩
  have hmem:=List.mem_of_getElem? hmq
  have hmr : (c.meths.map mthRow)[q]? = some (mthRow m):=by rw [List.getElem?_map,hmq]; rfl
  obtain ⟨hb1,hb2,hb3,hb4⟩:=mth_bounds hcm hmem T.wt
  obtain ⟨hk1,hk2,hk3,hk4⟩:=hmo m hmem
  have hsg:=tx_sig L hb1 hb2 hk2
  have hl5 : lst 11 (c.meths.map mthRow) = .list 11 .dead (c.meths.map mthRow):=lst_of_lt (i:=q) (by omega)
  rw [hl5]
  rw [ownM_drop hmq] at hod
  refine' stH
  ·rw [hod,if_pos (by assumption)]
   exact fin_firstT hH1 rfl rfl (row_mth m) ⟨_,hR,rfl,rfl⟩
  ·exact ⟨c.meths.length - (q + 1),by omega,q + 1,_,_,rfl,by omega,hR,by rw [hod,if_neg (by assumption)],rfl,rfl⟩
 ·refine' stH
  rw [hod,List.drop_eq_nil_of_le (by omega)]
  exact fin_firstT hH1 rfl rfl (row_mth mthZ) ⟨_,hR,rfl,rfl⟩
end Go.Proofs.YtmeakjgbjldkdaaGreat.Ai
namespace Go.Proofs.YtmeakjgbjldkdaaGreat.Ai
open Go
theorem trues_lt {bs' bs : List Bool} : ∀ {n : Nat},(∀ k,bs'.getD k false = true → bs.getD k false = true) →
  (trues bs' n).length ≤ (trues bs n).length ∧ ((∃ j,j < n ∧ bs.getD j false = true ∧ bs'.getD j false = false) → (trues bs' n).length < (trues bs n).length):=by
 intro n
 induction n with
 | zero => intro _; exact ⟨by simp [trues],fun ⟨j,h,_⟩ => by omega⟩
 | succ n ih =>
  intro h
  obtain ⟨h1,h2⟩:=ih h
  have hn:=h n
  rw [trues_succ,trues_succ,List.length_append,List.length_append]
  have e1 : ∀ b : Bool,(if b = true then [n] else []).length = if b = true then 1 else 0:=by intro b; cases b <;> rfl
  rw [e1,e1]
  refine ⟨?_,?_⟩
  ·cases hb : bs'.getD n false with
   | false => simp; omega
   | true => rw [hn hb]; simp; omega
  ·rintro ⟨j,hj,hb1,hb2⟩
   by_cases hjn : j = n
   ·subst hjn
    rw [hb1,hb2]
    simp; omega
   ·have:=h2 ⟨j,by omega,hb1,hb2⟩
    cases hb : bs'.getD n false with
    | false => simp; omega
    | true => rw [hn hb]; simp; omega
def muU (U : List (List Nat)) (i : Nat) : Nat:=(U.getD i []).length
theorem ups_mem {cs : List Cls} {i : Nat} {l : List Nat} (h : IsUps cs i l) (_hl : Linked cs) (k : Nat) : k ∈ l ↔ Up cs i k:=by
 obtain ⟨bs,hb,hu,rfl⟩:=h
 rw [← hu]
 unfold trues
 rw [List.mem_filter,List.mem_range]
 rw [List.getD_eq_getElem?_getD]
 constructor
 ·rintro ⟨h1,h2⟩
  cases hb2 : bs[k]? with
  | none => rw [hb2] at h2; simp at h2
  | some b => rw [hb2] at h2; simp at h2; rw [h2]
 ·intro h1
  refine ⟨?_,by rw [h1]; rfl⟩
  rw [← hb]
  exact (List.getElem?_eq_some_iff.1 h1).1
theorem mu_lt {cs : List Cls} {U : List (List Nat)} (hU : U.length = cs.length) (hup : ∀ i l,U[i]? = some l → IsUps cs i l) (hl : Linked cs) (hac : ∀ i,i < cs.length → ¬Up cs i i) {i j : Nat} (hi : i < cs.length) (h : Up cs i j) : muU U j < muU U i:=by
 have hj:=up_lt hl h
 obtain ⟨li,hli⟩ : ∃ l,U[i]? = some l:=⟨_,List.getElem?_eq_getElem (by omega)⟩
 obtain ⟨lj,hlj⟩ : ∃ l,U[j]? = some l:=⟨_,List.getElem?_eq_getElem (by omega)⟩
 obtain ⟨bi,hbi,hui,e1⟩:=hup i li hli
 obtain ⟨bj,hbj,huj,e2⟩:=hup j lj hlj
 unfold muU
 rw [List.getD_eq_getElem?_getD,List.getD_eq_getElem?_getD,hli,hlj]
 simp only [Option.getD_some]
 rw [e1,e2]
 have hget : ∀ (bs : List Bool) (k : Nat),bs.getD k false = true ↔ bs[k]? = some true:=by
  intro bs k
  rw [List.getD_eq_getElem?_getD]
  cases bs[k]? with
  | none => simp
  | some b => simp
 refine (trues_lt ?_).2 ⟨j,hj,?_,?_⟩
 ·intro k hk
  rw [hget] at hk ⊢
  rw [huj] at hk
  rw [hui]
  exact h.trans hk
 ·rw [hget,hui]
  exact h
 ·have : ¬(bj.getD j false = true):=by
   rw [hget,huj]
   exact hac j hj
  simpa using this
def supOf (cs : List Cls) (i : Nat) : Str:=match cs[i]? with
 | some c => c.super
 | none => []
def chainL (cs : List Cls) : Nat → Str → List Nat
 | 0,_ => []
 | k + 1,s => match place cs s with
  | some i => i :: chainL cs k (supOf cs i)
  | none => []
def chainF (cs : List Cls) (s : Str) : List Nat:=chainL cs (cs.length + 1) s
theorem place_nil {cs : List Cls} (h : ∀ c ∈ cs,okCls c) : place cs [] = none:=by
 cases hp : place cs [] with
 | none => rfl
 | some i =>
  obtain ⟨c,hc,hn⟩:=place_get hp
  have:=(h c (List.mem_of_getElem? hc)).1.pos
  rw [hn] at this
  simp at this
theorem sup_up {cs : List Cls} (h : ∀ c ∈ cs,okCls c) {i j : Nat} (hj : place cs (supOf cs i) = some j) : Up cs i j:=by
 unfold supOf at hj
 cases hc : cs[i]? with
 | none =>
  rw [hc] at hj
  simp only at hj
  rw [place_nil h] at hj
  simp at hj
 | some c =>
  rw [hc] at hj
  simp only at hj
  refine .one ?_
  unfold nxt
  rw [hc]
  simp only
  unfold nxtC
  by_cases hs : c.super = []
  ·rw [hs,place_nil h] at hj; simp at hj
  ·rw [if_neg hs,hj]
   simp
def chainI (cs : List Cls) (k : Nat) : Option Nat → List Nat
 | some i => i :: chainL cs k (supOf cs i)
 | none => []
theorem chainL_eq (cs : List Cls) (k : Nat) (s : Str) : chainL cs (k + 1) s = chainI cs k (place cs s):=by
 simp only [chainL]
 cases place cs s <;> rfl
theorem chain_lt {cs : List Cls} : ∀ (k : Nat) (s : Str),∀ i ∈ chainL cs k s,i < cs.length:=by
 intro k
 induction k with
 | zero => intro s i h; cases h
 | succ k ih =>
  intro s i h
  simp only [chainL] at h
  cases hp : place cs s with
  | none => rw [hp] at h; cases h
  | some j =>
   rw [hp] at h
   simp only at h
   rcases List.mem_cons.1 h with h1 | h1
   ·obtain ⟨c,hc,-⟩:=place_get hp
    rw [h1]
    exact (List.getElem?_eq_some_iff.1 hc).1
   ·exact ih _ i h1
theorem chain_len {cs : List Cls} : ∀ (k : Nat) (s : Str),(chainL cs k s).length ≤ k:=by
 intro k
 induction k with
 | zero => intro s; simp [chainL]
 | succ k ih =>
  intro s
  simp only [chainL]
  split
  ·have:=ih (supOf cs ‹_›); simp only [List.length_cons]; omega
  ·simp
end Go.Proofs.YtmeakjgbjldkdaaGreat.Ai
namespace Go.Proofs.YtmeakjgbjldkdaaGreat.Ai
open Go
variable {pr : Prims} {F : Nat → Option IFn}
theorem det_chain (L : LibE pr F) {H : List Blk} {rw : List Nat} {n mb z zb : Nat} {tg tb : Tag} {cs : List Cls} {U : List (List Nat)} {o1 o2 o3 sl : AV} (T : TabU H n mb cs z tg zb tb U o1 o2 o3 sl) (s : Str) :
  ∃ (v : AV) (rw' : List Nat),Lst rw 1 v (ixRows (chainF cs s)) rw' ∧ Rx rw rw' ∧ Det pr F 66 [.ptr n 0,.str s] ⟨H,rw⟩ (.ret v) ⟨H,rw'⟩:=by
 have hm:=L.hm
 suffices h : Wp pr F 66 [.ptr n 0,.str s] ⟨H,rw⟩ fun r S' => ∃ (v : AV) (rw' : List Nat),Lst rw 1 v (ixRows (chainF cs s)) rw' ∧ Rx rw rw' ∧ r = .ret v ∧ S' = ⟨H,rw'⟩ by
  obtain ⟨r,S',hd,v,rw',h1,h2,rfl,rfl⟩:=h.det hm
  exact ⟨v,rw',h1,h2,hd⟩
 have hlt : n < H.length:=(List.getElem?_eq_some_iff.1 T.at_).1
 have hne : n ≠ mb:=by
  intro h
  have:=T.at_
  rw [h,T.mp] at this
  simp at this
 have hFm:=froz_n hne T.mp
 have hfew:=T.few
 have hlm : (cs.map clsRow).length = cs.length:=List.length_map _
 have hmu : ∀ i,muU U i ≤ cs.length:=by
  intro i
  unfold muU
  rw [List.getD_eq_getElem?_getD]
  cases hl : U[i]? with
  | none => simp
  | some l =>
   obtain ⟨bs,hb,-,rfl⟩:=T.ups i l hl
   exact trues_len bs _
 have main : ∀ (cur : Option Nat),cur = place cs s → ∀ w : AV,w = .int .i64 (((cur.getD 0 : Nat) : Int)) → At pr F H.length (fin [RVar.tmp 4] H.length fun r S' => ∃ (v : AV) (rw' : List Nat),Lst rw 1 v (ixRows (chainF cs s)) rw' ∧ Rx rw rw' ∧ r = .ret v ∧ S' = ⟨H,rw'⟩)
   (.loop [0,5,6,7] (.seq (.seq r66_3 (.cond (.tmp 17) (.skip) (.exit 0))) (.seq (.block 1 r66_4) r66_5))) [Fr.blk 0,Fr.code (r66_6.seq IC.ret)]
   [(0,.ptr n 0),(5,.list 0 .full []),(6,w),(7,.bool cur.isSome)] ⟨hp H n (.cells [.list z tg (cs.map clsRow),.map mb,.list zb tb (U.map upRow),o1,o2,o3,sl]) [],rw⟩:=by
  rintro cur hcur w rfl
  refine at_loop hm (fun mm e S' => ∃ (vis : List Nat) (cur : Option Nat) (k : Nat) (l : AV) (rw' : List Nat),S' = ⟨hp H n (.cells [.list z tg (cs.map clsRow),.map mb,.list zb tb (U.map upRow),o1,o2,o3,sl]) [],rw'⟩ ∧ chainF cs s = vis ++ chainI cs k cur ∧ (∀ i,cur = some i → i < cs.length ∧ muU U i ≤ k) ∧ (cur.isSome = true → vis.length + k ≤ cs.length) ∧ Lst rw 1 l (ixRows vis) rw' ∧ Rx rw rw' ∧
   mm = (if cur.isSome then k + 1 else 0) ∧ e = [(0,.ptr n 0),(5,l),(6,.int .i64 ((cur.getD 0 : Nat) : Int)),(7,.bool cur.isSome)]) ?_ (m:=if cur.isSome then cs.length + 1 else 0) ⟨[],cur,cs.length,_,rw,rfl,?_,?_,by simp,Lst.nil,Rx.rfl,rfl,rfl⟩
  ·clear hcur cur
   rintro mm e S' ⟨vis,cur,k,l,rw',rfl,hch,hcb,hvl,hl,hR,rfl,rfl⟩
   cases cur with
   | none =>
    simp only [chainI,List.append_nil] at hch
    refine' stH
    exact fin_ret rfl (hl.isL.below _) (hp_take hlt) ⟨l,rw',by rw [hch]; exact hl,hR,rfl,st_of T.at_⟩
   | some i =>
    obtain ⟨hi,hik⟩:=hcb i rfl
    replace hvl:=hvl rfl
    obtain ⟨c,hc⟩ : ∃ c,cs[i]? = some c:=⟨_,List.getElem?_eq_getElem hi⟩
    have hcr : (cs.map clsRow)[i]? = some (clsRow c):=by rw [List.getElem?_map,hc]; rfl
    have hz : z = 9:=T.sz (by intro h; rw [h] at hi; simp at hi)
    subst hz
    have hso : supOf cs i = c.super:=by unfold supOf; rw [hc]
    simp only [Option.getD_some,Option.isSome_some]
    refine' stH
    refine id_append ?_
    refine g_append rfl rfl rfl ?_
    refine ap_lst (row:=ixRow i) hl hR (by simp only [ixRows_len,maxRow]; omega) (by simp only [ixRows_len,maxRow]; omega) (by omega) ?_
    intro l4 rw4 hl4 hR4
    refine zrk6 ?_
    refine' stH
    ·have hup : Up cs i kq:=sup_up T.okc (by rw [hso]; exact hkq)
     have hml:=mu_lt T.ulen T.ups T.linked T.acyc hi hup
     obtain ⟨k',rfl⟩ : ∃ k',k = k' + 1:=⟨k - 1,by omega⟩
     refine ⟨k' + 1,by simp only [if_true]; omega,vis ++ [i],some kq,k',l4,rw4,rfl,?_,?_,by simp; omega,by rw [ixRows_append]; exact hl4,hR4,by simp,rfl⟩
     ·rw [hch,chainI,hso,chainL_eq,hkq,List.append_assoc]
      rfl
     ·intro j hj
      simp only [Option.some.injEq] at hj
      subst hj
      exact ⟨hkl,by omega⟩
    ·refine ⟨0,by simp,vis ++ [i],none,0,l4,rw4,rfl,?_,by simp,by simp,by rw [ixRows_append]; exact hl4,hR4,by simp,rfl⟩
     rw [hch,chainI,hso]
     cases k with
     | zero => simp [chainL,chainI]
     | succ k => rw [chainL_eq,hkq]; simp [chainI]
  ·rw [chainF,chainL_eq,hcur]
   rfl
  ·intro i hi
   rw [hi] at hcur
   obtain ⟨c,hc,-⟩:=place_get hcur.symm
   exact ⟨(List.getElem?_eq_some_iff.1 hc).1,hmu i⟩
 refine at_start_hp hm L.f66.1 L.f66.2 rfl (hp_of T.at_) ?_
 refine' stH
 ·exact main (some kq) hkq.symm _ rfl
 ·exact main none hkq.symm _ rfl
end Go.Proofs.YtmeakjgbjldkdaaGreat.Ai
namespace Go.Proofs.YtmeakjgbjldkdaaGreat.Ai
open Go
variable {pr : Prims} {F : Nat → Option IFn}
theorem fin_first3 {H H1 M : List Blk} {rw : List Nat} {z : Blk} {vs : List AV} {t u w kd : Nat} {s : Str} {c : Bool} {e : Env} {Q : Res → St → Prop} (hH : H1 = H ++ [z]) (he : eget e t = some (.ptr H.length 0)) (hu : eget e u = some (.str s)) (hw : eget e w = some (.bool c)) (hv : Row kd vs) (h : Q (.ret (.tup [.agg vs,.str s,.bool c])) ⟨H,rw⟩) :
  fin [.cell t (some kd),.tmp u,.tmp w] H.length Q .ret e ⟨hp H1 H.length (.cells vs) M,rw⟩:=by
 subst hH
 have e2 : rvals [.cell t (some kd),.tmp u,.tmp w] e (hp (H ++ [z]) H.length (.cells vs) M) = some [.agg vs,.str s,.bool c]:=by
  simp only [rvals,he,hu,hw,load_own hv]
 refine fin_tup e2 ?_ take_own h
 have this : Ai.belowL H.length vs = true:=hv.below H.length
 simp only [Ai.belowL,this,Ai.below,Bool.and_self]
def fldZ : Fld:=⟨[],.mk 0 [] false [] [] 0,false,0⟩
def fldM (nm : Str) : List Fld → Option Fld
 | [] => none
 | f :: fs => if f.name = nm then some f else fldM nm fs
theorem fldM_drop {nm : Str} {fs : List Fld} {q : Nat} {f : Fld} (h : fs[q]? = some f) : fldM nm (fs.drop q) = if f.name = nm then some f else fldM nm (fs.drop (q + 1)):=by
 obtain ⟨hl,he⟩:=List.getElem?_eq_some_iff.1 h
 rw [List.drop_eq_getElem_cons hl,he]
 rfl
def fldI (cs : List Cls) (nm : Str) (i : Nat) : Option (Str × Fld):=match cs[i]? with
 | some c => (fldM nm c.fields).map fun f => (c.name,f)
 | none => none
def fldF (cs : List Cls) (nm : Str) : List Nat → Option (Str × Fld)
 | [] => none
 | i :: l => match fldI cs nm i with
  | some r => some r
  | none => fldF cs nm l
theorem fldF_drop {cs : List Cls} {nm : Str} {l : List Nat} {q i : Nat} (h : l[q]? = some i) : fldF cs nm (l.drop q) = match fldI cs nm i with | some r => some r | none => fldF cs nm (l.drop (q + 1)):=by
 obtain ⟨hl,he⟩:=List.getElem?_eq_some_iff.1 h
 rw [List.drop_eq_getElem_cons hl,he]
 rfl
def fldRes (r : Option (Str × Fld)) : AV:=.tup [.agg (fldRow ((r.map (·.2)).getD fldZ)),.str ((r.map (·.1)).getD []),.bool r.isSome]
theorem ixRows_get {l : List Nat} {q i : Nat} (h : l[q]? = some i) : (ixRows l)[q]? = some (ixRow i):=by rw [ixRows,List.getElem?_map,h]; rfl
theorem fldRow_len (ms : List Fld) : (ms.map fldRow).length = ms.length:=List.length_map _
theorem fld_bounds {cs : List Cls} {c : Cls} (hc : c ∈ cs) (hw : wL wCls cs ≤ 42000000) : c.fields.length ≤ 42000000 ∧ ∀ f ∈ c.fields,f.name.length ≤ 42000000 ∧ wTy f.type ≤ 42000000:=by
 have h1:=wL_mem wCls hc
 have h3:=wL_len wFld (fun x => by simp only [wFld]; omega) c.fields
 simp only [wCls] at h1
 refine ⟨by omega,fun f hf => ?_⟩
 have h2:=wL_mem wFld hf
 simp only [wFld] at h2
 exact ⟨by omega,by omega⟩
theorem det_field (L : LibE pr F) {H : List Blk} {rw : List Nat} {n mb z zb : Nat} {tg tb : Tag} {cs : List Cls} {U : List (List Nat)} {o1 o2 o3 sl : AV} (T : TabU H n mb cs z tg zb tb U o1 o2 o3 sl) (s nm : Str) :
  ∃ rw',Rx rw rw' ∧ Det pr F 30 [.ptr n 0,.str s,.str nm] ⟨H,rw⟩ (.ret (fldRes (fldF cs nm (chainF cs s)))) ⟨H,rw'⟩:=by
 have hm:=L.hm
 suffices h : Wp pr F 30 [.ptr n 0,.str s,.str nm] ⟨H,rw⟩ fun r S' => ∃ rw',Rx rw rw' ∧ r = .ret (fldRes (fldF cs nm (chainF cs s))) ∧ S' = ⟨H,rw'⟩ by
  obtain ⟨r,S',hd,rw',h1,rfl,rfl⟩:=h.det hm
  exact ⟨rw',h1,hd⟩
 refine at_start hm L.f30.1 L.f30.2 rfl ?_
 refine at_seq hm ?_
 unfold r30_0
 show At pr F H.length (fin _ H.length _) _ _ _ _
 refine at_first hm ?_
 intro H1 hH1 hlen hlt
 have hF:=froz_first hH1 T.at_
 have hfew:=T.few
 have hlc : (cs.map clsRow).length = cs.length:=List.length_map _
 refine' stH
 obtain ⟨v,rw2,hv,hR,hd⟩:=det_chain L (T.keep (keep_first hH1 (.cells (fldRow fldZ)) [])) s (rw:=rw)
 refine g_call rfl rfl rfl ?_
 refine c_det hd ?_
 refine zrk6 ?_
 obtain ⟨zv,tv,rfl,hzv,-⟩:=hv.isL
 clear hd hv
 have hcl : ∀ i ∈ chainF cs s,i < cs.length:=chain_lt _ _
 have hcn : (chainF cs s).length ≤ cs.length + 1:=chain_len _ _
 generalize chainF cs s = l at *
 have hll : (ixRows l).length = l.length:=ixRows_len l
 refine' stH
 refine at_loop hm (fun mm e S' => ∃ (q : Nat) (J : List Blk),S' = ⟨hp H1 H.length (.cells (fldRow fldZ)) J,rw2⟩ ∧ q ≤ l.length ∧ fldF cs nm l = fldF cs nm (l.drop q) ∧ mm = l.length - q ∧ e = [(0,.ptr n 0),(2,.str nm),(6,.ptr H.length 0),(15,.list zv tv (ixRows l)),(16,.int .i64 ((ixRows l).length : Int)),(17,.int .i64 q)]) ?_ (m:=l.length) ⟨0,[],rfl,by omega,rfl,rfl,rfl⟩
 rintro mm e S' ⟨q,J,rfl,hq0,hod,rfl,rfl⟩
 by_cases hq1 : q < l.length
 ·obtain ⟨i,hiq⟩ : ∃ i,l[q]? = some i:=⟨_,List.getElem?_eq_getElem hq1⟩
  have hi:=hcl i (List.mem_of_getElem? hiq)
  have hiq2:=ixRows_get hiq
  have hzv1 : zv = 1:=hzv (by intro h; rw [h] at hll; simp only [List.length_nil] at hll; omega)
  subst hzv1
  obtain ⟨c,hc⟩ : ∃ c,cs[i]? = some c:=⟨_,List.getElem?_eq_getElem hi⟩
  have hcr : (cs.map clsRow)[i]? = some (clsRow c):=by rw [List.getElem?_map,hc]; rfl
  have hz : z = 9:=T.sz (by intro h; rw [h] at hi; simp at hi)
  subst hz
  have hcm:=List.mem_of_getElem? hc
  obtain ⟨hfb,-⟩:=fld_bounds hcm T.wt
  have hlf:=fldRow_len c.fields
  rw [fldF_drop hiq] at hod
  have hfi : fldI cs nm i = (fldM nm c.fields).map fun f => (c.name,f):=by unfold fldI; rw [hc]
  refine' stH
  refine at_loop hm (fun mm e S' => ∃ (p : Nat) (J : List Blk),S' = ⟨hp H1 H.length (.cells (fldRow fldZ)) J,rw2⟩ ∧ p ≤ c.fields.length ∧ fldM nm c.fields = fldM nm (c.fields.drop p) ∧ mm = c.fields.length - p ∧ e = [(0,.ptr n 0),(2,.str nm),(6,.ptr H.length 0),(10,.int .i64 (i : Int)),(15,.list 1 tv (ixRows l)),(16,.int .i64 ((ixRows l).length : Int)),(17,.int .i64 q),(28,lst 9 (c.fields.map fldRow)),(29,.int .i64 ((c.fields.map fldRow).length : Int)),(30,.int .i64 p)]) ?_ (m:=c.fields.length) ⟨0,J,rfl,by omega,rfl,rfl,rfl⟩
  clear J
  rintro mm e S' ⟨p,J,rfl,hp0,hpd,rfl,rfl⟩
  by_cases hp1 : p < c.fields.length
  ·obtain ⟨f,hf⟩ : ∃ f,c.fields[p]? = some f:=⟨_,List.getElem?_eq_getElem hp1⟩
   have hfr : (c.fields.map fldRow)[p]? = some (fldRow f):=by rw [List.getElem?_map,hf]; rfl
   have hl5 : lst 9 (c.fields.map fldRow) = .list 9 .dead (c.fields.map fldRow):=lst_of_lt (i:=p) (by omega)
   rw [hl5]
   rw [fldM_drop hf] at hpd
   refine' stH
   ·rw [hpd,if_pos (by assumption)] at hfi
    rw [hfi] at hod
    exact fin_first3 hH1 rfl rfl rfl (row_fld f) ⟨rw2,hR,by rw [hod]; rfl,rfl⟩
   ·exact ⟨c.fields.length - (p + 1),by omega,p + 1,_,rfl,by omega,by rw [hpd,if_neg (by assumption)],rfl,rfl⟩
  ·refine' stH
   rw [hpd,List.drop_eq_nil_of_le (by omega)] at hfi
   rw [hfi] at hod
   exact ⟨l.length - (q + 1),by omega,q + 1,_,rfl,by omega,hod,rfl,rfl⟩
 ·refine' stH
  rw [List.drop_eq_nil_of_le (by omega)] at hod
  exact fin_first3 hH1 rfl rfl rfl (row_fld fldZ) ⟨rw2,hR,by rw [hod]; rfl,rfl⟩
end Go.Proofs.YtmeakjgbjldkdaaGreat.Ai
