/- Types and signatures have the texts that the page says, and a type is known just if its classes are there: for every text the statement's function returns true. No condition. -/
import Derived.Test.YtmeakjgbjldkdaaGreatVa18
set_option maxRecDepth 100000
set_option maxHeartbeats 16000000
namespace Go.Proofs.YtmeakjgbjldkdaaGreat.Ai
open Go
variable {pr : Prims} {F : Nat → Option IFn}
theorem joinT_snoc (sep x : Str) : ∀ (l : List Str),joinT sep (l ++ [x]) = if l = [] then x else joinT sep l ++ sep ++ x:=by
 intro l
 induction l with
 | nil => simp [joinT]
 | cons y l ih =>
  cases l with
  | nil => simp [joinT]
  | cons w l =>
   simp only [List.cons_append,joinT] at ih ⊢
   rw [ih]
   simp
theorem qx_bind (L : LibE pr F) (x : Xp) : TxOk pr F 229 [.agg (exRow x)] (.int .i64 (bindF x.op)):=by
 have hm:=L.hm
 refine TxOk.of hm ?_
 intro H rw hH
 have hR : Rx rw rw:=Rx.rfl
 obtain ⟨op,name,args,ty,a⟩:=x
 simp only [Xp.op]
 have hd1:=fun S => det_Level L.toLibX S op
 have hle : levelF op ≤ 5:=by
  unfold levelF
  repeat' split
  all_goals omega
 unfold bindF
 refine at_start hm L.f229.1 L.f229.2 rfl ?_
 refine at_seq hm ?_
 unfold r229_0
 show At pr F H.length (fin _ H.length _) _ _ _ _
 refine at_box hm rfl ?_
 intro H1 hH1 hlen hlt
 refine' stH
 all_goals refine fin_retF hH1 rfl rfl ⟨_,hR,?_,rfl⟩
 all_goals first
  | rw [if_pos (Or.inl (by assumption))]
  | rw [if_pos (Or.inr (by assumption))]
  | rw [if_neg (by rintro (h | h) <;> contradiction),if_pos (by omega)]
  | rw [if_neg (by rintro (h | h) <;> contradiction),if_neg (by omega)]
theorem qx_at (L : LibE pr F) (x : Xp) (k : Int) (hx : TxOk pr F 146 [.agg (exRow x)] (.str (exText x))) (hs : (exText x).length ≤ 2147483648) : TxOk pr F 200 [.agg (exRow x),.int .i64 k] (.str (atT (bindF x.op,exText x) k)):=by
 have hm:=L.hm
 refine TxOk.of hm ?_
 intro H rw hH
 have hR : Rx rw rw:=Rx.rfl
 have hb:=qx_bind L x
 refine at_start hm L.f200.1 L.f200.2 rfl ?_
 refine at_seq hm ?_
 unfold r200_0
 show At pr F H.length (fin _ H.length _) _ _ _ _
 refine at_box hm rfl ?_
 intro H1 hH1 hlen hlt
 refine' stH
 ·exact fin_retF hH1 rfl rfl ⟨_,hR,by rw [atT,if_neg (by omega)],rfl⟩
 ·exact fin_retF hH1 rfl rfl ⟨_,hR,by rw [atT,if_pos (by omega)],rfl⟩
theorem qx_texts (L : LibE pr F) (xs : List Xp) (z : Nat) (tag : Tag) (hz : xs ≠ [] → z = 5) (hx : ∀ x ∈ xs,TxOk pr F 146 [.agg (exRow x)] (.str (exText x)) ∧ (exText x).length ≤ 2147483648) (hs : ((xs.map exText).map fun x => x.length + 2).sum ≤ 2147483648) (hxs : xs.length ≤ 42000000) :
  TxOk pr F 199 [.list z tag (exRows xs)] (.str (joinT [44,32] (xs.map exText))):=by
 have hm:=L.hm
 have hlx:=exRows_len xs
 refine TxOk.of0 hm L.f199.1 L.f199.2 rfl ?_
 intro H rw b hlt
 have hR : Rx rw rw:=Rx.rfl
 refine' stH
 refine at_loop hm (fun mm e S' => ∃ (q : Nat) (s : Str) (J : List Blk) (rw3 : List Nat),S' = ⟨hp H 0 b J,rw3⟩ ∧ q ≤ xs.length ∧ s = joinT [44,32] ((xs.take q).map exText) ∧ s.length ≤ 2147483648 ∧ Rx rw rw3 ∧ mm = xs.length - q ∧ e = [(0,.list z tag (exRows xs)),(3,.str s),(4,.int .i64 q)]) ?_ (m:=xs.length) ⟨0,_,[],rw,rfl,by omega,rfl,by simp [joinT],Rx.rfl,rfl,rfl⟩
 clear hR
 rintro mm e S' ⟨q,s,J,rw3,rfl,hq0,hsq,hsl,hR,rfl,rfl⟩
 by_cases hq1 : q < xs.length
 ·obtain ⟨x,hxq⟩ : ∃ x,xs[q]? = some x:=⟨_,List.getElem?_eq_getElem hq1⟩
  have hxr:=exRows_get hxq
  have hz5 : z = 5:=hz (by intro h; rw [h] at hq1; simp at hq1)
  subst hz5
  obtain ⟨hx1,hx2⟩:=hx x (List.mem_of_getElem? hxq)
  have hnew : ∀ s',s' = joinT [44,32] ((xs.take (q + 1)).map exText) → s'.length ≤ 2147483648:=by
   intro s' h
   have h1:=len_joinT [44,32] ((xs.take (q + 1)).map exText)
   rw [h]
   refine Nat.le_trans h1 (Nat.le_trans ?_ hs)
   have h2 : xs.map exText = (xs.take (q + 1)).map exText ++ (xs.drop (q + 1)).map exText:=by rw [← List.map_append,List.take_append_drop]
   rw [h2,List.map_append,List.sum_append]
   exact Nat.le_add_right _ _
  have hjs : joinT [44,32] ((xs.take (q + 1)).map exText) = if q = 0 then exText x else s ++ [44,32] ++ exText x:=by
   rw [take_snoc hxq,List.map_append,List.map_cons,List.map_nil,joinT_snoc,hsq]
   by_cases h0 : q = 0
   ·subst h0; simp
   ·rw [if_neg h0,if_neg]
    intro h
    have:=congrArg List.length h
    simp only [List.length_map,List.length_take,List.length_nil] at this
    omega
  refine' stH
  ·have e1 : s ++ [44,32] ++ exText x = joinT [44,32] ((xs.take (q + 1)).map exText):=by rw [hjs,if_neg (by omega)]
   exact ⟨xs.length - (q + 1),by omega,q + 1,_,J,rwt,rfl,by omega,e1,hnew _ e1,hR,rfl,rfl⟩
  ·have e0 : q = 0:=by omega
   have e1 : s ++ exText x = joinT [44,32] ((xs.take (q + 1)).map exText):=by
    rw [hjs,if_pos e0,hsq,e0]
    simp [joinT]
   exact ⟨xs.length - (q + 1),by omega,q + 1,_,J,rwt,rfl,by omega,e1,hnew _ e1,hR,rfl,rfl⟩
 ·refine' stH
  rw [show q = xs.length by omega,List.take_length] at hsq
  exact fin_ret rfl rfl (hp_take hlt) ⟨_,hR,by rw [hsq],rfl⟩
end Go.Proofs.YtmeakjgbjldkdaaGreat.Ai
namespace Go.Proofs.YtmeakjgbjldkdaaGreat.Ai
open Go
variable {pr : Prims} {F : Nat → Option IFn}
theorem qx_leaf1 (L : LibE pr F) {op name : Str} {args : List Xp} {ty : List Ty} {a : Int} (hka : okExs args) (hkt : okTys ty) (hw : 1 + op.length + name.length + wExs args + wTys ty ≤ 42000000) (IH : ∀ y,wEx y < 1 + op.length + name.length + wExs args + wTys ty → okEx y → TxOk pr F 146 [.agg (exRow y)] (.str (exText y))) (IHt : ∀ t,wTy t < 1 + op.length + name.length + wExs args + wTys ty → okTy t → TxOk pr F 97 [.agg (tyRow t)] (.str (tyText t))) (hop : (op = [110,117,109] ∨ op = [118,97,114]) ∧ args = [] ∧ ty = []) :
  TxOk pr F 146 [.agg (exRow (.mk op name args ty a))] (.str (exText (.mk op name args ty a))):=by
 have hm:=L.hm
 refine TxOk.of hm ?_
 intro H rw hH
 have hal:=wExs_len args
 have hxs:=exRows_len args
 have hR : Rx rw rw:=Rx.rfl
 have hA : ∀ y ∈ args,TxOk pr F 146 [.agg (exRow y)] (.str (exText y)) ∧ (exText y).length ≤ 2147483648:=by
  intro y hy
  have h2:=wExs_mem hy
  have h3:=len_exText y
  exact ⟨IH y (by omega) (okExs_mem hka hy),by omega⟩
 have hsum:=sum_texts args
 have hlt0:=len_exTexts args
 have hg0:=exTexts_getD 0 args
 have hg1:=exTexts_getD 1 args
 have hmap:=exTexts_map args
 have hty:=len_tysText ty
 have hnm : name.length ≤ 42000000:=by omega
 have hopl : op.length ≤ 42000000:=by omega
 simp only [exText]
 refine at_start hm L.f146.1 L.f146.2 rfl ?_
 refine at_seq hm ?_
 unfold r146_0
 show At pr F H.length (fin _ H.length _) _ _ _ _
 refine at_box hm rfl ?_
 intro H1 hH1 hlen hlt
 rcases hop with ⟨rfl | rfl,rfl,rfl⟩
 all_goals
  refine' stH
  exact fin_retF hH1 rfl rfl ⟨_,hR,rfl,rfl⟩
theorem qx_leaf2 (L : LibE pr F) {op name : Str} {args : List Xp} {ty : List Ty} {a : Int} (hka : okExs args) (hkt : okTys ty) (hw : 1 + op.length + name.length + wExs args + wTys ty ≤ 42000000) (IH : ∀ y,wEx y < 1 + op.length + name.length + wExs args + wTys ty → okEx y → TxOk pr F 146 [.agg (exRow y)] (.str (exText y))) (IHt : ∀ t,wTy t < 1 + op.length + name.length + wExs args + wTys ty → okTy t → TxOk pr F 97 [.agg (tyRow t)] (.str (tyText t))) (hop : (op = [116,114,117,101] ∨ op = [102,97,108,115,101] ∨ op = [110,117,108,108] ∨ op = [116,104,105,115] ∨ op = [114,101,97,100]) ∧ args = [] ∧ ty = []) :
  TxOk pr F 146 [.agg (exRow (.mk op name args ty a))] (.str (exText (.mk op name args ty a))):=by
 have hm:=L.hm
 refine TxOk.of hm ?_
 intro H rw hH
 have hal:=wExs_len args
 have hxs:=exRows_len args
 have hR : Rx rw rw:=Rx.rfl
 have hA : ∀ y ∈ args,TxOk pr F 146 [.agg (exRow y)] (.str (exText y)) ∧ (exText y).length ≤ 2147483648:=by
  intro y hy
  have h2:=wExs_mem hy
  have h3:=len_exText y
  exact ⟨IH y (by omega) (okExs_mem hka hy),by omega⟩
 have hsum:=sum_texts args
 have hlt0:=len_exTexts args
 have hg0:=exTexts_getD 0 args
 have hg1:=exTexts_getD 1 args
 have hmap:=exTexts_map args
 have hty:=len_tysText ty
 have hnm : name.length ≤ 42000000:=by omega
 have hopl : op.length ≤ 42000000:=by omega
 simp only [exText]
 refine at_start hm L.f146.1 L.f146.2 rfl ?_
 refine at_seq hm ?_
 unfold r146_0
 show At pr F H.length (fin _ H.length _) _ _ _ _
 refine at_box hm rfl ?_
 intro H1 hH1 hlen hlt
 rcases hop with ⟨rfl | rfl | rfl | rfl | rfl,rfl,rfl⟩
 all_goals
  refine' stH
  exact fin_retF hH1 rfl rfl ⟨_,hR,rfl,rfl⟩
end Go.Proofs.YtmeakjgbjldkdaaGreat.Ai
namespace Go.Proofs.YtmeakjgbjldkdaaGreat.Ai
open Go
variable {pr : Prims} {F : Nat → Option IFn}
theorem qx_len (L : LibE pr F) {op name : Str} {args : List Xp} {ty : List Ty} {a : Int} (hka : okExs args) (hkt : okTys ty) (hw : 1 + op.length + name.length + wExs args + wTys ty ≤ 42000000) (IH : ∀ y,wEx y < 1 + op.length + name.length + wExs args + wTys ty → okEx y → TxOk pr F 146 [.agg (exRow y)] (.str (exText y))) (IHt : ∀ t,wTy t < 1 + op.length + name.length + wExs args + wTys ty → okTy t → TxOk pr F 97 [.agg (tyRow t)] (.str (tyText t))) (hop : op = [108,101,110] ∧ (∃ x,args = [x]) ∧ ty = []) :
  TxOk pr F 146 [.agg (exRow (.mk op name args ty a))] (.str (exText (.mk op name args ty a))):=by
 have hm:=L.hm
 refine TxOk.of hm ?_
 intro H rw hH
 have hal:=wExs_len args
 have hxs:=exRows_len args
 have hR : Rx rw rw:=Rx.rfl
 have hA : ∀ y ∈ args,TxOk pr F 146 [.agg (exRow y)] (.str (exText y)) ∧ (exText y).length ≤ 2147483648:=by
  intro y hy
  have h2:=wExs_mem hy
  have h3:=len_exText y
  exact ⟨IH y (by omega) (okExs_mem hka hy),by omega⟩
 have hsum:=sum_texts args
 have hlt0:=len_exTexts args
 have hg0:=exTexts_getD 0 args
 have hg1:=exTexts_getD 1 args
 have hmap:=exTexts_map args
 have hty:=len_tysText ty
 have hnm : name.length ≤ 42000000:=by omega
 have hopl : op.length ≤ 42000000:=by omega
 simp only [exText]
 refine at_start hm L.f146.1 L.f146.2 rfl ?_
 refine at_seq hm ?_
 unfold r146_0
 show At pr F H.length (fin _ H.length _) _ _ _ _
 refine at_box hm rfl ?_
 intro H1 hH1 hlen hlt
 rcases hop with ⟨rfl,⟨y,rfl⟩,rfl⟩
 ·
  obtain ⟨hy1,hy2⟩:=hA y List.mem_cons_self
  have hy0r : (exRows [y])[0]? = some (exRow y):=rfl
  have e : textOf [108,101,110] name (exTexts [y]) (tysText []) = [108,101,110,40] ++ exText y ++ [41]:=by
   show [108,101,110,40] ++ ((exTexts [y]).getD 0 nulT).2 ++ [41] = _
   rw [hg0]; rfl
  rw [e]
  refine' stH
  exact fin_retF hH1 rfl rfl ⟨_,hR,rfl,rfl⟩
theorem qx_new (L : LibE pr F) {op name : Str} {args : List Xp} {ty : List Ty} {a : Int} (hka : okExs args) (hkt : okTys ty) (hw : 1 + op.length + name.length + wExs args + wTys ty ≤ 42000000) (IH : ∀ y,wEx y < 1 + op.length + name.length + wExs args + wTys ty → okEx y → TxOk pr F 146 [.agg (exRow y)] (.str (exText y))) (IHt : ∀ t,wTy t < 1 + op.length + name.length + wExs args + wTys ty → okTy t → TxOk pr F 97 [.agg (tyRow t)] (.str (tyText t))) (hop : op = [110,101,119] ∧ ty = []) :
  TxOk pr F 146 [.agg (exRow (.mk op name args ty a))] (.str (exText (.mk op name args ty a))):=by
 have hm:=L.hm
 refine TxOk.of hm ?_
 intro H rw hH
 have hal:=wExs_len args
 have hxs:=exRows_len args
 have hR : Rx rw rw:=Rx.rfl
 have hA : ∀ y ∈ args,TxOk pr F 146 [.agg (exRow y)] (.str (exText y)) ∧ (exText y).length ≤ 2147483648:=by
  intro y hy
  have h2:=wExs_mem hy
  have h3:=len_exText y
  exact ⟨IH y (by omega) (okExs_mem hka hy),by omega⟩
 have hsum:=sum_texts args
 have hlt0:=len_exTexts args
 have hg0:=exTexts_getD 0 args
 have hg1:=exTexts_getD 1 args
 have hmap:=exTexts_map args
 have hty:=len_tysText ty
 have hnm : name.length ≤ 42000000:=by omega
 have hopl : op.length ≤ 42000000:=by omega
 simp only [exText]
 refine at_start hm L.f146.1 L.f146.2 rfl ?_
 refine at_seq hm ?_
 unfold r146_0
 show At pr F H.length (fin _ H.length _) _ _ _ _
 refine at_box hm rfl ?_
 intro H1 hH1 hlen hlt
 rcases hop with ⟨rfl,rfl⟩
 ·
  have htx : TxOk pr F 199 [lst 5 (exRows args)] (.str (joinT [44,32] (args.map exText))):=by
   obtain ⟨z,tag,h,h2,-⟩:=isL_lst (sz:=5) (rows:=exRows args)
   rw [h]
   exact qx_texts L args z tag (fun hne => h2 (by intro h3; apply hne; cases args with | nil => rfl | cons u us => simp [exRows] at h3)) (fun y hy => hA y hy) (by omega) (by omega)
  have e : textOf [110,101,119] name (exTexts args) (tysText []) = [110,101,119,32] ++ name ++ [40] ++ joinT [44,32] (args.map exText) ++ [41]:=by
   show [110,101,119,32] ++ name ++ [40] ++ joinT [44,32] ((exTexts args).map (·.2)) ++ [41] = _
   rw [hmap]
  rw [e]
  have hj:=len_joinT [44,32] (args.map exText)
  simp only [List.length_cons,List.length_nil,Nat.reduceAdd,Nat.zero_add] at hj
  refine' stH
  exact fin_retF hH1 rfl rfl ⟨_,hR,rfl,rfl⟩
theorem qx_list (L : LibE pr F) {op name : Str} {args : List Xp} {ty : List Ty} {a : Int} (hka : okExs args) (hkt : okTys ty) (hw : 1 + op.length + name.length + wExs args + wTys ty ≤ 42000000) (IH : ∀ y,wEx y < 1 + op.length + name.length + wExs args + wTys ty → okEx y → TxOk pr F 146 [.agg (exRow y)] (.str (exText y))) (IHt : ∀ t,wTy t < 1 + op.length + name.length + wExs args + wTys ty → okTy t → TxOk pr F 97 [.agg (tyRow t)] (.str (tyText t))) (hop : op = [108,105,115,116] ∧ (∃ x z,args = [x,z]) ∧ ∃ t,ty = [t]) :
  TxOk pr F 146 [.agg (exRow (.mk op name args ty a))] (.str (exText (.mk op name args ty a))):=by
 have hm:=L.hm
 refine TxOk.of hm ?_
 intro H rw hH
 have hal:=wExs_len args
 have hxs:=exRows_len args
 have hR : Rx rw rw:=Rx.rfl
 have hA : ∀ y ∈ args,TxOk pr F 146 [.agg (exRow y)] (.str (exText y)) ∧ (exText y).length ≤ 2147483648:=by
  intro y hy
  have h2:=wExs_mem hy
  have h3:=len_exText y
  exact ⟨IH y (by omega) (okExs_mem hka hy),by omega⟩
 have hsum:=sum_texts args
 have hlt0:=len_exTexts args
 have hg0:=exTexts_getD 0 args
 have hg1:=exTexts_getD 1 args
 have hmap:=exTexts_map args
 have hty:=len_tysText ty
 have hnm : name.length ≤ 42000000:=by omega
 have hopl : op.length ≤ 42000000:=by omega
 simp only [exText]
 refine at_start hm L.f146.1 L.f146.2 rfl ?_
 refine at_seq hm ?_
 unfold r146_0
 show At pr F H.length (fin _ H.length _) _ _ _ _
 refine at_box hm rfl ?_
 intro H1 hH1 hlen hlt
 rcases hop with ⟨rfl,⟨y,y2,rfl⟩,⟨t,rfl⟩⟩
 ·
  have htx : TxOk pr F 199 [lst 5 (exRows [y,y2])] (.str (joinT [44,32] ([y,y2].map exText))):=qx_texts L [y,y2] 5 .dead (fun _ => rfl) (fun u hu => hA u hu) (by omega) (by omega)
  have hT:=IHt t (by simp only [wTys]; omega) hkt.1
  have hT2:=len_tyText t
  simp only [wTys] at hw
  have e : textOf [108,105,115,116] name (exTexts [y,y2]) (tysText [t]) = [108,105,115,116,32] ++ tyText t ++ [40] ++ joinT [44,32] ([y,y2].map exText) ++ [41]:=by
   show [108,105,115,116,32] ++ tysText [t] ++ [40] ++ joinT [44,32] ((exTexts [y,y2]).map (·.2)) ++ [41] = _
   rw [hmap]
   simp only [tysText]
  rw [e]
  have hj:=len_joinT [44,32] ([y,y2].map exText)
  simp only [List.length_cons,List.length_nil,Nat.reduceAdd,Nat.zero_add] at hj
  have htr : (tyRows [t])[0]? = some (tyRow t):=rfl
  have hl1 : (tyRows [t]).length = 1:=rfl
  refine' stH
  exact fin_retF hH1 rfl rfl ⟨_,hR,rfl,rfl⟩
end Go.Proofs.YtmeakjgbjldkdaaGreat.Ai
namespace Go.Proofs.YtmeakjgbjldkdaaGreat.Ai
open Go
variable {pr : Prims} {F : Nat → Option IFn}
theorem qx_field (L : LibE pr F) {op name : Str} {args : List Xp} {ty : List Ty} {a : Int} (hka : okExs args) (hkt : okTys ty) (hw : 1 + op.length + name.length + wExs args + wTys ty ≤ 42000000) (IH : ∀ y,wEx y < 1 + op.length + name.length + wExs args + wTys ty → okEx y → TxOk pr F 146 [.agg (exRow y)] (.str (exText y))) (IHt : ∀ t,wTy t < 1 + op.length + name.length + wExs args + wTys ty → okTy t → TxOk pr F 97 [.agg (tyRow t)] (.str (tyText t))) (hop : op = [102,105,101,108,100] ∧ (∃ x,args = [x]) ∧ ty = []) :
  TxOk pr F 146 [.agg (exRow (.mk op name args ty a))] (.str (exText (.mk op name args ty a))):=by
 have hm:=L.hm
 refine TxOk.of hm ?_
 intro H rw hH
 have hal:=wExs_len args
 have hxs:=exRows_len args
 have hR : Rx rw rw:=Rx.rfl
 have hA : ∀ y ∈ args,TxOk pr F 146 [.agg (exRow y)] (.str (exText y)) ∧ (exText y).length ≤ 2147483648:=by
  intro y hy
  have h2:=wExs_mem hy
  have h3:=len_exText y
  exact ⟨IH y (by omega) (okExs_mem hka hy),by omega⟩
 have hsum:=sum_texts args
 have hlt0:=len_exTexts args
 have hg0:=exTexts_getD 0 args
 have hg1:=exTexts_getD 1 args
 have hmap:=exTexts_map args
 have hty:=len_tysText ty
 have hnm : name.length ≤ 42000000:=by omega
 have hopl : op.length ≤ 42000000:=by omega
 simp only [exText]
 refine at_start hm L.f146.1 L.f146.2 rfl ?_
 refine at_seq hm ?_
 unfold r146_0
 show At pr F H.length (fin _ H.length _) _ _ _ _
 refine at_box hm rfl ?_
 intro H1 hH1 hlen hlt
 rcases hop with ⟨rfl,⟨y,rfl⟩,rfl⟩
 ·
  obtain ⟨hy1,hy2⟩:=hA y List.mem_cons_self
  have hy0r : (exRows [y])[0]? = some (exRow y):=rfl
  have ht:=qx_at L y 7 hy1 hy2
  have hl : (atT (bindF y.op,exText y) 7).length ≤ (exText y).length + 2:=len_atT _ _
  have e : textOf [102,105,101,108,100] name (exTexts [y]) (tysText []) = atT (bindF y.op,exText y) 7 ++ [46] ++ name:=by
   show atT ((exTexts [y]).getD 0 nulT) 7 ++ [46] ++ name = _
   rw [hg0]; rfl
  rw [e]
  refine' stH
  exact fin_retF hH1 rfl rfl ⟨_,hR,rfl,rfl⟩
theorem qx_call (L : LibE pr F) {op name : Str} {args : List Xp} {ty : List Ty} {a : Int} (hka : okExs args) (hkt : okTys ty) (hw : 1 + op.length + name.length + wExs args + wTys ty ≤ 42000000) (IH : ∀ y,wEx y < 1 + op.length + name.length + wExs args + wTys ty → okEx y → TxOk pr F 146 [.agg (exRow y)] (.str (exText y))) (IHt : ∀ t,wTy t < 1 + op.length + name.length + wExs args + wTys ty → okTy t → TxOk pr F 97 [.agg (tyRow t)] (.str (tyText t))) (hop : op = [99,97,108,108] ∧ (∃ x l,args = x :: l) ∧ ty = []) :
  TxOk pr F 146 [.agg (exRow (.mk op name args ty a))] (.str (exText (.mk op name args ty a))):=by
 have hm:=L.hm
 refine TxOk.of hm ?_
 intro H rw hH
 have hal:=wExs_len args
 have hxs:=exRows_len args
 have hR : Rx rw rw:=Rx.rfl
 have hA : ∀ y ∈ args,TxOk pr F 146 [.agg (exRow y)] (.str (exText y)) ∧ (exText y).length ≤ 2147483648:=by
  intro y hy
  have h2:=wExs_mem hy
  have h3:=len_exText y
  exact ⟨IH y (by omega) (okExs_mem hka hy),by omega⟩
 have hsum:=sum_texts args
 have hlt0:=len_exTexts args
 have hg0:=exTexts_getD 0 args
 have hg1:=exTexts_getD 1 args
 have hmap:=exTexts_map args
 have hty:=len_tysText ty
 have hnm : name.length ≤ 42000000:=by omega
 have hopl : op.length ≤ 42000000:=by omega
 simp only [exText]
 refine at_start hm L.f146.1 L.f146.2 rfl ?_
 refine at_seq hm ?_
 unfold r146_0
 show At pr F H.length (fin _ H.length _) _ _ _ _
 refine at_box hm rfl ?_
 intro H1 hH1 hlen hlt
 rcases hop with ⟨rfl,⟨y,l,rfl⟩,rfl⟩
 ·
  obtain ⟨hy1,hy2⟩:=hA y List.mem_cons_self
  have hy0r : (exRows (y :: l))[0]? = some (exRow y):=rfl
  have ht:=qx_at L y 7 hy1 hy2
  have hl : (atT (bindF y.op,exText y) 7).length ≤ (exText y).length + 2:=len_atT _ _
  have hsl:=sum_texts l
  simp only [wExs,exRows,List.length_cons] at hw hal hxs
  have htx:=qx_texts L l 5 .dead (fun _ => rfl) (fun u hu => hA u (List.mem_cons_of_mem _ hu)) (by omega) (by omega)
  have e : textOf [99,97,108,108] name (exTexts (y :: l)) (tysText []) = atT (bindF y.op,exText y) 7 ++ [46] ++ name ++ [40] ++ joinT [44,32] (l.map exText) ++ [41]:=by
   show atT ((exTexts (y :: l)).getD 0 nulT) 7 ++ [46] ++ name ++ [40] ++ joinT [44,32] (((exTexts (y :: l)).drop 1).map (·.2)) ++ [41] = _
   rw [hg0,exTexts_cons]
   show atT (bindF y.op,exText y) 7 ++ [46] ++ name ++ [40] ++ joinT [44,32] ((exTexts l).map (·.2)) ++ [41] = _
   rw [exTexts_map]
  rw [e]
  have hj:=len_joinT [44,32] (l.map exText)
  simp only [List.length_cons,List.length_nil,Nat.reduceAdd,Nat.zero_add] at hj
  refine' stH
  refine g_q rfl (v:=.list 5 .dead (exRows l)) slice_tailG ?_
  refine' stH
  exact fin_retF hH1 rfl rfl ⟨_,hR,rfl,rfl⟩
theorem qx_index (L : LibE pr F) {op name : Str} {args : List Xp} {ty : List Ty} {a : Int} (hka : okExs args) (hkt : okTys ty) (hw : 1 + op.length + name.length + wExs args + wTys ty ≤ 42000000) (IH : ∀ y,wEx y < 1 + op.length + name.length + wExs args + wTys ty → okEx y → TxOk pr F 146 [.agg (exRow y)] (.str (exText y))) (IHt : ∀ t,wTy t < 1 + op.length + name.length + wExs args + wTys ty → okTy t → TxOk pr F 97 [.agg (tyRow t)] (.str (tyText t))) (hop : op = [105,110,100,101,120] ∧ (∃ x z,args = [x,z]) ∧ ty = []) :
  TxOk pr F 146 [.agg (exRow (.mk op name args ty a))] (.str (exText (.mk op name args ty a))):=by
 have hm:=L.hm
 refine TxOk.of hm ?_
 intro H rw hH
 have hal:=wExs_len args
 have hxs:=exRows_len args
 have hR : Rx rw rw:=Rx.rfl
 have hA : ∀ y ∈ args,TxOk pr F 146 [.agg (exRow y)] (.str (exText y)) ∧ (exText y).length ≤ 2147483648:=by
  intro y hy
  have h2:=wExs_mem hy
  have h3:=len_exText y
  exact ⟨IH y (by omega) (okExs_mem hka hy),by omega⟩
 have hsum:=sum_texts args
 have hlt0:=len_exTexts args
 have hg0:=exTexts_getD 0 args
 have hg1:=exTexts_getD 1 args
 have hmap:=exTexts_map args
 have hty:=len_tysText ty
 have hnm : name.length ≤ 42000000:=by omega
 have hopl : op.length ≤ 42000000:=by omega
 simp only [exText]
 refine at_start hm L.f146.1 L.f146.2 rfl ?_
 refine at_seq hm ?_
 unfold r146_0
 show At pr F H.length (fin _ H.length _) _ _ _ _
 refine at_box hm rfl ?_
 intro H1 hH1 hlen hlt
 rcases hop with ⟨rfl,⟨y,y2,rfl⟩,rfl⟩
 ·
  obtain ⟨hy1,hy2⟩:=hA y List.mem_cons_self
  have hy0r : (exRows [y,y2])[0]? = some (exRow y):=rfl
  have hy1r : (exRows [y,y2])[1]? = some (exRow y2):=rfl
  obtain ⟨hy3,hy4⟩:=hA y2 (by simp)
  have ht:=qx_at L y 7 hy1 hy2
  have hl : (atT (bindF y.op,exText y) 7).length ≤ (exText y).length + 2:=len_atT _ _
  have e : textOf [105,110,100,101,120] name (exTexts [y,y2]) (tysText []) = atT (bindF y.op,exText y) 7 ++ [91] ++ exText y2 ++ [93]:=by
   show atT ((exTexts [y,y2]).getD 0 nulT) 7 ++ [91] ++ ((exTexts [y,y2]).getD 1 nulT).2 ++ [93] = _
   rw [hg0,hg1]; rfl
  rw [e]
  refine' stH
  exact fin_retF hH1 rfl rfl ⟨_,hR,rfl,rfl⟩
end Go.Proofs.YtmeakjgbjldkdaaGreat.Ai
namespace Go.Proofs.YtmeakjgbjldkdaaGreat.Ai
open Go
variable {pr : Prims} {F : Nat → Option IFn}
theorem qx_neg (L : LibE pr F) {op name : Str} {args : List Xp} {ty : List Ty} {a : Int} (hka : okExs args) (hkt : okTys ty) (hw : 1 + op.length + name.length + wExs args + wTys ty ≤ 42000000) (IH : ∀ y,wEx y < 1 + op.length + name.length + wExs args + wTys ty → okEx y → TxOk pr F 146 [.agg (exRow y)] (.str (exText y))) (IHt : ∀ t,wTy t < 1 + op.length + name.length + wExs args + wTys ty → okTy t → TxOk pr F 97 [.agg (tyRow t)] (.str (tyText t))) (hop : (op = [110,101,103] ∨ op = [110,111,116]) ∧ (∃ x,args = [x]) ∧ ty = []) :
  TxOk pr F 146 [.agg (exRow (.mk op name args ty a))] (.str (exText (.mk op name args ty a))):=by
 have hm:=L.hm
 refine TxOk.of hm ?_
 intro H rw hH
 have hal:=wExs_len args
 have hxs:=exRows_len args
 have hR : Rx rw rw:=Rx.rfl
 have hA : ∀ y ∈ args,TxOk pr F 146 [.agg (exRow y)] (.str (exText y)) ∧ (exText y).length ≤ 2147483648:=by
  intro y hy
  have h2:=wExs_mem hy
  have h3:=len_exText y
  exact ⟨IH y (by omega) (okExs_mem hka hy),by omega⟩
 have hsum:=sum_texts args
 have hlt0:=len_exTexts args
 have hg0:=exTexts_getD 0 args
 have hg1:=exTexts_getD 1 args
 have hmap:=exTexts_map args
 have hty:=len_tysText ty
 have hnm : name.length ≤ 42000000:=by omega
 have hopl : op.length ≤ 42000000:=by omega
 simp only [exText]
 refine at_start hm L.f146.1 L.f146.2 rfl ?_
 refine at_seq hm ?_
 unfold r146_0
 show At pr F H.length (fin _ H.length _) _ _ _ _
 refine at_box hm rfl ?_
 intro H1 hH1 hlen hlt
 rcases hop with ⟨rfl | rfl,⟨y,rfl⟩,rfl⟩
 all_goals
   obtain ⟨hy1,hy2⟩:=hA y List.mem_cons_self
   have hy0r : (exRows [y])[0]? = some (exRow y):=rfl
   have ht:=qx_at L y 6 hy1 hy2
   have hl : (atT (bindF y.op,exText y) 6).length ≤ (exText y).length + 2:=len_atT _ _
   refine' stH
   refine fin_retF hH1 rfl rfl ⟨_,hR,?_,rfl⟩
   first
    | (show _ = Res.ret (AV.str ([45] ++ atT ((exTexts [y]).getD 0 nulT) 6)); rw [hg0]; rfl)
    | (show _ = Res.ret (AV.str ([33] ++ atT ((exTexts [y]).getD 0 nulT) 6)); rw [hg0]; rfl)
end Go.Proofs.YtmeakjgbjldkdaaGreat.Ai
namespace Go.Proofs.YtmeakjgbjldkdaaGreat.Ai
open Go
variable {pr : Prims} {F : Nat → Option IFn}
theorem qx_bin (L : LibE pr F) {op name : Str} {args : List Xp} {ty : List Ty} {a : Int} (hka : okExs args) (hkt : okTys ty) (hw : 1 + op.length + name.length + wExs args + wTys ty ≤ 42000000) (IH : ∀ y,wEx y < 1 + op.length + name.length + wExs args + wTys ty → okEx y → TxOk pr F 146 [.agg (exRow y)] (.str (exText y))) (IHt : ∀ t,wTy t < 1 + op.length + name.length + wExs args + wTys ty → okTy t → TxOk pr F 97 [.agg (tyRow t)] (.str (tyText t))) (hop : 0 ≤ levelF op ∧ (∃ x z,args = [x,z]) ∧ ty = []) :
  TxOk pr F 146 [.agg (exRow (.mk op name args ty a))] (.str (exText (.mk op name args ty a))):=by
 have hm:=L.hm
 refine TxOk.of hm ?_
 intro H rw hH
 have hal:=wExs_len args
 have hxs:=exRows_len args
 have hR : Rx rw rw:=Rx.rfl
 have hA : ∀ y ∈ args,TxOk pr F 146 [.agg (exRow y)] (.str (exText y)) ∧ (exText y).length ≤ 2147483648:=by
  intro y hy
  have h2:=wExs_mem hy
  have h3:=len_exText y
  exact ⟨IH y (by omega) (okExs_mem hka hy),by omega⟩
 have hsum:=sum_texts args
 have hlt0:=len_exTexts args
 have hg0:=exTexts_getD 0 args
 have hg1:=exTexts_getD 1 args
 have hmap:=exTexts_map args
 have hty:=len_tysText ty
 have hnm : name.length ≤ 42000000:=by omega
 have hopl : op.length ≤ 42000000:=by omega
 simp only [exText]
 refine at_start hm L.f146.1 L.f146.2 rfl ?_
 refine at_seq hm ?_
 unfold r146_0
 show At pr F H.length (fin _ H.length _) _ _ _ _
 refine at_box hm rfl ?_
 intro H1 hH1 hlen hlt
 rcases hop with ⟨hlv,⟨y,y2,rfl⟩,rfl⟩
 ·
  obtain ⟨hy1,hy2⟩:=hA y List.mem_cons_self
  obtain ⟨hy3,hy4⟩:=hA y2 (by simp)
  have hy0r : (exRows [y,y2])[0]? = some (exRow y):=rfl
  have hy1r : (exRows [y,y2])[1]? = some (exRow y2):=rfl
  have hd1:=fun S => det_Level L.toLibX S op
  by_cases hop : op = [61,62]
  ·subst hop
   have hlv0 : levelF [61,62] = 0:=by decide
   have ht:=qx_at L y 1 hy1 hy2
   have ht2:=qx_at L y2 0 hy3 hy4
   have hl : (atT (bindF y.op,exText y) 1).length ≤ (exText y).length + 2:=len_atT _ _
   have hl2 : (atT (bindF y2.op,exText y2) 0).length ≤ (exText y2).length + 2:=len_atT _ _
   have e : textOf [61,62] name (exTexts [y,y2]) (tysText []) = atT (bindF y.op,exText y) 1 ++ [32,61,62,32] ++ atT (bindF y2.op,exText y2) 0:=by
    show atT ((exTexts [y,y2]).getD 0 nulT) 1 ++ [32] ++ [61,62] ++ [32] ++ atT ((exTexts [y,y2]).getD 1 nulT) 0 = _
    rw [hg0,hg1]
    simp
   rw [e]
   refine' stH
   exact fin_retF hH1 rfl rfl ⟨_,hR,by simp,rfl⟩
  ·have hle : levelF op ≤ 5:=by
    unfold levelF
    repeat' split
    all_goals omega
   have hl0 : levelF op ≠ 0:=by
    intro h
    unfold levelF at h
    rw [if_neg hop] at h
    revert h
    repeat' split
    all_goals omega
   have n1 : op ≠ [110,117,109]:=by rintro rfl; revert hlv; decide
   have n2 : op ≠ [118,97,114]:=by rintro rfl; revert hlv; decide
   have n3 : op ≠ [102,105,101,108,100]:=by rintro rfl; revert hlv; decide
   have n4 : op ≠ [99,97,108,108]:=by rintro rfl; revert hlv; decide
   have n5 : op ≠ [110,101,119]:=by rintro rfl; revert hlv; decide
   have n6 : op ≠ [108,105,115,116]:=by rintro rfl; revert hlv; decide
   have n7 : op ≠ [105,110,100,101,120]:=by rintro rfl; revert hlv; decide
   have n8 : op ≠ [108,101,110]:=by rintro rfl; revert hlv; decide
   have n9 : op ≠ [114,101,97,100]:=by rintro rfl; revert hlv; decide
   have n10 : op ≠ [110,101,103]:=by rintro rfl; revert hlv; decide
   have n11 : op ≠ [110,111,116]:=by rintro rfl; revert hlv; decide
   have n12 : op ≠ [116,114,117,101]:=by rintro rfl; revert hlv; decide
   have n13 : op ≠ [102,97,108,115,101]:=by rintro rfl; revert hlv; decide
   have n14 : op ≠ [110,117,108,108]:=by rintro rfl; revert hlv; decide
   have n15 : op ≠ [116,104,105,115]:=by rintro rfl; revert hlv; decide
   have hbk : bindF op = levelF op:=by unfold bindF; rw [if_neg (by simp only [n10,n11,or_self,not_false_eq_true]),if_pos hlv]
   have e : textOf op name (exTexts [y,y2]) (tysText []) = atT (bindF y.op,exText y) (if levelF op = 3 then 4 else levelF op) ++ [32] ++ op ++ [32] ++ atT (bindF y2.op,exText y2) (levelF op + 1):=by
    unfold textOf
    simp only [n1,n2,n3,n4,n5,n6,n7,n8,n9,n10,n11,or_self,if_false,hl0]
    rw [if_neg (by omega),hg0,hg1]
    rfl
   rw [e]
   have ht:=qx_at L y (levelF op) hy1 hy2
   have ht4:=qx_at L y 4 hy1 hy2
   have ht2:=qx_at L y2 (levelF op + 1) hy3 hy4
   have hl4 : (atT (bindF y.op,exText y) 4).length ≤ (exText y).length + 2:=len_atT _ _
   have hl : (atT (bindF y.op,exText y) (levelF op)).length ≤ (exText y).length + 2:=len_atT _ _
   have hl2 : (atT (bindF y2.op,exText y2) (levelF op + 1)).length ≤ (exText y2).length + 2:=len_atT _ _
   refine' stH
   all_goals
    refine fin_retF hH1 rfl rfl ⟨_,hR,?_,rfl⟩
    first
     | rw [if_pos (by omega)]
     | rw [if_neg (by omega)]
end Go.Proofs.YtmeakjgbjldkdaaGreat.Ai
namespace Go.Proofs.YtmeakjgbjldkdaaGreat.Ai
open Go
variable {pr : Prims} {F : Nat → Option IFn}
theorem qx_text (L : LibE pr F) (x : Xp) (hok : okEx x) (hw : wEx x ≤ 42000000) (IH : ∀ y,wEx y < wEx x → okEx y → TxOk pr F 146 [.agg (exRow y)] (.str (exText y))) (IHt : ∀ t,wTy t < wEx x → okTy t → TxOk pr F 97 [.agg (tyRow t)] (.str (tyText t))) :
  TxOk pr F 146 [.agg (exRow x)] (.str (exText x)):=by
 obtain ⟨op,name,args,ty,a⟩:=x
 simp only [okEx] at hok
 obtain ⟨hop,hka,hkt⟩:=hok
 simp only [wEx] at hw IH IHt
 unfold okOp at hop
 rcases hop with ⟨h1,h2,h3⟩ | ⟨h1,h2,h3,-⟩ | ⟨h1,h2,h3⟩ | h | ⟨h1,h2,-⟩ | h | ⟨h1,h2,h3,-⟩ | ⟨h1,h2,h3,-⟩ | h | h | h
 ·exact qx_leaf1 L hka hkt hw IH IHt ⟨.inl h1,h2,h3⟩
 ·exact qx_leaf1 L hka hkt hw IH IHt ⟨.inr h1,h2,h3⟩
 ·exact qx_leaf2 L hka hkt hw IH IHt ⟨h1,h2,h3⟩
 ·exact qx_len L hka hkt hw IH IHt h
 ·exact qx_new L hka hkt hw IH IHt ⟨h1,h2⟩
 ·exact qx_list L hka hkt hw IH IHt h
 ·exact qx_field L hka hkt hw IH IHt ⟨h1,h2,h3⟩
 ·exact qx_call L hka hkt hw IH IHt ⟨h1,h2,h3⟩
 ·exact qx_index L hka hkt hw IH IHt h
 ·exact qx_neg L hka hkt hw IH IHt h
 ·exact qx_bin L hka hkt hw IH IHt h
theorem qx_type (L : LibE pr F) (t : Ty) (hok : okTy t) (hw : wTy t ≤ 42000000) (IH : ∀ y,wEx y < wTy t → okEx y → TxOk pr F 146 [.agg (exRow y)] (.str (exText y))) (IHt : ∀ u,wTy u < wTy t → okTy u → TxOk pr F 97 [.agg (tyRow u)] (.str (tyText u))) :
  TxOk pr F 97 [.agg (tyRow t)] (.str (tyText t)):=by
 have hm:=L.hm
 refine TxOk.of hm ?_
 intro H rw hH
 obtain ⟨kind,name,null,elem,pred,a⟩:=t
 simp only [okTy] at hok
 obtain ⟨hk,hpl,hke,hkp⟩:=hok
 simp only [wTy] at hw IH IHt
 have hR : Rx rw rw:=Rx.rfl
 have hpr : (exRows pred).length = pred.length:=exRows_len pred
 have hnm : name.length ≤ 42000000:=by omega
 refine at_start hm L.f97.1 L.f97.2 rfl ?_
 refine at_seq hm ?_
 unfold r97_0
 show At pr F H.length (fin _ H.length _) _ _ _ _
 refine at_box hm rfl ?_
 intro H1 hH1 hlen hlt
 obtain ⟨bt,hbt,hbe⟩ : ∃ bt : Str,bt.length ≤ 1400000000 ∧ bt = baseT (.mk kind name null elem pred a):=⟨_,by have:=len_baseT (.mk kind name null elem pred a); simp only [wTy] at this; omega,rfl⟩
 have hel : kind = 4 → ∃ u,elem = [u] ∧ TxOk pr F 97 [.agg (tyRow u)] (.str (tyText u)) ∧ (tyText u).length ≤ 1400000000:=by
  intro h4
  rcases hk with ⟨h,-⟩ | ⟨h,-⟩ | ⟨h,-⟩ | ⟨-,-,u,rfl⟩
  ·omega
  ·omega
  ·omega
  ·have hlu:=len_tyText u
   simp only [wTys] at hw IHt
   exact ⟨u,rfl,IHt u (by omega) hke.1,by omega⟩
 have hk4 : kind = 1 ∨ kind = 2 ∨ kind = 3 ∨ kind = 4:=by
  rcases hk with ⟨h,-⟩ | ⟨h,-⟩ | ⟨h,-⟩ | ⟨h,-⟩
  ·exact .inl h
  ·exact .inr (.inl h)
  ·exact .inr (.inr (.inl h))
  ·exact .inr (.inr (.inr h))
 have hE : ∀ s,s = baseT (.mk kind name null elem pred a) ++ (if null then [63] else []) ++ predText pred → s = tyText (.mk kind name null elem pred a):=by
  intro s hs
  rw [hs]
  simp only [tyText,baseT]
 have hB:=len_baseT (.mk kind name null elem pred a)
 simp only [wTy] at hB
 have hS : (baseT (.mk kind name null elem pred a) ++ (if null then [63] else [])).length ≤ 1400000000:=by
  rw [List.length_append]
  split <;> simp only [List.length_cons,List.length_nil] <;> omega
 rcases hk4 with rfl | rfl | rfl | rfl
 rotate_left 3
 ·obtain ⟨u,rfl,hu,hul⟩:=hel rfl
  have htr : (tyRows [u])[0]? = some (tyRow u):=rfl
  have hlt1 : (tyRows [u]).length = 1:=rfl
  refine' stH
  all_goals
   have hb0 : null = true ∨ null = false:=by cases null <;> simp
   obtain ⟨s0,hs0,hs1⟩ : ∃ s0 : Str,s0 = baseT (.mk 4 name null [u] pred a) ++ (if null then [63] else []) ∧ s0.length ≤ 1400000000:=⟨_,rfl,hS⟩
   refine at_loop hm (fun mm e S' => ∃ (q : Nat) (s : Str) (J : List Blk) (rw3 : List Nat),S' = ⟨hp H1 H.length (.cells (tyRow (.mk 4 name null [u] pred a))) J,rw3⟩ ∧ q ≤ pred.length ∧ s = s0 ++ predText (pred.take q) ∧ Rx rw rw3 ∧ mm = pred.length - q ∧ e = [(1,.ptr H.length 0),(3,.str s),(4,.int .i64 q)]) ?_ (m:=pred.length) ⟨0,_,_,_,rfl,by omega,?_,hR,rfl,rfl⟩
   rotate_left 1
   ·rw [hs0]
    simp only [List.take_zero,predText,List.append_nil,baseT,tysText,hq,if_true,Bool.false_eq_true,if_false,Int.reduceEq]
   clear hR
   rintro mm e S' ⟨q,s,J,rw3,rfl,hq0,rfl,hR,rfl,rfl⟩
   by_cases hq1 : q < pred.length
   ·obtain ⟨x,hx⟩ : ∃ x,pred[q]? = some x:=⟨_,List.getElem?_eq_getElem hq1⟩
    have hxr:=exRows_get hx
    have hl5 : lst 5 (exRows pred) = .list 5 .dead (exRows pred):=lst_of_lt (i:=q) (by omega)
    have hmem:=List.mem_of_getElem? hx
    have hwx:=wExs_mem hmem
    have hxl:=len_exText x
    have hX:=IH x (by omega) (okExs_mem hkp hmem)
    have hq00 : q = 0:=by omega
    subst hq00
    have e0 : predText (List.take 0 pred) = []:=by simp [predText]
    rw [e0,List.append_nil]
    refine' stH
    rw [hl5]
    refine' stH
    refine ⟨pred.length - 1,by omega,1,_,_,rwt,rfl,by omega,?_,hR,rfl,rfl⟩
    rw [show (1 : Nat) = 0 + 1 from rfl,take_snoc hx]
    simp only [List.take_zero,List.nil_append,predText,List.append_nil,List.append_assoc]
   ·refine' stH
    have e1 : List.take q pred = pred:=by rw [show q = pred.length by omega,List.take_length]
    rw [e1]
    exact fin_retF hH1 rfl rfl ⟨_,hR,by rw [hE (s0 ++ predText pred) (by rw [hs0])],rfl⟩
 all_goals
  clear hel
  refine' stH
  all_goals
   have hb0 : null = true ∨ null = false:=by cases null <;> simp
   obtain ⟨s0,hs0,hs1⟩ : ∃ s0 : Str,s0 = baseT (.mk _ name null elem pred a) ++ (if null then [63] else []) ∧ s0.length ≤ 1400000000:=⟨_,rfl,hS⟩
   refine at_loop hm (fun mm e S' => ∃ (q : Nat) (s : Str) (J : List Blk) (rw3 : List Nat),S' = ⟨hp H1 H.length (.cells (tyRow (.mk _ name null elem pred a))) J,rw3⟩ ∧ q ≤ pred.length ∧ s = s0 ++ predText (pred.take q) ∧ Rx rw rw3 ∧ mm = pred.length - q ∧ e = [(1,.ptr H.length 0),(3,.str s),(4,.int .i64 q)]) ?_ (m:=pred.length) ⟨0,_,_,_,rfl,by omega,?_,hR,rfl,rfl⟩
   rotate_left 1
   ·rw [hs0]
    simp only [List.take_zero,predText,List.append_nil,baseT,hq,if_true,Bool.false_eq_true,if_false,Int.reduceEq]
   clear hR
   rintro mm e S' ⟨q,s,J,rw3,rfl,hq0,rfl,hR,rfl,rfl⟩
   by_cases hq1 : q < pred.length
   ·obtain ⟨x,hx⟩ : ∃ x,pred[q]? = some x:=⟨_,List.getElem?_eq_getElem hq1⟩
    have hxr:=exRows_get hx
    have hl5 : lst 5 (exRows pred) = .list 5 .dead (exRows pred):=lst_of_lt (i:=q) (by omega)
    have hmem:=List.mem_of_getElem? hx
    have hwx:=wExs_mem hmem
    have hxl:=len_exText x
    have hX:=IH x (by omega) (okExs_mem hkp hmem)
    have hq00 : q = 0:=by omega
    subst hq00
    have e0 : predText (List.take 0 pred) = []:=by simp [predText]
    rw [e0,List.append_nil]
    refine' stH
    rw [hl5]
    refine' stH
    refine ⟨pred.length - 1,by omega,1,_,_,rwt,rfl,by omega,?_,hR,rfl,rfl⟩
    rw [show (1 : Nat) = 0 + 1 from rfl,take_snoc hx]
    simp only [List.take_zero,List.nil_append,predText,List.append_nil,List.append_assoc]
   ·refine' stH
    have e1 : List.take q pred = pred:=by rw [show q = pred.length by omega,List.take_length]
    rw [e1]
    exact fin_retF hH1 rfl rfl ⟨_,hR,by rw [hE (s0 ++ predText pred) (by rw [hs0])],rfl⟩
theorem qx_all (L : LibE pr F) : ∀ k : Nat,(∀ x,wEx x < k → wEx x ≤ 42000000 → okEx x → TxOk pr F 146 [.agg (exRow x)] (.str (exText x))) ∧ (∀ t,wTy t < k → wTy t ≤ 42000000 → okTy t → TxOk pr F 97 [.agg (tyRow t)] (.str (tyText t))):=by
 intro k
 induction k with
 | zero => exact ⟨fun x h => by omega,fun x h => by omega⟩
 | succ k ih =>
  obtain ⟨h1,h2⟩:=ih
  exact ⟨fun x hk hw ho => qx_text L x ho hw (fun y hy hoy => h1 y (by omega) (by omega) hoy) (fun t ht hot => h2 t (by omega) (by omega) hot),
   fun x hk hw ho => qx_type L x ho hw (fun y hy hoy => h1 y (by omega) (by omega) hoy) (fun t ht hot => h2 t (by omega) (by omega) hot)⟩
theorem qx_ty (L : LibE pr F) {t : Ty} (hw : wTy t ≤ 42000000) (ho : okTy t) : TxOk pr F 97 [.agg (tyRow t)] (.str (tyText t)):=(qx_all L (wTy t + 1)).2 t (by omega) hw ho
theorem qx_ex (L : LibE pr F) {t : Xp} (hw : wEx t ≤ 42000000) (ho : okEx t) : TxOk pr F 146 [.agg (exRow t)] (.str (exText t)):=(qx_all L (wEx t + 1)).1 t (by omega) hw ho
end Go.Proofs.YtmeakjgbjldkdaaGreat.Ai
namespace Go.Proofs.YtmeakjgbjldkdaaGreat.Ai
open Go
variable {pr : Prims} {F : Nat → Option IFn}
theorem qx_joined (L : LibE pr F) {t : Ty} (hw : wTy t ≤ 42000000) (ho : okTy t) : TxOk pr F 53 [.agg (tyRow t)] (.str (tyText t)):=by
 have hm:=L.hm
 refine TxOk.of hm ?_
 intro H rw hH
 have hR : Rx rw rw:=Rx.rfl
 have hT:=qx_ty L hw ho
 refine at_start hm L.f53.1 L.f53.2 rfl ?_
 refine at_seq hm ?_
 unfold r53_0
 show At pr F H.length (fin _ H.length _) _ _ _ _
 refine at_box hm rfl ?_
 intro H1 hH1 hlen hlt
 refine' stH
 exact fin_retF hH1 rfl rfl ⟨_,hR,rfl,rfl⟩
theorem qx_base (L : LibE pr F) {t : Ty} (hw : wTy t ≤ 42000000) (ho : okTy t ∨ isVoid t) : TxOk pr F 16 [.agg (tyRow t)] (.str (baseT t)):=by
 have hm:=L.hm
 refine TxOk.of hm ?_
 intro H rw hH
 have hR : Rx rw rw:=Rx.rfl
 have hT : ∀ u,wTy u < wTy t → okTy u → TxOk pr F 53 [.agg (tyRow u)] (.str (tyText u)):=fun u hu hou => qx_joined L (by omega) hou
 have hk : ∃ kind name null elem pred a,t = .mk kind name null elem pred a ∧ ((kind = 1 ∨ kind = 2 ∨ kind = 3 ∨ kind = 0) ∨ kind = 4 ∧ ∃ u,elem = [u] ∧ TxOk pr F 53 [.agg (tyRow u)] (.str (tyText u)) ∧ (tyText u).length ≤ 1400000000):=by
  obtain ⟨kind,name,null,elem,pred,a⟩:=t
  refine ⟨kind,name,null,elem,pred,a,rfl,?_⟩
  rcases ho with ho | ⟨a',ha⟩
  ·simp only [okTy] at ho
   obtain ⟨hk,-,hke,-⟩:=ho
   rcases hk with ⟨h,-⟩ | ⟨h,-⟩ | ⟨h,-⟩ | ⟨h,-,u,rfl⟩
   ·exact .inl (.inl h)
   ·exact .inl (.inr (.inl h))
   ·exact .inl (.inr (.inr (.inl h)))
   ·refine .inr ⟨h,u,rfl,?_⟩
    have h1:=len_tyText u
    simp only [wTy,wTys] at hw hT
    exact ⟨hT u (by omega) hke.1,by omega⟩
  ·injection ha with h1
   exact .inl (.inr (.inr (.inr h1)))
 obtain ⟨kind,name,null,elem,pred,a,rfl,hk⟩:=hk
 clear hT ho
 refine at_start hm L.f16.1 L.f16.2 rfl ?_
 refine at_seq hm ?_
 unfold r16_0
 show At pr F H.length (fin _ H.length _) _ _ _ _
 refine at_box hm rfl ?_
 intro H1 hH1 hlen hlt
 rcases hk with (rfl | rfl | rfl | rfl) | ⟨rfl,u,rfl,hu,hul⟩
 rotate_left 4
 ·have htr : (tyRows [u])[0]? = some (tyRow u):=rfl
  have hlt1 : (tyRows [u]).length = 1:=rfl
  refine' stH
  exact fin_retF hH1 rfl rfl ⟨_,hR,rfl,rfl⟩
 all_goals
  refine' stH
  exact fin_retF hH1 rfl rfl ⟨_,hR,rfl,rfl⟩
theorem qx_sig (L : LibE pr F) {name : Str} {ps : List Par} (hn : name.length ≤ 42000000) (hw : wL wPar ps ≤ 42000000) (ho : ∀ p ∈ ps,okPar p) : TxOk pr F 18 [.str name,lst 8 (ps.map parRow)] (.str (sigT name ps)):=by
 have hm:=L.hm
 have hlp:=parRow_len ps
 have hpl:=wL_len wPar (fun p => by simp only [wPar]; omega) ps
 have hsum:=sum_bases ps
 refine TxOk.of0 hm L.f18.1 L.f18.2 rfl ?_
 intro H rw b hlt
 have hR : Rx rw rw:=Rx.rfl
 refine' stH
 refine at_loop hm (fun mm e S' => ∃ (q : Nat) (s : Str) (J : List Blk) (rw3 : List Nat),S' = ⟨hp H 0 b J,rw3⟩ ∧ q ≤ ps.length ∧ s = name ++ [40] ++ joinT [44] ((ps.take q).map fun p => baseT p.type) ∧ s.length ≤ 1500000000 ∧ Rx rw rw3 ∧ mm = ps.length - q ∧ e = [(1,lst 8 (ps.map parRow)),(5,.str s),(6,.int .i64 q)]) ?_ (m:=ps.length) ⟨0,_,[],rw,rfl,by omega,by simp [joinT],by simp; omega,Rx.rfl,rfl,rfl⟩
 clear hR
 rintro mm e S' ⟨q,s,J,rw3,rfl,hq0,hsq,hsl,hR,rfl,rfl⟩
 by_cases hq1 : q < ps.length
 ·obtain ⟨p,hpq⟩ : ∃ p,ps[q]? = some p:=⟨_,List.getElem?_eq_getElem hq1⟩
  have hpr : (ps.map parRow)[q]? = some (parRow p):=by rw [List.getElem?_map,hpq]; rfl
  have hmem:=List.mem_of_getElem? hpq
  have hwp:=wL_mem wPar hmem
  have hwt:=wPar_ty p
  have hx1:=qx_base L (t:=p.type) (by omega) (.inl (ho p hmem).2)
  have hbl:=len_baseT p.type
  have hnew : ∀ s',s' = name ++ [40] ++ joinT [44] ((ps.take (q + 1)).map fun p => baseT p.type) → s'.length ≤ 1500000000:=by
   intro s' h
   have h1:=len_joinT [44] ((ps.take (q + 1)).map fun p => baseT p.type)
   have h2 : (ps.map fun p => baseT p.type) = ((ps.take (q + 1)).map fun p => baseT p.type) ++ ((ps.drop (q + 1)).map fun p => baseT p.type):=by rw [← List.map_append,List.take_append_drop]
   rw [h2,List.map_append,List.sum_append] at hsum
   simp only [List.length_cons,List.length_nil,Nat.zero_add] at h1
   rw [h]
   simp only [List.length_append,List.length_cons,List.length_nil]
   omega
  have hjs : name ++ [40] ++ joinT [44] ((ps.take (q + 1)).map fun p => baseT p.type) = if q = 0 then s ++ baseT p.type else s ++ [44] ++ baseT p.type:=by
   rw [take_snoc hpq,List.map_append,List.map_cons,List.map_nil,joinT_snoc,hsq]
   by_cases h0 : q = 0
   ·subst h0; simp [joinT]
   ·rw [if_neg h0,if_neg]
    ·simp
    ·intro h
     have:=congrArg List.length h
     simp only [List.length_map,List.length_take,List.length_nil] at this
     omega
  have hl5 : lst 8 (ps.map parRow) = .list 8 .dead (ps.map parRow):=lst_of_lt (i:=q) (by omega)
  rw [hl5]
  obtain ⟨nm1,⟨k1,t1,u1,e1,p1,a1⟩,at1⟩:=p
  simp only at hx1 hbl hjs hwt
  refine' stH
  ·have e1 : s ++ [44] ++ baseT (.mk k1 t1 u1 e1 p1 a1) = name ++ [40] ++ joinT [44] ((ps.take (q + 1)).map fun p => baseT p.type):=by rw [hjs,if_neg (by omega)]
   exact ⟨ps.length - (q + 1),by omega,q + 1,_,J,rwt,rfl,by omega,e1,hnew _ e1,hR,rfl,rfl⟩
  ·have e2 : s ++ baseT (.mk k1 t1 u1 e1 p1 a1) = name ++ [40] ++ joinT [44] ((ps.take (q + 1)).map fun p => baseT p.type):=by rw [hjs,if_pos (by omega)]
   exact ⟨ps.length - (q + 1),by omega,q + 1,_,J,rwt,rfl,by omega,e2,hnew _ e2,hR,rfl,rfl⟩
 ·refine' stH
  rw [show q = ps.length by omega,List.take_length] at hsq
  exact fin_ret rfl rfl (hp_take hlt) ⟨_,hR,by rw [hsq]; rfl,rfl⟩
end Go.Proofs.YtmeakjgbjldkdaaGreat.Ai
namespace Go.Proofs.YtmeakjgbjldkdaaGreat.Ai
open Go
variable {pr : Prims} {F : Nat → Option IFn}
theorem tx_baseN (L : LibE pr F) : TxOk pr F 15 [.agg [.int .i64 5,.str [],.bool false,.list 0 .full [],.list 0 .full [],.int .i64 0]] (.str [110,117,108,108]):=by
 have hm:=L.hm
 refine TxOk.of hm ?_
 intro H rw hH
 have hR : Rx rw rw:=Rx.rfl
 refine at_start hm L.f15.1 L.f15.2 rfl ?_
 refine at_seq hm ?_
 unfold r15_0
 show At pr F H.length (fin _ H.length _) _ _ _ _
 refine at_box hm rfl ?_
 intro H1 hH1 hlen hlt
 refine' stI
 exact fin_retF hH1 rfl rfl ⟨_,hR,rfl,rfl⟩
def lstTy (s : Str) (a : Int) : Ty:=.mk 4 [] false [.mk 3 s false [] [] a] [] 3
theorem known_lst {cs : List Cls} {s : Str} {i : Nat} (a : Int) (h : place cs s = some i) : knownF cs (lstTy s a) = (0,0):=by
 simp only [lstTy,knownF,knownsF,h]
 simp
theorem w_lst (s : Str) (a : Int) : wTy (lstTy s a) = s.length + 2:=by
 simp only [lstTy,wTy,wTys,wExs,List.length_nil]; omega
theorem hp_re {H J M : List Blk} {n : Nat} {b : Blk} (hlt : n < H.length) : hp (hp H n b J) n b M = hp H n b (J ++ M):=by
 show (hp H n b J ++ M).set n b = _
 rw [hp_app hlt,hp_set]
theorem wp_bases (L : LibH pr F) {x : Str} {p : Prg} {ok : Bool} (hrd : RdOk pr F x p ok) (H : List Blk) (rw : List Nat) : Wp pr F 3 [.str x] ⟨H,rw⟩ TrueQ:=by
 have hm:=L.hm
 have haw:=L.awake ⟨H,rw⟩
 have hN:=tx_baseN L.toLibE
 refine at_start hm L.f3.1 L.f3.2 rfl ?_
 refine' hGO
 unfold r3_3
 show At pr F H.length (fin _ H.length _) _ _ _ _
 refine at_first0 hm ?_
 intro H1 hH1 hlen hlt
 have hd:=hrd.2 (hp H1 H.length (.cells [.list 0 .full [],.list 0 .full []]) []) rw
 have hR : Rx rw rw:=Rx.rfl
 obtain ⟨cs,mn⟩:=p
 refine' stI
 clear hd
 refine in_alloc (q:=H.length) rfl rfl (hp_get hlt) ?_
 refine' stI
 ·exact fin_true rfl
 have hok : ok = true:=by simpa using hq
 obtain ⟨hp1,hp2,hp3⟩:=hrd.1 hok
 simp only at hp2 hp3
 obtain ⟨hokc,-⟩:=hp1
 simp only at hokc
 have hwt : wL wCls cs ≤ 42000000:=by omega
 have hlm : (cs.map clsRow).length = cs.length:=List.length_map _
 refine at_loop hm (fun mm e S' => ∃ (i : Nat) (J : List Blk) (rw' : List Nat),S' = ⟨hp H1 H.length (.cells [lst 9 (cs.map clsRow),lst 7 (smRows mn)]) J,rw'⟩ ∧ i ≤ cs.length ∧ mm = cs.length - i ∧
  e = [(0,.str x),(3,.ptr H.length 0),(5,.int .i64 i)]) ?_ (m:=cs.length) ⟨0,[],rw,rfl,by omega,rfl,rfl⟩
 clear hR
 rintro mm e S' ⟨i,J,rw3,rfl,hi0,rfl,rfl⟩
 have hR : Rx rw3 rw3:=Rx.rfl
 by_cases hi : i < cs.length
 ·obtain ⟨c,hc⟩ : ∃ c,cs[i]? = some c:=⟨_,List.getElem?_eq_getElem hi⟩
  have hcr : (cs.map clsRow)[i]? = some (clsRow c):=by rw [List.getElem?_map,hc]; rfl
  have hl9 : lst 9 (cs.map clsRow) = .list 9 .dead (cs.map clsRow):=lst_of_lt (i:=i) (by omega)
  have hcm:=List.mem_of_getElem? hc
  obtain ⟨hfb,hfb2⟩:=fld_bounds hcm hwt
  have hlf:=fldRow_len c.fields
  have hlk:=mthRow_len c.meths
  rw [hl9]
  refine' stI
  refine at_loop hm (fun mm e S' => ∃ (k : Nat) (rw' : List Nat),S' = ⟨hp H1 H.length (.cells [.list 9 .dead (cs.map clsRow),lst 7 (smRows mn)]) (J ++ [.cells (clsRow c)]),rw'⟩ ∧ k ≤ c.fields.length ∧ mm = c.fields.length - k ∧
   e = [(0,.str x),(3,.ptr H.length 0),(5,.int .i64 i),(6,.ptr (H1.length + J.length) 0),(7,.int .i64 k)]) ?_ (m:=c.fields.length) ⟨0,rw3,rfl,by omega,rfl,rfl⟩
  clear hR
  clear rw3
  rintro mm e S' ⟨k,rw3,rfl,hk0,rfl,rfl⟩
  have hR : Rx rw3 rw3:=Rx.rfl
  by_cases hk : k < c.fields.length
  ·obtain ⟨f,hf⟩ : ∃ f,c.fields[k]? = some f:=⟨_,List.getElem?_eq_getElem hk⟩
   have hfr : (c.fields.map fldRow)[k]? = some (fldRow f):=by rw [List.getElem?_map,hf]; rfl
   have hfm:=List.mem_of_getElem? hf
   obtain ⟨hfn,hft⟩:=hfb2 f hfm
   have hfo:=((hokc c hcm).2.2.2.1 f hfm).2
   have hl8 : lst 9 (c.fields.map fldRow) = .list 9 .dead (c.fields.map fldRow):=lst_of_lt (i:=k) (by omega)
   have hb15:=tx_base L.toLibE hft (.inl hfo)
   have hb16:=qx_base L.toLibE hft (.inl hfo)
   obtain ⟨fn,⟨k1,t1,u1,e1,p1,a1⟩,ff,at1⟩:=f
   simp only at hb15 hb16
   have hcy : clsRow c = [.str c.name,.bool c.iface,.str c.super,lst 1 (c.above.map nmRow),.list 9 .dead (c.fields.map fldRow),lst 5 (exRows c.invs),lst 5 (c.ctors.map ctrRow),lst 11 (c.meths.map mthRow),.int .i64 c.at_]:=by rw [← hl8]; rfl
   rw [hcy]
   refine' stI
   exact ⟨c.fields.length - (k + 1),by omega,k + 1,_,by first | rfl | (rw [hcy]),by omega,rfl,rfl⟩
  ·refine' stI
   refine at_loop hm (fun mm e S' => ∃ (k : Nat) (J' : List Blk) (rw' : List Nat),S' = ⟨hp H1 H.length (.cells [.list 9 .dead (cs.map clsRow),lst 7 (smRows mn)]) J',rw'⟩ ∧ J'[J.length]? = some (.cells (clsRow c)) ∧ k ≤ c.meths.length ∧ mm = c.meths.length - k ∧
    e = [(0,.str x),(3,.ptr H.length 0),(5,.int .i64 i),(6,.ptr (H1.length + J.length) 0),(8,.int .i64 k)]) ?_ (m:=c.meths.length) ⟨0,_,rw3,rfl,at_bk0,by omega,rfl,rfl⟩
   clear hR hk hk0 k
   clear rw3
   rintro mm e S' ⟨k,J',rw3,rfl,hJ,hk0,rfl,rfl⟩
   have hR : Rx rw3 rw3:=Rx.rfl
   by_cases hk : k < c.meths.length
   ·obtain ⟨m,hmk⟩ : ∃ f,c.meths[k]? = some f:=⟨_,List.getElem?_eq_getElem hk⟩
    have hmr : (c.meths.map mthRow)[k]? = some (mthRow m):=by rw [List.getElem?_map,hmk]; rfl
    have hmm:=List.mem_of_getElem? hmk
    obtain ⟨hb1,hb2,hb3,hb4⟩:=mth_bounds hcm hmm hwt
    obtain ⟨ho1,ho2,ho3,-⟩:=cls_meths (hokc c hcm) m hmm
    have hl11 : lst 11 (c.meths.map mthRow) = .list 11 .dead (c.meths.map mthRow):=lst_of_lt (i:=k) (by omega)
    have hb15:=tx_base L.toLibE hb3 ho3
    have hb16:=qx_base L.toLibE hb3 ho3
    have hb17:=tx_sig L.toLibE hb1 hb2 ho2
    have hb18:=qx_sig L.toLibE hb1 hb2 ho2
    obtain ⟨mn1,mps,⟨k1,t1,u1,e1,p1,a1⟩,bd,ab,at1⟩:=m
    simp only at hb15 hb16 hb17 hb18
    have hcy : clsRow c = [.str c.name,.bool c.iface,.str c.super,lst 1 (c.above.map nmRow),lst 9 (c.fields.map fldRow),lst 5 (exRows c.invs),lst 5 (c.ctors.map ctrRow),.list 11 .dead (c.meths.map mthRow),.int .i64 c.at_]:=by rw [← hl11]; rfl
    rw [hcy] at hJ
    refine' stI
    exact ⟨c.meths.length - (k + 1),by omega,k + 1,_,_,rfl,at_ext (by rw [hcy]; exact hJ),by omega,rfl,rfl⟩
   ·refine' stI
    exact ⟨cs.length - (i + 1),by omega,i + 1,_,rw3,rfl,by omega,rfl,rfl⟩
 ·refine' stI
  obtain ⟨r,S',hd,hT⟩:=(wp_table L.toLibF hrd (hp H1 H.length (.cells [lst 9 (cs.map clsRow),lst 7 (smRows mn)]) J) rw3).det hm
  rcases hT with ⟨rw',hR',rfl,rfl⟩ | ⟨H',rw2,n,mb,z,zb,tg,tb,U,hK,hn,hR0,hle,T,hall,hfw,rfl,rfl⟩
  ·refine g_call rfl rfl rfl ?_
   refine c_det hd ?_
   clear hd hR
   have hR : Rx rw' rw':=Rx.rfl
   refine zrk7 ?_
   refine' stI
   refine at_loop hm (fun mm e S' => S' = ⟨hp H1 H.length (.cells [lst 9 (cs.map clsRow),lst 7 (smRows mn)]) J,rw'⟩ ∧ e = [(3,.ptr H.length 0),(10,.nilp),(11,.list 0 .full []),(12,.int .i64 0)]) ?_ (m:=0) ⟨rfl,rfl⟩
   rintro mm e S' ⟨rfl,rfl⟩
   refine' stI
   all_goals exact fin_true rfl
  ·simp only at T hall hfw hd
   have hk0 : H'[H.length]? = some (.cells [lst 9 (cs.map clsRow),lst 7 (smRows mn)]):=hK _ _ (hp_get hlt)
   have hlt2 : H.length < H'.length:=(List.getElem?_eq_some_iff.1 hk0).1
   refine g_call rfl rfl rfl ?_
   refine c_det hd ?_
   rw [← st_of hk0]
   clear hd
   clear hlt
   have hlt:=hlt2
   clear hR
   have hR : Rx rw2 rw2:=Rx.rfl
   refine zrk7 ?_
   refine' stI
   refine at_loop hm (fun mm e S' => ∃ (i : Nat) (J : List Blk) (rw' : List Nat),S' = ⟨hp H' H.length (.cells [lst 9 (cs.map clsRow),lst 7 (smRows mn)]) J,rw'⟩ ∧ i ≤ cs.length ∧ mm = cs.length - i ∧
    e = [(3,.ptr H.length 0),(10,.ptr n 0),(11,lst 9 (cs.map clsRow)),(12,.int .i64 i)]) ?_ (m:=cs.length) ⟨0,[],rw2,rfl,by omega,rfl,rfl⟩
   clear hi hi0 i J rw3 hR0 hR hn hK
   clear rw2
   rintro mm e S' ⟨i,J,rw3,rfl,hi0,rfl,rfl⟩
   have hR : Rx rw3 rw3:=Rx.rfl
   by_cases hi : i < cs.length
   ·obtain ⟨c,hc⟩ : ∃ c,cs[i]? = some c:=⟨_,List.getElem?_eq_getElem hi⟩
    have hcr : (cs.map clsRow)[i]? = some (clsRow c):=by rw [List.getElem?_map,hc]; rfl
    have hl9 : lst 9 (cs.map clsRow) = .list 9 .dead (cs.map clsRow):=lst_of_lt (i:=i) (by omega)
    have hnl:=(hokc c (List.mem_of_getElem? hc)).1.len
    have hkx:=known_lst 1 (T.unlike i c hc)
    have hlt0:=hlt
    have hk2 : (hp H' H.length (.cells [lst 9 (cs.map clsRow),lst 7 (smRows mn)]) J)[H.length]? = some (.cells [lst 9 (cs.map clsRow),lst 7 (smRows mn)]):=hp_get hlt
    have T2:=T.keep (keep_n hk0 J)
    rw [hp_of hk2]
    clear hlt
    have hlt : H.length < (hp H' H.length (.cells [lst 9 (cs.map clsRow),lst 7 (smRows mn)]) J).length:=by rw [hp_len]; omega
    obtain ⟨H2,hH2⟩ : ∃ H2,H2 = hp H' H.length (.cells [lst 9 (cs.map clsRow),lst 7 (smRows mn)]) J:=⟨_,rfl⟩
    rw [← hH2] at hk2 T2 hlt ⊢
    have hx21:=qx_known L.toLibE (cs:=cs) (by omega) _ (lstTy (c.name ++ [49]) 2) (Nat.lt_succ_self _) (by rw [w_lst,List.length_append]; simp; omega)
    rw [hl9] at hk2 hx21 ⊢
    refine' stJ
    refine g_q rfl (v:=.agg (tyRow (.mk 3 c.name false [] [] 1))) rfl ?_
    refine' stJ
    refine g_q rfl (v:=.agg [.int .i64 4,.str [],.bool false,.list 6 .full [tyRow (.mk 3 c.name false [] [] 1)],.list 0 .full [],.int .i64 3]) rfl ?_
    refine' stJ
    refine g_q rfl (v:=.agg (tyRow (.mk 3 (c.name ++ [49]) false [] [] 2))) rfl ?_
    refine' stJ
    refine g_q rfl (v:=.agg [.int .i64 4,.str [],.bool false,.list 6 .full [tyRow (.mk 3 (c.name ++ [49]) false [] [] 2)],.list 0 .full [],.int .i64 3]) rfl ?_
    refine' stJ
    refine g_call rfl rfl rfl ?_
    refine ⟨_,_,det_known L.toLibE _ (lstTy c.name 1) (Nat.lt_succ_self _) (by rw [w_lst]; omega) (T2.toTabM.keep (keep_n hk2 _)),?_⟩
    rw [hkx]
    refine zrk7 ?_
    refine' stJ
    refine g_call rfl rfl rfl ?_
    refine ⟨_,_,det_known L.toLibE _ (lstTy (c.name ++ [49]) 2) (Nat.lt_succ_self _) (by rw [w_lst,List.length_append]; simp; omega) (T2.toTabM.keep (keep_n hk2 _)),?_⟩
    generalize knownF cs (lstTy (c.name ++ [49]) 2) = kf at hx21 ⊢
    refine zrk7 ?_
    refine' stJ
    have hS : ∀ M',(⟨hp H2 H.length (.cells [.list 9 .dead (cs.map clsRow),lst 7 (smRows mn)]) M',rwt⟩ : St) = ⟨hp H' H.length (.cells [.list 9 .dead (cs.map clsRow),lst 7 (smRows mn)]) (J ++ M'),rwt⟩:=fun M' => by
     rw [hH2,hl9,hp_re hlt0]
    exact ⟨cs.length - (i + 1),by omega,i + 1,_,_,hS _,by omega,rfl,by first | rfl | (rw [hl9]; rfl)⟩
   ·refine' stI
    exact fin_true rfl
end Go.Proofs.YtmeakjgbjldkdaaGreat.Ai
