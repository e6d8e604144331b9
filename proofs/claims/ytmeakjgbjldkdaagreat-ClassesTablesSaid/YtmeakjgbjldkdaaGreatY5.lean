/- A part of what is proved: Ai15, Ai16, Ai17, Ai18. No condition. -/
import Derived.Test.YtmeakjgbjldkdaaGreatY4
set_option maxRecDepth 100000
set_option maxHeartbeats 16000000
namespace Go.Proofs.YtmeakjgbjldkdaaGreat.Ai
open Go
variable {P : Program}
open Classical in
noncomputable def shut (K : Ghost) (n0 : Nat) (w : World) : Ghost where
 m n:=if n < n0 then K.m n else none
 g B:=match K.g B with
  | some l => some l
  | none => if h : ∃ n vs t,n0 ≤ n ∧ K.m n = some B ∧ w.heap[B]? = some (.cells vs t (0,0)) then some (Classical.choose (Classical.choose_spec h)).toList else none
 a:=K.a
theorem shut_g_old {K : Ghost} {n0 B : Nat} {w : World} {l : List Value} (h : K.g B = some l) : (shut K n0 w).g B = some l:=by simp [shut,h]
theorem shut_g_new {K : Ghost} {n0 n B : Nat} {w : World} {vs : Array Value} {t : TypeId} (hg : K.g B = none) (hn : n0 ≤ n) (hm : K.m n = some B) (hw : w.heap[B]? = some (.cells vs t (0,0))) : (shut K n0 w).g B = some vs.toList:=by
 have h : ∃ n vs t,n0 ≤ n ∧ K.m n = some B ∧ w.heap[B]? = some (.cells vs t (0,0)):=⟨n,vs,t,hn,hm,hw⟩
 simp only [shut,hg]
 rw [dif_pos h]
 obtain ⟨t',_,_,h2⟩:=Classical.choose_spec (Classical.choose_spec h)
 have h3:=hw.symm.trans h2
 simp only [Option.some.injEq,Obj.cells.injEq] at h3
 rw [← h3.1]
theorem shut_g_some {K : Ghost} {n0 B : Nat} {w : World} {l : List Value} (h : (shut K n0 w).g B = some l) : K.g B = some l ∨ (K.g B = none ∧ ∃ n vs t,n0 ≤ n ∧ K.m n = some B ∧ w.heap[B]? = some (.cells vs t (0,0)) ∧ l = vs.toList):=by
 cases hg : K.g B with
 | some l' =>
  left
  rw [shut_g_old hg] at h
  exact h
 | none =>
  right
  simp only [shut,hg] at h
  split at h
  ·rename_i hh
   obtain ⟨t',h1,h2,h3⟩:=Classical.choose_spec (Classical.choose_spec hh)
   simp only [Option.some.injEq] at h
   exact ⟨rfl,_,_,t',h1,h2,h3,h.symm⟩
  ·cases h
mutual
theorem below_of_closed (n : Nat) : ∀ (a : AV),closed1 a = true → Ai.below n a = true
 | .ptr _ _,h => by simp [closed1] at h
 | .arr _ _ _ _,h => by simp [closed1] at h
 | .map _,h => by simp [closed1] at h
 | .func _ a b,h => by
  simp only [closed1,Bool.and_eq_true] at h
  simp only [Ai.below,Bool.and_eq_true]
  exact ⟨belowL_of_closed n a h.1,belowL_of_closed n b h.2⟩
 | .iface _ v,h => by
  simp only [closed1] at h
  simp only [Ai.below]
  exact below_of_closed n v h
 | .agg cs,h => by
  simp only [closed1] at h
  simp only [Ai.below]
  exact belowL_of_closed n cs h
 | .tup cs,h => by
  simp only [closed1] at h
  simp only [Ai.below]
  exact belowL_of_closed n cs h
 | .bool _,_ => rfl
 | .int _ _,_ => rfl
 | .str _,_ => rfl
 | .nilp,_ => rfl
 | .ref cs,h => by
  simp only [closed1] at h
  simp only [Ai.below]
  exact belowL_of_closed n cs h
 | .list _ _ _,_ => rfl
 | .nilm,_ => rfl
 | .nilf,_ => rfl
 | .nili,_ => rfl
 | .undef,_ => rfl
theorem belowL_of_closed (n : Nat) : ∀ (a : List AV),closedL a = true → belowL n a = true
 | [],_ => rfl
 | a :: as,h => by
  simp only [closedL,Bool.and_eq_true] at h
  simp only [belowL,Bool.and_eq_true]
  exact ⟨below_of_closed n a h.1,belowL_of_closed n as h.2⟩
end
theorem shut_fix {K : Ghost} {n0 B o : Nat} {w : World} {vs : List Value} (h : K.fix B o vs) : (shut K n0 w).fix B o vs:=by
 obtain ⟨l,hg,hl⟩:=h
 exact ⟨l,shut_g_old hg,hl⟩
theorem shut_tag {K : Ghost} {n0 : Nat} {w : World} {sz : Nat} {tag : Tag} {len cap B o : Nat} (h : K.tagOk sz tag len cap B o) : (shut K n0 w).tagOk sz tag len cap B o:=by
 refine ⟨h.1,?_⟩
 replace h:=h.2
 cases tag with
 | full => exact h
 | still => exact h
 | dead => trivial
 | row b e =>
  refine ⟨h.1,fun hlt => ?_⟩
  obtain ⟨E,size,l,ha,hg,rest⟩:=h.2 hlt
  exact ⟨E,size,l,ha,shut_g_old hg,rest⟩
mutual
theorem Rep.shut {K : Ghost} {n0 : Nat} {w : World} : ∀ (a : AV) (v : Value),Rep K a v → Ai.below n0 a = true → Rep (Ai.shut K n0 w) a v
 | .bool _,_,r,_ => by simpa only [Rep] using r
 | .int _ _,_,r,_ => by simpa only [Rep] using r
 | .str _,_,r,_ => by simpa only [Rep] using r
 | .nilp,_,r,_ => by simpa only [Rep] using r
 | .nilm,_,r,_ => by simpa only [Rep] using r
 | .nilf,_,r,_ => by simpa only [Rep] using r
 | .nili,_,r,_ => by simpa only [Rep] using r
 | .undef,_,r,_ => by simpa only [Rep] using r
 | .ptr n off,v,r,hb => by
  simp only [Rep] at r ⊢
  simp only [Ai.below,decide_eq_true_eq] at hb
  obtain ⟨B,hm,hv⟩:=r
  exact ⟨B,by simp only [Ai.shut,if_pos hb]; exact hm,hv⟩
 | .map n,v,r,hb => by
  simp only [Rep] at r ⊢
  simp only [Ai.below,decide_eq_true_eq] at hb
  obtain ⟨B,hm,hv⟩:=r
  exact ⟨B,by simp only [Ai.shut,if_pos hb]; exact hm,hv⟩
 | .arr n off sz len,v,r,hb => by
  simp only [Rep] at r ⊢
  simp only [Ai.below,decide_eq_true_eq] at hb
  obtain ⟨B,cap,hm,hlc,hv⟩:=r
  exact ⟨B,cap,by simp only [Ai.shut,if_pos hb]; exact hm,hlc,hv⟩
 | .ref cs,v,r,hb => by
  simp only [Rep] at r ⊢
  simp only [Ai.below] at hb
  obtain ⟨B,o,vs,hv,hf,hr⟩:=r
  exact ⟨B,o,vs,hv,shut_fix hf,RepL.shut cs vs hr hb⟩
 | .list sz tag rows,v,r,_ => by
  simp only [Rep] at r ⊢
  obtain ⟨base,cap,hv,hc,hs,hr⟩:=r
  refine ⟨base,cap,hv,hc,hs,hr.imp id ?_⟩
  rintro ⟨B,o,vs,hb,hf,hr,ht⟩
  exact ⟨B,o,vs,hb,shut_fix hf,RepLL.shut rows vs hr (fun r hr' => belowL_of_closed n0 r (hs r hr').2),shut_tag ht⟩
 | .func f a b,v,r,hb => by
  simp only [Rep] at r ⊢
  simp only [Ai.below,Bool.and_eq_true] at hb
  obtain ⟨us,vs,hv,h1,h2⟩:=r
  exact ⟨us,vs,hv,RepT.shut a us h1 hb.1,RepT.shut b vs h2 hb.2⟩
 | .iface t x,v,r,hb => by
  simp only [Rep] at r ⊢
  simp only [Ai.below] at hb
  obtain ⟨u,hv,h1⟩:=r
  exact ⟨u,hv,Rep.shut x u h1 hb⟩
 | .agg cs,v,r,hb => by
  simp only [Rep] at r ⊢
  simp only [Ai.below] at hb
  obtain ⟨vs,hv,h1⟩:=r
  exact ⟨vs,hv,RepL.shut cs vs h1 hb⟩
 | .tup cs,v,r,hb => by
  simp only [Rep] at r ⊢
  simp only [Ai.below] at hb
  obtain ⟨vs,hv,h1⟩:=r
  exact ⟨vs,hv,RepT.shut cs vs h1 hb⟩
theorem RepL.shut {K : Ghost} {n0 : Nat} {w : World} : ∀ (a : List AV) (v : List Value),RepL K a v → belowL n0 a = true → RepL (Ai.shut K n0 w) a v
 | [],_,r,_ => by simpa only [RepL] using r
 | a :: as,v,r,hb => by
  simp only [RepL] at r ⊢
  simp only [belowL,Bool.and_eq_true] at hb
  obtain ⟨u,us,hv,h1,h2,h3⟩:=r
  exact ⟨u,us,hv,h1,Rep.shut a u h2 hb.1,RepL.shut as us h3 hb.2⟩
theorem RepT.shut {K : Ghost} {n0 : Nat} {w : World} : ∀ (a : List AV) (v : List Value),RepT K a v → belowL n0 a = true → RepT (Ai.shut K n0 w) a v
 | [],_,r,_ => by simpa only [RepT] using r
 | a :: as,v,r,hb => by
  simp only [RepT] at r ⊢
  simp only [belowL,Bool.and_eq_true] at hb
  obtain ⟨u,us,hv,h2,h3⟩:=r
  exact ⟨u,us,hv,Rep.shut a u h2 hb.1,RepT.shut as us h3 hb.2⟩
theorem RepLL.shut {K : Ghost} {n0 : Nat} {w : World} : ∀ (a : List (List AV)) (v : List Value),RepLL K a v → (∀ r ∈ a,belowL n0 r = true) → RepLL (Ai.shut K n0 w) a v
 | [],_,r,_ => by simpa only [RepLL] using r
 | a :: as,v,r,hb => by
  simp only [RepLL] at r ⊢
  obtain ⟨u,us,hv,h2,h3⟩:=r
  exact ⟨u,us,hv,RepL.shut a u h2 (hb a (by simp)),RepLL.shut as us h3 (fun r hr => hb r (by simp [hr]))⟩
end
theorem RepM.shut {K : Ghost} {n0 : Nat} {w : World} : ∀ {es : List (Str × AV)} {l : List MapEntry},RepM K es l → (es.all fun x => Ai.below n0 x.2) = true → RepM (Ai.shut K n0 w) es l
 | [],_,h,_ => by simpa only [RepM] using h
 | x :: es,l,h,hb => by
  simp only [RepM] at h ⊢
  simp only [List.all_cons,Bool.and_eq_true] at hb
  obtain ⟨m,ms',h1,h2,h3,h4⟩:=h
  exact ⟨m,ms',h1,h2,Rep.shut _ _ h3 hb.1,RepM.shut h4 hb.2⟩
theorem Rel.shut {K : Ghost} {S : St} {w : World} {n0 : Nat} (R : Rel K S w) (hI : Inner n0 S) : Rel (Ai.shut K n0 w) {S with heap:=S.heap.take n0} w:=by
 have hm : ∀ n B,(Ai.shut K n0 w).m n = some B → n < n0 ∧ K.m n = some B:=by
  intro n B h
  simp only [Ai.shut] at h
  split at h
  ·exact ⟨by assumption,h⟩
  ·cases h
 refine ⟨?_,?_,?_,?_,?_,?_,?_⟩
 ·intro n B h
  obtain ⟨h1,h2⟩:=hm n B h
  have:=R.dom n B h2
  simp; omega
 ·intro n n' B h h'
  exact R.inj n n' B (hm n B h).2 (hm n' B h').2
 ·intro n B h
  obtain ⟨h1,h2⟩:=hm n B h
  cases hg : (Ai.shut K n0 w).g B with
  | none => rfl
  | some l =>
   exfalso
   rcases shut_g_some hg with hg' | ⟨_,n',_,_,hn',hm',_⟩
   ·rw [R.sep n B h2] at hg'; cases hg'
   ·have:=R.inj n n' B h2 hm'
    omega
 ·intro n B cs h hb
  obtain ⟨h1,h2⟩:=hm n B h
  simp only [List.getElem?_take,if_pos h1] at hb
  obtain ⟨vs,t,hw,hr⟩:=R.cells n B cs h2 hb
  exact ⟨vs,t,hw,RepL.shut _ _ hr (hI n _ h1 hb)⟩
 ·intro n B es h hb
  obtain ⟨h1,h2⟩:=hm n B h
  simp only [List.getElem?_take,if_pos h1] at hb
  obtain ⟨ms,ck,hw,hr⟩:=R.maps n B es h2 hb
  exact ⟨ms,ck,hw,hr.shut (hI n _ h1 hb)⟩
 ·intro B l hg
  rcases shut_g_some hg with hg' | ⟨_,n',vs,t,_,_,hw,rfl⟩
  ·exact R.rows B l hg'
  ·exact ⟨vs,t,hw,by rw [List.take_of_length_le (Nat.le_refl _)]⟩
 ·intro B b E sz size ha
  obtain ⟨l,hg,rest⟩:=R.grow B b E sz size ha
  exact ⟨l,shut_g_old hg,rest⟩
theorem Step.shut {K K1 : Ghost} {S S1 : St} {w w1 : World} (R0 : Rel K S w) (_R : Rel K1 S1 w1) (h : Step K (fun n => n < S.heap.length) w K1 w1) : Step K (fun n => n < S.heap.length) w (Ai.shut K1 S.heap.length w1) w1:=by
 refine ⟨⟨fun n B hm => ?_,fun B l hg => ?_,fun B b E sz size ha => ?_,h.ext.n⟩,h.os,h.tape,h.output,h.size,h.frame,fun B hB h1 h2 => ?_,fun n hn hm => ?_,fun B x hx => h.born B x hx⟩
 ·simp only [Ai.shut,if_pos (R0.dom n B hm)]
  exact h.ext.m n B hm
 ·obtain ⟨x,hx⟩:=h.ext.g B l hg
  exact ⟨x,shut_g_old hx⟩
 ·obtain ⟨E',ha',hle,hl⟩:=h.ext.a B b E sz size ha
  refine ⟨E',ha',hle,fun l l' hg hg' => ?_⟩
  obtain ⟨x,hx⟩:=h.ext.g B l hg
  rw [shut_g_old hx] at hg'
  cases hg'
  exact hl l _ hg hx
 ·obtain ⟨h3,h4⟩:=h.fresh B hB h1 h2
  refine ⟨fun n hn => ?_,?_⟩
  ·simp only [Ai.shut] at hn
   split at hn
   ·exact h3 n hn
   ·cases hn
  ·cases hg : (Ai.shut K1 S.heap.length w1).g B with
   | none => rfl
   | some l =>
    exfalso
    rcases shut_g_some hg with hg' | ⟨_,n',_,_,_,hm',_⟩
    ·rw [h4] at hg'; cases hg'
    ·exact h3 n' hm'
 ·simp only [Ai.shut,if_pos hn]
  exact h.back n hn hm
theorem chunks_spec {sz : Nat} : ∀ {n : Nat} {cs : List AV} {rows : List (List AV)},chunks sz n cs = some rows → rows.length = n ∧ (∀ r ∈ rows,r.length = sz) ∧ rows.flatten = cs.take (n * sz) ∧ n * sz ≤ cs.length ∧ ∀ r ∈ rows,∀ x ∈ r,x ∈ cs
 | 0,cs,rows,h => by simp only [chunks,Option.some.injEq] at h; subst h; simp
 | n + 1,cs,rows,h => by
  simp only [chunks] at h
  split at h
  ·rename_i hle
   simp only [Option.map_eq_some_iff] at h
   obtain ⟨rs,hrs,rfl⟩:=h
   obtain ⟨h1,h2,h3,h4,h5⟩:=chunks_spec hrs
   simp only [List.length_drop] at h4
   refine ⟨by simp [h1],?_,?_,?_,?_⟩
   ·intro r hr
    rcases List.mem_cons.1 hr with rfl | hr
    ·simp; omega
    ·exact h2 r hr
   ·simp only [List.flatten_cons,h3]
    rw [Nat.add_mul,Nat.one_mul,Nat.add_comm,List.take_add]
   ·rw [Nat.add_mul]; omega
   ·intro r hr x hx
    rcases List.mem_cons.1 hr with rfl | hr
    ·exact List.mem_of_mem_take hx
    ·exact List.mem_of_mem_drop (h5 r hr x hx)
  ·simp at h
theorem closedL_mem : ∀ {cs : List AV},closedL cs = true → ∀ x ∈ cs,closed1 x = true
 | [],_,x,hx => by cases hx
 | c :: cs,h,x,hx => by
  simp only [closedL,Bool.and_eq_true] at h
  rcases List.mem_cons.1 hx with rfl | hx
  ·exact h.1
  ·exact closedL_mem h.2 x hx
theorem closedL_of : ∀ {cs : List AV},(∀ x ∈ cs,closed1 x = true) → closedL cs = true
 | [],_ => rfl
 | c :: cs,h => by
  simp only [closedL,Bool.and_eq_true]
  exact ⟨h c (by simp),closedL_of (fun x hx => h x (by simp [hx]))⟩
theorem flatten_map_canon (rows : List (List AV)) : (rows.map canonL).flatten = canonL rows.flatten:=by
 induction rows with
 | nil => rfl
 | cons r rs ih => simp only [List.map_cons,List.flatten_cons,ih,canonL,List.map_append]
theorem freeze1_rep {K : Ghost} {S : St} {w : World} {n0 : Nat} {a : AV} {v : Value} (R : Rel K S w) (hr : Rep K a v) (hb : Ai.below n0 (freeze1 n0 S.heap a) = true) : Rep (Ai.shut K n0 w) (freeze1 n0 S.heap a) v:=by
 cases a with
 | arr n off sz len =>
  simp only [freeze1] at hb ⊢
  split at hb
  ·rename_i hlt
   rw [if_pos hlt]
   exact Rep.shut _ _ hr hb
  ·rename_i hge
   rw [if_neg hge]
   split at hb
   ·rename_i cs hcs
    split at hb
    ·rename_i rows hrows
     split at hb
     ·rename_i hcl
      simp only [if_pos hcl]
      simp only [Bool.and_eq_true,decide_eq_true_eq] at hcl
      simp only [Rep] at hr
      obtain ⟨B,cap,hm,hlc,rfl⟩:=hr
      obtain ⟨vs,t,hw,hrl⟩:=R.cells n B cs hm hcs
      obtain ⟨c1,c2,c3,c4,c5⟩:=chunks_spec hrows
      have hcs' : belowL n0 cs = true:=belowL_of_closed n0 cs hcl.1
      have hg:=shut_g_new (R.sep n B hm) (by omega : n0 ≤ n) hm hw
      have hl:=hrl.length
      simp only [Array.length_toList] at hl
      simp only [List.length_drop] at c4
      simp only [Rep]
      refine ⟨some ⟨B,off,none⟩,cap,by simp [c1],by simp [c1]; exact hlc,?_,.inr ⟨B,off,(vs.toList.drop off).take (len * sz),rfl,⟨vs.toList,hg,?_⟩,?_,fun x hx => ?_,trivial⟩⟩
      ·intro r hr'
       obtain ⟨r0,hr0,rfl⟩:=List.mem_map.1 hr'
       refine ⟨by simp [canonL,c2 r0 hr0],?_⟩
       rw [closedL_canon]
       exact closedL_of (fun x hx => closedL_mem hcl.1 x (List.mem_of_mem_drop (c5 r0 hr0 x hx)))
      ·rw [List.length_take,List.length_drop,Array.length_toList]
       congr 1
       omega
      ·rw [RepLL.flat,flatten_map_canon,c3]
       exact (((RepL.shut _ _ hrl hcs').drop off).take (len * sz)).canon
      ·obtain ⟨b,E,sz1,size⟩:=x
       obtain ⟨l0,hg0,-⟩:=R.grow B b E sz1 size hx
       rw [R.sep n B hm] at hg0
       cases hg0
     ·exfalso
      simp only [Ai.below,decide_eq_true_eq] at hb
      omega
    ·exfalso
     simp only [Ai.below,decide_eq_true_eq] at hb
     omega
   ·exfalso
    simp only [Ai.below,decide_eq_true_eq] at hb
    omega
 | _ => exact Rep.shut _ _ hr hb
theorem freeze_list {K : Ghost} {S : St} {w : World} {n0 : Nat} (R : Rel K S w) : ∀ {as : List AV} {vs : List Value},RepT K as vs → belowL n0 (as.map (freeze1 n0 S.heap)) = true → RepT (Ai.shut K n0 w) (as.map (freeze1 n0 S.heap)) vs
 | [],_,h,_ => by
  simp only [List.map_nil,RepT] at h ⊢
  exact h
 | a :: as,vs,h,hb => by
  simp only [RepT] at h
  obtain ⟨v,vs',rfl,h1,h2⟩:=h
  simp only [List.map_cons,belowL,Bool.and_eq_true] at hb
  simp only [List.map_cons,RepT]
  exact ⟨v,vs',rfl,freeze1_rep R h1 hb.1,freeze_list R h2 hb.2⟩
theorem freeze_rep {K : Ghost} {S : St} {w : World} {n0 : Nat} {a : AV} {v : Value} (R : Rel K S w) (hr : Rep K a v) (hb : Ai.below n0 (freeze n0 S.heap a) = true) : Rep (Ai.shut K n0 w) (freeze n0 S.heap a) v:=by
 cases a with
 | tup as =>
  simp only [freeze] at hb ⊢
  simp only [Rep] at hr
  obtain ⟨vs,rfl,h⟩:=hr
  simp only [Ai.below] at hb
  simp only [Rep]
  exact ⟨vs,rfl,freeze_list R h hb⟩
 | _ => exact freeze1_rep R hr hb
def resB (P : Program) : List RVar → List ResultVar → Bool
 | [],[] => true
 | .tmp t :: rs,.tmp t' :: gs => t == t' && resB P rs gs
 | .cell t k :: rs,.cell t' T :: gs => t == t' && kindB P T k && resB P rs gs
 | _,_ => false
theorem rvals_sim {K : Ghost} {S : St} {w : World} {e : Env} {tmps : Array Value} {F : ResultVar → Sem Value} (hF : ∀ t,F (.tmp t) = pure (tmps.getD t Go.undef)) (hF2 : ∀ a t,F (.cell a t) = do loadVar t (← asAddr (tmps.getD a Go.undef))) (R : Rel K S w) (E : EnvRep K (eget e) tmps) : ∀ {rs : List RVar} {gs : List ResultVar} {vs : List AV},resB P rs gs = true → rvals rs e S.heap = some vs →
  ∃ us,(gs.mapM F).run P w = .ok us w ∧ RepT K vs us
 | [],[],vs,_,h => by
  simp only [rvals,Option.some.injEq] at h
  subst h
  exact ⟨[],by simp,by simp [RepT]⟩
 | .tmp t :: rs,.tmp t' :: gs,vs,hb,h => by
  simp only [resB,Bool.and_eq_true,beq_iff_eq] at hb
  obtain ⟨rfl,hb⟩:=hb
  simp only [rvals] at h
  split at h
  ·rename_i v vs' hv hvs
   simp only [Option.some.injEq] at h
   subst h
   obtain ⟨us,hu,hr⟩:=rvals_sim hF hF2 R E hb hvs
   refine ⟨tmps.getD t Go.undef :: us,?_,by simp only [RepT]; exact ⟨_,_,rfl,(E t v hv).2,hr⟩⟩
   simp only [List.mapM_cons,Sem.run_bind,hF,Sem.run_pure,Result.andThen_ok,hu]
  ·simp at h
 | .cell t k :: rs,.cell t' T :: gs,vs,hb,h => by
  simp only [resB,Bool.and_eq_true,beq_iff_eq] at hb
  obtain ⟨⟨rfl,hk⟩,hb⟩:=hb
  simp only [rvals] at h
  split at h
  ·rename_i n off vs' hv hvs
   split at h
   ·rename_i v hld
    simp only [Option.some.injEq] at h
    subst h
    obtain ⟨us,hu,hr⟩:=rvals_sim hF hF2 R E hb hvs
    have hp:=(E t _ hv).2
    obtain ⟨v',hrun,hrep⟩:=load_sim (P:=P) R hk hp hld
    simp only [Rep] at hp
    obtain ⟨B,hm,hpe⟩:=hp
    rw [hpe] at hrun
    simp only [Instr.loadAt,Instr.sureAddr,Sem.run_bind,Sem.run_pure,Result.andThen_ok] at hrun
    refine ⟨v' :: us,?_,by simp only [RepT]; exact ⟨_,_,rfl,hrep,hr⟩⟩
    have has : (asAddr (Value.pointer (some {block:=B,off:=off})) : Sem Addr).run P w = .ok {block:=B,off:=off} w:=rfl
    rw [List.mapM_cons]
    simp only [Sem.run_bind,hF2,hpe,has,Sem.run_pure,Result.andThen_ok,hrun]
    rw [hu]
    rfl
   ·simp at h
  ·simp at h
 | [],_ :: _,_,hb,_ => by simp [resB] at hb
 | .tmp _ :: _,[],_,hb,_ => by simp [resB] at hb
 | .cell _ _ :: _,[],_,hb,_ => by simp [resB] at hb
 | .tmp _ :: _,.cell _ _ :: _,_,hb,_ => by simp [resB] at hb
 | .cell _ _ :: _,.tmp _ :: _,_,hb,_ => by simp [resB] at hb
theorem results_sim {K : Ghost} {S : St} {w : World} {e : Env} {tmps : Array Value} {g : Func} {rs : List RVar} {vs : List AV} (R : Rel K S w) (E : EnvRep K (eget e) tmps) (hb : resB P rs g.results.toList = true) (h : rvals rs e S.heap = some vs) :
  ∃ u,(results g tmps).run P w = .ok u w ∧ Rep K (packed vs) u:=by
 have hu':=rvals_sim (P:=P) (F:=fun | .tmp t => pure (tmps.getD t Go.undef) | .cell a t => do loadVar t (← asAddr (tmps.getD a Go.undef))) (fun _ => rfl) (fun _ _ => rfl) R E hb h
 obtain ⟨us,hu,hr⟩:=hu'
 have hl:=hr.length
 refine ⟨if h : us.toArray.size = 1 then us.toArray[0] else .tuple us.toArray,?_,?_⟩
 ·unfold results
  rw [Array.mapM_eq_mapM_toList]
  simp only [Sem.run_bind,Sem.run_map,Sem.run_pure]
  erw [hu]
  rfl
 ·match vs,us,hr,hl with
  | [v],[u],hr,_ =>
   simp only [RepT] at hr
   obtain ⟨_,_,he,h1,_⟩:=hr
   cases he
   simpa [packed] using h1
  | [],[],_,_ => simp [packed,Rep,RepT]
  | v1 :: v2 :: vs,u1 :: u2 :: us,hr,_ =>
   have : ¬ (u1 :: u2 :: us).toArray.size = 1:=by simp
   rw [dif_neg this]
   simp only [packed,Rep]
   exact ⟨_,rfl,hr⟩
def chkFn (P : Program) (g : Func) (fn : IFn) : Bool:=
 (match g.body with
 | some c => chkC P g.ntmps fn.body c
 | none => false) && g.name != "runtime.NumGoroutine" && resB P fn.res g.results.toList
theorem eget_args0 : ∀ (vs : List AV) (k t : Nat),eget ((vs.zipIdx k).map fun (v,i) => (i,v)) t = if k ≤ t then vs[t - k]? else none
 | [],k,t => by simp [eget]
 | v :: vs,k,t => by
  simp only [List.zipIdx_cons,List.map_cons,eget]
  rw [eget_args0 vs (k + 1) t]
  by_cases h : k = t
  ·subst h; simp
  ·rw [if_neg h]
   by_cases h2 : k ≤ t
   ·rw [if_pos h2,if_pos (by omega)]
    obtain ⟨d,hd⟩ : ∃ d,t - k = d + 1:=⟨t - k - 1,by omega⟩
    rw [hd,show t - (k + 1) = d by omega]
    rfl
   ·rw [if_neg h2,if_neg (by omega)]
theorem args_rep {K : Ghost} {vs : List AV} {us : List Value} (h : RepT K vs us) (n : Nat) : EnvRep K (eget (args0 vs)) (us.toArray ++ Array.replicate (n - us.toArray.size) Go.undef):=by
 intro t v hv
 unfold args0 at hv
 rw [eget_args0] at hv
 simp only [Nat.zero_le,if_true,Nat.sub_zero] at hv
 obtain ⟨u,hu,hr⟩:=h.get t v hv
 have hlt:=(List.getElem?_eq_some_iff.1 hu).1
 refine ⟨by simp; omega,?_⟩
 have : (us.toArray ++ Array.replicate (n - us.toArray.size) Go.undef).getD t Go.undef = u:=by
  rw [Array.getD_eq_getD_getElem?,Array.getElem?_append_left (by simpa using hlt)]
  simp [hu]
 rw [this]
 exact hr
theorem leave_post {K K1 : Ghost} {S S1 : St} {w w1 : World} {v : AV} {u : Value} (R0 : Rel K S w) (hI : Inner S.heap.length S) (R : Rel K1 S1 w1) (hst : Step K (fun n => n < S.heap.length) w K1 w1) (hkp : Keeps S.heap.length S S1) (hr : Rep K1 v u) :
  ∃ K',Rel K' (leave S.heap.length v S1).2 w1 ∧ Step K (fun n => n < S.heap.length) w K' w1 ∧ Keeps S.heap.length S (leave S.heap.length v S1).2 ∧ Rep K' (leave S.heap.length v S1).1 u:=by
 have hI1 : Inner S.heap.length S1:=hkp.2.1 _ (Nat.le_refl _) hI
 have hlen:=hkp.1
 have hkt : Keeps S.heap.length S {S1 with heap:=S1.heap.take S.heap.length}:=by
  have hin : ∀ k,k ≤ S.heap.length → Inner k S1 → Inner k {S1 with heap:=S1.heap.take S.heap.length}:=by
   intro k hk h n b hn hb
   simp only [List.getElem?_take] at hb
   split at hb
   ·exact h n b hn hb
   ·cases hb
  refine ⟨by simp; omega,fun k hk h => hin k hk (hkp.2.1 k hk h),fun h => ?_⟩
  have : (S1.heap.take S.heap.length).length = S.heap.length:=by simp; omega
  simp only [this]
  exact hin _ (Nat.le_refl _) hI1
 unfold leave
 split
 ·rename_i hb
  exact ⟨_,R.shut hI1,Step.shut R0 R hst,hkt,Rep.shut _ _ hr hb⟩
 ·split
  ·rename_i hb
   exact ⟨_,R.shut hI1,Step.shut R0 R hst,hkt,freeze_rep R hr hb⟩
  ·exact ⟨K1,R,hst,hkp,hr⟩
theorem enter_sim {n f : Nat} {cl : CallFn} {g : Func} {fn : IFn} {vs : List AV} {S : St} {r : Res} {S' : St} (hcl : CallSim P cl) (hf : P.funcs[f]? = some g) (hc : chkFn P g fn = true) (hx : enter cl n fn vs S = some (r,S')) {K : Ghost} {w : World} {us : List Value}
  (R : Rel K S w) (hI : Inner S.heap.length S) (ha : RepT K vs us) :
  (callFunc f us.toArray).run P w = .ok (.enter f us.toArray) w ∧ Calls P f us.toArray w (CallPost K S w r S'):=by
 simp only [chkFn,Bool.and_eq_true,bne_iff_ne,ne_eq] at hc
 obtain ⟨⟨h1,h2⟩,h3⟩:=hc
 split at h1
 ·rename_i c hb
  refine ⟨by simp [callFunc,hf,h2,hb],?_⟩
  unfold enter at hx
  split at hx
  ·rename_i hn
   have hE:=args_rep ha g.ntmps
   have hsz : g.ntmps ≤ (us.toArray ++ Array.replicate (g.ntmps - us.toArray.size) Go.undef).size:=by simp; omega
   refine calls_of_wp hf hb ?_
   have key : ∀ (res : Ex × Env × St),exec S.heap.length cl n fn.body (args0 vs) S = some res → (∀ a' w' K' en,Rel K' res.2.2 w' → (notPanic res.1 → EnvRep K' (eget res.2.1) a'.tmps) → a'.defers = [] → Step K (fun n => n < S.heap.length) w K' w' → Keeps S.heap.length S res.2.2 → Exr K' res.1 en → bodyPost P g (CallPost K S w r S') en a' w') →
     c.wp P (bodyPost P g (CallPost K S w r S')) {tmps:=us.toArray ++ Array.replicate (g.ntmps - us.toArray.size) Go.undef,defers:=[]} w:=by
    intro res hex hpost
    refine csim hcl fn.body c K S w {tmps:=us.toArray ++ Array.replicate (g.ntmps - us.toArray.size) Go.undef,defers:=[]} (args0 vs) res h1 R hI hE hsz (Nat.le_refl _) hex _ ?_
    intro a' w' K' en R' E' hdf _ hst hkp hexr
    exact hpost a' w' K' en R' E' hdf hst hkp hexr
   have fin : ∀ (e : Env) (S1 : St) (ex : Ex),notPanic ex → exec S.heap.length cl n fn.body (args0 vs) S = some (ex,e,S1) → (∀ en K',Exr K' ex en → en = .normal ∨ en = .ret) →
     (∃ rs,rvals fn.res e S1.heap = some rs ∧ r = .ret (leave S.heap.length (packed rs) S1).1 ∧ S' = (leave S.heap.length (packed rs) S1).2) → c.wp P (bodyPost P g (CallPost K S w r S')) {tmps:=us.toArray ++ Array.replicate (g.ntmps - us.toArray.size) Go.undef,defers:=[]} w:=by
    rintro e S1 ex hnp hex hen ⟨rs,hrs,rfl,rfl⟩
    refine key _ hex ?_
    intro a' w' K' en R' E' hdf hst hkp hexr
    obtain ⟨u,hu,hr⟩:=results_sim (P:=P) (g:=g) R' (E' hnp) h3 hrs
    obtain ⟨K2,R2,hst2,hkp2,hr2⟩:=leave_post R hI R' hst hkp hr
    rcases hen en K' hexr with rfl | rfl
    ·exact ⟨hdf,u,hu,K2,R2,hst2,hkp2,u,rfl,hr2⟩
    ·exact ⟨hdf,u,hu,K2,R2,hst2,hkp2,u,rfl,hr2⟩
   split at hx
   ·rename_i e S1 hex
    split at hx
    ·rename_i rs hrs
     simp only [Option.some.injEq,Prod.mk.injEq] at hx
     refine fin e S1 _ (by simp [notPanic]) hex (fun en K' h => ?_) ⟨rs,hrs,hx.1.symm,hx.2.symm⟩
     cases en <;> simp [Exr] at h
     exact .inl rfl
    ·simp at hx
   ·rename_i e S1 hex
    split at hx
    ·rename_i rs hrs
     simp only [Option.some.injEq,Prod.mk.injEq] at hx
     refine fin e S1 _ (by simp [notPanic]) hex (fun en K' h => ?_) ⟨rs,hrs,hx.1.symm,hx.2.symm⟩
     cases en <;> simp [Exr] at h
     exact .inr rfl
    ·simp at hx
   ·rename_i v e S1 hex
    split at hx
    ·rename_i hb'
     simp only [Option.some.injEq,Prod.mk.injEq] at hx
     obtain ⟨rfl,rfl⟩:=hx
     refine key _ hex ?_
     intro a' w' K' en R' E' hdf hst hkp hexr
     cases en <;> simp only [Exr] at hexr
     obtain ⟨u,rfl,hr⟩:=hexr
     have hl:=leave_post R hI R' hst hkp hr
     unfold leave at hl
     simp only [hb',if_true] at hl
     obtain ⟨K2,R2,hst2,hkp2,hr2⟩:=hl
     exact ⟨hdf,K2,R2,hst2,hkp2,u,rfl,hr2⟩
    ·simp at hx
   ·simp at hx
  ·simp at hx
 ·simp at h1
def PrimSim (P : Program) (f : Nat) (p : CallFn → List AV → St → Option (Res × St)) : Prop:=
 ∀ cl,CallSim P cl → ∀ vs S r S',p cl vs S = some (r,S') → ∀ K w us,Rel K S w → Inner S.heap.length S → RepT K vs us →
  ((callFunc f us.toArray).run P w = .ok (.enter f us.toArray) w ∧ Calls P f us.toArray w (CallPost K S w r S')) ∨
  ∃ u w',(callFunc f us.toArray).run P w = .ok (.value u) w' ∧ CallPost K S w r S' (.returned u) w'
theorem calls_sim {prims : Prims} {F : Nat → Option IFn} (hp : ∀ f p,prims f = some p → PrimSim P f p) (hF : ∀ f fn,prims f = none → F f = some fn → ∃ g,P.funcs[f]? = some g ∧ chkFn P g fn = true) : ∀ n,CallSim P (callN prims F n)
 | 0 => fun f vs S r S' h => by simp [callN] at h
 | n + 1 => by
  have ih:=calls_sim hp hF n
  intro f vs S r S' h K w us R hI ha
  simp only [callN] at h
  split at h
  ·rename_i p hpf
   exact hp f p hpf _ ih vs S r S' h K w us R hI ha
  ·rename_i hpf
   split at h
   ·rename_i fn hFf
    obtain ⟨g,hg,hc⟩:=hF f fn hpf hFf
    exact .inl (enter_sim ih hg hc h R hI ha)
   ·simp at h
def S0 : St:={heap:=[],rows:=[]}
def K0 : Ghost:={m:=fun _ => none,g:=fun _ => none,a:=fun _ => none}
theorem rel0 (w : World) : Rel K0 S0 w:=
 ⟨fun n B h => by simp [K0] at h,fun n n' B h => by simp [K0] at h,fun n B h => by simp [K0] at h,fun n B cs h => by simp [K0] at h,fun n B es h => by simp [K0] at h,fun B l h => by simp [K0] at h,fun B b E sz size h => by simp [K0] at h⟩
end Go.Proofs.YtmeakjgbjldkdaaGreat.Ai
namespace Go.Proofs.YtmeakjgbjldkdaaGreat.Ai
open Go
def Le {α : Type} (x y : Option α) : Prop:=∀ a,x = some a → y = some a
def CLe (c c' : CallFn) : Prop:=∀ f vs S,Le (c f vs S) (c' f vs S)
def PrimMono (p : CallFn → List AV → St → Option (Res × St)) : Prop:=∀ c c',CLe c c' → ∀ vs S,Le (p c vs S) (p c' vs S)
def Mono (pr : Prims) : Prop:=∀ f p,pr f = some p → PrimMono p
theorem Le.rfl {α : Type} {x : Option α} : Le x x:=fun _ h => h
theorem CLe.rfl {c : CallFn} : CLe c c:=fun _ _ _ => Le.rfl
variable {b0 : Nat}
theorem lval_mono {c c' : CallFn} (h : CLe c c') (o : LOp) (e : Slots) (S : St) : Le (lval b0 c o e S) (lval b0 c' o e S):=by
 intro a ha
 cases o with
 | call f args =>
  simp only [lval] at ha ⊢
  split at ha
  ·exact h _ _ _ _ ha
  ·simp at ha
 | _ => exact ha
theorem step_mono {c c' : CallFn} (h : CLe c c') (base : Nat) (it : Item) (e : Env) (S : St) : Le (step b0 c base it e S) (step b0 c' base it e S):=by
 intro a ha
 unfold step at ha ⊢
 cases hw : wanted it.guard (eget e) with
 | none => rw [hw] at ha; simp at ha
 | some b =>
  rw [hw] at ha
  cases b with
  | false => exact ha
  | true =>
   simp only at ha ⊢
   cases ho : it.op with
   | q o => rw [ho] at ha; exact ha
   | l o re =>
    rw [ho] at ha
    simp only at ha ⊢
    cases hl : lval b0 c o (eget e) S with
    | none => rw [hl] at ha; simp at ha
    | some x =>
     rw [lval_mono h o _ _ _ hl]
     rw [hl] at ha
     exact ha
theorem run_mono {c c' : CallFn} (h : CLe c c') (base : Nat) : ∀ (items prev : List Item) (e : Env) (S : St),Le (run b0 c base prev items e S) (run b0 c' base prev items e S)
 | [],_,_,_ => Le.rfl
 | it :: rest,prev,e,S => by
  intro a ha
  simp only [run] at ha ⊢
  cases hs : step b0 c base it e S with
  | none => rw [hs] at ha; simp at ha
  | some x =>
   rw [step_mono h base it e S _ hs]
   rw [hs] at ha
   obtain ⟨o,e',S'⟩:=x
   cases o with
   | some v => exact ha
   | none =>
    simp only at ha ⊢
    split at ha
    ·rename_i hr
     rw [if_pos hr]
     exact run_mono h base rest _ _ _ _ ha
    ·simp at ha
theorem iter_mono {f f' : Env → St → Option (Ex × Env × St)} (h : ∀ e S,Le (f e S) (f' e S)) (kp : List Nat) : ∀ {n n' : Nat},n ≤ n' → ∀ e S,Le (iter f kp n e S) (iter f' kp n' e S)
 | 0,_,_,_,_ => fun a ha => by simp [iter] at ha
 | n + 1,0,hn,_,_ => by omega
 | n + 1,n' + 1,hn,e,S => by
  intro a ha
  simp only [iter] at ha ⊢
  cases hf : f (keep kp e) S with
  | none => rw [hf] at ha; simp at ha
  | some x =>
   rw [h _ _ _ hf]
   rw [hf] at ha
   obtain ⟨ex,e',S'⟩:=x
   cases ex with
   | normal => exact iter_mono h kp (by omega) e' S' a ha
   | _ => exact ha
theorem exec_mono {c c' : CallFn} (h : CLe c c') {n n' : Nat} (hn : n ≤ n') : ∀ (C : IC) (e : Env) (S : St),Le (exec b0 c n C e S) (exec b0 c' n' C e S)
 | .skip,_,_ => Le.rfl
 | .exit _,_,_ => Le.rfl
 | .ret,_,_ => Le.rfl
 | .stuck,_,_ => Le.rfl
 | .region al items kp,e,S => by
  intro a ha
  simp only [exec] at ha ⊢
  cases hr : run b0 c S.heap.length [] items e {S with heap:=S.heap ++ al.map .cells} with
  | none => rw [hr] at ha; simp at ha
  | some x => rw [run_mono h _ _ _ _ _ _ hr]; rw [hr] at ha; exact ha
 | .seq x y,e,S => by
  intro a ha
  simp only [exec] at ha ⊢
  cases hr : exec b0 c n x e S with
  | none => rw [hr] at ha; simp at ha
  | some r =>
   rw [exec_mono h hn x e S _ hr]
   rw [hr] at ha
   obtain ⟨ex,e',S'⟩:=r
   cases ex with
   | normal => exact exec_mono h hn y e' S' a ha
   | _ => exact ha
 | .cond o x y,e,S => by
  intro a ha
  simp only [exec] at ha ⊢
  split at ha
  ·exact exec_mono h hn x e S a ha
  ·exact exec_mono h hn y e S a ha
  ·simp at ha
 | .block id x,e,S => by
  intro a ha
  simp only [exec] at ha ⊢
  cases hr : exec b0 c n x e S with
  | none => rw [hr] at ha; simp at ha
  | some r =>
   rw [exec_mono h hn x e S _ hr]
   rw [hr] at ha
   exact ha
 | .loop kp x,e,S => by
  intro a ha
  simp only [exec] at ha ⊢
  exact iter_mono (fun e S => exec_mono h hn x e S) kp hn e S a ha
theorem enter_mono {c c' : CallFn} (h : CLe c c') {n n' : Nat} (hn : n ≤ n') (fn : IFn) (vs : List AV) (S : St) : Le (enter c n fn vs S) (enter c' n' fn vs S):=by
 intro a ha
 unfold enter at ha ⊢
 split at ha
 ·rename_i hl
  rw [if_pos hl]
  cases hr : exec S.heap.length c n fn.body (args0 vs) S with
  | none => rw [hr] at ha; simp at ha
  | some r =>
   rw [exec_mono h hn _ _ _ _ hr]
   rw [hr] at ha
   exact ha
 ·simp at ha
theorem callN_le {pr : Prims} {F : Nat → Option IFn} (hp : Mono pr) : ∀ n,CLe (callN pr F n) (callN pr F (n + 1))
 | 0 => fun f vs S a h => by simp [callN] at h
 | n + 1 => by
  intro f vs S a h
  have ih:=callN_le (F:=F) hp n
  rw [callN] at h ⊢
  dsimp only at h ⊢
  split at h
  ·rename_i p hpf
   exact hp f p hpf _ _ ih vs S a h
  ·rename_i hpf
   split at h
   ·rename_i fn hFf
    exact enter_mono ih (by omega) fn vs S a h
   ·simp at h
theorem callN_mono {pr : Prims} {F : Nat → Option IFn} (hp : Mono pr) {n m : Nat} (h : n ≤ m) : CLe (callN pr F n) (callN pr F m):=by
 induction m with
 | zero => obtain rfl : n = 0:=by omega
           exact CLe.rfl
 | succ m ih =>
  by_cases hn : n = m + 1
  ·subst hn; exact CLe.rfl
  ·intro f vs S a ha
   exact callN_le hp m f vs S a (ih (by omega) f vs S a ha)
variable (pr : Prims) (F : Nat → Option IFn)
def Wp (f : Nat) (vs : List AV) (S : St) (Q : Res → St → Prop) : Prop:=∃ n r S',callN pr F n f vs S = some (r,S') ∧ Q r S'
def Wx (b0 : Nat) (C : IC) (e : Env) (S : St) (Q : Ex → Env → St → Prop) : Prop:=∃ n x e' S',exec b0 (callN pr F n) n C e S = some (x,e',S') ∧ Q x e' S'
def Wi (b0 base : Nat) (prev items : List Item) (e : Env) (S : St) (Q : Option AV → Env → St → Prop) : Prop:=∃ n x e' S',run b0 (callN pr F n) base prev items e S = some (x,e',S') ∧ Q x e' S'
variable {pr F}
theorem Wp.mono {f : Nat} {vs : List AV} {S : St} {Q Q' : Res → St → Prop} (h : Wp pr F f vs S Q) (hq : ∀ r S',Q r S' → Q' r S') : Wp pr F f vs S Q':=by
 obtain ⟨n,r,S',h1,h2⟩:=h
 exact ⟨n,r,S',h1,hq _ _ h2⟩
theorem Wx.mono {C : IC} {e : Env} {S : St} {Q Q' : Ex → Env → St → Prop} (h : Wx pr F b0 C e S Q) (hq : ∀ x e' S',Q x e' S' → Q' x e' S') : Wx pr F b0 C e S Q':=by
 obtain ⟨n,x,e',S',h1,h2⟩:=h
 exact ⟨n,x,e',S',h1,hq _ _ _ h2⟩
def ifB (o : Option AV) (T E : Prop) : Prop:=
 match o with
 | some (.bool b) => (b = true → T) ∧ (b = false → E)
 | _ => False
def ifW (g : Option (Nat × Bool)) (e : Slots) (T E : Prop) : Prop:=
 match g with
 | none => T
 | some (s,want) => match e s with
  | some (.bool b) => (b = want → T) ∧ (b ≠ want → E)
  | some .undef => E
  | _ => False
theorem ifW_spec {g : Option (Nat × Bool)} {e : Slots} {T E : Prop} (h : ifW g e T E) : (wanted g e = some true ∧ T) ∨ (wanted g e = some false ∧ E):=by
 unfold ifW at h
 unfold wanted
 cases g with
 | none => exact .inl ⟨rfl,h⟩
 | some x =>
  obtain ⟨s,want⟩:=x
  simp only at h ⊢
  split at h
  ·rename_i b hb
   rw [hb]
   by_cases hbw : b = want
   ·exact .inl ⟨by simp [hbw],h.1 hbw⟩
   ·exact .inr ⟨by simp [hbw],h.2 hbw⟩
  ·rename_i hb
   rw [hb]
   exact .inr ⟨rfl,h⟩
  ·exact h.elim
variable (pr F)
def wl (b0 : Nat) (o : LOp) (e : Slots) (S : St) (Q : Res → St → Prop) : Prop:=
 match o with
 | .call f args => match f.val e,vals args e with
  | some (.func g first cap),some vs => Wp pr F g (first ++ vs ++ cap) S Q
  | _,_ => False
 | o => match lval b0 (fun _ _ _ => none) o e S with
  | some (r,S') => Q r S'
  | none => False
def wi (b0 base : Nat) : List Item → List Item → Env → St → (Option AV → Env → St → Prop) → Prop
 | _,[],e,S,Q => Q none e S
 | prev,it :: rest,e,S,Q => ifW it.guard (eget e)
  (match it.op with
  | .q o => match qval o (eget e) S.heap base with
   | some v => wi b0 base (it :: prev) rest (eput e it.dst v) S Q
   | none => False
  | .l o re => wl pr F b0 o (eget e) S fun r S' => match r with
   | .ret v => recheck prev re (eput e it.dst v) S'.heap base = true ∧ wi b0 base (it :: prev) rest (eput e it.dst v) S' Q
   | .panic v => Q (some v) e S')
  (match it.op with
  | .q _ => wi b0 base (it :: prev) rest (eput e it.dst .undef) S Q
  | .l _ re => recheck prev re (eput e it.dst .undef) S.heap base = true ∧ wi b0 base (it :: prev) rest (eput e it.dst .undef) S Q)
variable {pr F}
theorem wl_spec {o : LOp} {e : Slots} {S : St} {Q : Res → St → Prop} (h : wl pr F b0 o e S Q) : ∃ n r S',lval b0 (callN pr F n) o e S = some (r,S') ∧ Q r S':=by
 cases o with
 | call f args =>
  simp only [wl] at h
  split at h
  ·rename_i g first cap vs hf hv
   obtain ⟨n,r,S',h1,h2⟩:=h
   exact ⟨n,r,S',by simp only [lval,hf,hv,h1],h2⟩
  ·exact h.elim
 | _ =>
  simp only [wl] at h
  split at h
  ·rename_i r S' hr
   exact ⟨0,r,S',by rw [← hr]; rfl,h⟩
  ·exact h.elim
theorem wi_spec (hp : Mono pr) {base : Nat} : ∀ {items prev : List Item} {e : Env} {S : St} {Q : Option AV → Env → St → Prop},wi pr F b0 base prev items e S Q → Wi pr F b0 base prev items e S Q
 | [],prev,e,S,Q,h => ⟨0,none,e,S,rfl,h⟩
 | it :: rest,prev,e,S,Q,h => by
  simp only [wi] at h
  have fin : ∀ (n : Nat) (v : AV) (S' : St),step b0 (callN pr F n) base it e S = some (none,eput e it.dst v,S') → recheck prev (reOf it.op) (eput e it.dst v) S'.heap base = true → wi pr F b0 base (it :: prev) rest (eput e it.dst v) S' Q → Wi pr F b0 base prev (it :: rest) e S Q:=by
   intro n v S' hs hr h
   obtain ⟨m,x,e',S2,h1,h2⟩:=wi_spec hp h
   refine ⟨max n m,x,e',S2,?_,h2⟩
   simp only [run]
   rw [step_mono (callN_mono hp (Nat.le_max_left n m)) _ _ _ _ _ hs]
   simp only [hr,if_true]
   exact run_mono (callN_mono hp (Nat.le_max_right n m)) _ _ _ _ _ _ h1
  rcases ifW_spec h with ⟨hw,h⟩ | ⟨hw,h⟩
  ·split at h
   ·rename_i o ho
    split at h
    ·rename_i v hv
     exact fin 0 v S (by simp only [step,hw,ho,hv]) (by rw [ho]; exact recheck_nil _ _ _) h
    ·exact h.elim
   ·rename_i o re ho
    obtain ⟨n,r,S',h1,h2⟩:=wl_spec h
    cases r with
    | ret v =>
     simp only at h2
     exact fin n v S' (by simp only [step,hw,ho,h1]) (by rw [ho]; exact h2.1) h2.2
    | panic v =>
     simp only at h2
     exact ⟨n,some v,e,S',by simp only [run,step,hw,ho,h1],h2⟩
  ·split at h
   ·rename_i o ho
    exact fin 0 .undef S (by simp only [step,hw]) (by rw [ho]; exact recheck_nil _ _ _) h
   ·rename_i o re ho
    exact fin 0 .undef S (by simp only [step,hw]) (by rw [ho]; exact h.1) h.2
theorem Wx.skip {e : Env} {S : St} {Q : Ex → Env → St → Prop} (h : Q .normal e S) : Wx pr F b0 .skip e S Q:=⟨0,_,_,_,rfl,h⟩
theorem Wx.exit {id : Nat} {e : Env} {S : St} {Q : Ex → Env → St → Prop} (h : Q (.exit id) e S) : Wx pr F b0 (.exit id) e S Q:=⟨0,_,_,_,rfl,h⟩
theorem Wx.ret {e : Env} {S : St} {Q : Ex → Env → St → Prop} (h : Q .ret e S) : Wx pr F b0 .ret e S Q:=⟨0,_,_,_,rfl,h⟩
theorem Wx.region (hp : Mono pr) {al : List (List AV)} {items : List Item} {kp : List Nat} {e : Env} {S : St} {Q : Ex → Env → St → Prop}
  (h : wi pr F b0 S.heap.length [] items e {S with heap:=S.heap ++ al.map .cells} fun x e' S' => match x with | none => Q .normal (keep kp e') S' | some v => Q (.panic v) e' S') : Wx pr F b0 (.region al items kp) e S Q:=by
 obtain ⟨n,x,e',S',h1,h2⟩:=wi_spec hp h
 cases x with
 | none => exact ⟨n,_,_,_,by simp only [exec,h1],h2⟩
 | some v => exact ⟨n,_,_,_,by simp only [exec,h1],h2⟩
theorem Wx.seq (hp : Mono pr) {a b : IC} {e : Env} {S : St} {Q : Ex → Env → St → Prop} (h : Wx pr F b0 a e S fun x e' S' => match x with | .normal => Wx pr F b0 b e' S' Q | x => Q x e' S') : Wx pr F b0 (.seq a b) e S Q:=by
 obtain ⟨n,x,e',S',h1,h2⟩:=h
 cases x with
 | normal =>
  obtain ⟨m,y,e2,S2,h3,h4⟩:=h2
  refine ⟨max n m,y,e2,S2,?_,h4⟩
  simp only [exec]
  rw [exec_mono (callN_mono hp (Nat.le_max_left n m)) (Nat.le_max_left n m) _ _ _ _ h1]
  exact exec_mono (callN_mono hp (Nat.le_max_right n m)) (Nat.le_max_right n m) _ _ _ _ h3
 | _ => exact ⟨n,_,_,_,by simp only [exec,h1],h2⟩
theorem Wx.cond {c : Opd} {a b : IC} {e : Env} {S : St} {Q : Ex → Env → St → Prop} (h : ifB (c.val (eget e)) (Wx pr F b0 a e S Q) (Wx pr F b0 b e S Q)) : Wx pr F b0 (.cond c a b) e S Q:=by
 unfold ifB at h
 split at h
 ·rename_i v hv
  cases v with
  | true => obtain ⟨n,x,e',S',h1,h2⟩:=h.1 rfl; exact ⟨n,x,e',S',by simp only [exec,hv,h1],h2⟩
  | false => obtain ⟨n,x,e',S',h1,h2⟩:=h.2 rfl; exact ⟨n,x,e',S',by simp only [exec,hv,h1],h2⟩
 ·exact h.elim
theorem Wx.block {id : Nat} {a : IC} {e : Env} {S : St} {Q : Ex → Env → St → Prop} (h : Wx pr F b0 a e S fun x e' S' => match x with | .exit id' => if id' = id then Q .normal e' S' else Q (.exit id') e' S' | x => Q x e' S') : Wx pr F b0 (.block id a) e S Q:=by
 obtain ⟨n,x,e',S',h1,h2⟩:=h
 cases x with
 | exit id' =>
  simp only at h2
  split at h2
  ·rename_i hid
   exact ⟨n,_,_,_,by simp only [exec,h1]; rw [if_pos hid],h2⟩
  ·rename_i hid
   exact ⟨n,_,_,_,by simp only [exec,h1]; rw [if_neg hid],h2⟩
 | _ => exact ⟨n,_,_,_,by simp only [exec,h1],h2⟩
theorem Wx.loop (hp : Mono pr) {kp : List Nat} {b : IC} {Q : Ex → Env → St → Prop} (I : Nat → Env → St → Prop)
  (hb : ∀ m e S,I m e S → Wx pr F b0 b (keep kp e) S fun x e' S' => match x with | .normal => ∃ m',m' < m ∧ I m' e' S' | x => Q x e' S') {m : Nat} {e : Env} {S : St} (h : I m e S) : Wx pr F b0 (.loop kp b) e S Q:=by
 have key : ∀ m e S,I m e S → ∃ n k x e' S',iter (exec b0 (callN pr F n) n b) kp k e S = some (x,e',S') ∧ Q x e' S':=by
  intro m
  induction m using Nat.strongRecOn with
  | _ m ih =>
   intro e S h
   obtain ⟨n,x,e',S',h1,h2⟩:=hb m e S h
   cases x with
   | normal =>
    obtain ⟨m',hm,h'⟩:=h2
    obtain ⟨n2,k,y,e2,S2,h3,h4⟩:=ih m' hm e' S' h'
    refine ⟨max n n2,k + 1,y,e2,S2,?_,h4⟩
    simp only [iter]
    rw [exec_mono (callN_mono hp (Nat.le_max_left n n2)) (Nat.le_max_left n n2) _ _ _ _ h1]
    exact iter_mono (fun e S => exec_mono (callN_mono hp (Nat.le_max_right n n2)) (Nat.le_max_right n n2) b e S) kp (Nat.le_refl _) _ _ _ h3
   | _ => exact ⟨n,1,_,_,_,by simp only [iter,h1],h2⟩
 obtain ⟨n,k,x,e',S',h1,h2⟩:=key m e S h
 refine ⟨max n k,x,e',S',?_,h2⟩
 simp only [exec]
 exact iter_mono (fun e S => exec_mono (callN_mono hp (Nat.le_max_left n k)) (Nat.le_max_left n k) b e S) kp (Nat.le_max_right n k) _ _ _ h1
variable (pr F)
def wx (b0 : Nat) : IC → Env → St → (Ex → Env → St → Prop) → Prop
 | .skip,e,S,Q => Q .normal e S
 | .region al items kp,e,S,Q => wi pr F b0 S.heap.length [] items e {S with heap:=S.heap ++ al.map .cells} fun x e' S' => match x with | none => Q .normal (keep kp e') S' | some v => Q (.panic v) e' S'
 | .seq a b,e,S,Q => wx b0 a e S fun x e' S' => match x with | .normal => wx b0 b e' S' Q | x => Q x e' S'
 | .cond c a b,e,S,Q => ifB (c.val (eget e)) (wx b0 a e S Q) (wx b0 b e S Q)
 | .block id a,e,S,Q => wx b0 a e S fun x e' S' => match x with | .exit id' => if id' = id then Q .normal e' S' else Q (.exit id') e' S' | x => Q x e' S'
 | .loop kp b,e,S,Q => Wx pr F b0 (.loop kp b) e S Q
 | .exit id,e,S,Q => Q (.exit id) e S
 | .ret,e,S,Q => Q .ret e S
 | .stuck,_,_,_ => False
variable {pr F}
theorem wx_spec (hp : Mono pr) : ∀ {C : IC} {e : Env} {S : St} {Q : Ex → Env → St → Prop},wx pr F b0 C e S Q → Wx pr F b0 C e S Q
 | .skip,_,_,_,h => Wx.skip h
 | .region ..,_,_,_,h => Wx.region hp h
 | .seq a b,e,S,Q,h => by
  simp only [wx] at h
  have h2 : Wx pr F b0 a e S fun x e' S' => match x with | .normal => wx pr F b0 b e' S' Q | x => Q x e' S':=wx_spec hp h
  refine Wx.seq hp (h2.mono ?_)
  intro x e' S' h
  cases x with
  | normal => exact wx_spec hp h
  | _ => exact h
 | .cond c a b,_,_,_,h => Wx.cond (by
   simp only [wx] at h
   unfold ifB at h ⊢
   split at h
   ·rename_i v hv
    exact ⟨fun hb => wx_spec hp (h.1 hb),fun hb => wx_spec hp (h.2 hb)⟩
   ·exact h.elim)
 | .block id a,_,_,_,h => Wx.block (wx_spec hp h)
 | .loop ..,_,_,_,h => h
 | .exit _,_,_,_,h => Wx.exit h
 | .ret,_,_,_,h => Wx.ret h
 | .stuck,_,_,_,h => h.elim
def fin (res : List RVar) (n0 : Nat) (Q : Res → St → Prop) (x : Ex) (e : Env) (S' : St) : Prop:=
 match x with
 | .normal | .ret => match rvals res e S'.heap with
  | some rs => Q (.ret (leave n0 (packed rs) S').1) (leave n0 (packed rs) S').2
  | none => False
 | .panic v => Ai.below n0 v = true ∧ Q (.panic v) {S' with heap:=S'.heap.take n0}
 | _ => False
theorem Wp.of (hp : Mono pr) {f : Nat} {fn : IFn} {vs : List AV} {S : St} {Q : Res → St → Prop} (h1 : pr f = none) (h2 : F f = some fn) (h3 : vs.length = fn.nargs) (h : wx pr F S.heap.length fn.body (args0 vs) S (fin fn.res S.heap.length Q)) : Wp pr F f vs S Q:=by
 obtain ⟨n,x,e',S',h4,h5⟩:=wx_spec hp h
 unfold fin at h5
 split at h5
 ·split at h5
  ·rename_i rs hrs
   exact ⟨n + 1,_,_,by simp only [callN,h1,h2,enter,h3,if_true,h4,hrs],h5⟩
  ·exact h5.elim
 ·split at h5
  ·rename_i rs hrs
   exact ⟨n + 1,_,_,by simp only [callN,h1,h2,enter,h3,if_true,h4,hrs],h5⟩
  ·exact h5.elim
 ·exact ⟨n + 1,_,_,by simp only [callN,h1,h2,enter,h3,if_true,h4,h5.1],h5.2⟩
 ·exact h5.elim
def Det (pr : Prims) (F : Nat → Option IFn) (f : Nat) (vs : List AV) (S : St) (r : Res) (S' : St) : Prop:=∀ Q,Wp pr F f vs S Q ↔ Q r S'
theorem Wp.det (hp : Mono pr) {f : Nat} {vs : List AV} {S : St} {Q : Res → St → Prop} (h : Wp pr F f vs S Q) : ∃ r S',Det pr F f vs S r S' ∧ Q r S':=by
 obtain ⟨n,r,S',h1,h2⟩:=h
 refine ⟨r,S',fun Q' => ⟨?_,fun h => ⟨n,r,S',h1,h⟩⟩,h2⟩
 rintro ⟨m,r2,S2,h3,h4⟩
 have e1:=callN_mono hp (Nat.le_max_left n m) _ _ _ _ h1
 have e2:=callN_mono hp (Nat.le_max_right n m) _ _ _ _ h3
 rw [e1] at e2
 cases e2
 exact h4
theorem Det.of (hp : Mono pr) {f : Nat} {vs : List AV} {S : St} {r : Res} {S' : St} (h : Wp pr F f vs S fun r' S'' => r' = r ∧ S'' = S') : Det pr F f vs S r S':=by
 obtain ⟨r',S'',h1,rfl,rfl⟩:=h.det hp
 exact h1
end Go.Proofs.YtmeakjgbjldkdaaGreat.Ai
namespace Go.Proofs.YtmeakjgbjldkdaaGreat.Ai
open Go
def hp (H : List Blk) (n : Nat) (b : Blk) (L : List Blk) : List Blk:=(H ++ L).set n b
variable {H : List Blk} {n : Nat} {b b' : Blk} {L M : List Blk}
theorem hp_of (h : H[n]? = some b) : H = hp H n b []:=by
 unfold hp
 rw [List.append_nil]
 have hn:=(List.getElem?_eq_some_iff.1 h)
 obtain ⟨h1,h2⟩:=hn
 apply List.ext_getElem?
 intro i
 by_cases hi : i = n
 ·subst hi; rw [h,List.getElem?_set_self h1]
 ·rw [List.getElem?_set_ne (by omega)]
theorem hp_len : (hp H n b L).length = H.length + L.length:=by simp [hp]
theorem hp_get (hn : n < H.length) : (hp H n b L)[n]? = some b:=by
 unfold hp
 rw [List.getElem?_set_self (by simp; omega)]
theorem hp_own (hn : n < H.length) (k : Nat) : (hp H n b L)[H.length + k]? = L[k]?:=by
 unfold hp
 rw [List.getElem?_set_ne (by omega),List.getElem?_append_right (by omega)]
 congr 1
 omega
theorem hp_own0 (hn : n < H.length) : (hp H n b L)[H.length]? = L[0]?:=hp_own hn 0
theorem hp_set : (hp H n b L).set n b' = hp H n b' L:=by simp [hp]
theorem hp_set_own (hn : n < H.length) (k : Nat) : (hp H n b L).set (H.length + k) b' = hp H n b (L.set k b'):=by
 unfold hp
 rw [List.set_comm _ _ (by omega : n ≠ H.length + k)]
 congr 1
 rw [List.set_append_right _ _ (by omega)]
 congr 2
 omega
theorem hp_app (hn : n < H.length) : hp H n b L ++ M = hp H n b (L ++ M):=by
 unfold hp
 rw [← List.append_assoc,← List.set_append_left _ _ (by rw [List.length_append]; omega)]
theorem hp_take (_hn : n < H.length) : (hp H n b L).take H.length = hp H n b []:=by
 unfold hp
 rw [List.append_nil,List.take_set,List.take_left]
theorem hp_nil : hp H n b [] = H.set n b:=by simp [hp]
theorem wrap64 {x : Int} (h1 : -9223372036854775808 ≤ x) (h2 : x < 9223372036854775808) : IntKind.i64.wrap x = x:=by
 simp only [IntKind.wrap,IntKind.bits,IntKind.signed]
 simp
 omega
end Go.Proofs.YtmeakjgbjldkdaaGreat.Ai
namespace Go.Proofs.YtmeakjgbjldkdaaGreat.Ai
open Go
inductive Fr where
 | code (c : IC) | blk (id : Nat)
variable (pr : Prims) (F : Nat → Option IFn)
def backP (b0 : Nat) (Q : Ex → Env → St → Prop) : List Fr → Ex → Env → St → Prop
 | [],x,e,S => Q x e S
 | .code c :: k,.normal,e,S => Wx pr F b0 c e S (backP b0 Q k)
 | .code _ :: k,x,e,S => backP b0 Q k x e S
 | .blk id :: k,.exit id',e,S => if id' = id then backP b0 Q k .normal e S else backP b0 Q k (.exit id') e S
 | .blk _ :: k,x,e,S => backP b0 Q k x e S
structure Back (b0 : Nat) (Q : Ex → Env → St → Prop) (k : List Fr) (x : Ex) (e : Env) (S : St) : Prop where
 h : backP pr F b0 Q k x e S
structure At (b0 : Nat) (Q : Ex → Env → St → Prop) (c : IC) (k : List Fr) (e : Env) (S : St) : Prop where
 h : Wx pr F b0 c e S (backP pr F b0 Q k)
structure In (b0 : Nat) (Q : Ex → Env → St → Prop) (base : Nat) (prev items : List Item) (kp : List Nat) (k : List Fr) (e : Env) (S : St) : Prop where
 h : wi pr F b0 base prev items e S fun x e' S' => match x with | none => backP pr F b0 Q k .normal (keep kp e') S' | some v => backP pr F b0 Q k (.panic v) e' S'
variable {pr F}
variable {b0 base : Nat} {Q : Ex → Env → St → Prop} {k : List Fr} {e : Env} {S : St}
theorem at_start (_hp : Mono pr) {f : Nat} {na : Nat} {c : IC} {res : List RVar} {vs : List AV} {S : St} {Q : Res → St → Prop} (h1 : pr f = none) (h2 : F f = some ⟨na,c,res⟩) (h3 : vs.length = na) (h : At pr F S.heap.length (fin res S.heap.length Q) c [] (args0 vs) S) : Wp pr F f vs S Q:=by
 obtain ⟨n,x,e',S',h4,h5⟩:=h
 simp only [backP] at h5
 unfold fin at h5
 split at h5
 ·split at h5
  ·rename_i rs hrs
   exact ⟨n + 1,_,_,by simp only [callN,h1,h2,enter,h3,if_true,h4,hrs],h5⟩
  ·exact h5.elim
 ·split at h5
  ·rename_i rs hrs
   exact ⟨n + 1,_,_,by simp only [callN,h1,h2,enter,h3,if_true,h4,hrs],h5⟩
  ·exact h5.elim
 ·exact ⟨n + 1,_,_,by simp only [callN,h1,h2,enter,h3,if_true,h4,h5.1],h5.2⟩
 ·exact h5.elim
theorem at_seq (hp : Mono pr) {a b : IC} (h : At pr F b0 Q a (.code b :: k) e S) : At pr F b0 Q (.seq a b) k e S:=by
 refine ⟨Wx.seq hp (Wx.mono h.h ?_)⟩
 intro x e' S' h
 cases x <;> exact h
theorem at_skip (h : Back pr F b0 Q k .normal e S) : At pr F b0 Q .skip k e S:=⟨Wx.skip h.h⟩
theorem at_exit {id : Nat} (h : Back pr F b0 Q k (.exit id) e S) : At pr F b0 Q (.exit id) k e S:=⟨Wx.exit h.h⟩
theorem at_ret (h : Back pr F b0 Q k .ret e S) : At pr F b0 Q .ret k e S:=⟨Wx.ret h.h⟩
theorem at_block {id : Nat} {a : IC} (h : At pr F b0 Q a (.blk id :: k) e S) : At pr F b0 Q (.block id a) k e S:=by
 refine ⟨Wx.block (Wx.mono h.h ?_)⟩
 intro x e' S' h
 cases x <;> exact h
theorem at_true {c : Opd} {a b : IC} (hc : c.val (eget e) = some (.bool true)) (h : At pr F b0 Q a k e S) : At pr F b0 Q (.cond c a b) k e S:=
 ⟨Wx.cond (by rw [hc]; exact ⟨fun _ => h.h,fun h => by cases h⟩)⟩
theorem at_false {c : Opd} {a b : IC} (hc : c.val (eget e) = some (.bool false)) (h : At pr F b0 Q b k e S) : At pr F b0 Q (.cond c a b) k e S:=
 ⟨Wx.cond (by rw [hc]; exact ⟨fun h => (by cases h),fun _ => h.h⟩)⟩
theorem at_cond {c : Opd} {a b : IC} {v : Bool} (hc : c.val (eget e) = some (.bool v)) (h : v = true → At pr F b0 Q a k e S) (h' : v = false → At pr F b0 Q b k e S) : At pr F b0 Q (.cond c a b) k e S:=
 ⟨Wx.cond (by rw [hc]; exact ⟨fun e => (h e).h,fun e => (h' e).h⟩)⟩
theorem at_region (hp : Mono pr) {al : List (List AV)} {items : List Item} {kp : List Nat} {H0 H : List Blk} {rw : List Nat} {base : Nat} (hH : H0 ++ al.map .cells = H) (hb : H0.length = base) (h : In pr F b0 Q base [] items kp k e ⟨H,rw⟩) : At pr F b0 Q (.region al items kp) k e ⟨H0,rw⟩:=by
 subst hH hb
 exact ⟨Wx.region hp h.h⟩
theorem at_loop (hp : Mono pr) {kp : List Nat} {b : IC} (I : Nat → Env → St → Prop)
  (hb : ∀ m e S,I m e S → At pr F b0 (fun x e' S' => match x with | .normal => ∃ m',m' < m ∧ I m' (keep kp e') S' | x => Back pr F b0 Q k x e' S') b [] e S) {m : Nat} (h : I m (keep kp e) S) : At pr F b0 Q (.loop kp b) k e S:=by
 refine ⟨Wx.loop hp (fun m e S => I m (keep kp e) S) (fun m e S hi => Wx.mono (hb m (keep kp e) S hi).h ?_) h⟩
 intro x e' S' h
 cases x with
 | normal => exact h
 | _ => exact h.h
theorem back_code {c : IC} (h : At pr F b0 Q c k e S) : Back pr F b0 Q (.code c :: k) .normal e S:=⟨h.h⟩
theorem back_blk {id : Nat} (h : Back pr F b0 Q k .normal e S) : Back pr F b0 Q (.blk id :: k) .normal e S:=⟨h.h⟩
theorem back_ret_code {c : IC} (h : Back pr F b0 Q k .ret e S) : Back pr F b0 Q (.code c :: k) .ret e S:=⟨h.h⟩
theorem back_ret_blk {id : Nat} (h : Back pr F b0 Q k .ret e S) : Back pr F b0 Q (.blk id :: k) .ret e S:=⟨h.h⟩
theorem back_exit_code {c : IC} {id : Nat} (h : Back pr F b0 Q k (.exit id) e S) : Back pr F b0 Q (.code c :: k) (.exit id) e S:=⟨h.h⟩
theorem back_exit_same {id : Nat} (h : Back pr F b0 Q k .normal e S) : Back pr F b0 Q (.blk id :: k) (.exit id) e S:=by
 refine ⟨?_⟩
 simp only [backP,if_true]; exact h.h
theorem back_exit_other {id id' : Nat} (hn : id' ≠ id) (h : Back pr F b0 Q k (.exit id') e S) : Back pr F b0 Q (.blk id :: k) (.exit id') e S:=by
 refine ⟨?_⟩
 simp only [backP,if_neg hn]; exact h.h
theorem back_nil {x : Ex} (h : Q x e S) : Back pr F b0 Q [] x e S:=⟨h⟩
variable {prev items : List Item} {kp : List Nat} {ix : Nat} {d : Option Nat} {g : Option (Nat × Bool)}
theorem in_nil {e' : Env} (hk : keep kp e = e') (h : Back pr F b0 Q k .normal e' S) : In pr F b0 Q base prev [] kp k e S:=by subst hk; exact ⟨h.h⟩
theorem ifW_true {T E : Prop} {ρ : Slots} (h : wanted g ρ = some true) (t : T) : ifW g ρ T E:=by
 unfold wanted at h
 unfold ifW
 split at h
 ·exact t
 ·split at h
  ·rename_i s want b hb
   simp only [Option.some.injEq,beq_iff_eq] at h
   simp only [hb]
   exact ⟨fun _ => t,fun hn => absurd h hn⟩
  ·simp at h
  ·simp at h
theorem ifW_false {T E : Prop} {ρ : Slots} (h : wanted g ρ = some false) (t : E) : ifW g ρ T E:=by
 unfold wanted at h
 unfold ifW
 split at h
 ·simp at h
 ·split at h
  ·rename_i s want b hb
   simp only [Option.some.injEq,beq_eq_false_iff_ne,ne_eq] at h
   simp only [hb]
   exact ⟨fun hn => absurd hn h,fun _ => t⟩
  ·rename_i hb
   simp only [hb]
   exact t
  ·simp at h
theorem in_q {o : QOp} {v : AV} (hw : wanted g (eget e) = some true) (hv : qval o (eget e) S.heap base = some v) (h : In pr F b0 Q base (⟨ix,d,g,.q o⟩ :: prev) items kp k (eput e d v) S) : In pr F b0 Q base prev (⟨ix,d,g,.q o⟩ :: items) kp k e S:=by
 refine ⟨?_⟩
 simp only [wi]
 exact ifW_true hw (by simp only [hv]; exact h.h)
theorem in_mov {x : Opd} {v : AV} (hv : x.val (eget e) = some v) (h : In pr F b0 Q base (⟨ix,d,none,.q (.mov x)⟩ :: prev) items kp k (eput e d v) S) : In pr F b0 Q base prev (⟨ix,d,none,.q (.mov x)⟩ :: items) kp k e S:=in_q rfl hv h
theorem in_bin_b {tk : TK} {op : BinOp} {x y : Opd} {u v : AV} {c : Bool} (c' : Bool) (hw : wanted g (eget e) = some true) (hx : x.val (eget e) = some u) (hy : y.val (eget e) = some v) (hv : abin tk op u v = some (.bool c)) (hc : c = c') (h : In pr F b0 Q base (⟨ix,d,g,.q (.bin tk op x y)⟩ :: prev) items kp k (eput e d (.bool c')) S) : In pr F b0 Q base prev (⟨ix,d,g,.q (.bin tk op x y)⟩ :: items) kp k e S:=
 in_q hw (by simp only [qval,hx,hy,hv]) (hc ▸ h)
theorem in_bin_i {tk : TK} {op : BinOp} {x y : Opd} {u v : AV} {ki : IntKind} {c c' : Int} (hw : wanted g (eget e) = some true) (hx : x.val (eget e) = some u) (hy : y.val (eget e) = some v) (hv : abin tk op u v = some (.int ki c)) (hc : c = c') (h : In pr F b0 Q base (⟨ix,d,g,.q (.bin tk op x y)⟩ :: prev) items kp k (eput e d (.int ki c')) S) : In pr F b0 Q base prev (⟨ix,d,g,.q (.bin tk op x y)⟩ :: items) kp k e S:=
 in_q hw (by simp only [qval,hx,hy,hv]) (hc ▸ h)
theorem in_no {o : QOp} (hw : wanted g (eget e) = some false) (h : In pr F b0 Q base (⟨ix,d,g,.q o⟩ :: prev) items kp k (eput e d .undef) S) : In pr F b0 Q base prev (⟨ix,d,g,.q o⟩ :: items) kp k e S:=by
 refine ⟨?_⟩
 simp only [wi]
 exact ifW_false hw h.h
theorem in_no_l {o : LOp} {re : List Nat} (hw : wanted g (eget e) = some false) (hr : recheck prev re (eput e d .undef) S.heap base = true) (h : In pr F b0 Q base (⟨ix,d,g,.l o re⟩ :: prev) items kp k (eput e d .undef) S) : In pr F b0 Q base prev (⟨ix,d,g,.l o re⟩ :: items) kp k e S:=by
 refine ⟨?_⟩
 simp only [wi]
 exact ifW_false hw ⟨hr,h.h⟩
theorem in_load {kd : Option Nat} {x : Opd} {n off : Nat} {cs : List AV} {v : AV} (hw : wanted g (eget e) = some true) (hx : x.val (eget e) = some (.ptr n off)) (hH : S.heap[n]? = some (.cells cs))
  (hv : aload kd (.ptr 0 off) [.cells cs] = some v) (h : In pr F b0 Q base (⟨ix,d,g,.q (.load kd x)⟩ :: prev) items kp k (eput e d v) S) : In pr F b0 Q base prev (⟨ix,d,g,.q (.load kd x)⟩ :: items) kp k e S:=by
 refine in_q hw ?_ h
 simp only [qval,hx,aload,hH]
 simp only [aload,List.getElem?_cons_zero] at hv
 exact hv
theorem in_index {x i : Opd} {sz m : Nat} {tag : Tag} {rows : List (List AV)} {ki : IntKind} {n : Int} {r : List AV} (hr : rows[m]? = some r) (hw : wanted g (eget e) = some true) (hx : x.val (eget e) = some (.list sz tag rows)) (hi : i.val (eget e) = some (.int ki n)) (hn : n = (m : Nat))
  (h : In pr F b0 Q base (⟨ix,d,g,.q (.indexAddr sz x i)⟩ :: prev) items kp k (eput e d (.ref r)) S) : In pr F b0 Q base prev (⟨ix,d,g,.q (.indexAddr sz x i)⟩ :: items) kp k e S:=by
 refine in_q hw ?_ h
 subst hn
 simp only [qval,hx,hi,Int.toNat_natCast,hr,Option.map_some]
 simp
theorem in_byte {x i : Opd} {m : Nat} {s : Str} {ki : IntKind} {n : Int} {b : UInt8} (hr : s[m]? = some b) (hw : wanted g (eget e) = some true) (hx : x.val (eget e) = some (.str s)) (hi : i.val (eget e) = some (.int ki n)) (hn : n = (m : Nat))
  (h : In pr F b0 Q base (⟨ix,d,g,.q (.index x i)⟩ :: prev) items kp k (eput e d (.int .u8 b.toNat)) S) : In pr F b0 Q base prev (⟨ix,d,g,.q (.index x i)⟩ :: items) kp k e S:=by
 refine in_q hw ?_ h
 subst hn
 simp only [qval,hx,hi,Int.toNat_natCast,hr,Option.map_some]
 simp
theorem in_index2 {x i : Opd} {sz m : Nat} {tag : Tag} {rows : List (List AV)} {ki : IntKind} {n : Int} {r : List AV} (hw : wanted g (eget e) = some true) (hx : x.val (eget e) = some (.list sz tag rows)) (hi : i.val (eget e) = some (.int ki n)) (hn : n = (m : Nat)) (hr : rows[m]? = some r)
  (h : In pr F b0 Q base (⟨ix,d,g,.q (.indexAddr sz x i)⟩ :: prev) items kp k (eput e d (.ref r)) S) : In pr F b0 Q base prev (⟨ix,d,g,.q (.indexAddr sz x i)⟩ :: items) kp k e S:=in_index hr hw hx hi hn h
theorem in_byte2 {x i : Opd} {m : Nat} {s : Str} {ki : IntKind} {n : Int} {b : UInt8} (hw : wanted g (eget e) = some true) (hx : x.val (eget e) = some (.str s)) (hi : i.val (eget e) = some (.int ki n)) (hn : n = (m : Nat)) (hr : s[m]? = some b)
  (h : In pr F b0 Q base (⟨ix,d,g,.q (.index x i)⟩ :: prev) items kp k (eput e d (.int .u8 b.toNat)) S) : In pr F b0 Q base prev (⟨ix,d,g,.q (.index x i)⟩ :: items) kp k e S:=in_byte hr hw hx hi hn h
theorem in_cut {x : Opd} {lo hi : Option Opd} {s t : Str} {l r : Option Int} (hw : wanted g (eget e) = some true) (hx : x.val (eget e) = some (.str s)) (hl : optIx lo (eget e) = some l) (hh : optIx hi (eget e) = some r) (hc : 0 ≤ l.getD 0 ∧ l.getD 0 ≤ r.getD s.length ∧ r.getD s.length ≤ s.length)
  (ht : (s.drop (l.getD 0).toNat).take ((r.getD s.length).toNat - (l.getD 0).toNat) = t) (h : In pr F b0 Q base (⟨ix,d,g,.q (.sliceS x lo hi)⟩ :: prev) items kp k (eput e d (.str t)) S) : In pr F b0 Q base prev (⟨ix,d,g,.q (.sliceS x lo hi)⟩ :: items) kp k e S:=by
 refine in_q hw ?_ h
 simp only [qval,hx,hl,hh,asliceS,if_pos hc,ht]
theorem in_alloc {j q : Nat} {zs : List AV} (hw : wanted g (eget e) = some true) (hq : base + j = q) (hH : S.heap[q]? = some (.cells zs)) (h : In pr F b0 Q base (⟨ix,d,g,.q (.alloc j zs)⟩ :: prev) items kp k (eput e d (.ptr q 0)) S) : In pr F b0 Q base prev (⟨ix,d,g,.q (.alloc j zs)⟩ :: items) kp k e S:=by
 subst hq
 refine in_q hw ?_ h
 have hb : AV.beqL zs zs = true:=by
  have:=beq_self (.agg zs)
  simpa only [AV.beq] using this
 simp only [qval,hH,hb,if_true]
theorem in_l {o : LOp} {re : List Nat} {v : AV} {S' : St} (hw : wanted g (eget e) = some true) (hl : lval b0 (fun _ _ _ => none) o (eget e) S = some (.ret v,S')) (hr : recheck prev re (eput e d v) S'.heap base = true)
  (h : In pr F b0 Q base (⟨ix,d,g,.l o re⟩ :: prev) items kp k (eput e d v) S') : In pr F b0 Q base prev (⟨ix,d,g,.l o re⟩ :: items) kp k e S:=by
 refine ⟨?_⟩
 simp only [wi]
 refine ifW_true hw ?_
 cases o with
 | call f as => simp only [lval] at hl; split at hl <;> simp at hl
 | _ => simp only [wl,hl]; exact ⟨hr,h.h⟩
theorem in_store {H0 : List Blk} {rw : List Nat} {re : List Nat} {kd : Nat} {x y : Opd} {n off : Nat} {v : AV} {cs : List AV} {H' : List Blk} (hw : wanted g (eget e) = some true) (hx : x.val (eget e) = some (.ptr n off)) (hy : y.val (eget e) = some v) (hH : H0[n]? = some (.cells cs))
  (hv : v.cells.length = kd ∧ v.okv = true ∧ off + kd ≤ cs.length ∧ (b0 ≤ n ∨ Ai.below (n + 1) v = true)) (hH' : H0.set n (.cells (overlay cs off v.cells)) = H') (hr : recheck prev re (eput e d .undef) H' base = true)
  (h : In pr F b0 Q base (⟨ix,d,g,.l (.store kd x y) re⟩ :: prev) items kp k (eput e d .undef) ⟨H',rw⟩) : In pr F b0 Q base prev (⟨ix,d,g,.l (.store kd x y) re⟩ :: items) kp k e ⟨H0,rw⟩:=by
 subst hH'
 refine in_l hw ?_ hr h
 simp only [lval,hx,hy,hH,if_pos hv]
theorem in_call {re : List Nat} {f : Opd} {as : List Opd} {fn : Nat} {a c vs : List AV} {v : AV} {S' : St} (hw : wanted g (eget e) = some true) (hf : f.val (eget e) = some (.func fn a c)) (ha : vals as (eget e) = some vs)
  (hd : Det pr F fn (a ++ vs ++ c) S (.ret v) S') (hr : recheck prev re (eput e d v) S'.heap base = true) (h : In pr F b0 Q base (⟨ix,d,g,.l (.call f as) re⟩ :: prev) items kp k (eput e d v) S') : In pr F b0 Q base prev (⟨ix,d,g,.l (.call f as) re⟩ :: items) kp k e S:=by
 refine ⟨?_⟩
 simp only [wi]
 refine ifW_true hw ?_
 simp only [wl,hf,ha]
 exact (hd _).2 ⟨hr,h.h⟩
theorem in_call_ex {re : List Nat} {f : Opd} {as : List Opd} {fn : Nat} {a c vs : List AV} {α : Type} {p : α → Prop} {v : α → AV} {S' : α → St} (hw : wanted g (eget e) = some true) (hf : f.val (eget e) = some (.func fn a c)) (ha : vals as (eget e) = some vs)
  (hd : ∃ x,p x ∧ Det pr F fn (a ++ vs ++ c) S (.ret (v x)) (S' x)) (h : ∀ x,p x → recheck prev re (eput e d (v x)) (S' x).heap base = true ∧ In pr F b0 Q base (⟨ix,d,g,.l (.call f as) re⟩ :: prev) items kp k (eput e d (v x)) (S' x)) : In pr F b0 Q base prev (⟨ix,d,g,.l (.call f as) re⟩ :: items) kp k e S:=by
 obtain ⟨x,hp,hd⟩:=hd
 exact in_call hw hf ha hd (h x hp).1 (h x hp).2
theorem in_append {re : List Nat} {sz by_ : Nat} {x y : Opd} {u v r : AV} {S' : St} (hw : wanted g (eget e) = some true) (hx : x.val (eget e) = some u) (hy : y.val (eget e) = some v) (ha : aappend sz by_ u v S = some (r,S'))
  (hr : recheck prev re (eput e d r) S'.heap base = true) (h : In pr F b0 Q base (⟨ix,d,g,.l (.append sz by_ x y) re⟩ :: prev) items kp k (eput e d r) S') : In pr F b0 Q base prev (⟨ix,d,g,.l (.append sz by_ x y) re⟩ :: items) kp k e S:=by
 refine in_l hw ?_ hr h
 simp only [lval,hx,hy,ha]
theorem in_id (h : In pr F b0 Q base prev items kp k e S) : In pr F b0 Q base prev items kp k e S:=h
theorem bin_id {tk : TK} {op : BinOp} {x y : Opd} (h : In pr F b0 Q base prev (⟨ix,d,g,.q (.bin tk op x y)⟩ :: items) kp k e S) : In pr F b0 Q base prev (⟨ix,d,g,.q (.bin tk op x y)⟩ :: items) kp k e S:=h
theorem at_id {c : IC} (h : At pr F b0 Q c k e S) : At pr F b0 Q c k e S:=h
theorem back_id {x : Ex} (h : Back pr F b0 Q k x e S) : Back pr F b0 Q k x e S:=h
theorem fin_retN {H0 : List Blk} {rw : List Nat} {res : List RVar} {n0 : Nat} {Q : Res → St → Prop} {rs : List AV} {v : AV} {H : List Blk} (hr : rvals res e H0 = some rs) (hp : packed rs = v) (hb : Ai.below n0 v = true) (hH : H0.take n0 = H) (h : Q (.ret v) ⟨H,rw⟩) :
  fin res n0 Q .ret e ⟨H0,rw⟩:=by
 subst hp hH
 simp only [fin,hr,leave,hb,if_true]
 exact h
theorem fin_normalN {H0 : List Blk} {rw : List Nat} {res : List RVar} {n0 : Nat} {Q : Res → St → Prop} {rs : List AV} {v : AV} {H : List Blk} (hr : rvals res e H0 = some rs) (hp : packed rs = v) (hb : Ai.below n0 v = true) (hH : H0.take n0 = H) (h : Q (.ret v) ⟨H,rw⟩) :
  fin res n0 Q .normal e ⟨H0,rw⟩:=by
 subst hp hH
 simp only [fin,hr,leave,hb,if_true]
 exact h
theorem fin_ret {H0 : List Blk} {rw : List Nat} {res : List RVar} {n0 : Nat} {Q : Res → St → Prop} {v : AV} {H : List Blk} (hr : rvals res e H0 = some [v]) (hb : Ai.below n0 v = true) (hH : H0.take n0 = H) (h : Q (.ret v) ⟨H,rw⟩) :
  fin res n0 Q .ret e ⟨H0,rw⟩:=fin_retN hr rfl hb hH h
theorem fin_tup {H0 : List Blk} {rw : List Nat} {res : List RVar} {n0 : Nat} {Q : Res → St → Prop} {u v : AV} {vs : List AV} {H : List Blk} (hr : rvals res e H0 = some (u :: v :: vs)) (hb : Ai.belowL n0 (u :: v :: vs) = true) (hH : H0.take n0 = H) (h : Q (.ret (.tup (u :: v :: vs))) ⟨H,rw⟩) :
  fin res n0 Q .ret e ⟨H0,rw⟩:=fin_retN hr rfl hb hH h
theorem fin_none' {H0 : List Blk} {rw : List Nat} {n0 : Nat} {Q : Res → St → Prop} {H : List Blk} (hH : H0.take n0 = H) (h : Q (.ret (.tup [])) ⟨H,rw⟩) :
  fin [] n0 Q .normal e ⟨H0,rw⟩:=fin_normalN rfl rfl rfl hH h
def Dp {P : Prop} (_ : P) : Prop:=True
structure Bx (P : Prop) : Prop where
 h : P
theorem bx {P : Prop} (p : P) (_d : Dp p) : Bx P:=⟨p⟩
theorem ob {P : Prop} (h : Bx P) : P:=h.h
theorem hGO {Q : Prop} (h : Q:=by (repeat (first | (refine in_id ?_; first  | refine in_mov rfl ?_  | (refine bin_id ?_; first    | refine in_bin_i rfl rfl rfl rfl (wrap64 (by omega) (by omega)) ?_    | refine in_bin_b true rfl rfl rfl rfl (by first | with_reducible rfl | assumption | (simp only [decide_eq_true_eq,beq_iff_eq,bne_iff_ne,ne_eq,Bool.not_eq_true',beq_eq_false_iff_ne,List.length_map]; first | done | omega | assumption)) ?_    | refine in_bin_b false rfl rfl rfl rfl (by first | with_reducible rfl | assumption | (simp only [decide_eq_false_iff_not,beq_eq_false_iff_ne,bne_eq_false_iff_eq,ne_eq,Bool.not_eq_false',beq_iff_eq,List.length_map]; first | done | omega | assumption)) ?_    | refine in_no rfl ?_)  | refine in_loadC hlt rfl rfl rfl (by first | exact canon_ex _ | exact canon_ty _ | assumption) (by first | assumption | exact len_ex _ | exact len_ty _) ?_  | refine in_load rfl rfl (by first | assumption | exact hp_get hlt | exact (hp_own hlt _).trans rfl) rfl ?_  | refine in_alloc rfl (Nat.add_assoc _ _ _) ((hp_own hlt _).trans rfl) ?_  | refine in_index2 rfl rfl rfl (by with_reducible rfl) (by assumption) ?_  | refine in_byte2 rfl rfl rfl (by with_reducible rfl) (by assumption) ?_  | refine in_index (by assumption) rfl rfl rfl (by omega) ?_  | refine in_byte (by assumption) rfl rfl rfl (by omega) ?_  | refine in_refEx rfl rfl ?_  | refine in_listEx1 rfl rfl ?_  | refine in_listEx2 rfl rfl rfl ?_  | refine in_listTy1 rfl rfl ?_  | refine in_storeAll hlt rfl rfl rfl rfl (by first | rfl | assumption | exact len_ex _ | exact len_ty _) (by first | rfl | assumption | exact len_ex _ | exact len_ty _) (recheck_nil _ _ _) ?_  | refine in_setI hlt rfl rfl rfl (recheck_nil _ _ _) ?_  | refine in_setDeep hlt rfl rfl rfl (recheck_nil _ _ _) ?_  | refine in_storeO hlt rfl rfl rfl rfl ⟨rfl,rfl,Nat.le_of_ble_eq_true rfl⟩ (recheck_nil _ _ _) ?_  | refine in_call rfl rfl rfl (by first | assumption | exact hk1 _ _ | exact hd1 _ | exact hd2 _ | exact hd3 _ | exact hd4 _ | exact hd5 _ | exact hd6 _) (by first | exact recheck_nil _ _ _ | rfl) ?_  | refine in_cut rfl rfl rfl rfl (by simp only [Option.getD_some,Option.getD_none]; omega) rfl ?_  | refine in_q rfl rfl ?_  | refine in_no rfl ?_  | refine in_no_l rfl (by first | exact recheck_nil _ _ _ | rfl) ?_  | refine in_nil (by simp only [keep,List.filterMap_cons,List.filterMap_nil,args0,List.zipIdx_cons,List.zipIdx_nil,List.map_cons,List.map_nil,eput,eget,if_true,if_false,Nat.reduceEqDiff,reduceIte,Option.map_some,Option.map_none]; rfl) ?_) | (refine at_id ?_; first  | refine at_seq hm ?_  | refine at_region hm (List.append_nil _) rfl ?_  | refine at_region hm (hp_app hlt) hp_len ?_  | refine at_true rfl ?_  | refine at_false rfl ?_  | refine at_true' rfl (by assumption) ?_  | refine at_false' rfl (by assumption) ?_  | refine at_block ?_  | refine at_skip ?_  | refine at_ret ?_  | refine at_exit ?_) | (refine back_id ?_; first  | refine back_code ?_  | refine back_blk ?_  | refine back_ret_code ?_  | refine back_ret_blk ?_  | refine back_exit_code ?_  | refine back_exit_same ?_  | refine back_exit_other (by omega) ?_  | refine back_nil ?_))); all_goals (refine ob ?_; apply_rules (newGoals:=.nonDependentOnly) only [bx]; exact trivial)) : Q:=h
abbrev Qz (n : Int) : AV:=.int .i64 n
abbrev Qq (i d : Nat) (o : QOp) : Item:=⟨i,some d,none,.q o⟩
abbrev Ql (i d : Nat) (o : LOp) (r : List Nat) : Item:=⟨i,some d,none,.l o r⟩
abbrev Qs (i k x y : Nat) (r : List Nat) : Item:=⟨i,none,none,.l (.store k (.tmp x) (.tmp y)) r⟩
abbrev Qc (i d f : Nat) (xs : List Opd) (r : List Nat) : Item:=⟨i,some d,none,.l (.call (.const (.func f [] [])) xs) r⟩
abbrev Qm (i d x : Nat) : Item:=⟨i,some d,none,.q (.mov (.tmp x))⟩
abbrev Qf (i d o x : Nat) : Item:=⟨i,some d,none,.q (.fieldAddr o (.tmp x))⟩
abbrev Qd (i d x : Nat) : Item:=⟨i,some d,none,.q (.load none (.tmp x))⟩
abbrev Qi (i d k x y : Nat) : Item:=⟨i,some d,none,.q (.indexAddr k (.tmp x) (.tmp y))⟩
abbrev Qn (i d x : Nat) : Item:=⟨i,some d,none,.q (.len (.tmp x))⟩
abbrev Qb (i d : Nat) (p : BinOp) (x y : Nat) : Item:=⟨i,some d,none,.q (.bin .num p (.tmp x) (.tmp y))⟩
abbrev Qk (i d : Nat) (v : AV) : Item:=⟨i,some d,none,.q (.mov (.const v))⟩
abbrev Qv (i d : Nat) (p : BinOp) (x : Nat) (v : AV) : Item:=⟨i,some d,none,.q (.bin .num p (.tmp x) (.const v))⟩
end Go.Proofs.YtmeakjgbjldkdaaGreat.Ai
