/- A part of what is proved: D4, S59, AwR, E1, E2, E0, E3, E4, L14, E5, TlA, E6, Env5. No condition. -/
import Derived.Test.YtmeakjgbjldkdaaGreatY18
import Derived.Test.YtmeakjgbjldkdaaGreatProg
import Derived.KernelRfl
set_option maxRecDepth 100000
set_option maxHeartbeats 16000000
namespace Go.Proofs.YtmeakjgbjldkdaaGreat.Ai
open Go
variable {pr : Prims} {F : Nat → Option IFn}
theorem putAll_append (l a b : List Str) : putAll l (a ++ b) = putAll (putAll l a) b:=by simp only [putAll,List.foldl_append]
theorem putAll_one (l : List Str) (s : Str) : putAll l [s] = putS s l false:=rfl
theorem sigsF_succ {cs : List Cls} {i : Nat} {c : Cls} (h : cs[i]? = some c) : sigsF (cs.take (i + 1)) = sigsF (cs.take i) ++ sigsC c:=by
 obtain ⟨hl,he⟩:=List.getElem?_eq_some_iff.1 h
 rw [List.take_succ_eq_append_getElem hl,he,sigsF,List.flatMap_append]
 simp [sigsF]
theorem sigsF_len {cs : List Cls} (hfw : Few cs) : ∀ i : Nat,(sigsF (cs.take i)).length ≤ 64 * i
 | 0 => by simp [sigsF]
 | i + 1 => by
  have ih:=sigsF_len hfw i
  cases hc : cs[i]? with
  | none =>
   rw [List.take_of_length_le (by have:=List.getElem?_eq_none_iff.1 hc; omega)]
   rw [List.take_of_length_le (by have:=List.getElem?_eq_none_iff.1 hc; omega)] at ih
   omega
  | some c =>
   have h1:=(hfw i c hc).2.2.1
   rw [sigsF_succ hc,List.length_append,sigsC,List.length_map]
   omega
theorem sigsC_succ {c : Cls} {k : Nat} {m : Mth} (h : c.meths[k]? = some m) : (sigsC c).take (k + 1) = (sigsC c).take k ++ [sigT m.name m.params]:=by
 have h2 : (sigsC c)[k]? = some (sigT m.name m.params):=by rw [sigsC,List.getElem?_map,h]; rfl
 obtain ⟨hl,he⟩:=List.getElem?_eq_some_iff.1 h2
 rw [List.take_succ_eq_append_getElem hl,he]
theorem qx_slots (L : LibQ pr F) {cs : List Cls} (hfew : cs.length ≤ 6000) (hfw : Few cs) (hwt : wL wCls cs ≤ 42000000) (hok : ∀ c ∈ cs,okCls c) {H : List Blk} {rw : List Nat} (hH : 0 < H.length) :
  ∃ (v : AV) (rw' : List Nat),IsL 1 v ((slotsF cs).map nmRow) ∧ Rx rw rw' ∧ Det pr F 24 [lst 9 (cs.map clsRow)] ⟨H,rw⟩ (.ret v) ⟨H,rw'⟩:=by
 have hm:=L.hm
 suffices h : Wp pr F 24 [lst 9 (cs.map clsRow)] ⟨H,rw⟩ fun r S' => ∃ (v : AV) (rw' : List Nat),IsL 1 v ((slotsF cs).map nmRow) ∧ Rx rw rw' ∧ r = .ret v ∧ S' = ⟨H,rw'⟩ by
  obtain ⟨r,S',hd,v,rw',h1,h2,rfl,rfl⟩:=h.det hm
  exact ⟨v,rw',h1,h2,hd⟩
 obtain ⟨b,hb⟩ : ∃ b,H[0]? = some b:=⟨_,List.getElem?_eq_getElem hH⟩
 have hlt:=hH
 have hlm : (cs.map clsRow).length = cs.length:=List.length_map _
 have hR : Rx rw rw:=Rx.rfl
 refine at_start_hp hm L.f24.1 L.f24.2 rfl (hp_of hb) ?_
 refine' stI
 refine at_loop hm (fun mm e S' => ∃ (i : Nat) (l : AV) (rw3 : List Nat),S' = ⟨hp H 0 b [],rw3⟩ ∧ i ≤ cs.length ∧ IsL 1 l ((putAll [] (sigsF (cs.take i))).map nmRow) ∧ Rx rw rw3 ∧ mm = cs.length - i ∧
  e = [(0,lst 9 (cs.map clsRow)),(3,l),(4,.int .i64 i)]) ?_ (m:=cs.length) ⟨0,_,rw,rfl,by omega,IsL.nil,Rx.rfl,rfl,rfl⟩
 clear hR
 rintro mm e S' ⟨i,l,rw3,rfl,hi0,hl,hR,rfl,rfl⟩
 by_cases hi : i < cs.length
 ·obtain ⟨c,hc⟩ : ∃ c,cs[i]? = some c:=⟨_,List.getElem?_eq_getElem hi⟩
  have hcr : (cs.map clsRow)[i]? = some (clsRow c):=by rw [List.getElem?_map,hc]; rfl
  have hl9 : lst 9 (cs.map clsRow) = .list 9 .dead (cs.map clsRow):=lst_of_lt (i:=i) (by omega)
  have hcm:=List.mem_of_getElem? hc
  have hmo:=cls_meths (hok c hcm)
  have hml:=(hfw i c hc).2.2.1
  have hlm5 : (c.meths.map mthRow).length = c.meths.length:=List.length_map _
  have hl0:=sigsF_len hfw i
  rw [hl9]
  refine' stI
  refine at_loop hm (fun mm e S' => ∃ (k : Nat) (l : AV) (rw3 : List Nat),S' = ⟨hp H 0 b [],rw3⟩ ∧ k ≤ c.meths.length ∧ IsL 1 l ((putAll [] (sigsF (cs.take i) ++ (sigsC c).take k)).map nmRow) ∧ Rx rw rw3 ∧ mm = c.meths.length - k ∧
   e = [(0,.list 9 .dead (cs.map clsRow)),(3,l),(4,.int .i64 i),(5,.int .i64 k)]) ?_ (m:=c.meths.length) ⟨0,_,_,rfl,by omega,by simpa using hl,hR,rfl,rfl⟩
  clear hR hl
  rintro mm e S' ⟨k,l,rw4,rfl,hk0,hl,hR,rfl,rfl⟩
  obtain ⟨z,tg,rfl,hz,-⟩:=hl.ex
  by_cases hk : k < c.meths.length
  ·obtain ⟨m,hmk⟩ : ∃ m,c.meths[k]? = some m:=⟨_,List.getElem?_eq_getElem hk⟩
   have hmem:=List.mem_of_getElem? hmk
   have hmr : (c.meths.map mthRow)[k]? = some (mthRow m):=by rw [List.getElem?_map,hmk]; rfl
   obtain ⟨hb1,hb2,hb3,hb4⟩:=mth_bounds hcm hmem hwt
   obtain ⟨hk1,hk2,hk3,hk4⟩:=hmo m hmem
   have hsg:=qx_sig L.toLibE hb1 hb2 hk2
   have hl5 : lst 11 (c.meths.map mthRow) = .list 11 .dead (c.meths.map mthRow):=lst_of_lt (i:=k) (by omega)
   refine' stI
   rw [hl5]
   refine' stI
   rw [hl5]
   refine' stI
   have hpl:=putAll_len (sigsF (cs.take i) ++ (sigsC c).take k) []
   have hcl : ((sigsC c).take k).length ≤ k:=by rw [List.length_take]; omega
   simp only [List.length_append,List.length_nil] at hpl
   obtain ⟨v,rw5,hv,hR5,hd5⟩:=det_put L (z:=z) (tg:=tg) (ls:=putAll [] (sigsF (cs.take i) ++ (sigsC c).take k)) (fun h => hz (by simpa using h)) (by omega) (sigT m.name m.params) (H:=hp H 0 b []) (rw:=rwt) (hp_pos hlt)
   refine g_call rfl rfl rfl ?_
   refine c_det hd5 ?_
   replace hR:=hR.trans hR5
   clear hd5 hR5 hRt
   refine zrk7 ?_
   refine' stI
   refine ⟨c.meths.length - (k + 1),by omega,k + 1,v,rw5,rfl,by omega,?_,hR,rfl,rfl⟩
   rw [sigsC_succ hmk,← List.append_assoc,putAll_append,putAll_one]
   exact hv
  ·refine' stI
   refine ⟨cs.length - (i + 1),by omega,i + 1,_,rw4,rfl,by omega,?_,hR,rfl,rfl⟩
   rw [sigsF_succ hc]
   have htk : (sigsC c).take k = sigsC c:=List.take_of_length_le (by rw [sigsC,List.length_map]; omega)
   rw [htk] at hl ⊢
   exact hl
 ·refine' stI
  refine fin_ret rfl (hl.below _) (hp_take hlt) ⟨_,_,?_,hR,rfl,st_of hb⟩
  rw [List.take_of_length_le (by omega)] at hl
  exact hl
end Go.Proofs.YtmeakjgbjldkdaaGreat.Ai
namespace Go.Proofs.YtmeakjgbjldkdaaGreat.Ai
open Go
variable {pr : Prims} {F : Nat → Option IFn}
theorem pre59_eq : pre59 = .seq r59_0 (.block 0 (.loop [0,8,9,10] (.seq r59_1 (.seq (.cond (.tmp 11) (.skip) (.exit 0)) (.seq (.block 1 (.seq r59_2 (.seq r59_3 (.block 2 (.loop [0,8,9,10,15,16,17] (.seq r59_4 (.seq (.cond (.tmp 18) (.skip) (.exit 2)) (.seq (.block 3 (.seq r59_5 r59_6)) r59_7)))))))) r59_8))))):=rfl
def strRows (l : List Str) : List (List AV):=l.map fun s => [.str s]
def Pre59Q (rw : List Nat) (rows : List (List AV)) (H : List Blk) (n kx : Nat) (cs : AV → List AV) (x : Ex) (e : Env) (S' : St) : Prop:=x = .normal ∧ ∃ (v : AV) (rw' : List Nat) (M : List Blk) (e' : Env),e = (0,.ptr kx 0) :: e' ∧ Grow rw 1 v rows rw' ∧ Rx rw rw' ∧ S' = ⟨hp H n (.cells (cs v)) M,rw'⟩
theorem wx_pre59 (L : LibE pr F) {H : List Blk} {rw : List Nat} {n mb z zb kx : Nat} {tg tb : Tag} {cs : List Cls} {U : List (List Nat)} {o1 o2 o3 : AV} (T : TabU H n mb cs z tg zb tb U o1 o2 o3 (.list 0 .full [])) (hfw : Few cs) (hkx : H[kx]? = some (.cells [.ptr n 0])) :
  Wx pr F H.length pre59 (args0 [.ptr kx 0]) ⟨H,rw⟩ (Pre59Q rw (strRows (sigsF cs)) H n kx fun v => [.list z tg (cs.map clsRow),.map mb,.list zb tb (U.map upRow),o1,o2,o3,v]):=by
 have hm:=L.hm
 refine wx_keepQ (Q:=Pre59Q rw (strRows (sigsF cs)) H n kx fun v => [.list z tg (cs.map clsRow),.map mb,.list zb tb (U.map upRow),o1,o2,o3,v]) (S':=⟨hp H n (.cells [.list z tg (cs.map clsRow),.map mb,.list zb tb (U.map upRow),o1,o2,o3,.list 0 .full []]) [],rw⟩) ?_ (st_of T.at_) (fun _ _ _ h => h)
 have hlt : n < H.length:=(List.getElem?_eq_some_iff.1 T.at_).1
 have hfew:=T.few
 have hlm : (cs.map clsRow).length = cs.length:=List.length_map _
 have hR : Rx rw rw:=Rx.rfl
 have hne : n ≠ kx:=fun e => by
  subst e
  have h1:=T.at_
  rw [hkx] at h1
  simp at h1
 have hFb:=froz_n hne hkx
 rw [pre59_eq,show args0 [AV.ptr kx 0] = [(0,AV.ptr kx 0)] from rfl]
 refine' stH
 refine at_loop hm (fun mm e S' => ∃ (q : Nat) (J : List Blk) (lv : AV) (rw3 : List Nat),S' = ⟨hp H n (.cells [.list z tg (cs.map clsRow),.map mb,.list zb tb (U.map upRow),o1,o2,o3,lv]) J,rw3⟩ ∧ q ≤ cs.length ∧ Grow rw 1 lv (strRows (sigsF (cs.take q))) rw3 ∧ Rx rw rw3 ∧ mm = cs.length - q ∧
  e = [(0,.ptr kx 0),(8,.list z tg (cs.map clsRow)),(9,.int .i64 ((cs.map clsRow).length : Int)),(10,.int .i64 q)]) ?_ (m:=cs.length) ⟨0,[],_,rw,rfl,by omega,Grow.nil,hR,rfl,rfl⟩
 clear hR
 rintro mm e S' ⟨q,J,lv,rw3,rfl,hq0,hl,hR,rfl,rfl⟩
 have hbl:=sigsF_len hfw q
 by_cases hq1 : q < cs.length
 ·obtain ⟨c,hc⟩ : ∃ c,cs[q]? = some c:=⟨_,List.getElem?_eq_getElem hq1⟩
  have hcr : (cs.map clsRow)[q]? = some (clsRow c):=by rw [List.getElem?_map,hc]; rfl
  have hz : z = 9:=T.sz (by intro h; rw [h] at hq1; simp at hq1)
  subst hz
  have hcm:=List.mem_of_getElem? hc
  have hmo:=cls_meths (T.okc c hcm)
  have hbm:=(hfw q c hc).2.2.1
  have hlm2:=mthRow_len c.meths
  have hsC : (sigsC c).length = c.meths.length:=by rw [sigsC,List.length_map]
  refine' stH
  refine at_loop hm (fun mm e S' => ∃ (p : Nat) (J : List Blk) (lv : AV) (rw3 : List Nat),S' = ⟨hp H n (.cells [.list 9 tg (cs.map clsRow),.map mb,.list zb tb (U.map upRow),o1,o2,o3,lv]) J,rw3⟩ ∧ p ≤ c.meths.length ∧ Grow rw 1 lv (strRows (sigsF (cs.take q) ++ (sigsC c).take p)) rw3 ∧ Rx rw rw3 ∧ mm = c.meths.length - p ∧
   e = [(0,.ptr kx 0),(8,.list 9 tg (cs.map clsRow)),(9,.int .i64 ((cs.map clsRow).length : Int)),(10,.int .i64 q),(15,lst 11 (c.meths.map mthRow)),(16,.int .i64 ((c.meths.map mthRow).length : Int)),(17,.int .i64 p)]) ?_ (m:=c.meths.length) ⟨0,_,lv,rw3,rfl,by omega,by simpa using hl,hR,rfl,rfl⟩
  clear hl hR
  clear rw3 lv J
  rintro mm e S' ⟨p,J,lv,rw3,rfl,hp0,hl,hR,rfl,rfl⟩
  have htk2 : ((sigsC c).take p).length ≤ p:=by rw [List.length_take]; omega
  by_cases hp1 : p < c.meths.length
  ·obtain ⟨m,hmq⟩ : ∃ m,c.meths[p]? = some m:=⟨_,List.getElem?_eq_getElem hp1⟩
   have hmem:=List.mem_of_getElem? hmq
   have hmr : (c.meths.map mthRow)[p]? = some (mthRow m):=by rw [List.getElem?_map,hmq]; rfl
   obtain ⟨hb1,hb2,hb3,hb4⟩:=mth_bounds hcm hmem T.wt
   obtain ⟨hk1,hk2,hk3,hk4⟩:=hmo m hmem
   have hsg:=tx_sig L hb1 hb2 hk2
   have hl5 : lst 11 (c.meths.map mthRow) = .list 11 .dead (c.meths.map mthRow):=lst_of_lt (i:=p) (by omega)
   rw [hl5]
   refine' stH
   have hl:=hl.ext hRt
   have hln : (strRows (sigsF (cs.take q) ++ (sigsC c).take p)).length ≤ 64 * q + p:=by
    rw [strRows,List.length_map,List.length_append]
    omega
   refine id_append ?_
   refine g_append rfl rfl rfl ?_
   refine ap_grow (row:=[.str (sigT m.name m.params)]) hl hR (by simp only [maxRow]; omega) (by simp only [maxRow]; omega) (by omega) ?_
   intro l4 rw4 hl4 hR4
   refine zrk6 ?_
   obtain ⟨s4,t4,rfl,-,-⟩:=(Lst.isL (Or.inl hl4)).ex
   refine' stH
   refine id_store ?_
   refine g_store rfl rfl rfl ?_
   refine s_nO hlt ⟨rfl,rfl⟩ rfl (by simp) rfl rfl ?_
   refine zrk6 ?_
   refine' stH
   refine ⟨c.meths.length - (p + 1),by omega,p + 1,_,.list s4 t4 (strRows (sigsF (cs.take q) ++ (sigsC c).take p) ++ [[.str (sigT m.name m.params)]]),rw4,rfl,by omega,?_,hR4,rfl,by first | rfl | (rw [hl5]; rfl)⟩
   rw [sigsC_succ hmq,← List.append_assoc]
   simp only [strRows,List.map_append,List.map_cons,List.map_nil] at hl4 ⊢
   exact hl4
  ·have htk : (sigsC c).take p = sigsC c:=List.take_of_length_le (by omega)
   rw [htk] at hl
   refine' stH
   exact ⟨cs.length - (q + 1),by omega,q + 1,_,lv,rw3,rfl,by omega,by rw [sigsF_succ hc]; exact hl,hR,rfl,rfl⟩
 ·refine' stH
  rw [List.take_of_length_le (by omega)] at hl
  exact ⟨rfl,lv,rw3,J,_,rfl,hl,hR,rfl⟩
end Go.Proofs.YtmeakjgbjldkdaaGreat.Ai
namespace Go.Proofs.YtmeakjgbjldkdaaGreat.Ai
open Go
def Sgn (s : Str) : Prop:=∃ n r,Nm n ∧ s = n ++ 40 :: r
theorem sgn_sig {name : Str} {ps : List Par} (h : Nm name) : Sgn (sigT name ps):=⟨name,joinT [44] (ps.map fun p => baseT p.type) ++ [41],h,by unfold sigT; simp⟩
theorem nm_no {n : Str} (h : Nm n) : (40 : UInt8) ∉ n:=fun hm => by
 have:=h.all 40 hm
 simp [kindF] at this
def NoS (t : Str) : Prop:=(40 : UInt8) ∉ t ∨ ∀ c,t[0]? = some c → kindF c.toNat = 2
theorem noS_sgn {t : Str} (h : NoS t) : ¬Sgn t:=by
 rintro ⟨n,r,hn,rfl⟩
 rcases h with h | h
 ·exact h (by simp)
 ·obtain ⟨c,hc⟩ : ∃ c,n[0]? = some c:=⟨_,List.getElem?_eq_getElem hn.pos⟩
  have h1:=hn.first c hc
  have h2:=h c (by rw [List.getElem?_append_left hn.pos]; exact hc)
  omega
theorem noS_nil : NoS []:=.inl (by simp)
theorem noS_nm {n : Str} (h : Nm n) : NoS n:=.inl (nm_no h)
variable {l : List Str} {b : Nat}
theorem bad_no (hl : ∀ s ∈ l,Sgn s) {t : Str} (h : NoS t) : badS l (.str t) = false:=by
 simp only [badS,List.contains_eq_mem,decide_eq_false_iff_not]
 exact fun hm => noS_sgn h (hl t hm)
theorem aw_lst {k : Nat} {rows : List (List AV)} (h : awLL l b rows = true) : aw l b (lst k rows) = true:=by
 cases rows with
 | nil => simp [lst,aw,tagB,awLL]
 | cons r rs => simpa [lst,aw,tagB] using h
theorem awLL_map {α : Type} {f : α → List AV} : ∀ {xs : List α},(∀ x ∈ xs,awC l b (f x) = true) → awLL l b (xs.map f) = true
 | [],_ => by simp [awLL]
 | x :: xs,h => by
  simp only [List.map_cons,awLL,Bool.and_eq_true]
  exact ⟨h x List.mem_cons_self,awLL_map fun y hy => h y (List.mem_cons_of_mem _ hy)⟩
theorem bad_lst {k : Nat} {rows : List (List AV)} : badS l (lst k rows) = false:=by cases rows <;> rfl
theorem bad_i {k : IntKind} {n : Int} : badS l (.int k n) = false:=rfl
theorem bad_b {x : Bool} : badS l (.bool x) = false:=rfl
theorem awC_append : ∀ {xs ys : List AV},awC l b (xs ++ ys) = (awC l b xs && awC l b ys)
 | [],ys => by simp [awC]
 | x :: xs,ys => by simp only [List.cons_append,awC,awC_append,Bool.and_assoc]
theorem op_no {op name : Str} {args : List Xp} {ty : List Ty} (h : okOp op name args ty) : NoS op ∧ NoS name:=by
 unfold okOp at h
 rcases h with ⟨rfl,-,-,h⟩ | ⟨rfl,-,-,h⟩ | ⟨h,-,-,rfl⟩ | ⟨rfl,-,-,rfl⟩ | ⟨rfl,-,h⟩ | ⟨rfl,-,-,rfl⟩ | ⟨rfl,-,-,h⟩ | ⟨rfl,-,-,h⟩ | ⟨rfl,-,-,rfl⟩ | ⟨h,-,-,rfl⟩ | ⟨h,-,-,rfl⟩
 ·exact ⟨.inl (by decide),.inr h⟩
 ·exact ⟨.inl (by decide),noS_nm h⟩
 ·refine ⟨.inl ?_,noS_nil⟩
  rcases h with rfl | rfl | rfl | rfl | rfl <;> decide
 ·exact ⟨.inl (by decide),noS_nil⟩
 ·exact ⟨.inl (by decide),noS_nm h⟩
 ·exact ⟨.inl (by decide),noS_nil⟩
 ·exact ⟨.inl (by decide),noS_nm h⟩
 ·exact ⟨.inl (by decide),noS_nm h⟩
 ·exact ⟨.inl (by decide),noS_nil⟩
 ·refine ⟨.inl ?_,noS_nil⟩
  rcases h with rfl | rfl <;> decide
 ·refine ⟨.inl ?_,noS_nil⟩
  unfold levelF at h
  repeat' split at h
  all_goals first
   | (exfalso; omega; done)
   | (rename_i e; subst e; decide)
   | (rename_i e; rcases e with rfl | rfl | rfl | rfl | rfl | rfl <;> decide)
   | (rename_i e; rcases e with rfl | rfl | rfl <;> decide)
   | (rename_i e; rcases e with rfl | rfl <;> decide)
theorem ty_name {kind : Int} {name : Str} {null : Bool} {elem : List Ty} {pred : List Xp} {a : Int} (h : okTy (.mk kind name null elem pred a) ∨ isVoid (.mk kind name null elem pred a)) : NoS name:=by
 rcases h with h | ⟨a',h⟩
 ·simp only [okTy] at h
  rcases h.1 with ⟨-,-,rfl,-⟩ | ⟨-,-,rfl,-⟩ | ⟨-,-,h⟩ | ⟨-,rfl,-⟩
  ·exact noS_nil
  ·exact noS_nil
  ·exact noS_nm h
  ·exact noS_nil
 ·injection h with h1 h2
  rw [h2]
  exact noS_nil
mutual
theorem aw_ty (hl : ∀ s ∈ l,Sgn s) : ∀ t : Ty,okTy t → awC l b (tyRow t) = true
 | .mk kind name null elem pred a,h => by
  have h0:=bad_no hl (ty_name (.inl h))
  simp only [okTy] at h
  have h1:=aw_tys hl elem h.2.2.1
  have h2:=aw_exs hl pred h.2.2.2
  simp only [tyRow,awC,aw,bad_i,bad_b,aw_lst h1,aw_lst h2,bad_lst,h0,Bool.not_false,Bool.and_self]
theorem aw_tys (hl : ∀ s ∈ l,Sgn s) : ∀ ts : List Ty,okTys ts → awLL l b (tyRows ts) = true
 | [],_ => by simp [tyRows,awLL]
 | t :: ts,h => by
  simp only [okTys] at h
  simp only [tyRows,awLL,aw_ty hl t h.1,aw_tys hl ts h.2,Bool.and_self]
theorem aw_ex (hl : ∀ s ∈ l,Sgn s) : ∀ x : Xp,okEx x → awC l b (exRow x) = true
 | .mk op name args ty a,h => by
  simp only [okEx] at h
  obtain ⟨n1,n2⟩:=op_no h.1
  have h0:=bad_no hl n1
  have h0':=bad_no hl n2
  have h1:=aw_exs hl args h.2.1
  have h2:=aw_tys hl ty h.2.2
  simp only [exRow,awC,aw,bad_i,aw_lst h1,aw_lst h2,bad_lst,h0,h0',Bool.not_false,Bool.and_self]
theorem aw_exs (hl : ∀ s ∈ l,Sgn s) : ∀ xs : List Xp,okExs xs → awLL l b (exRows xs) = true
 | [],_ => by simp [exRows,awLL]
 | x :: xs,h => by
  simp only [okExs] at h
  simp only [exRows,awLL,aw_ex hl x h.1,aw_exs hl xs h.2,Bool.and_self]
end
theorem kind_no {kind name : Str} {ty : List Ty} {exs : List Xp} {body els : List Sm} (h : okKind kind name ty exs body els) : NoS kind ∧ NoS name:=by
 unfold okKind at h
 rcases h with ⟨rfl,h,-⟩ | ⟨rfl,h,-⟩ | ⟨rfl,h,-⟩ | ⟨rfl,rfl,-⟩ | ⟨rfl,rfl,-⟩ | ⟨rfl,rfl,-⟩ | ⟨rfl,rfl,-⟩ | ⟨h,rfl,-⟩
 ·exact ⟨.inl (by decide),noS_nm h⟩
 ·exact ⟨.inl (by decide),noS_nm h⟩
 ·exact ⟨.inl (by decide),noS_nm h⟩
 ·exact ⟨.inl (by decide),noS_nil⟩
 ·exact ⟨.inl (by decide),noS_nil⟩
 ·exact ⟨.inl (by decide),noS_nil⟩
 ·exact ⟨.inl (by decide),noS_nil⟩
 ·refine ⟨.inl ?_,noS_nil⟩
  rcases h with rfl | rfl | rfl <;> decide
mutual
theorem aw_sm (hl : ∀ s ∈ l,Sgn s) : ∀ x : Sm,okSm x → awC l b (smRow x) = true
 | .mk kind name ty exs body els a,h => by
  simp only [okSm] at h
  obtain ⟨n1,n2⟩:=kind_no h.1
  have h0:=bad_no hl n1
  have h0':=bad_no hl n2
  have h1:=aw_tys (b:=b) hl ty h.2.1
  have h2:=aw_exs (b:=b) hl exs h.2.2.1
  have h3:=aw_sms hl body h.2.2.2.1
  have h4:=aw_sms hl els h.2.2.2.2
  simp only [smRow,awC,aw,bad_i,aw_lst h1,aw_lst h2,aw_lst h3,aw_lst h4,bad_lst,h0,h0',Bool.not_false,Bool.and_self]
theorem aw_sms (hl : ∀ s ∈ l,Sgn s) : ∀ xs : List Sm,okSms xs → awLL l b (smRows xs) = true
 | [],_ => by simp [smRows,awLL]
 | x :: xs,h => by
  simp only [okSms] at h
  simp only [smRows,awLL,aw_sm hl x h.1,aw_sms hl xs h.2,Bool.and_self]
end
theorem aw_void (hl : ∀ s ∈ l,Sgn s) {t : Ty} (h : okTy t ∨ isVoid t) : awC l b (tyRow t) = true:=by
 rcases h with h | ⟨a,rfl⟩
 ·exact aw_ty hl t h
 ·have h0:=bad_no hl noS_nil
  simp only [tyRow,tyRows,exRows,awC,aw,bad_i,bad_b,bad_lst,h0,aw_lst (l:=l) (b:=b) (rows:=[]) (by simp [awLL]),Bool.not_false,Bool.and_self]
theorem aw_par (hl : ∀ s ∈ l,Sgn s) {p : Par} (h : okPar p) : awC l b (parRow p) = true:=by
 have h0:=bad_no hl (noS_nm h.1)
 have h1:=aw_ty (b:=b) hl _ h.2
 simp only [parRow,awC,awC_append,aw,bad_i,h0,h1,Bool.not_false,Bool.and_self]
theorem aw_pars (hl : ∀ s ∈ l,Sgn s) {ps : List Par} (h : ∀ p ∈ ps,okPar p) : aw l b (lst 8 (ps.map parRow)) = true:=aw_lst (awLL_map fun p hp => aw_par hl (h p hp))
theorem aw_fld (hl : ∀ s ∈ l,Sgn s) {p : Fld} (h : okFld p) : awC l b (fldRow p) = true:=by
 have h0:=bad_no hl (noS_nm h.1)
 have h1:=aw_ty (b:=b) hl _ h.2
 simp only [fldRow,awC,awC_append,aw,bad_i,bad_b,h0,h1,Bool.not_false,Bool.and_self]
theorem aw_mth (hl : ∀ s ∈ l,Sgn s) {p : Mth} (h : okMth p) : awC l b (mthRow p) = true:=by
 have h0:=bad_no hl (noS_nm h.1)
 have h1:=aw_pars (b:=b) hl h.2.1
 have h2:=aw_void (b:=b) hl h.2.2.1
 have h3:=aw_sms (b:=b) hl _ h.2.2.2
 simp only [mthRow,awC,awC_append,aw,bad_i,bad_b,bad_lst,h0,h1,h2,aw_lst h3,Bool.not_false,Bool.and_self]
theorem aw_ctr (hl : ∀ s ∈ l,Sgn s) {p : Ctr} (h : okCtr p) : awC l b (ctrRow p) = true:=by
 have h1:=aw_pars (b:=b) hl h.1
 have h2:=aw_exs (b:=b) hl _ h.2.1
 have h3:=aw_sms (b:=b) hl _ h.2.2
 simp only [ctrRow,awC,aw,bad_i,bad_b,bad_lst,h1,aw_lst h2,aw_lst h3,Bool.not_false,Bool.and_self]
theorem aw_cls (hl : ∀ s ∈ l,Sgn s) {c : Cls} (h : okCls c) : awC l b (clsRow c) = true:=by
 obtain ⟨k1,k2,k3,k4,k5,k6,k7⟩:=h
 have h0:=bad_no hl (noS_nm k1)
 have h0' : badS l (.str c.super) = false:=bad_no hl (by rcases k2 with k2 | k2; · rw [k2]; exact noS_nil
                                                         ·exact noS_nm k2.1)
 have h1 : awLL l b (c.above.map nmRow) = true:=awLL_map fun x hx => by
  have h9:=bad_no hl (noS_nm (k3 x hx))
  simp only [nmRow,awC,aw,h9,Bool.not_false,Bool.and_self]
 have h2 : awLL l b (c.fields.map fldRow) = true:=awLL_map fun x hx => aw_fld hl (k4 x hx)
 have h3:=aw_exs (b:=b) hl _ k5
 have h4 : awLL l b (c.ctors.map ctrRow) = true:=awLL_map fun x hx => aw_ctr hl (k6 x hx)
 have h5 : awLL l b (c.meths.map mthRow) = true:=awLL_map fun x hx => aw_mth hl (k7 x hx)
 simp only [clsRow,awC,aw,bad_i,bad_b,bad_lst,h0,h0',aw_lst h1,aw_lst h2,aw_lst h3,aw_lst h4,aw_lst h5,Bool.not_false,Bool.and_self]
theorem aw_clss (hl : ∀ s ∈ l,Sgn s) {cs : List Cls} (h : ∀ c ∈ cs,okCls c) : awLL l b (cs.map clsRow) = true:=awLL_map fun c hc => aw_cls hl (h c hc)
end Go.Proofs.YtmeakjgbjldkdaaGreat.Ai
namespace Go.Proofs.YtmeakjgbjldkdaaGreat.Ai
open Go
variable {pr : Prims} {F : Nat → Option IFn}
structure LibT (pr : Prims) (F : Nat → Option IFn) : Prop extends LibG pr F,LibQ pr F where
 f22 : Has pr F 22 i22
 f25 : Has pr F 25 i25
 p58 : pr 58 = some onceP
 p59 : pr 59 = some slotsQ
 p60 : pr 60 = some sortE
 p61 : pr 61 = some compE
 p62 : pr 62 = some cloneQ
theorem det_call {pr : Prims} {F : Nat → Option IFn} (hp : Mono pr) {n f : Nat} {vs : List AV} {S S' : St} {r : Res} (h : callN pr F n f vs S = some (r,S')) : Det pr F f vs S r S':=by
 have h2 : Wp pr F f vs S fun a b => a = r ∧ b = S':=⟨n,r,S',h,rfl,rfl⟩
 obtain ⟨r',S2,hd,rfl,rfl⟩:=h2.det hp
 exact hd
def slV (l : List Str) : AV:=if l = [] then .list 0 .full [] else slotList l
def tabC (cs : List Cls) (U : List (List Nat)) (z zb mb : Nat) (tg tb : Tag) (a b : Int) (sl : AV) : List AV:=[.list z tg (cs.map clsRow),.map mb,.list zb tb (U.map upRow),.int .u32 a,.int .i32 b,.int .u32 0,sl]
def Calm (t : Tag) : Prop:=∀ b,tagB b t = true
theorem aw_calm {l : List Str} {b z : Nat} {tg : Tag} {rows : List (List AV)} (h : Calm tg) (hr : awLL l b rows = true) : aw l b (.list z tg rows) = true:=by
 simp only [aw,h b,hr,Bool.and_self]
theorem canon_list (z : Nat) (tg : Tag) (rows : List (List AV)) : ∃ tg',canon1 (.list z tg rows) = .list z tg' rows ∧ Calm tg':=by
 cases rows with
 | nil => cases tg <;> exact ⟨_,rfl,fun _ => rfl⟩
 | cons r rs => cases tg <;> exact ⟨.dead,rfl,fun _ => rfl⟩
theorem canon_tab (cs : List Cls) (U : List (List Nat)) (z zb mb : Nat) (tg tb : Tag) (a b : Int) : ∃ tg' tb',(∀ sl,canonL (tabC cs U z zb mb tg tb a b sl) = tabC cs U z zb mb tg' tb' a b (canon1 sl)) ∧ Calm tg' ∧ Calm tb':=by
 obtain ⟨t1,h1,k1⟩:=canon_list z tg (cs.map clsRow)
 obtain ⟨t2,h2,k2⟩:=canon_list zb tb (U.map upRow)
 refine ⟨t1,t2,fun sl => ?_,k1,k2⟩
 simp only [canonL,tabC,List.map_cons,List.map_nil,h1,h2]
 rfl
theorem TabU.re {H H' : List Blk} {n mb z zb : Nat} {tg tb tg' tb' : Tag} {cs : List Cls} {U : List (List Nat)} {o1 o2 o3 sl : AV} {a b : Int} {sl' : AV} (T : TabU H n mb cs z tg zb tb U o1 o2 o3 sl) (h : H'[n]? = some (.cells (tabC cs U z zb mb tg' tb' a b sl'))) (hm : H'[mb]? = some (.map (mapOf 0 cs))) :
  TabU H' n mb cs z tg' zb tb' U (.int .u32 a) (.int .i32 b) (.int .u32 0) sl':=
 {at_:=h,sz:=T.sz,few:=T.few,big:=T.big,mp:=hm,linked:=T.linked,unlike:=T.unlike,wt:=T.wt,okc:=T.okc,ulen:=T.ulen,ups:=T.ups,acyc:=T.acyc,zbs:=T.zbs}
theorem ints_mapF : ∀ (k : Nat) (cs : List Cls),intsM (mapOf k cs) = true
 | _,[] => rfl
 | k,c :: cs => by
  have ih:=ints_mapF (k + 1) cs
  simp only [mapOf,intsM,List.all_cons,Bool.true_and]
  exact ih
theorem TabU.ne {H : List Blk} {n mb z zb : Nat} {tg tb : Tag} {cs : List Cls} {U : List (List Nat)} {o1 o2 o3 sl : AV} (T : TabU H n mb cs z tg zb tb U o1 o2 o3 sl) : n ≠ mb:=fun e => by
 have h1:=T.at_
 have h2:=T.mp
 rw [e] at h1
 rw [h1] at h2
 cases h2
theorem strs_rows : ∀ l : List Str,strsOf (strRows l) = some l:=strsOf_map
theorem strRows_len (l : List Str) : (strRows l).length = l.length:=List.length_map _
theorem strRows_nil {l : List Str} (h : strRows l = []) : l = []:=by
 have:=congrArg List.length h
 rw [strRows_len] at this
 exact List.length_eq_zero_iff.1 this
theorem sgn_sigs {cs : List Cls} (hok : ∀ c ∈ cs,okCls c) : ∀ s ∈ sigsF cs,Sgn s:=by
 intro s hs
 obtain ⟨c,hc,hs⟩:=List.mem_flatMap.1 hs
 obtain ⟨m,hm,rfl⟩:=List.mem_map.1 hs
 exact sgn_sig (cls_meths (hok c hc) m hm).1
theorem aw_ups (l : List Str) (b : Nat) (U : List (List Nat)) : awLL l b (U.map upRow) = true:=by
 refine awLL_map fun u _ => ?_
 have h : ∀ v : List Nat,awLL l b (ixRows v) = true:=by
  intro v
  induction v with
  | nil => simp [ixRows,awLL]
  | cons x v ih => simp only [ixRows,List.map_cons,awLL,ixRow,awC,aw,badS,Bool.not_false,Bool.and_self,Bool.true_and]; exact ih
 simp only [upRow,awC,bad_lst,aw_lst (h u),Bool.not_false,Bool.and_self]
theorem wx_rest59 (L : LibT pr F) {H : List Blk} {rw : List Nat} {n mb z zb kx : Nat} {tg tb : Tag} {cs : List Cls} {U : List (List Nat)} {a b : Int} (T : TabU H n mb cs z tg zb tb U (.int .u32 a) (.int .i32 b) (.int .u32 0) (.list 0 .full [])) (hkx : H[kx]? = some (.cells [.ptr n 0])) (e' : Env) (M : List Blk) :
  Wx pr F H.length (.seq r59_9 r59_10) ((0,.ptr kx 0) :: e') ⟨hp H n (.cells (tabC cs U z zb mb tg tb a b (.list 0 .full []))) M,rw⟩ fun x _e S' => x = .normal ∧ ∃ M,S' = ⟨hp H n (.cells (tabC cs U z zb mb tg tb a b (.list 0 .full []))) M,rw⟩:=by
 have hm:=L.hm
 unfold tabC
 refine wx_keepQ (Q:=fun x e S' => x = .normal ∧ ∃ M,S' = ⟨hp H n (.cells [.list z tg (cs.map clsRow),.map mb,.list zb tb (U.map upRow),.int .u32 a,.int .i32 b,.int .u32 0,.list 0 .full []]) M,rw⟩) ?_ rfl (fun _ _ _ h => h)
 have hlt : n < H.length:=(List.getElem?_eq_some_iff.1 T.at_).1
 have hR : Rx rw rw:=Rx.rfl
 have hne : n ≠ kx:=fun e => by
  subst e
  have h1:=T.at_
  rw [hkx] at h1
  simp at h1
 have hFb:=froz_n hne hkx
 refine' stH
 refine g_call rfl rfl rfl ?_
 refine c_det (det_call (n:=1) hm (by simp only [callN,L.p60]; rfl)) ?_
 refine zrk6 ?_
 refine' stH
 refine g_call rfl rfl rfl ?_
 refine c_det (det_call (n:=1) hm (by simp only [callN,L.p61]; rfl)) ?_
 refine zrk6 ?_
 refine' stH
 refine id_store ?_
 refine g_store rfl rfl rfl ?_
 refine s_nO hlt ⟨rfl,rfl⟩ rfl (by simp) rfl rfl ?_
 refine zrk6 ?_
 refine' stH
 exact ⟨rfl,_,rfl⟩
end Go.Proofs.YtmeakjgbjldkdaaGreat.Ai
namespace Go.Proofs.YtmeakjgbjldkdaaGreat.Ai
open Go
variable {pr : Prims} {F : Nat → Option IFn}
theorem pre59_of : i59.body = .seq pre59 (.seq r59_9 r59_10):=rfl
theorem tab_ov (cs : List Cls) (U : List (List Nat)) (z zb mb : Nat) (tg tb : Tag) (a b : Int) (sl x : AV) : overlay (tabC cs U z zb mb tg tb a b sl) 6 [x] = tabC cs U z zb mb tg tb a b x:=rfl
theorem tab_closed {cs : List Cls} {U : List (List Nat)} {z zb mb : Nat} {tg tb : Tag} {a b : Int} : ∀ x ∈ tabC cs U z zb mb tg tb a b (.list 0 .full []),closed1 x = true ∨ x = .map mb:=by
 intro x hx
 simp only [tabC,List.mem_cons,List.not_mem_nil,or_false] at hx
 rcases hx with rfl | rfl | rfl | rfl | rfl | rfl | rfl
 ·exact .inl rfl
 ·exact .inr rfl
 all_goals exact .inl rfl
theorem run59 (L : LibT pr F) {H : List Blk} {rw : List Nat} {n mb z zb kx : Nat} {tg tb : Tag} {cs : List Cls} {U : List (List Nat)} {a b : Int} (T : TabU H n mb cs z tg zb tb U (.int .u32 a) (.int .i32 b) (.int .u32 0) (.list 0 .full [])) (hfw : Few cs) (hkx : H[kx]? = some (.cells [.ptr n 0])) :
  ∃ nf rw' tg' tb',(sigsF cs ≠ [] → Calm tg' ∧ Calm tb') ∧ Rx rw rw' ∧ callN pr F nf 59 [.ptr kx 0] ⟨H,rw⟩ = some (.ret (.tup []),⟨H.set n (.cells (tabC cs U z zb mb tg' tb' a b (slV (sigsF cs)))),rw'⟩):=by
 have hm:=L.hm
 have hlt : n < H.length:=(List.getElem?_eq_some_iff.1 T.at_).1
 have hne : n ≠ kx:=fun e => by
  subst e
  have h1:=T.at_
  rw [hkx] at h1
  simp at h1
 have hat : H[n]? = some (.cells (tabC cs U z zb mb tg tb a b (.list 0 .full []))):=T.at_
 obtain ⟨nf,x,e,S1,hx,rfl,v,rw1,M,e',rfl,hg,hR,rfl⟩:=wx_pre59 L.toLibE (rw:=rw) T hfw hkx
 have h2 : ((tabC cs U z zb mb tg tb a b (.list 0 .full []))[1]? : Option AV) = some (.map mb):=rfl
 have h4:=exU_of (S:=⟨H,rw⟩) (cl':=callN pr F nf) (fun _ _ _ _ h => h) hx
 have hkx2 : (hp H n (.cells (tabC cs U z zb mb tg tb a b v)) M)[kx]? = some (.cells [.ptr n 0]):=froz_n hne hkx _ _
 have hmb2 : (hp H n (.cells (tabC cs U z zb mb tg tb a b v)) M)[mb]? = some (.map (mapOf 0 cs)):=froz_n T.ne T.mp _ _
 have hn2 : (hp H n (.cells (tabC cs U z zb mb tg tb a b v)) M)[n]? = some (.cells (tabC cs U z zb mb tg tb a b v)):=hp_get hlt
 have hv2 : ((tabC cs U z zb mb tg tb a b v)[6]? : Option AV) = some v:=rfl
 have hkey : ∀ k,nf ≤ k → ∀ res,slotsEnd ⟨H,rw⟩ ⟨hp H n (.cells (tabC cs U z zb mb tg tb a b v)) M,rw1⟩ n (tabC cs U z zb mb tg tb a b (.list 0 .full [])) (enU (callN pr F k) i59 [.ptr kx 0] ⟨H,rw⟩) v = some res → callN pr F (k + 1) 59 [.ptr kx 0] ⟨H,rw⟩ = some res:=by
  intro k hk res hres
  simp only [callN,L.p59]
  unfold slotsQ
  have h5:=exU_mono (callN_mono hm hk) _ _ _ _ h4
  have e0 : eget ((0,AV.ptr kx 0) :: e') 0 = some (.ptr kx 0):=rfl
  have hif1 : intsM (mapOf 0 cs) = true ∧ 6 < (tabC cs U z zb mb tg tb a b (.list 0 .full [])).length ∧ ∀ x ∈ tabC cs U z zb mb tg tb a b (.list 0 .full []),closed1 x = true ∨ x = .map mb:=⟨ints_mapF 0 cs,by simp [tabC],tab_closed⟩
  have e1 : exU (callN pr F k) pre59 (args0 [.ptr kx 0]) ⟨H,rw⟩ = some (.normal,(0,AV.ptr kx 0) :: e',⟨hp H n (.cells (tabC cs U z zb mb tg tb a b v)) M,rw1⟩):=h5
  simp only [hkx,hat,h2,T.mp,if_pos hif1,e1,hn2,hv2]
  rw [if_pos ⟨e0,hkx2,hmb2,rfl⟩]
  exact hres
 rcases hg with ⟨h0,rfl⟩ | ⟨h0,r,rfl,h5,h6⟩
 ·
  have hs0 : sigsF cs = []:=strRows_nil h0
  have hW : Wx pr F H.length i59.body (args0 [.ptr kx 0]) ⟨H,rw⟩ fun x e S' => x = .normal ∧ ∃ M rw',Rx rw rw' ∧ S' = ⟨hp H n (.cells (tabC cs U z zb mb tg tb a b (.list 0 .full []))) M,rw'⟩:=by
   rw [pre59_of]
   refine Wx.seq hm (Wx.mono (wx_pre59 L.toLibE (rw:=rw) T hfw hkx) ?_)
   rintro x e S' ⟨rfl,v,rw',M,e',rfl,hg,hR,rfl⟩
   rcases hg with ⟨-,rfl⟩ | ⟨h0',-⟩
   ·refine Wx.mono (wx_rest59 L T hkx e' M) ?_
    rintro x e S' ⟨rfl,M',rfl⟩
    exact ⟨rfl,M',rw',hR,rfl⟩
   ·exact absurd h0 h0'
  obtain ⟨k,x,e,S',hxk,rfl,M',rw',hR',rfl⟩:=hW
  have hen : enter (callN pr F k) k i59 [.ptr kx 0] ⟨H,rw⟩ = some (.ret (.tup []),⟨H.set n (.cells (tabC cs U z zb mb tg tb a b (.list 0 .full []))),rw'⟩):=by
   have hb0 : Ai.below H.length (.tup []) = true:=rfl
   unfold enter
   rw [if_pos (show [AV.ptr kx 0].length = i59.nargs from rfl)]
   have hxk' : exec (⟨H,rw⟩ : St).heap.length (callN pr F k) k i59.body (args0 [.ptr kx 0]) ⟨H,rw⟩ = some (.normal,e,⟨hp H n (.cells (tabC cs U z zb mb tg tb a b (.list 0 .full []))) M',rw'⟩):=hxk
   simp only [hxk',show i59.res = [] from rfl,rvals,packed,leave,hb0,if_true,hp_take hlt,hp_nil]
  refine ⟨max nf k + 1,rw',tg,tb,fun h => absurd hs0 h,hR',?_⟩
  refine hkey (max nf k) (Nat.le_max_left _ _) _ ?_
  have h9:=enU_of (callN_mono hm (Nat.le_max_right nf k)) hen
  simp only [slotsEnd,h9,hs0,slV,if_true]
 ·
  have hs0 : sigsF cs ≠ []:=fun h => h0 (by rw [h]; rfl)
  have hsl : (sigsF cs).length ≤ 64 * cs.length:=by
   have h2:=sigsF_len hfw cs.length
   rw [List.take_length] at h2
   exact h2
  have hfew:=T.few
  have hpos : 0 < (sigsF cs).length:=List.length_pos_iff.2 hs0
  obtain ⟨tg',tb',hct,k1,k2⟩:=canon_tab cs U z zb mb tg tb a b
  refine ⟨nf + 1,rw1,tg',tb',fun _ => ⟨k1,k2⟩,hR,?_⟩
  refine hkey nf (Nat.le_refl _) _ ?_
  have haw : awT (sigsF cs) r (canonL (overlay (tabC cs U z zb mb tg tb a b (.list 0 .full [])) 6 [.nilp])) = true:=by
   rw [tab_ov,hct]
   have q1:=aw_calm (z:=z) (b:=r) k1 (aw_clss (sgn_sigs T.okc) T.okc)
   have q2:=aw_calm (z:=zb) k2 (aw_ups (sigsF cs) r U)
   simp only [tabC,canon1,awT]
   rw [q1,q2]
   rfl
  simp only [slotsEnd,strs_rows]
  rw [if_pos ⟨h5,hpos,by omega,haw⟩,hct,tab_ov]
  simp only [slV,if_neg hs0]
end Go.Proofs.YtmeakjgbjldkdaaGreat.Ai
namespace Go.Proofs.YtmeakjgbjldkdaaGreat.Ai
open Go
theorem dedP_mem {s : Str} : ∀ {l : List Str} {p : Str},s ∈ p :: l → s ∈ p :: dedP p l
 | [],p,h => h
 | x :: l,p,h => by
  unfold dedP
  split
  ·rename_i e
   subst e
   refine dedP_mem (l:=l) ?_
   rcases List.mem_cons.1 h with rfl | h
   ·exact List.mem_cons_self
   ·exact h
  ·rcases List.mem_cons.1 h with rfl | h
   ·exact List.mem_cons_self
   ·exact List.mem_cons_of_mem _ (dedP_mem (l:=l) h)
theorem dedB_mem {s : Str} {l : List Str} : s ∈ dedB l ↔ s ∈ l:=by
 refine ⟨mem_dedB l s,fun h => ?_⟩
 cases l with
 | nil => cases h
 | cons x l => exact dedP_mem h
theorem dedP_rising : ∀ {l : List Str} {p : Str},(p :: l).Pairwise (fun a b => a ≤ b) → Rising (p :: dedP p l)
 | [],p,_ => List.pairwise_singleton _ _
 | x :: l,p,h => by
  obtain ⟨h1,h2⟩:=List.pairwise_cons.1 h
  unfold dedP
  split
  ·rename_i e
   subst e
   exact dedP_rising (l:=l) h2
  ·rename_i e
   have ih:=dedP_rising (l:=l) (p:=x) h2
   have hlt : p < x:=by
    rcases List.le_iff_lt_or_eq.1 (h1 x List.mem_cons_self) with h5 | h5
    ·exact h5
    ·exact absurd h5.symm e
   refine List.pairwise_cons.2 ⟨fun y hy => ?_,ih⟩
   rcases List.mem_cons.1 hy with rfl | hy
   ·exact hlt
   ·exact List.lt_trans hlt ((List.pairwise_cons.1 ih).1 y hy)
theorem dedB_rising {l : List Str} (h : l.Pairwise (fun a b => a ≤ b)) : Rising (dedB l):=by
 cases l with
 | nil => exact List.Pairwise.nil
 | cons x l => exact dedP_rising h
def slotS (l : List Str) : List Str:=dedB (sortB l)
theorem slotS_mem {l : List Str} {x : Str} : x ∈ slotS l ↔ x ∈ l:=dedB_mem.trans (sortB_perm l).mem_iff
theorem slotS_eq (cs : List Cls) : slotS (sigsF cs) = slotsF cs:=by
 refine rising_ext (dedB_rising (sortB_sorted _) : Rising (slotS (sigsF cs))) (slots_rising cs) fun x => ?_
 rw [slotS_mem,slotsF,putAll_mem]
 simp
end Go.Proofs.YtmeakjgbjldkdaaGreat.Ai
namespace Go.Proofs.YtmeakjgbjldkdaaGreat.Ai
open Go
variable {pr : Prims} {F : Nat → Option IFn}
def clV (rw : List Nat) (l : List Str) : AV:=if l = [] then .list 1 .dead [] else .list 1 (.row rw.length l.length) (l.map nmRow)
def clR (rw : List Nat) (l : List Str) : List Nat:=if l = [] then rw else rw ++ [l.length]
theorem clV_ex (rw : List Nat) (l : List Str) : ∃ t,clV rw l = .list 1 t (l.map nmRow):=by
 unfold clV
 split
 ·rename_i h
  exact ⟨.dead,by rw [h]; rfl⟩
 ·exact ⟨_,rfl⟩
theorem clR_rx (rw : List Nat) (l : List Str) : Rx rw (clR rw l):=by
 unfold clR
 split
 ·exact Rx.rfl
 ·exact (Rx.rfl).push _
theorem det_clone (L : LibT pr F) (l : List Str) (hl : l.length ≤ 1000000) (H : List Blk) (rw : List Nat) : Det pr F 62 [slV l] ⟨H,rw⟩ (.ret (clV rw (slotS l))) ⟨H,clR rw (slotS l)⟩:=by
 refine det_call (n:=1) L.hm ?_
 simp only [callN,L.p62]
 have hds:=dedB_length (sortB l)
 have hsl:=sortB_length l
 unfold slV
 split
 ·rename_i h
  subst h
  rfl
 ·rename_i h
  have hne : slotS l ≠ []:=by
   intro e
   obtain ⟨x,hx⟩:=List.exists_mem_of_ne_nil _ h
   have : x ∈ slotS l:=slotS_mem.2 hx
   rw [e] at this
   cases this
  unfold clV clR
  rw [if_neg hne,if_neg hne]
  have hrr : slotList l = .list 1 .still ((slotS l).map nmRow):=rfl
  rw [hrr]
  have hlen : (slotS l).length ≤ 1000000:=by unfold slotS; omega
  generalize slotS l = k at *
  cases k with
  | nil => exact absurd rfl hne
  | cons s k =>
   simp only [List.map_cons,nmRow,cloneQ]
   rw [show strsOf ([AV.str s] :: List.map nmRow k) = some (s :: k) from strsOf_map (s :: k)]
   simp only [List.length_cons,List.length_map] at hlen ⊢
   rw [if_pos hlen]
theorem det_once0 (L : LibT pr F) {H : List Blk} {rw : List Nat} {n mb z zb kx : Nat} {tg tb : Tag} {cs : List Cls} {U : List (List Nat)} (T : TabU H n mb cs z tg zb tb U (.int .u32 0) (.int .i32 0) (.int .u32 0) (.list 0 .full [])) (hfw : Few cs) (hkx : H[kx]? = some (.cells [.ptr n 0])) :
  ∃ rw' tg' tb',(sigsF cs ≠ [] → Calm tg' ∧ Calm tb') ∧ Rx rw rw' ∧ Det pr F 58 [.ptr n 3,.func 59 [] [.ptr kx 0]] ⟨H,rw⟩ (.ret (.tup [])) ⟨H.set n (.cells (tabC cs U z zb mb tg' tb' 1 0 (slV (sigsF cs)))),rw'⟩:=by
 have hlt : n < H.length:=(List.getElem?_eq_some_iff.1 T.at_).1
 have hat : H[n]? = some (.cells (tabC cs U z zb mb tg tb 0 0 (.list 0 .full []))):=T.at_
 have hne : n ≠ kx:=fun e => by
  subst e
  rw [hkx] at hat
  simp [tabC] at hat
 have hat1 : (H.set n (.cells (tabC cs U z zb mb tg tb 0 1 (.list 0 .full []))))[n]? = some (.cells (tabC cs U z zb mb tg tb 0 1 (.list 0 .full []))):=List.getElem?_set_self hlt
 have T1 : TabU (H.set n (.cells (tabC cs U z zb mb tg tb 0 1 (.list 0 .full [])))) n mb cs z tg zb tb U (.int .u32 0) (.int .i32 1) (.int .u32 0) (.list 0 .full []):=T.re hat1 (by rw [List.getElem?_set_ne T.ne]; exact T.mp)
 obtain ⟨nf,rw',tg',tb',hcm,hR,hc⟩:=run59 L (rw:=rw) T1 hfw (kx:=kx) (by rw [List.getElem?_set_ne hne]; exact hkx)
 rw [List.set_set] at hc
 refine ⟨rw',tg',tb',hcm,hR,det_call (n:=nf + 1) L.hm ?_⟩
 have hat2 : (H.set n (.cells (tabC cs U z zb mb tg' tb' 0 1 (slV (sigsF cs)))))[n]? = some (.cells (tabC cs U z zb mb tg' tb' 0 1 (slV (sigsF cs)))):=List.getElem?_set_self hlt
 have hat3 : (H.set n (.cells (tabC cs U z zb mb tg' tb' 1 1 (slV (sigsF cs)))))[n]? = some (.cells (tabC cs U z zb mb tg' tb' 1 1 (slV (sigsF cs)))):=List.getElem?_set_self hlt
 have s1 : setC H n (3 + 1) (.int .i32 1) = H.set n (.cells (tabC cs U z zb mb tg tb 0 1 (.list 0 .full []))):=setC_eq hat
 have s2 : setC (H.set n (.cells (tabC cs U z zb mb tg' tb' 0 1 (slV (sigsF cs))))) n 3 (.int .u32 1) = H.set n (.cells (tabC cs U z zb mb tg' tb' 1 1 (slV (sigsF cs)))):=(setC_eq hat2).trans (by first | (rw [List.set_set]; rfl) | rw [List.set_set])
 have s3 : setC (H.set n (.cells (tabC cs U z zb mb tg' tb' 1 1 (slV (sigsF cs))))) n (3 + 1) (.int .i32 0) = H.set n (.cells (tabC cs U z zb mb tg' tb' 1 0 (slV (sigsF cs)))):=(setC_eq hat3).trans (by first | (rw [List.set_set]; rfl) | rw [List.set_set])
 have c3 : ((tabC cs U z zb mb tg tb 0 0 (.list 0 .full []))[3]? : Option AV) = some (.int .u32 0):=rfl
 have c4 : ((tabC cs U z zb mb tg tb 0 0 (.list 0 .full []))[3 + 1]? : Option AV) = some (.int .i32 0):=rfl
 have d3 : ((tabC cs U z zb mb tg' tb' 0 1 (slV (sigsF cs)))[3]? : Option AV) = some (.int .u32 0):=rfl
 have d4 : ((tabC cs U z zb mb tg' tb' 0 1 (slV (sigsF cs)))[3 + 1]? : Option AV) = some (.int .i32 1):=rfl
 simp only [callN,L.p58]
 unfold onceP
 simp only [hat,c3,c4,s1,hc,hat2,d3,d4,s2,s3]
theorem det_once1 (L : LibT pr F) {H : List Blk} {rw : List Nat} {n mb z zb kx : Nat} {tg tb : Tag} {cs : List Cls} {U : List (List Nat)} {b : Int} {sl : AV} (T : TabU H n mb cs z tg zb tb U (.int .u32 1) (.int .i32 b) (.int .u32 0) sl) :
  Det pr F 58 [.ptr n 3,.func 59 [] [.ptr kx 0]] ⟨H,rw⟩ (.ret (.tup [])) ⟨H,rw⟩:=by
 have hat : H[n]? = some (.cells (tabC cs U z zb mb tg tb 1 b sl)):=T.at_
 have c3 : ((tabC cs U z zb mb tg tb 1 b sl)[3]? : Option AV) = some (.int .u32 1):=rfl
 have c4 : ((tabC cs U z zb mb tg tb 1 b sl)[3 + 1]? : Option AV) = some (.int .i32 b):=rfl
 refine det_call (n:=1) L.hm ?_
 simp only [callN,L.p58]
 unfold onceP
 simp only [hat,c3,c4]
theorem sigsF_all {cs : List Cls} (hfw : Few cs) (hfew : cs.length ≤ 6000) : (sigsF cs).length ≤ 1000000:=by
 have h2:=sigsF_len hfw cs.length
 rw [List.take_length] at h2
 omega
theorem det_slots0 (L : LibT pr F) {H : List Blk} {rw : List Nat} {n mb z zb : Nat} {tg tb : Tag} {cs : List Cls} {U : List (List Nat)} (T : TabU H n mb cs z tg zb tb U (.int .u32 0) (.int .i32 0) (.int .u32 0) (.list 0 .full [])) (hfw : Few cs) :
  ∃ rw' tg' tb',(sigsF cs ≠ [] → Calm tg' ∧ Calm tb') ∧ Rx rw rw' ∧ Det pr F 22 [.ptr n 0] ⟨H,rw⟩ (.ret (clV rw' (slotS (sigsF cs)))) ⟨hp H n (.cells (tabC cs U z zb mb tg' tb' 1 0 (slV (sigsF cs)))) [],clR rw' (slotS (sigsF cs))⟩:=by
 have hm:=L.hm
 suffices h : Wp pr F 22 [.ptr n 0] ⟨H,rw⟩ fun r S' => ∃ rw' tg' tb',(sigsF cs ≠ [] → Calm tg' ∧ Calm tb') ∧ Rx rw rw' ∧ r = .ret (clV rw' (slotS (sigsF cs))) ∧ S' = ⟨hp H n (.cells (tabC cs U z zb mb tg' tb' 1 0 (slV (sigsF cs)))) [],clR rw' (slotS (sigsF cs))⟩ by
  obtain ⟨r,S',hd,rw',tg',tb',h0,h1,rfl,rfl⟩:=h.det hm
  exact ⟨rw',tg',tb',h0,h1,hd⟩
 have hlt : n < H.length:=(List.getElem?_eq_some_iff.1 T.at_).1
 have hR : Rx rw rw:=Rx.rfl
 have hla:=sigsF_all hfw T.few
 refine at_start_hp hm L.f22.1 L.f22.2 rfl (hp_of T.at_) ?_
 refine' stH
 have hT1:=T.keep (keep_n T.at_ [.cells [.ptr n 0]])
 obtain ⟨rw',tg',tb',hcm,hR1,hd⟩:=det_once0 L (rw:=rw) hT1 hfw (kx:=H.length) ((hp_own0 hlt).trans rfl)
 rw [hp_set] at hd
 refine g_call rfl rfl rfl ?_
 refine c_det hd ?_
 clear hd
 unfold tabC
 refine zrk6 ?_
 refine' stH
 refine g_call rfl rfl rfl ?_
 refine c_det (det_clone L (sigsF cs) hla _ rw') ?_
 obtain ⟨t,ht⟩:=clV_ex rw' (slotS (sigsF cs))
 rw [ht]
 refine zrk6 ?_
 refine' stH
 exact fin_ret rfl rfl (hp_take hlt) ⟨rw',tg',tb',hcm,hR1,by rw [ht],rfl⟩
theorem det_slots1 (L : LibT pr F) {H : List Blk} {rw : List Nat} {n mb z zb : Nat} {tg tb : Tag} {cs : List Cls} {U : List (List Nat)} {b : Int} (T : TabU H n mb cs z tg zb tb U (.int .u32 1) (.int .i32 b) (.int .u32 0) (slV (sigsF cs))) (hfw : Few cs) :
  Det pr F 22 [.ptr n 0] ⟨H,rw⟩ (.ret (clV rw (slotS (sigsF cs)))) ⟨H,clR rw (slotS (sigsF cs))⟩:=by
 have hm:=L.hm
 suffices h : Wp pr F 22 [.ptr n 0] ⟨H,rw⟩ fun r S' => r = .ret (clV rw (slotS (sigsF cs))) ∧ S' = ⟨H,clR rw (slotS (sigsF cs))⟩ by
  obtain ⟨r,S',hd,rfl,rfl⟩:=h.det hm
  exact hd
 have hlt : n < H.length:=(List.getElem?_eq_some_iff.1 T.at_).1
 have hR : Rx rw rw:=Rx.rfl
 have hla:=sigsF_all hfw T.few
 refine at_start_hp hm L.f22.1 L.f22.2 rfl (hp_of T.at_) ?_
 refine' stH
 have hT1:=T.keep (keep_n T.at_ [.cells [.ptr n 0]])
 have hd:=det_once1 L (rw:=rw) hT1 (kx:=H.length)
 refine g_call rfl rfl rfl ?_
 refine c_det hd ?_
 clear hd
 refine zrk6 ?_
 refine' stH
 refine g_call rfl rfl rfl ?_
 refine c_det (det_clone L (sigsF cs) hla _ rw) ?_
 obtain ⟨t,ht⟩:=clV_ex rw (slotS (sigsF cs))
 rw [ht]
 refine zrk6 ?_
 refine' stH
 exact fin_ret rfl rfl (hp_take hlt) ⟨rfl,st_of T.at_⟩
end Go.Proofs.YtmeakjgbjldkdaaGreat.Ai
namespace Go.Proofs.YtmeakjgbjldkdaaGreat.Ai
open Go
variable {pr : Prims} {F : Nat → Option IFn}
def vtI : Option (Nat × Mth) → Int
 | some (j,_) => (j : Int)
 | none => -1
def vtF (cs : List Cls) (U : List (List Nat)) (s : Str) (l : List Str) : List (List AV):=l.map fun k => [.int .i64 (vtI (dispF cs U s k))]
theorem vtF_len (cs : List Cls) (U : List (List Nat)) (s : Str) (l : List Str) : (vtF cs U s l).length = l.length:=List.length_map _
theorem vtF_snoc {cs : List Cls} {U : List (List Nat)} {s : Str} {l : List Str} {q : Nat} {k : Str} (h : l[q]? = some k) : vtF cs U s (l.take (q + 1)) = vtF cs U s (l.take q) ++ [[.int .i64 (vtI (dispF cs U s k))]]:=by
 obtain ⟨hl,he⟩:=List.getElem?_eq_some_iff.1 h
 rw [List.take_succ_eq_append_getElem hl,he,vtF,List.map_append]
 rfl
theorem dsp_get {cs : List Cls} {sig : Str} {i : Nat} {m : Mth} : ∀ {l : List Nat},dspF cs sig l = some (i,m) → ∃ c,cs[i]? = some c
 | [],h => by simp [dspF] at h
 | x :: l,h => by
  simp only [dspF] at h
  split at h
  ·rename_i m' hm
   simp only [Option.some.injEq,Prod.mk.injEq] at h
   obtain ⟨rfl,rfl⟩:=h
   unfold ownF at hm
   cases hc : cs[x]? with
   | none => rw [hc] at hm; simp at hm
   | some c => exact ⟨c,rfl⟩
  ·exact dsp_get (l:=l) h
theorem det_vtable (L : LibT pr F) {H : List Blk} {rw : List Nat} {n mb z zb : Nat} {tg tb : Tag} {cs : List Cls} {U : List (List Nat)} {b : Int} (T : TabU H n mb cs z tg zb tb U (.int .u32 1) (.int .i32 b) (.int .u32 0) (slV (sigsF cs))) (hfw : Few cs) (s : Str) :
  ∃ (v : AV) (rw' : List Nat),IsL 1 v (vtF cs U s (slotsF cs)) ∧ Rx rw rw' ∧ Det pr F 25 [.ptr n 0,.str s] ⟨H,rw⟩ (.ret v) ⟨H,rw'⟩:=by
 have hm:=L.hm
 suffices h : Wp pr F 25 [.ptr n 0,.str s] ⟨H,rw⟩ fun r S' => ∃ (v : AV) (rw' : List Nat),IsL 1 v (vtF cs U s (slotsF cs)) ∧ Rx rw rw' ∧ r = .ret v ∧ S' = ⟨H,rw'⟩ by
  obtain ⟨r,S',hd,v,rw',h1,h2,rfl,rfl⟩:=h.det hm
  exact ⟨v,rw',h1,h2,hd⟩
 have hlt : n < H.length:=(List.getElem?_eq_some_iff.1 T.at_).1
 have hfew:=T.few
 have hR : Rx rw rw:=Rx.rfl
 have hFm:=froz_n T.ne T.mp
 have hT:=fun M => T.keep (keep_n T.at_ M)
 have hsa:=sigsF_all hfw T.few
 refine at_start_hp hm L.f25.1 L.f25.2 rfl (hp_of T.at_) ?_
 refine' stI
 have hd:=det_slots1 L (rw:=rw) (hT []) hfw
 rw [slotS_eq] at hd
 obtain ⟨t,ht⟩:=clV_ex rw (slotsF cs)
 have hR1:=clR_rx rw (slotsF cs)
 rw [ht] at hd
 refine g_call rfl rfl rfl ?_
 refine c_det hd ?_
 clear hd ht hR
 refine zrk7 ?_
 generalize clR rw (slotsF cs) = rw1 at *
 have hR:=hR1
 have hss : (slotsF cs).length ≤ 1000000:=by
  have h1:=putAll_len (sigsF cs) []
  rw [slotsF]
  simp only [List.length_nil] at h1
  omega
 generalize slotsF cs = ss at *
 have hrl : (ss.map nmRow).length = ss.length:=List.length_map _
 refine' stI
 refine at_loop hm (fun mm e S' => ∃ (q : Nat) (J : List Blk) (lv : AV) (rw3 : List Nat),S' = ⟨hp H n (.cells [.list z tg (cs.map clsRow),.map mb,.list zb tb (U.map upRow),.int .u32 1,.int .i32 b,.int .u32 0,slV (sigsF cs)]) J,rw3⟩ ∧ q ≤ ss.length ∧ Lst rw 1 lv (vtF cs U s (ss.take q)) rw3 ∧ Rx rw rw3 ∧ mm = ss.length - q ∧
  e = [(0,.ptr n 0),(1,.str s),(5,lv),(12,.list 1 t (ss.map nmRow)),(13,.int .i64 ((ss.map nmRow).length : Int)),(14,.int .i64 q)]) ?_ (m:=ss.length) ⟨0,[],_,rw1,rfl,by omega,Lst.nil,hR,rfl,rfl⟩
 clear hR
 rintro mm e S' ⟨q,J,lv,rw3,rfl,hq0,hl,hR,rfl,rfl⟩
 by_cases hq1 : q < ss.length
 ·obtain ⟨k,hk⟩ : ∃ k,ss[q]? = some k:=⟨_,List.getElem?_eq_getElem hq1⟩
  have hkr : (ss.map nmRow)[q]? = some (nmRow k):=by rw [List.getElem?_map,hk]; rfl
  have hvl:=vtF_len cs U s (ss.take q)
  rw [List.length_take] at hvl
  refine' stI
  obtain ⟨rw6,hR6,hd6⟩:=det_dispatch L.toLibE (hT (J ++ [.cells (memRow [] [] mthZ)])) s k (rw:=rw3)
  refine g_call rfl rfl rfl ?_
  refine c_det hd6 ?_
  refine zrk7 ?_
  clear hd6
  have hl:=hl.ext hR6
  replace hR:=hR.trans hR6
  simp only [dspRes]
  have hsn:=vtF_snoc (cs:=cs) (U:=U) (s:=s) hk
  cases hdk : dispF cs U s k with
  | none =>
   have hrm:=row_mem [] [] mthZ
   rw [hdk] at hsn
   simp only [dspRow,Option.isSome_none]
   refine' stI
   refine id_append ?_
   refine g_append rfl rfl rfl ?_
   refine ap_lst (row:=[.int .i64 (-1)]) hl hR (by simp only [maxRow]; omega) (by simp only [maxRow]; omega) (by omega) ?_
   intro l4 rw4 hl4 hR4
   refine zrk7 ?_
   refine' stI
   exact ⟨ss.length - (q + 1),by omega,q + 1,_,l4,rw4,rfl,by omega,by rw [hsn]; exact hl4,hR4,rfl,rfl⟩
  | some jm =>
   obtain ⟨j,x⟩:=jm
   obtain ⟨c,hc⟩:=dsp_get hdk
   have hna : nameAt cs j = c.name:=by simp only [nameAt,hc]
   have hpl:=T.unlike j c hc
   have hrm:=row_mem k (nameAt cs j) x
   rw [hdk] at hsn
   rw [hna] at hrm
   simp only [dspRow,Option.isSome_some,hna]
   obtain ⟨mn1,mp1,⟨mk1,mt1,mu1,me1,mq1,ma1⟩,bd,ab,at1⟩:=x
   refine' stI
   rw [hpl]
   refine' stI
   refine id_append ?_
   refine g_append rfl rfl rfl ?_
   refine ap_lst (row:=[.int .i64 (j : Int)]) hl hR (by simp only [maxRow]; omega) (by simp only [maxRow]; omega) (by omega) ?_
   intro l4 rw4 hl4 hR4
   refine zrk7 ?_
   refine' stI
   exact ⟨ss.length - (q + 1),by omega,q + 1,_,l4,rw4,rfl,by omega,by rw [hsn]; exact hl4,hR4,rfl,rfl⟩
 ·refine' stI
  rw [List.take_of_length_le (by omega)] at hl
  exact fin_ret rfl (hl.isL.below _) (hp_take hlt) ⟨_,_,hl.isL,hR,rfl,st_of T.at_⟩
end Go.Proofs.YtmeakjgbjldkdaaGreat.Ai
namespace Go.Proofs.YtmeakjgbjldkdaaGreat.Ai
open Go
set_option maxRecDepth 100000
set_option maxHeartbeats 16000000
def F4a : {l : List IC // Tr.fn Tr.TT Tryz.f4 0 [[0],[0,16],[2],[3,4],[3,4,23],[2],[3,4,5,6],[3,5,6,7],[3,5,6,7,34],[2],[3,5,6,7,8],[3,5,6,7,8,38],[3,5,6,7,8,9],[3,5,6,7,8,9,51],[2],[3,5,6,7,8,9,10],[3,5,6,7,8,9,10,55],[3,5,6,7,8,9,10,11,12],[3,5,6,7,8,9,10,112],[2],[3,5,6,7,8,9,10],[3,5,6,7,8],[3,5,13],[3,5,13,116],[3,5,13],[3,5,13],[14],[2]] = l}:=⟨_,by cbv⟩
def r4_0 : IC:=Tr.pk F4a.1 0
def r4_1 : IC:=Tr.pk F4a.1 1
def r4_2 : IC:=Tr.pk F4a.1 2
def r4_3 : IC:=Tr.pk F4a.1 3
def r4_4 : IC:=Tr.pk F4a.1 4
def r4_5 : IC:=Tr.pk F4a.1 5
def r4_6 : IC:=Tr.pk F4a.1 6
def r4_7 : IC:=Tr.pk F4a.1 7
def r4_8 : IC:=Tr.pk F4a.1 8
def r4_9 : IC:=Tr.pk F4a.1 9
def r4_10 : IC:=Tr.pk F4a.1 10
def r4_11 : IC:=Tr.pk F4a.1 11
def r4_12 : IC:=Tr.pk F4a.1 12
def r4_13 : IC:=Tr.pk F4a.1 13
def r4_14 : IC:=Tr.pk F4a.1 14
def r4_15 : IC:=Tr.pk F4a.1 15
def r4_16 : IC:=Tr.pk F4a.1 16
def r4_17 : IC:=Tr.pk F4a.1 17
def r4_18 : IC:=Tr.pk F4a.1 18
def r4_19 : IC:=Tr.pk F4a.1 19
def r4_20 : IC:=Tr.pk F4a.1 20
def r4_21 : IC:=Tr.pk F4a.1 21
def r4_22 : IC:=Tr.pk F4a.1 22
def r4_23 : IC:=Tr.pk F4a.1 23
def r4_24 : IC:=Tr.pk F4a.1 24
def r4_25 : IC:=Tr.pk F4a.1 25
def r4_26 : IC:=Tr.pk F4a.1 26
def r4_27 : IC:=Tr.pk F4a.1 27
noncomputable def i4 : IFn:=⟨1,(.seq r4_0 (.seq (.seq r4_1 (.cond (.tmp 16) (.seq r4_2 .ret) (.skip))) (.seq r4_3 (.seq (.seq r4_4 (.cond (.tmp 23) (.seq r4_5 .ret) (.skip))) (.seq r4_6 (.seq r4_7 (.seq (.seq r4_8 (.cond (.tmp 34) (.seq r4_9 .ret) (.skip))) (.seq (.seq r4_10 (.block 0 (.loop [3,5,6,7,8] (.seq (.seq r4_11 (.cond (.tmp 38) (.skip) (.exit 0))) (.seq (.block 1 (.seq r4_12 (.seq (.seq r4_13 (.cond (.tmp 51) (.seq r4_14 .ret) (.skip))) (.seq r4_15 (.block 2 (.loop [3,5,6,7,8,9,10] (.seq (.seq r4_16 (.cond (.tmp 55) (.skip) (.exit 2))) (.seq (.block 3 (.seq r4_17 (.seq r4_18 (.cond (.tmp 112) (.seq r4_19 .ret) (.skip))))) r4_20)))))))) r4_21))))) (.seq (.seq r4_22 (.block 4 (.loop [3,5,13] (.seq (.seq r4_23 (.cond (.tmp 116) (.skip) (.exit 4))) (.seq (.block 5 r4_24) r4_25))))) (.seq r4_26 (.seq r4_27 .ret))))))))))),[.tmp 2]⟩
theorem c4 : chkFn Tryz.prog Tryz.f4 i4 = true:=by kernel_rfl
end Go.Proofs.YtmeakjgbjldkdaaGreat.Ai
namespace Go.Proofs.YtmeakjgbjldkdaaGreat.Ai
open Go
variable {pr : Prims} {F : Nat → Option IFn}
def seqs : List IC → IC
 | [] => .skip
 | c :: l => .seq c (seqs l)
noncomputable def nodes4 : List IC:=[r4_0,.seq r4_1 (.cond (.tmp 16) (.seq r4_2 .ret) (.skip)),r4_3,.seq r4_4 (.cond (.tmp 23) (.seq r4_5 .ret) (.skip)),r4_6,r4_7,.seq r4_8 (.cond (.tmp 34) (.seq r4_9 .ret) (.skip)),
 .seq r4_10 (.block 0 (.loop [3,5,6,7,8] (.seq (.seq r4_11 (.cond (.tmp 38) (.skip) (.exit 0))) (.seq (.block 1 (.seq r4_12 (.seq (.seq r4_13 (.cond (.tmp 51) (.seq r4_14 .ret) (.skip))) (.seq r4_15 (.block 2 (.loop [3,5,6,7,8,9,10] (.seq (.seq r4_16 (.cond (.tmp 55) (.skip) (.exit 2))) (.seq (.block 3 (.seq r4_17 (.seq r4_18 (.cond (.tmp 112) (.seq r4_19 .ret) (.skip))))) r4_20)))))))) r4_21))))]
noncomputable def pre4 : IC:=seqs nodes4
def Pre4Q (x : Ex) (e : Env) (S' : St) : Prop:=
 (x = .ret ∧ ∃ e',e = (2,.bool true) :: e') ∨
 (x = .normal ∧ ∃ (H : List Blk) (rw rw0 : List Nat) (n mb z zb : Nat) (tg tb : Tag) (cs : List Cls) (U : List (List Nat)) (e' : Env),TabU H n mb cs z tg zb tb U (.int .u32 1) (.int .i32 0) (.int .u32 0) (slV (sigsF cs)) ∧ Few cs ∧ (sigsF cs ≠ [] → Calm tg ∧ Calm tb) ∧ e = (3,.ptr n 0) :: (5,clV rw0 (slotsF cs)) :: e' ∧ S' = ⟨H,rw⟩)
theorem wx_pre4 (L : LibT pr F) {x : Str} {p : Prg} {ok : Bool} (hrd : RdOk pr F x p ok) : Wx pr F 0 pre4 (args0 [.str x]) ⟨[],[]⟩ Pre4Q:=by
 have hm:=L.hm
 have haw:=L.awake ⟨[],[]⟩
 refine wx_keepQ (Q:=Pre4Q) (S':=⟨[],[]⟩) ?_ rfl (fun _ _ _ h => h)
 unfold pre4 nodes4 seqs seqs seqs seqs seqs seqs seqs seqs seqs
 rw [show args0 [AV.str x] = [(0,AV.str x)] from rfl]
 refine' hGO
 obtain ⟨r,S',hd,hN⟩:=(wp_table L.toLibF hrd [] []).det hm
 rcases hN with ⟨rw',hR,rfl,rfl⟩ | ⟨H',rw2,n,mb,z,zb,tg,tb,U,hK,hn,hR0,hle,T,hall,hfw,rfl,rfl⟩
 ·refine g_call rfl rfl rfl ?_
  refine c_det hd ?_
  refine zrk7 ?_
  refine' stI
  exact .inl ⟨rfl,_,rfl⟩
 obtain ⟨cs,mn⟩:=p
 simp only at hle T hall hfw hd
 have hlt : n < H'.length:=(List.getElem?_eq_some_iff.1 T.at_).1
 have hR : Rx rw2 rw2:=Rx.rfl
 have hlm : (cs.map clsRow).length = cs.length:=List.length_map _
 have hsa:=sigsF_all hfw T.few
 refine g_call rfl rfl rfl ?_
 refine c_det hd ?_
 clear hd hR0
 obtain ⟨rw',tg',tb',hcm,hR1,hd1⟩:=det_slots0 L (rw:=rw2) T hfw
 rw [slotS_eq] at hd1
 rw [← st_of T.at_] at hd1 ⊢
 have T2 : ∀ J,TabU (hp H' n (.cells (tabC cs U z zb mb tg' tb' 1 0 (slV (sigsF cs)))) J) n mb cs z tg' zb tb' U (.int .u32 1) (.int .i32 0) (.int .u32 0) (slV (sigsF cs)):=fun J => T.re (hp_get hlt) (froz_n T.ne T.mp _ _)
 obtain ⟨t,ht⟩:=clV_ex rw' (slotsF cs)
 rw [ht] at hd1
 have hFm:=froz_n T.ne T.mp
 clear hR1 hR
 generalize clR rw' (slotsF cs) = rw3 at *
 have hR : Rx rw3 rw3:=Rx.rfl
 unfold tabC at *
 refine zrk7 ?_
 refine' stI
 obtain ⟨vN,rw4,hvN,hR4,hd4⟩:=det_namesL L.toLibG (rw:=rw3) (T2 [])
 obtain ⟨zN,tN,rfl,hzN,-⟩:=hvN.ex
 refine g_call rfl rfl rfl ?_
 refine c_det hd4 ?_
 clear hd4 hR hR4
 have hR : Rx rw4 rw4:=Rx.rfl
 refine zrk7 ?_
 refine' stI
 obtain ⟨vs,rw5,hvs,hR5,hd5⟩:=qx_slots L.toLibQ T.few hfw T.wt T.okc (H:=hp H' n (.cells [.list z tg' (cs.map clsRow),.map mb,.list zb tb' (U.map upRow),.int .u32 1,.int .i32 0,.int .u32 0,slV (sigsF cs)]) []) (rw:=rw4) (hp_pos hlt)
 refine g_call rfl rfl rfl ?_
 refine c_det hd5 ?_
 clear hd5 hR hR5
 have hR : Rx rw5 rw5:=Rx.rfl
 refine zrk7 ?_
 obtain ⟨z1,t1,rfl,hz1,-⟩:=hvs.ex
 have hfew:=T.few
 have hrl : ((slotsF cs).map nmRow).length = (slotsF cs).length:=List.length_map _
 have hnl : ((namesF cs).map nmRow).length = cs.length:=by rw [List.length_map,namesF,List.length_map]
 have hnf : (namesF cs).length = cs.length:=by rw [namesF,List.length_map]
 have hss : (slotsF cs).length ≤ 1000000:=by
  have h1:=putAll_len (sigsF cs) []
  rw [slotsF]
  simp only [List.length_nil] at h1
  omega
 refine' stI
 refine at_loop hm (fun mm e S' => ∃ (i : Nat) (J : List Blk) (rw' : List Nat),S' = ⟨hp H' n (.cells [.list z tg' (cs.map clsRow),.map mb,.list zb tb' (U.map upRow),.int .u32 1,.int .i32 0,.int .u32 0,slV (sigsF cs)]) J,rw'⟩ ∧ i ≤ cs.length ∧ mm = cs.length - i ∧
  e = [(3,.ptr n 0),(5,.list 1 t ((slotsF cs).map nmRow)),(6,.list zN tN ((namesF cs).map nmRow)),(7,.list z1 t1 ((slotsF cs).map nmRow)),(8,.int .i64 i)]) ?_ (m:=cs.length) ⟨0,[],rw5,rfl,by omega,rfl,rfl⟩
 clear hR
 clear rw5
 rintro mm e S' ⟨i,J,rw5,rfl,hi0,rfl,rfl⟩
 have hR : Rx rw5 rw5:=Rx.rfl
 by_cases hi : i < cs.length
 ·obtain ⟨c,hc⟩ : ∃ c,cs[i]? = some c:=⟨_,List.getElem?_eq_getElem hi⟩
  have hcr : ((namesF cs).map nmRow)[i]? = some (nmRow c.name):=by rw [List.getElem?_map,namesF,List.getElem?_map,hc]; rfl
  have hzN1 : zN = 1:=hzN (by intro h; rw [h] at hcr; simp at hcr)
  subst hzN1
  refine' stI
  obtain ⟨vV,rw6,hvV,hR6,hd6⟩:=det_vtable L (T2 J) hfw c.name (rw:=rw5)
  obtain ⟨zV,tV,rfl,hzV,-⟩:=hvV.ex
  have hvl:=vtF_len cs U c.name (slotsF cs)
  refine g_call rfl rfl rfl ?_
  refine c_det hd6 ?_
  clear hd6 hR hR6
  have hR : Rx rw6 rw6:=Rx.rfl
  refine zrk7 ?_
  refine' stI
  refine at_loop hm (fun mm e S' => ∃ (k : Nat) (J : List Blk) (rw' : List Nat),S' = ⟨hp H' n (.cells [.list z tg' (cs.map clsRow),.map mb,.list zb tb' (U.map upRow),.int .u32 1,.int .i32 0,.int .u32 0,slV (sigsF cs)]) J,rw'⟩ ∧ k ≤ (slotsF cs).length ∧ mm = (slotsF cs).length - k ∧
   e = [(3,.ptr n 0),(5,.list 1 t ((slotsF cs).map nmRow)),(6,.list 1 tN ((namesF cs).map nmRow)),(7,.list z1 t1 ((slotsF cs).map nmRow)),(8,.int .i64 i),(9,.list zV tV (vtF cs U c.name (slotsF cs))),(10,.int .i64 k)]) ?_ (m:=(slotsF cs).length) ⟨0,J,rw6,rfl,by omega,rfl,rfl⟩
  clear hR
  clear rw6 J
  rintro mm e S' ⟨k,J,rw6,rfl,hk0,rfl,rfl⟩
  have hR : Rx rw6 rw6:=Rx.rfl
  by_cases hk : k < (slotsF cs).length
  ·obtain ⟨sig,hks⟩ : ∃ sig,(slotsF cs)[k]? = some sig:=⟨_,List.getElem?_eq_getElem hk⟩
   have hkr : ((slotsF cs).map nmRow)[k]? = some (nmRow sig):=by rw [List.getElem?_map,hks]; rfl
   have hz2 : z1 = 1:=hz1 (by intro h; rw [h] at hkr; simp at hkr)
   subst hz2
   have hvr : (vtF cs U c.name (slotsF cs))[k]? = some [.int .i64 (vtI (dispF cs U c.name sig))]:=by rw [vtF,List.getElem?_map,hks]; rfl
   have hz3 : zV = 1:=hzV (by intro h; rw [h] at hvr; simp at hvr)
   subst hz3
   refine' stI
   obtain ⟨rw7,hR7,hd7⟩:=det_dispatch L.toLibE (T2 (J ++ [.cells (memRow [] [] mthZ)])) c.name sig (rw:=rw6)
   refine g_call rfl rfl rfl ?_
   refine c_det hd7 ?_
   refine zrk7 ?_
   clear hd7 hR7 hR
   have hR : Rx rw7 rw7:=Rx.rfl
   simp only [dspRes]
   cases hdk : dispF cs U c.name sig with
   | none =>
    have hrm:=row_mem [] [] mthZ
    rw [hdk] at hvr
    simp only [vtI] at hvr
    simp only [dspRow,Option.isSome_none]
    refine' stI
    exact ⟨(slotsF cs).length - (k + 1),by omega,k + 1,_,rw7,rfl,by omega,rfl,rfl⟩
   | some jm =>
    obtain ⟨j,m⟩:=jm
    obtain ⟨d,hdj⟩:=dsp_get hdk
    have hjl:=(List.getElem?_eq_some_iff.1 hdj).1
    have hna : nameAt cs j = d.name:=by simp only [nameAt,hdj]
    have hnj : ((namesF cs).map nmRow)[j]? = some (nmRow d.name):=by rw [List.getElem?_map,namesF,List.getElem?_map,hdj]; rfl
    have hrm:=row_mem sig (nameAt cs j) m
    rw [hna] at hrm
    rw [hdk] at hvr
    simp only [vtI] at hvr
    simp only [dspRow,Option.isSome_some,hna]
    obtain ⟨mn1,mp1,⟨mk1,mt1,mu1,me1,mq1,ma1⟩,bd,ab,at1⟩:=m
    refine' stI
    exact ⟨(slotsF cs).length - (k + 1),by omega,k + 1,_,rw7,rfl,by omega,rfl,rfl⟩
  ·refine' stI
   exact ⟨cs.length - (i + 1),by omega,i + 1,J,rw6,rfl,by omega,rfl,rfl⟩
 ·refine' stI
  exact .inr ⟨rfl,_,rw5,rw',n,mb,z,zb,tg',tb',cs,U,_,T2 J,hfw,hcm,by rw [ht],rfl⟩
end Go.Proofs.YtmeakjgbjldkdaaGreat.Ai
namespace Go.Proofs.YtmeakjgbjldkdaaGreat.Slo
open Go
def spineC : Nat → Code → List Code
 | 0,_ => []
 | n + 1,.seq c t => c :: spineC n t
 | _ + 1,_ => []
def spineT : Nat → Code → Code
 | 0,t => t
 | n + 1,.seq _ t => spineT n t
 | _ + 1,t => t
noncomputable def tail4 : Code:=spineT 8 (Tryz.f4.body.getD .skip)
def fst1 : Code → Code
 | .seq a _ => a
 | c => c
def snd1 : Code → Code
 | .seq _ b => b
 | c => c
noncomputable def loop4C : Code:=fst1 tail4
def blk : Code → Code
 | .block _ c => c
 | c => c
def lp : Code → Code
 | .loop c => c
 | c => c
noncomputable def init4 : Code:=fst1 loop4C
noncomputable def round4 : Code:=lp (blk (snd1 loop4C))
theorem loop4_eq : loop4C = .seq init4 (.block 4 (.loop round4)):=by kernel_rfl
theorem acts (a : Act) (n : Nat) (h : a.tmps.size = n) (hd : a.defers = []) : ∃ f : Nat → Value,(∀ i,i < n → a.tmps.getD i Go.undef = f i) ∧ a = {tmps:=((List.range n).map f).toArray,defers:=[]}:=by
 obtain ⟨ts,d⟩:=a
 simp only at h hd
 subst hd
 refine ⟨fun i => ts.getD i Go.undef,fun i hi => rfl,?_⟩
 congr 1
 apply Array.ext
 ·simp [h]
 ·intro i h1 h2
  simp [Array.getD_eq_getD_getElem?,h1]
theorem list133 (f : Nat → Value) : ((List.range 133).map f).toArray = #[f 0,f 1,f 2,f 3,f 4,f 5,f 6,f 7,f 8,f 9,f 10,f 11,f 12,f 13,f 14,f 15,f 16,f 17,f 18,f 19,f 20,f 21,f 22,f 23,f 24,f 25,f 26,f 27,f 28,f 29,f 30,f 31,f 32,f 33,f 34,f 35,f 36,f 37,f 38,f 39,f 40,f 41,f 42,f 43,f 44,f 45,f 46,f 47,f 48,f 49,f 50,f 51,f 52,f 53,f 54,f 55,f 56,f 57,f 58,f 59,f 60,f 61,f 62,f 63,f 64,f 65,f 66,f 67,f 68,f 69,f 70,f 71,f 72,f 73,f 74,f 75,f 76,f 77,f 78,f 79,f 80,f 81,f 82,f 83,f 84,f 85,f 86,f 87,f 88,f 89,f 90,f 91,f 92,f 93,f 94,f 95,f 96,f 97,f 98,f 99,f 100,f 101,f 102,f 103,f 104,f 105,f 106,f 107,f 108,f 109,f 110,f 111,f 112,f 113,f 114,f 115,f 116,f 117,f 118,f 119,f 120,f 121,f 122,f 123,f 124,f 125,f 126,f 127,f 128,f 129,f 130,f 131,f 132]:=rfl
theorem init4_wp (Q : Exit → Act → World → Prop) (a : Act) (w : World) (hs : a.tmps.size = 133) (hd : a.defers = [])
  (hQ : ∀ a',a'.tmps.size = 133 → a'.defers = [] → a'.tmps.getD 3 Go.undef = a.tmps.getD 3 Go.undef → a'.tmps.getD 5 Go.undef = a.tmps.getD 5 Go.undef → a'.tmps.getD 13 Go.undef = .int .i64 0 → Q .normal a' w) : init4.wp Tryz.prog Q a w:=by
 obtain ⟨f,hf,rfl⟩:=acts a 133 hs hd
 rw [hf 3 (by omega),hf 5 (by omega)] at hQ
 clear hf hs hd
 rw [list133]
 unfold init4 loop4C tail4 Tryz.f4
 dsimp only [Option.getD_some,fst1,snd1,spineT]
 go_wp2
 exact hQ _ rfl rfl rfl rfl rfl
def spoilt : Value:=.string ⟨#[115,112,111,105,108,116]⟩
structure Spl (w : World) (Br o : Nat) (us : Array Value) (t : TypeId) (i : Nat) (w' : World) : Prop where
 other : ∀ k,k ≠ Br → w'.heap[k]? = w.heap[k]?
 size : w'.heap.size = w.heap.size
 os : w'.os = w.os
 tape : w'.tape = w.tape
 output : w'.output = w.output
 row : ∃ us',w'.heap[Br]? = some (.cells us' t (0,0)) ∧ us'.size = us.size ∧ ∀ j,us'[j]? = if o ≤ j ∧ j < o + i then some spoilt else us[j]?
theorem cellAt {w : World} {B off : Nat} {us : Array Value} {t : TypeId} (h : w.heap[B]? = some (.cells us t (0,0))) : w.cell? ⟨B,off,none⟩ = us[off]?:=by
 simp [World.cell?,h]
theorem freeAt {w : World} {B : Nat} {us : Array Value} {t : TypeId} (h : w.heap[B]? = some (.cells us t (0,0))) (off : Nat) : w.frozen? ⟨B,off,none⟩ = false:=by
 simp [World.frozen?,h]
theorem spl_step {w0 w : World} {Br o i : Nat} {us us' : Array Value} {t : TypeId} (hw : Spl w0 Br o us t i w) (hu : w.heap[Br]? = some (.cells us' t (0,0))) (hus : us'.size = us.size) (hup : ∀ j,us'[j]? = if o ≤ j ∧ j < o + i then some spoilt else us[j]?) (hib : o + i < us'.size) :
  Spl w0 Br o us t (i + 1) (w.setCell ⟨Br,o + i,none⟩ spoilt):=by
 refine ⟨fun k hk => ?_,?_,hw.os,hw.tape,hw.output,us'.setIfInBounds (o + i) spoilt,?_,by simpa using hus,fun j => ?_⟩
 ·rw [← hw.other k hk]
  simp only [World.setCell,Array.getElem?_modify]
  rw [if_neg (Ne.symm hk)]
 ·rw [← hw.size]
  simp [World.setCell]
 ·simp only [World.setCell,Array.getElem?_modify,hu]
  simp
 ·rw [Array.getElem?_setIfInBounds]
  by_cases e : o + i = j
  ·subst e
   rw [if_pos rfl,if_pos hib,if_pos ⟨by omega,by omega⟩]
  ·rw [if_neg e,hup j]
   by_cases h2 : o ≤ j ∧ j < o + i
   ·rw [if_pos h2,if_pos ⟨h2.1,by omega⟩]
   ·rw [if_neg h2,if_neg (fun h3 => h2 ⟨h3.1,by omega⟩)]
theorem round4_wp (Br o : Nat) (us : Array Value) (t : TypeId) (len cap : Nat) (base : Option Addr) (p3 : Value) (i : Nat) (hi : i ≤ len) (hlen : len ≤ 1000000) (hb : 0 < len → base = some ⟨Br,o,none⟩) (hol : o + len ≤ us.size) (_hcap : len ≤ cap) (w0 : World) (Q : Exit → Act → World → Prop) (a : Act) (w : World) (hs : a.tmps.size = 133) (hd : a.defers = []) (h3 : a.tmps.getD 3 Go.undef = p3) (h5 : a.tmps.getD 5 Go.undef = .slice base len cap) (h13 : a.tmps.getD 13 Go.undef = .int .i64 i) (hw : Spl w0 Br o us t i w)
  (hQ : ∀ a' w',i < len → a'.tmps.size = 133 → a'.defers = [] → a'.tmps.getD 3 Go.undef = p3 → a'.tmps.getD 5 Go.undef = .slice base len cap → a'.tmps.getD 13 Go.undef = .int .i64 ((i + 1 : Nat) : Int) → Spl w0 Br o us t (i + 1) w' → Q .normal a' w')
  (hE : ∀ a',i = len → a'.tmps.size = 133 → a'.defers = [] → a'.tmps.getD 3 Go.undef = p3 → Q (.exit 4) a' w) : round4.wp Tryz.prog Q a w:=by
 obtain ⟨f,hf,rfl⟩:=acts a 133 hs hd
 rw [hf 3 (by omega)] at h3
 rw [hf 5 (by omega)] at h5
 rw [hf 13 (by omega)] at h13
 clear hf hs hd
 rw [list133]
 unfold round4 loop4C tail4 Tryz.f4
 dsimp only [Option.getD_some,fst1,snd1,spineT,lp,blk]
 rw [h3,h5,h13]
 clear h3 h5 h13
 by_cases hlt : i < len
 ·have hbase:=hb (by omega)
  subst hbase
  obtain ⟨us',hu,hus,hup⟩:=hw.row
  obtain ⟨y,hy⟩ : ∃ y,us'[o + i]? = some y:=⟨_,Array.getElem?_eq_getElem (by omega)⟩
  have hcell : w.cell? ⟨Br,o + i,none⟩ = some y:=by rw [cellAt hu]; exact hy
  have hfz : w.frozen? ⟨Br,o + i,none⟩ = false:=freeAt hu _
  have hsp : Spl w0 Br o us t (i + 1) (w.setCell ⟨Br,o + i,none⟩ spoilt):=spl_step hw hu hus hup (by omega)
  have hib : o + i < us'.size:=by omega
  clear hup hw hu hb
  go_wp2
  refine hQ _ _ hlt rfl rfl rfl rfl ?_ hsp
  exact congrArg (Value.int .i64) (by first | (simp; done) | (simp; omega))
 ·have hil : i = len:=by omega
  clear hw hb
  go_wp2
  exact hE _ hil rfl rfl rfl
theorem loop4_wp (Br o : Nat) (us : Array Value) (t : TypeId) (len cap : Nat) (base : Option Addr) (p3 : Value) (hlen : len ≤ 1000000) (hb : 0 < len → base = some ⟨Br,o,none⟩) (hol : o + len ≤ us.size) (hcap : len ≤ cap) (Q : Exit → Act → World → Prop) (a : Act) (w : World) (hs : a.tmps.size = 133) (hd : a.defers = []) (h3 : a.tmps.getD 3 Go.undef = p3) (h5 : a.tmps.getD 5 Go.undef = .slice base len cap) (hu : w.heap[Br]? = some (.cells us t (0,0)))
  (hQ : ∀ a' w',a'.tmps.size = 133 → a'.defers = [] → a'.tmps.getD 3 Go.undef = p3 → Spl w Br o us t len w' → Q .normal a' w') : loop4C.wp Tryz.prog Q a w:=by
 rw [loop4_eq]
 refine wp_seq (init4_wp _ a w hs hd ?_)
 intro a1 k1 k2 k3 k5 k13
 refine wp_block (wp_loop (fun a' w' => ∃ i,i ≤ len ∧ a'.tmps.size = 133 ∧ a'.defers = [] ∧ a'.tmps.getD 3 Go.undef = p3 ∧ a'.tmps.getD 5 Go.undef = .slice base len cap ∧ a'.tmps.getD 13 Go.undef = .int .i64 (i : Int) ∧ Spl w Br o us t i w')
  (fun a' _ => match a'.tmps.getD 13 Go.undef with | .int _ i => len - i.toNat | _ => 0) ⟨0,by omega,k1,k2,k3.trans h3,k5.trans h5,k13,⟨fun _ _ => rfl,rfl,rfl,rfl,rfl,us,hu,rfl,fun j => by rw [if_neg (by omega)]⟩⟩ ?_)
 rintro a2 w2 ⟨i,hi,q1,q2,q3,q5,q13,hw⟩
 refine round4_wp Br o us t len cap base p3 i hi hlen hb hol hcap w _ a2 w2 q1 q2 q3 q5 q13 hw ?_ ?_
 ·intro a' w' hlt r1 r2 r3 r5 r13 hw'
  refine ⟨⟨i + 1,hlt,r1,r2,r3,r5,r13,hw'⟩,?_⟩
  simp only [r13,q13,Int.toNat_natCast]
  omega
 ·intro a' hil r1 r2 r3
  subst hil
  simp only [Exit.then,Exit.inBlock,if_true]
  exact hQ a' w2 r1 r2 r3 hw
end Go.Proofs.YtmeakjgbjldkdaaGreat.Slo
namespace Go.Proofs.YtmeakjgbjldkdaaGreat.Ai
open Go
variable {P : Program}
def seqsC : List Code → Code → Code
 | [],t => t
 | c :: l,t => .seq c (seqsC l t)
def chkLs (P : Program) (nt : Nat) : List IC → List Code → Bool
 | [],[] => true
 | a :: l,c :: m => chkC P nt a c && chkLs P nt l m
 | _,_ => false
theorem csim_tail {b0 nt n : Nat} {cl : CallFn} (hcl : CallSim P cl) {t : Code} : ∀ (l : List IC) (m : List Code) (K : Ghost) (S : St) (w : World) (a : Act) (e : Env) (r : Ex × Env × St),chkLs P nt l m = true → Rel K S w → Inner S.heap.length S → EnvRep K (eget e) a.tmps → nt ≤ a.tmps.size → b0 ≤ S.heap.length →
  exec b0 cl n (seqs l) e S = some r → ∀ Q : Exit → Act → World → Prop,
   (∀ a' w' K' en,Rel K' r.2.2 w' → (notPanic r.1 → EnvRep K' (eget r.2.1) a'.tmps) → a'.defers = a.defers → (notPanic r.1 → a'.tmps.size = a.tmps.size) →
    Step K (fun n => n < S.heap.length) w K' w' → Keeps b0 S r.2.2 → Exr K' r.1 en → Exit.then (t.wp P Q) Q en a' w') → (seqsC m t).wp P Q a w
 | [],m,K,S,w,a,e,r,hc,R,hsc,E,hnt,hb0,hx => by
  intro Q hQ
  cases m with
  | cons c m => simp [chkLs] at hc
  | nil =>
   simp only [seqs,exec,Option.some.injEq] at hx
   subst hx
   exact hQ a w K .normal R (fun _ => E) rfl (fun _ => rfl) (Step.refl _ _ _) (keeps_refl _ _) trivial
 | i :: l,m,K,S,w,a,e,r,hc,R,hsc,E,hnt,hb0,hx => by
  intro Q hQ
  cases m with
  | nil => simp [chkLs] at hc
  | cons c m =>
   simp only [chkLs,Bool.and_eq_true] at hc
   obtain ⟨h1,h2⟩:=hc
   simp only [seqs,exec] at hx
   refine wp_seq ?_
   split at hx
   ·rename_i e1 S1 h
    refine csim hcl i _ K S w a e _ h1 R hsc E hnt hb0 h _ ?_
    intro a1 w1 K1 en R1 E1 hdf hsz hst hkp hex
    cases en <;> simp only [Exr] at hex
    have hsz':=hsz trivial
    refine csim_tail hcl l m K1 S1 w1 a1 e1 r h2 R1 (hkp.2.2 hsc) (E1 trivial) (by omega) (by have:=hkp.1; simp at this; omega) hx Q ?_
    intro a2 w2 K2 en R2 E2 hdf2 hsz2 hst2 hkp2 hex2
    exact hQ a2 w2 K2 en R2 E2 (hdf2.trans hdf) (fun h => by rw [hsz2 h,hsz']) (hst.trans hst2 (fun m hm => Nat.lt_of_lt_of_le hm hkp.1)) (hkp.trans hkp2) hex2
   ·rename_i hne
    refine csim hcl i _ K S w a e r h1 R hsc E hnt hb0 hx _ ?_
    intro a1 w1 K1 en R1 E1 hdf hsz hst hkp hex
    have hnn : r.1 ≠ .normal:=by
     intro h
     obtain ⟨ex,e1,S1⟩:=r
     simp only at h
     subst h
     exact hne e1 S1 hx
    cases en with
    | normal =>
     exfalso
     cases hr : r.1 <;> rw [hr] at hex <;> simp only [Exr] at hex
     exact hnn hr
    | _ => exact hQ a1 w1 K1 _ R1 E1 hdf hsz hst hkp hex
open Go.Proofs.YtmeakjgbjldkdaaGreat.Slo
noncomputable def codes4 : List Code:=spineC 8 (Tryz.f4.body.getD .skip)
theorem body4 : Tryz.f4.body = some (seqsC codes4 tail4):=by kernel_rfl
theorem chk4 : chkLs Tryz.prog Tryz.f4.ntmps nodes4 codes4 = true:=by kernel_rfl
noncomputable def rest4 : IC:=.seq r4_26 (.seq r4_27 .ret)
noncomputable def rest4C : Code:=snd1 tail4
theorem tail4_eq : tail4 = .seq loop4C rest4C:=by kernel_rfl
theorem chkR4 : chkC Tryz.prog Tryz.f4.ntmps rest4 rest4C = true:=by kernel_rfl
theorem ntmps4 : Tryz.f4.ntmps = 133:=by kernel_rfl
theorem sgn_spoilt {s : Str} (h : Sgn s) : ¬s = [115,112,111,105,108,116]:=by
 rintro rfl
 obtain ⟨n,r,-,h⟩:=h
 have : (40 : UInt8) ∈ ([115,112,111,105,108,116] : Str):=by rw [h]; simp
 revert this
 decide
variable {pr : Prims} {F : Nat → Option IFn}
theorem wx_rest4 (L : LibT pr F) {H : List Blk} {rw : List Nat} {n mb z zb : Nat} {tg tb : Tag} {cs : List Cls} {U : List (List Nat)} (T : TabU H n mb cs z tg zb tb U (.int .u32 1) (.int .i32 0) (.int .u32 0) (slV (sigsF cs))) (hfw : Few cs) :
  Wx pr F H.length rest4 [(3,.ptr n 0)] ⟨H,rw⟩ fun x e _S' => x = .ret ∧ ∃ e',e = (2,.bool true) :: e':=by
 have hm:=L.hm
 refine wx_keepQ (Q:=fun x e S' => x = .ret ∧ ∃ e',e = (2,.bool true) :: e') ?_ (st_of T.at_) (fun _ _ _ h => h)
 have hlt : n < H.length:=(List.getElem?_eq_some_iff.1 T.at_).1
 have hR : Rx rw rw:=Rx.rfl
 unfold rest4
 refine' stH
 have hd:=det_slots1 L (rw:=rw) (T.keep (keep_n T.at_ [])) hfw
 obtain ⟨t,ht⟩:=clV_ex rw (slotS (sigsF cs))
 rw [ht] at hd
 refine g_call rfl rfl rfl ?_
 refine c_det hd ?_
 have hsg : ∀ s ∈ slotS (sigsF cs),Sgn s:=fun s hs => sgn_sigs T.okc s (slotS_mem.1 hs)
 have hds:=dedB_length (sortB (sigsF cs))
 have hsl:=sortB_length (sigsF cs)
 have hsa:=sigsF_all hfw T.few
 have hsz : (slotS (sigsF cs)).length ≤ 1000000:=by unfold slotS; omega
 clear hd ht
 generalize clR rw (slotS (sigsF cs)) = rw1
 generalize slotS (sigsF cs) = l at *
 have hll : (l.map nmRow).length = l.length:=List.length_map _
 refine zrk6 ?_
 cases l with
 | nil =>
  refine' stH
  exact ⟨rfl,_,rfl⟩
 | cons s l =>
  have h0 : ((s :: l).map nmRow)[0]? = some (nmRow s):=rfl
  have hne:=sgn_spoilt (hsg s List.mem_cons_self)
  have hpos : 0 < (s :: l).length:=Nat.succ_pos _
  generalize (s :: l) = k at *
  refine' stH
  exact ⟨rfl,_,rfl⟩
end Go.Proofs.YtmeakjgbjldkdaaGreat.Ai
namespace Go.Proofs.YtmeakjgbjldkdaaGreat.Ai
open Go
theorem ck5 {f : Nat} {g : Func} {fn fn' : IFn} (hg : Tryz.prog.funcs[f]? = some g) (hc : chkFn Tryz.prog g fn = true) (h : some fn = some fn') : ∃ g,Tryz.prog.funcs[f]? = some g ∧ chkFn Tryz.prog g fn' = true:=by
 cases h
 exact ⟨g,hg,hc⟩
noncomputable def FA5 : Nat → Option IFn:=fun n => match n with
 | 4 => some i4
 | 24 => some i24
 | 27 => some i27
 | 63 => some i63
 | n => FA n
theorem fa5_chk : ∀ f fn,FA5 f = some fn → ∃ g,Tryz.prog.funcs[f]? = some g ∧ chkFn Tryz.prog g fn = true:=by
 intro f fn h
 unfold FA5 at h
 split at h
 ·exact ck5 Tryz.func4 c4 h
 ·exact ck5 Tryz.func24 c24 h
 ·exact ck5 Tryz.func27 c27 h
 ·exact ck5 Tryz.func63 c63 h
 ·exact fa_chk _ _ h
theorem joinE_det {F : Nat → Option IFn} (l : List Str) (sep : Str) (v : AV) (H : List Blk) (rw : List Nat) (hv : IsL 1 v (l.map nmRow)) (hl : (l.map fun x => x.length + sep.length).sum ≤ 2147483648) (hs : 0 < sep.length) :
  Det PrE F 54 [v,.str sep] ⟨H,rw⟩ (.ret (.str (joinT sep l))) ⟨H,rw⟩:=by
 obtain ⟨z,tg,rfl,-,-⟩:=hv.ex
 obtain ⟨h1,h2⟩:=sum_len sep.length hs l
 refine det_run prE_mono (n:=1) ?_
 show joinP (callN PrE F 0) [.list z tg (l.map nmRow),.str sep] ⟨H,rw⟩ = _
 simp only [joinP,strs_nm]
 rw [if_pos ⟨by omega,by omega⟩]
theorem libT : LibT PrE FA5 where
 hm:=prE_mono
 f89:=⟨rfl,rfl⟩
 f130:=⟨rfl,rfl⟩
 f131:=⟨rfl,rfl⟩
 f132:=⟨rfl,rfl⟩
 f133:=⟨rfl,rfl⟩
 f190:=⟨rfl,rfl⟩
 f191:=⟨rfl,rfl⟩
 f226:=⟨rfl,rfl⟩
 f243:=⟨rfl,rfl⟩
 f90:=⟨rfl,rfl⟩
 f93:=⟨rfl,rfl⟩
 f95:=⟨rfl,rfl⟩
 f134:=⟨rfl,rfl⟩
 f135:=⟨rfl,rfl⟩
 f136:=⟨rfl,rfl⟩
 f140:=⟨rfl,rfl⟩
 f192:=⟨rfl,rfl⟩
 f193:=⟨rfl,rfl⟩
 f195:=⟨rfl,rfl⟩
 f201:=⟨rfl,rfl⟩
 f227:=⟨rfl,rfl⟩
 f228:=⟨rfl,rfl⟩
 f244:=⟨rfl,rfl⟩
 f245:=⟨rfl,rfl⟩
 f253:=⟨rfl,rfl⟩
 f94:=⟨rfl,rfl⟩
 f141:=⟨rfl,rfl⟩
 f196:=⟨rfl,rfl⟩
 f197:=⟨rfl,rfl⟩
 f137:=⟨rfl,rfl⟩
 f194:=⟨rfl,rfl⟩
 f139:=⟨rfl,rfl⟩
 f138:=⟨rfl,rfl⟩
 f91:=⟨rfl,rfl⟩
 f92:=⟨rfl,rfl⟩
 f51:=⟨rfl,rfl⟩
 f19:=⟨rfl,rfl⟩
 f15:=⟨rfl,rfl⟩
 f17:=⟨rfl,rfl⟩
 f20:=⟨rfl,rfl⟩
 f26:=⟨rfl,rfl⟩
 f30:=⟨rfl,rfl⟩
 f56:=⟨rfl,rfl⟩
 f64:=⟨rfl,rfl⟩
 f65:=⟨rfl,rfl⟩
 f66:=⟨rfl,rfl⟩
 f100:=⟨rfl,rfl⟩
 f101:=⟨rfl,rfl⟩
 f102:=⟨rfl,rfl⟩
 f103:=⟨rfl,rfl⟩
 f104:=⟨rfl,rfl⟩
 f105:=⟨rfl,rfl⟩
 f106:=⟨rfl,rfl⟩
 f149:=⟨rfl,rfl⟩
 f150:=⟨rfl,rfl⟩
 f151:=⟨rfl,rfl⟩
 f16:=⟨rfl,rfl⟩
 f18:=⟨rfl,rfl⟩
 f21:=⟨rfl,rfl⟩
 f53:=⟨rfl,rfl⟩
 f57:=⟨rfl,rfl⟩
 f204:=⟨rfl,rfl⟩
 f52:=⟨rfl,rfl⟩
 f96:=⟨rfl,rfl⟩
 f97:=⟨rfl,rfl⟩
 f127:=⟨rfl,rfl⟩
 f142:=⟨rfl,rfl⟩
 f143:=⟨rfl,rfl⟩
 f144:=⟨rfl,rfl⟩
 f145:=⟨rfl,rfl⟩
 f146:=⟨rfl,rfl⟩
 f198:=⟨rfl,rfl⟩
 f199:=⟨rfl,rfl⟩
 f200:=⟨rfl,rfl⟩
 f229:=⟨rfl,rfl⟩
 f55:=⟨rfl,rfl⟩
 f23:=⟨rfl,rfl⟩
 f33:=⟨rfl,rfl⟩
 f34:=⟨rfl,rfl⟩
 f35:=⟨rfl,rfl⟩
 f36:=⟨rfl,rfl⟩
 f68:=⟨rfl,rfl⟩
 f69:=⟨rfl,rfl⟩
 f111:=⟨rfl,rfl⟩
 f3:=⟨rfl,rfl⟩
 f6:=⟨rfl,rfl⟩
 f27:=⟨rfl,rfl⟩
 f24:=⟨rfl,rfl⟩
 f63:=⟨rfl,rfl⟩
 f22:=⟨rfl,rfl⟩
 f25:=⟨rfl,rfl⟩
 rd:=fun x => ⟨thePrg x,theOk x,(the_spec x).1,fun _ _ => det_run prE_mono (n:=1) rfl⟩
 join:=joinE_det
 awake:=fun _ => det_run prE_mono (n:=1) rfl
 p58:=rfl
 p59:=rfl
 p60:=rfl
 p61:=rfl
 p62:=rfl
end Go.Proofs.YtmeakjgbjldkdaaGreat.Ai
