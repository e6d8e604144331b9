/- A part of what is proved: the walk of the statement. No condition. -/
import Derived.Test.YtmeakjgbjldkdaaGreatX18
set_option maxRecDepth 100000
set_option maxHeartbeats 16000000
namespace Go.Proofs.YtmeakjgbjldkdaaGreat.Ai
open Go
variable {pr : Prims} {F : Nat → Option IFn}
theorem qx_joined (L : LibE pr F) {t : Ty} (hw : wTy t ≤ 42000000) (ho : okTy t) : TxOk pr F 53 [.agg (tyRow t)] (.str (tyText t)):=by
 have hm:=L.hm
 refine TxOk.of hm ?_
 intro H rw hH
 have hR : Rx rw rw:=Rx.rfl
 have hT:=qx_ty L hw ho
 refine at_start hm L.f53.1 L.f53.2 rfl ?_
 refine at_seq hm ?_
 unfold r53_0
 show At pr F H.length (fin _ H.length _) _ _ _ _
 refine at_box hm rfl ?_
 intro H1 hH1 hlen hlt
 refine' stH
 exact fin_retF hH1 rfl rfl ⟨_,hR,rfl,rfl⟩
theorem qx_base (L : LibE pr F) {t : Ty} (hw : wTy t ≤ 42000000) (ho : okTy t ∨ isVoid t) : TxOk pr F 16 [.agg (tyRow t)] (.str (baseT t)):=by
 have hm:=L.hm
 refine TxOk.of hm ?_
 intro H rw hH
 have hR : Rx rw rw:=Rx.rfl
 have hT : ∀ u,wTy u < wTy t → okTy u → TxOk pr F 53 [.agg (tyRow u)] (.str (tyText u)):=fun u hu hou => qx_joined L (by omega) hou
 have hk : ∃ kind name null elem pred a,t = .mk kind name null elem pred a ∧ ((kind = 1 ∨ kind = 2 ∨ kind = 3 ∨ kind = 0) ∨ kind = 4 ∧ ∃ u,elem = [u] ∧ TxOk pr F 53 [.agg (tyRow u)] (.str (tyText u)) ∧ (tyText u).length ≤ 1400000000):=by
  obtain ⟨kind,name,null,elem,pred,a⟩:=t
  refine ⟨kind,name,null,elem,pred,a,rfl,?_⟩
  rcases ho with ho | ⟨a',ha⟩
  ·simp only [okTy] at ho
   obtain ⟨hk,-,hke,-⟩:=ho
   rcases hk with ⟨h,-⟩ | ⟨h,-⟩ | ⟨h,-⟩ | ⟨h,-,u,rfl⟩
   ·exact .inl (.inl h)
   ·exact .inl (.inr (.inl h))
   ·exact .inl (.inr (.inr (.inl h)))
   ·refine .inr ⟨h,u,rfl,?_⟩
    have h1:=len_tyText u
    simp only [wTy,wTys] at hw hT
    exact ⟨hT u (by omega) hke.1,by omega⟩
  ·injection ha with h1
   exact .inl (.inr (.inr (.inr h1)))
 obtain ⟨kind,name,null,elem,pred,a,rfl,hk⟩:=hk
 clear hT ho
 refine at_start hm L.f16.1 L.f16.2 rfl ?_
 refine at_seq hm ?_
 unfold r16_0
 show At pr F H.length (fin _ H.length _) _ _ _ _
 refine at_box hm rfl ?_
 intro H1 hH1 hlen hlt
 rcases hk with (rfl | rfl | rfl | rfl) | ⟨rfl,u,rfl,hu,hul⟩
 rotate_left 4
 ·have htr : (tyRows [u])[0]? = some (tyRow u):=rfl
  have hlt1 : (tyRows [u]).length = 1:=rfl
  refine' stH
  exact fin_retF hH1 rfl rfl ⟨_,hR,rfl,rfl⟩
 all_goals
  refine' stH
  exact fin_retF hH1 rfl rfl ⟨_,hR,rfl,rfl⟩
theorem qx_sig (L : LibE pr F) {name : Str} {ps : List Par} (hn : name.length ≤ 42000000) (hw : wL wPar ps ≤ 42000000) (ho : ∀ p ∈ ps,okPar p) : TxOk pr F 18 [.str name,lst 8 (ps.map parRow)] (.str (sigT name ps)):=by
 have hm:=L.hm
 have hlp:=parRow_len ps
 have hpl:=wL_len wPar (fun p => by simp only [wPar]; omega) ps
 have hsum:=sum_bases ps
 refine TxOk.of0 hm L.f18.1 L.f18.2 rfl ?_
 intro H rw b hlt
 have hR : Rx rw rw:=Rx.rfl
 refine' stH
 refine at_loop hm (fun mm e S' => ∃ (q : Nat) (s : Str) (J : List Blk) (rw3 : List Nat),S' = ⟨hp H 0 b J,rw3⟩ ∧ q ≤ ps.length ∧ s = name ++ [40] ++ joinT [44] ((ps.take q).map fun p => baseT p.type) ∧ s.length ≤ 1500000000 ∧ Rx rw rw3 ∧ mm = ps.length - q ∧ e = [(1,lst 8 (ps.map parRow)),(5,.str s),(6,.int .i64 q)]) ?_ (m:=ps.length) ⟨0,_,[],rw,rfl,by omega,by simp [joinT],by simp; omega,Rx.rfl,rfl,rfl⟩
 clear hR
 rintro mm e S' ⟨q,s,J,rw3,rfl,hq0,hsq,hsl,hR,rfl,rfl⟩
 by_cases hq1 : q < ps.length
 ·obtain ⟨p,hpq⟩ : ∃ p,ps[q]? = some p:=⟨_,List.getElem?_eq_getElem hq1⟩
  have hpr : (ps.map parRow)[q]? = some (parRow p):=by rw [List.getElem?_map,hpq]; rfl
  have hmem:=List.mem_of_getElem? hpq
  have hwp:=wL_mem wPar hmem
  have hwt:=wPar_ty p
  have hx1:=qx_base L (t:=p.type) (by omega) (.inl (ho p hmem).2)
  have hbl:=len_baseT p.type
  have hnew : ∀ s',s' = name ++ [40] ++ joinT [44] ((ps.take (q + 1)).map fun p => baseT p.type) → s'.length ≤ 1500000000:=by
   intro s' h
   have h1:=len_joinT [44] ((ps.take (q + 1)).map fun p => baseT p.type)
   have h2 : (ps.map fun p => baseT p.type) = ((ps.take (q + 1)).map fun p => baseT p.type) ++ ((ps.drop (q + 1)).map fun p => baseT p.type):=by rw [← List.map_append,List.take_append_drop]
   rw [h2,List.map_append,List.sum_append] at hsum
   simp only [List.length_cons,List.length_nil,Nat.zero_add] at h1
   rw [h]
   simp only [List.length_append,List.length_cons,List.length_nil]
   omega
  have hjs : name ++ [40] ++ joinT [44] ((ps.take (q + 1)).map fun p => baseT p.type) = if q = 0 then s ++ baseT p.type else s ++ [44] ++ baseT p.type:=by
   rw [take_snoc hpq,List.map_append,List.map_cons,List.map_nil,joinT_snoc,hsq]
   by_cases h0 : q = 0
   ·subst h0; simp [joinT]
   ·rw [if_neg h0,if_neg]
    ·simp
    ·intro h
     have:=congrArg List.length h
     simp only [List.length_map,List.length_take,List.length_nil] at this
     omega
  have hl5 : lst 8 (ps.map parRow) = .list 8 .dead (ps.map parRow):=lst_of_lt (i:=q) (by omega)
  rw [hl5]
  obtain ⟨nm1,⟨k1,t1,u1,e1,p1,a1⟩,at1⟩:=p
  simp only at hx1 hbl hjs hwt
  refine' stH
  ·have e1 : s ++ [44] ++ baseT (.mk k1 t1 u1 e1 p1 a1) = name ++ [40] ++ joinT [44] ((ps.take (q + 1)).map fun p => baseT p.type):=by rw [hjs,if_neg (by omega)]
   exact ⟨ps.length - (q + 1),by omega,q + 1,_,J,rwt,rfl,by omega,e1,hnew _ e1,hR,rfl,rfl⟩
  ·have e2 : s ++ baseT (.mk k1 t1 u1 e1 p1 a1) = name ++ [40] ++ joinT [44] ((ps.take (q + 1)).map fun p => baseT p.type):=by rw [hjs,if_pos (by omega)]
   exact ⟨ps.length - (q + 1),by omega,q + 1,_,J,rwt,rfl,by omega,e2,hnew _ e2,hR,rfl,rfl⟩
 ·refine' stH
  rw [show q = ps.length by omega,List.take_length] at hsq
  exact fin_ret rfl rfl (hp_take hlt) ⟨_,hR,by rw [hsq]; rfl,rfl⟩
end Go.Proofs.YtmeakjgbjldkdaaGreat.Ai
namespace Go.Proofs.YtmeakjgbjldkdaaGreat.Ai
open Go
variable {pr : Prims} {F : Nat → Option IFn}
structure LibP (pr : Prims) (F : Nat → Option IFn) : Prop extends LibO pr F,LibJ pr F where
 f24 : Has pr F 24 i24
 f63 : Has pr F 63 i63
def ownI (sig : Str) : Nat → List Mth → Int
 | _,[] => -1
 | p,m :: ms => if sigT m.name m.params = sig then (p : Int) else ownI sig (p + 1) ms
theorem ownI_drop {sig : Str} {ms : List Mth} {q : Nat} {m : Mth} (h : ms[q]? = some m) : ownI sig q (ms.drop q) = if sigT m.name m.params = sig then (q : Int) else ownI sig (q + 1) (ms.drop (q + 1)):=by
 obtain ⟨hl,he⟩:=List.getElem?_eq_some_iff.1 h
 rw [List.drop_eq_getElem_cons hl,he]
 rfl
theorem ownI_own {sig : Str} : ∀ {ms : List Mth} {p : Nat},(ownM sig ms = none ∧ ownI sig p ms = -1) ∨ ∃ (q : Nat) (m : Mth),ownM sig ms = some m ∧ ms[q]? = some m ∧ ownI sig p ms = ((p + q : Nat) : Int)
 | [],p => .inl ⟨rfl,rfl⟩
 | m :: ms,p => by
  unfold ownM ownI
  by_cases h : sigT m.name m.params = sig
  ·rw [if_pos h,if_pos h]
   exact .inr ⟨0,m,rfl,rfl,rfl⟩
  ·rw [if_neg h,if_neg h]
   rcases ownI_own (ms:=ms) (p:=p + 1) with h1 | ⟨q,x,h1,h2,h3⟩
   ·exact .inl h1
   ·exact .inr ⟨q + 1,x,h1,h2,by rw [h3]; congr 1; omega⟩
theorem qx_own (L : LibP pr F) {cs : List Cls} (hwt : wL wCls cs ≤ 42000000) {c : Cls} (hcm : c ∈ cs) (hok : okCls c) (hbm : c.meths.length ≤ 64) (sig : Str) : TxOk pr F 75 [.agg (clsRow c),.str sig] (.int .i64 (ownI sig 0 c.meths)):=by
 have hm:=L.hm
 have hmo:=cls_meths hok
 have hlm:=mthRow_len c.meths
 refine TxOk.of hm fun H rw hH => ?_
 have hR : Rx rw rw:=Rx.rfl
 refine at_start hm L.f75.1 L.f75.2 rfl ?_
 refine at_seq hm ?_
 unfold r75_0
 show At pr F H.length (fin _ H.length _) _ _ _ _
 refine at_box hm rfl ?_
 intro H1 hH1 hlen hlt
 refine' stI
 refine at_loop hm (fun mm e S' => ∃ (q : Nat) (rw3 : List Nat),S' = ⟨hp H1 H.length (.cells (clsRow c)) [],rw3⟩ ∧ q ≤ c.meths.length ∧ Rx rw rw3 ∧ ownI sig 0 c.meths = ownI sig q (c.meths.drop q) ∧ mm = c.meths.length - q ∧ e = [(1,.str sig),(2,.ptr H.length 0),(5,.int .i64 q)]) ?_ (m:=c.meths.length) ⟨0,rw,rfl,by omega,hR,rfl,rfl,rfl⟩
 clear hR
 rintro mm e S' ⟨q,rw3,rfl,hq0,hR,hod,rfl,rfl⟩
 by_cases hq1 : q < c.meths.length
 ·obtain ⟨m,hmq⟩ : ∃ m,c.meths[q]? = some m:=⟨_,List.getElem?_eq_getElem hq1⟩
  have hmem:=List.mem_of_getElem? hmq
  have hmr : (c.meths.map mthRow)[q]? = some (mthRow m):=by rw [List.getElem?_map,hmq]; rfl
  obtain ⟨hb1,hb2,hb3,hb4⟩:=mth_bounds hcm hmem hwt
  obtain ⟨hk1,hk2,hk3,hk4⟩:=hmo m hmem
  have hsg:=qx_sig L.toLibE hb1 hb2 hk2
  have hl5 : lst 11 (c.meths.map mthRow) = .list 11 .dead (c.meths.map mthRow):=lst_of_lt (i:=q) (by omega)
  rw [ownI_drop hmq] at hod
  refine' stI
  rw [hl5]
  refine' stI
  rw [hl5]
  refine' stI
  ·exact fin_retF hH1 rfl rfl ⟨_,hR,by rw [hod,if_pos hq],rfl⟩
  ·exact ⟨c.meths.length - (q + 1),by omega,q + 1,_,rfl,by omega,hR,by rw [hod,if_neg (by assumption)],rfl,rfl⟩
 ·refine' stI
  refine fin_retF hH1 rfl rfl ⟨_,hR,?_,rfl⟩
  rw [hod,List.drop_eq_nil_of_le (by omega)]
  rfl
end Go.Proofs.YtmeakjgbjldkdaaGreat.Ai
namespace Go.Proofs.YtmeakjgbjldkdaaGreat.Ai
open Go
def putS (s : Str) : List Str → Bool → List Str
 | [],d => if d then [] else [s]
 | x :: l,d => if d = false ∧ leB s x = true then (if Op.bytesLess s x then s :: x :: putS s l true else x :: putS s l true) else x :: putS s l d
theorem putS_true (s : Str) : ∀ l : List Str,putS s l true = l
 | [] => rfl
 | x :: l => by
  unfold putS
  rw [if_neg (by simp),putS_true s l]
theorem putS_false (s x : Str) (l : List Str) : putS s (x :: l) false = if leB s x = true then (if Op.bytesLess s x = true then s :: x :: l else x :: l) else x :: putS s l false:=by
 rw [putS]
 simp only [true_and,putS_true]
theorem putS_mem {s y : Str} : ∀ {l : List Str},y ∈ putS s l false ↔ y = s ∨ y ∈ l
 | [] => by simp [putS]
 | x :: l => by
  rw [putS_false]
  by_cases h1 : leB s x = true
  ·rw [if_pos h1]
   by_cases h2 : Op.bytesLess s x = true
   ·rw [if_pos h2]; simp
   ·rw [if_neg h2]
    have : s = x:=by
     unfold leB at h1
     have h2' : Op.bytesLess s x = false:=by simpa using h2
     rw [h2'] at h1
     simpa using h1
    subst this
    simp
  ·rw [if_neg h1]
   rw [List.mem_cons,putS_mem,List.mem_cons]
   constructor
   ·rintro (h | h | h)
    ·exact .inr (.inl h)
    ·exact .inl h
    ·exact .inr (.inr h)
   ·rintro (h | h | h)
    ·exact .inr (.inl h)
    ·exact .inl h
    ·exact .inr (.inr h)
def Rising (l : List Str) : Prop:=l.Pairwise fun a b => a < b
theorem less_iff {a b : Str} : Op.bytesLess a b = true ↔ a < b:=by
 rw [Go.Proofs.bytesLess_eq,decide_eq_true_eq]
theorem putS_rising {s : Str} : ∀ {l : List Str},Rising l → Rising (putS s l false)
 | [],_ => by simp [putS,Rising]
 | x :: l,h => by
  have h':=List.pairwise_cons.1 h
  rw [putS_false]
  by_cases h1 : leB s x = true
  ·rw [if_pos h1]
   by_cases h2 : Op.bytesLess s x = true
   ·rw [if_pos h2]
    have h3:=less_iff.1 h2
    refine List.pairwise_cons.2 ⟨fun y hy => ?_,h⟩
    rcases List.mem_cons.1 hy with rfl | hy
    ·exact h3
    ·exact List.lt_trans h3 (h'.1 y hy)
   ·rw [if_neg h2]; exact h
  ·rw [if_neg h1]
   refine List.pairwise_cons.2 ⟨fun y hy => ?_,putS_rising h'.2⟩
   rcases putS_mem.1 hy with rfl | hy
   ·rw [leB_eq,decide_eq_true_eq] at h1
    exact List.not_le.1 h1
   ·exact h'.1 y hy
theorem putS_len (s : Str) : ∀ (l : List Str),(putS s l false).length ≤ l.length + 1
 | [] => by simp [putS]
 | x :: l => by
  have ih:=putS_len s l
  rw [putS_false]
  split
  ·split <;> simp
  ·simp only [List.length_cons]; omega
def sigsC (c : Cls) : List Str:=c.meths.map fun m => sigT m.name m.params
def sigsF (cs : List Cls) : List Str:=cs.flatMap sigsC
def putAll (l : List Str) (ss : List Str) : List Str:=ss.foldl (fun l s => putS s l false) l
def slotsF (cs : List Cls) : List Str:=putAll [] (sigsF cs)
theorem putAll_rising : ∀ (ss l : List Str),Rising l → Rising (putAll l ss)
 | [],_,h => h
 | s :: ss,l,h => putAll_rising ss (putS s l false) (putS_rising h)
theorem putAll_mem {y : Str} : ∀ {ss l : List Str},y ∈ putAll l ss ↔ y ∈ l ∨ y ∈ ss
 | [],l => by simp [putAll]
 | s :: ss,l => by
  show y ∈ putAll (putS s l false) ss ↔ _
  rw [putAll_mem,putS_mem,List.mem_cons]
  constructor
  ·rintro ((h | h) | h)
   ·exact .inr (.inl h)
   ·exact .inl h
   ·exact .inr (.inr h)
  ·rintro (h | h | h)
   ·exact .inl (.inr h)
   ·exact .inl (.inl h)
   ·exact .inr h
theorem putAll_len : ∀ (ss l : List Str),(putAll l ss).length ≤ l.length + ss.length
 | [],l => by simp [putAll]
 | s :: ss,l => by
  have h1:=putAll_len ss (putS s l false)
  have h2:=putS_len s l
  show (putAll (putS s l false) ss).length ≤ _
  simp only [List.length_cons]
  omega
theorem slots_rising (cs : List Cls) : Rising (slotsF cs):=putAll_rising _ _ List.Pairwise.nil
theorem slots_mem {cs : List Cls} {y : Str} : y ∈ slotsF cs ↔ ∃ (i : Nat) (c : Cls) (m : Mth),cs[i]? = some c ∧ m ∈ c.meths ∧ sigT m.name m.params = y:=by
 unfold slotsF
 rw [putAll_mem]
 simp only [List.not_mem_nil,false_or,sigsF,List.mem_flatMap,sigsC,List.mem_map]
 constructor
 ·rintro ⟨c,hc,m,hm,h⟩
  obtain ⟨i,hi⟩:=List.getElem?_of_mem hc
  exact ⟨i,c,m,hi,hm,h⟩
 ·rintro ⟨i,c,m,hi,hm,h⟩
  exact ⟨c,List.mem_of_getElem? hi,m,hm,h⟩
theorem rising_ext : ∀ {a b : List Str},Rising a → Rising b → (∀ x,x ∈ a ↔ x ∈ b) → a = b:=by
 intro a b ha hb h
 have hna : a.Nodup:=ha.imp fun h e => by subst e; exact List.lt_irrefl _ h
 have hnb : b.Nodup:=hb.imp fun h e => by subst e; exact List.lt_irrefl _ h
 exact List.Perm.eq_of_pairwise (le:=fun a b => a < b) (fun x y _ _ h1 h2 => absurd (List.lt_trans h1 h2) (List.lt_irrefl _)) ha hb ((List.perm_ext_iff_of_nodup hna hnb).2 h)
theorem sortB_rising {l : List Str} (h : l.Nodup) : Rising (sortB l):=by
 have h1:=sortB_sorted l
 have h2 : (sortB l).Nodup:=(sortB_perm l).nodup_iff.2 h
 exact (h1.and h2).imp fun ⟨h3,h4⟩ => by
  rcases List.le_iff_lt_or_eq.1 h3 with h5 | h5
  ·exact h5
  ·exact absurd h5 h4
theorem sigs_sort {l : List (Str × Str × Mth)} : sigsM (sortM l) = sortB (sigsM l):=by
 unfold sortM
 rw [sigsM,List.map_map]
 have : ∀ k ∈ sortB (sigsM l),((fun x : Str × Str × Mth => x.1) ∘ fun k => lookM k l) k = k:=fun k hk => (lookM_mem ((sortB_perm _).mem_iff.1 hk)).2
 rw [List.map_congr_left this,List.map_id']
theorem meth_slots (cs : List Cls) (U : List (List Nat)) (s : Str) : sigsM (methS cs U s) = (slotsF cs).filter fun k => (dispF cs U s k).isSome:=by
 have hr : Rising (sigsM (methS cs U s)):=by
  unfold methS
  rw [sigs_sort]
  exact sortB_rising (sigs_meth cs U s)
 refine rising_ext hr ((slots_rising cs).filter _) fun x => ?_
 rw [List.mem_filter,slots_mem]
 constructor
 ·intro h
  obtain ⟨y,hy,rfl⟩:=List.mem_map.1 h
  obtain ⟨j,hj,-⟩:=methS_mem.1 hy
  obtain ⟨-,ho⟩:=dsp_mem hj
  obtain ⟨c,hc,hm,hs⟩:=ownF_get ho
  exact ⟨⟨j,c,_,hc,hm,hs⟩,by rw [hj]; rfl⟩
 ·rintro ⟨-,h⟩
  obtain ⟨⟨j,m⟩,hj⟩:=Option.isSome_iff_exists.1 h
  exact List.mem_map.2 ⟨(x,nameAt cs j,m),methS_mem.2 ⟨j,hj,rfl⟩,rfl⟩
theorem meth_at {cs : List Cls} {U : List (List Nat)} {s : Str} {k : Nat} {sig : Str} {j : Nat} {m : Mth} (hk : (slotsF cs)[k]? = some sig) (hj : dispF cs U s sig = some (j,m)) :
  (methS cs U s)[(((slotsF cs).take k).filter fun k => (dispF cs U s k).isSome).length]? = some (sig,nameAt cs j,m):=by
 have key : ∀ (p : Str → Bool) (l : List Str) (k : Nat),l[k]? = some sig → p sig = true → (l.filter p)[((l.take k).filter p).length]? = some sig:=by
  intro p l
  induction l with
  | nil => intro k h; simp at h
  | cons x l ih =>
   intro k h hp
   cases k with
   | zero =>
    simp only [List.getElem?_cons_zero,Option.some.injEq] at h
    subst h
    simp [hp]
   | succ k =>
    simp only [List.getElem?_cons_succ] at h
    have:=ih k h hp
    rw [List.take_succ_cons,List.filter_cons,List.filter_cons]
    split
    ·simpa using this
    ·exact this
 have h1:=key (fun k => (dispF cs U s k).isSome) (slotsF cs) k hk (by rw [hj]; rfl)
 rw [← meth_slots,sigsM,List.getElem?_map] at h1
 obtain ⟨y,hy,hys⟩:=Option.map_eq_some_iff.1 h1
 rw [hy]
 obtain ⟨j',hj',ho⟩:=methS_mem.1 (List.mem_of_getElem? hy)
 rw [hys,hj] at hj'
 simp only [Option.some.injEq,Prod.mk.injEq] at hj'
 obtain ⟨rfl,hm⟩:=hj'
 obtain ⟨a,b,c⟩:=y
 simp only at hys ho hm
 rw [hys,ho,hm]
theorem meth_len_slots (cs : List Cls) (U : List (List Nat)) (s : Str) : (methS cs U s).length = ((slotsF cs).filter fun k => (dispF cs U s k).isSome).length:=by
 rw [← meth_slots,sigsM,List.length_map]
end Go.Proofs.YtmeakjgbjldkdaaGreat.Ai
namespace Go.Proofs.YtmeakjgbjldkdaaGreat.Ai
open Go
variable {pr : Prims} {F : Nat → Option IFn}
def dspI (cs : List Cls) (sig : Str) : List Nat → Int × Int
 | [] => (-1,-1)
 | i :: l => match cs[i]? with
  | some c => if 0 ≤ ownI sig 0 c.meths then ((i : Int),ownI sig 0 c.meths) else dspI cs sig l
  | none => dspI cs sig l
theorem dspI_drop {cs : List Cls} {sig : Str} {l : List Nat} {q i : Nat} {c : Cls} (h : l[q]? = some i) (hc : cs[i]? = some c) : dspI cs sig (l.drop q) = if 0 ≤ ownI sig 0 c.meths then ((i : Int),ownI sig 0 c.meths) else dspI cs sig (l.drop (q + 1)):=by
 obtain ⟨hl,he⟩:=List.getElem?_eq_some_iff.1 h
 rw [List.drop_eq_getElem_cons hl,he]
 simp only [dspI,hc]
theorem dspI_dsp {cs : List Cls} {sig : Str} : ∀ {l : List Nat},(dspF cs sig l = none ∧ dspI cs sig l = (-1,-1)) ∨ ∃ (i q : Nat) (c : Cls) (m : Mth),dspF cs sig l = some (i,m) ∧ dspI cs sig l = ((i : Int),(q : Int)) ∧ cs[i]? = some c ∧ c.meths[q]? = some m
 | [] => .inl ⟨rfl,rfl⟩
 | i :: l => by
  unfold dspF dspI ownF
  cases hc : cs[i]? with
  | none => exact dspI_dsp (l:=l)
  | some c =>
   simp only
   rcases ownI_own (sig:=sig) (ms:=c.meths) (p:=0) with ⟨h1,h2⟩ | ⟨q,m,h1,h2,h3⟩
   ·rw [h1,h2]
    rw [if_neg (by omega)]
    exact dspI_dsp (l:=l)
   ·rw [h1,h3,if_pos (by omega)]
    exact .inr ⟨i,q,c,m,rfl,by simp,hc,h2⟩
theorem qx_disp (L : LibP pr F) {cs : List Cls} {U : List (List Nat)} (X : Cx cs U) (hfew : cs.length ≤ 6000) (hfw : Few cs) (hwt : wL wCls cs ≤ 42000000) (s sig : Str) : TxOk pr F 38 [lst 9 (cs.map clsRow),.str s,.str sig] (.tup [.int .i64 (dspI cs sig (roadsF cs U s)).1,.int .i64 (dspI cs sig (roadsF cs U s)).2]):=by
 have hm:=L.hm
 have hlm : (cs.map clsRow).length = cs.length:=List.length_map _
 have hpl:=qx_place L.toLibE cs hfew s
 refine TxOk.of0 hm L.f38.1 L.f38.2 rfl ?_
 intro H rw b hlt
 have hR : Rx rw rw:=Rx.rfl
 cases hpp : place cs s with
 | none =>
  have hr : roadsF cs U s = []:=by unfold roadsF; rw [hpp]
  rw [hr]
  simp only [placeI,hpp] at hpl
  refine' stI
  exact fin_tup rfl rfl (hp_take hlt) ⟨_,hR,rfl,rfl⟩
 | some i =>
  obtain ⟨c,hc,hcs⟩:=place_get hpp
  simp only [placeI,hpp] at hpl
  have hi:=(List.getElem?_eq_some_iff.1 hc).1
  have hcr : (cs.map clsRow)[i]? = some (clsRow c):=by rw [List.getElem?_map,hc]; rfl
  have hl9 : lst 9 (cs.map clsRow) = .list 9 .dead (cs.map clsRow):=lst_of_lt (i:=i) (by omega)
  rw [hl9] at hpl ⊢
  have hab:=tx_aboveR L.toLibG hfew X.li X.ok hwt hi
  rw [hl9] at hab
  have tail : ∀ (l : AV) (J : List Blk) (rw3 : List Nat),IsL 1 l (ixRows (roadsF cs U s)) → Rx rw rw3 → At pr F H.length (fin [.tmp 6,.tmp 7] H.length fun r S' => ∃ rw',Rx rw rw' ∧ r = .ret (.tup [.int .i64 (dspI cs sig (roadsF cs U s)).1,.int .i64 (dspI cs sig (roadsF cs U s)).2]) ∧ S' = ⟨hp H 0 b [],rw'⟩)
    (.loop [0,2,9,12] (.seq (.seq r38_14 (.cond (.tmp 49) .skip (.exit 2))) (.seq (.block 3 (.seq r38_15 (.seq r38_16 (.cond (.tmp 62) (.seq r38_17 .ret) .skip)))) r38_18))) [.blk 2,.code (.seq r38_19 .ret)]
    [(0,.list 9 .dead (cs.map clsRow)),(2,.str sig),(9,l),(12,.int .i64 0)] ⟨hp H 0 b J,rw3⟩:=by
   intro l J rw3 hl hR
   have hrl:=roads_len X.up s
   have hrb:=roads_lt X.li X.up s
   generalize roadsF cs U s = rs at *
   have hll:=ixRows_len rs
   obtain ⟨z,tg,rfl,hz,-⟩:=hl.ex
   refine at_loop hm (fun mm e S' => ∃ (q : Nat) (rw3 : List Nat),S' = ⟨hp H 0 b J,rw3⟩ ∧ q ≤ rs.length ∧ Rx rw rw3 ∧ dspI cs sig rs = dspI cs sig (rs.drop q) ∧ mm = rs.length - q ∧
    e = [(0,.list 9 .dead (cs.map clsRow)),(2,.str sig),(9,.list z tg (ixRows rs)),(12,.int .i64 q)]) ?_ (m:=rs.length) ⟨0,rw3,rfl,by omega,hR,rfl,rfl,rfl⟩
   clear hR
   rintro mm e S' ⟨q,rw3,rfl,hq0,hR,hdd,rfl,rfl⟩
   by_cases hq1 : q < rs.length
   ·obtain ⟨k,hk⟩ : ∃ k,rs[q]? = some k:=⟨_,List.getElem?_eq_getElem hq1⟩
    have hkl:=hrb k (List.mem_of_getElem? hk)
    have hkr:=ixRows_get hk
    obtain ⟨d,hd⟩ : ∃ d,cs[k]? = some d:=⟨_,List.getElem?_eq_getElem hkl⟩
    have hdm:=List.mem_of_getElem? hd
    have hdr : (cs.map clsRow)[k]? = some (clsRow d):=by rw [List.getElem?_map,hd]; rfl
    have hz1 : z = 1:=hz (by intro h; rw [h] at hkr; simp at hkr)
    subst hz1
    have ho:=qx_own L hwt hdm (X.ok d hdm) (hfw k d hd).2.2.1 sig
    rw [dspI_drop hk hd] at hdd
    refine' stI
    ·exact fin_tup rfl rfl (hp_take hlt) ⟨_,hR,by rw [hdd,if_pos (by assumption)],rfl⟩
    ·exact ⟨rs.length - (q + 1),by omega,q + 1,_,rfl,by omega,hR,by rw [hdd,if_neg (by omega)],rfl,rfl⟩
   ·refine' stI
    refine fin_tup rfl rfl (hp_take hlt) ⟨_,hR,?_,rfl⟩
    rw [hdd,List.drop_eq_nil_of_le (by omega)]
    rfl
  refine' stI
  obtain ⟨v,rw2,hv,hR2,hd⟩:=qx_chain L.toLibJ hfew X.ok s (H:=hp H 0 b []) (rw:=rwt) (hp_pos hlt)
  rw [hl9] at hd
  refine g_call rfl rfl rfl ?_
  refine c_det hd ?_
  replace hR:=hR.trans hR2
  clear hd hRt hR2
  refine zrk7 ?_
  refine' stI
  ·have hub : (boolRows (upB cs i)).length = cs.length:=by rw [boolRows,List.length_map,upB_len]
   have hbr : ∀ k y,(upB cs i)[k]? = some y → (boolRows (upB cs i))[k]? = some [AV.bool y]:=fun k y h => by rw [boolRows,List.getElem?_map,h]; rfl
   have hif:=hq
   clear hq
   refine at_loop hm (fun mm e S' => ∃ (k : Nat) (l : AV) (J : List Blk) (rw' : List Nat),S' = ⟨hp H 0 b J,rw'⟩ ∧ k ≤ cs.length ∧ Lst rw 1 l (ixRows (i :: trues (upB cs i) k)) rw' ∧ Rx rw rw' ∧ mm = cs.length - k ∧
    e = [(0,.list 9 .dead (cs.map clsRow)),(2,.str sig),(9,l),(10,.list 1 .dead (boolRows (upB cs i))),(11,.int .i64 k)]) ?_ (m:=cs.length) ⟨0,_,[],_,rfl,by omega,Lst.lit (by simp [ixRows]),hR,rfl,rfl⟩
   clear hR hRt
   rintro mm e S' ⟨k,l,J,rw3,rfl,hk0,hl,hR,rfl,rfl⟩
   have htl:=trues_len (upB cs i) k
   by_cases hk : k < cs.length
   ·obtain ⟨y,hy⟩ : ∃ y,(upB cs i)[k]? = some y:=⟨_,List.getElem?_eq_getElem (by rw [upB_len]; exact hk)⟩
    have hyr:=hbr k y hy
    refine' stI
    ·refine id_append ?_
     refine g_append rfl rfl rfl ?_
     refine ap_lst (row:=ixRow k) hl hR (by simp only [ixRows_len,List.length_cons,maxRow]; omega) (by simp only [ixRows_len,List.length_cons,maxRow]; omega) (by omega) ?_
     intro l4 rw4 hl4 hR4
     refine zrk7 ?_
     refine' stI
     refine ⟨cs.length - (k + 1),by omega,k + 1,l4,_,rw4,rfl,by omega,?_,hR4,rfl,rfl⟩
     rw [trues_succ,List.getD_eq_getElem?_getD,hy,Option.getD_some,if_pos hq,← List.cons_append,ixRows_append]
     exact hl4
    ·refine ⟨cs.length - (k + 1),by omega,k + 1,l,_,rw3,rfl,by omega,?_,hR,rfl,rfl⟩
     rw [trues_succ,List.getD_eq_getElem?_getD,hy,Option.getD_some,if_neg (by simp [hq]),List.append_nil]
     exact hl
   ·refine' stI
    refine tail _ _ _ ?_ hR
    obtain ⟨u,hu⟩ : ∃ u,U[i]? = some u:=⟨_,List.getElem?_eq_getElem (by rw [X.ul]; exact hi)⟩
    have hrf : roadsF cs U s = i :: trues (upB cs i) cs.length:=by
     unfold roadsF
     rw [hpp]
     simp only [hc,hif,if_true]
     rw [List.getD_eq_getElem?_getD,hu,Option.getD_some,ups_eq (X.up i u hu)]
    rw [hrf]
    rw [show k = cs.length by omega] at hl
    exact hl.isL
  ·refine tail _ _ _ ?_ hR
   have hrf : roadsF cs U s = chainF cs s:=by
    unfold roadsF
    rw [hpp]
    simp only [hc,hq,Bool.false_eq_true,if_false]
   rw [hrf]
   exact hv
end Go.Proofs.YtmeakjgbjldkdaaGreat.Ai
namespace Go.Proofs.YtmeakjgbjldkdaaGreat.Ai
open Go
variable {pr : Prims} {F : Nat → Option IFn}
theorem putS_t (s x : Str) (l : List Str) : putS s (x :: l) true = x :: putS s l true:=by rw [putS,if_neg (by simp)]
theorem putS_le {s x : Str} (l : List Str) (h : leB s x = true) (h2 : Op.bytesLess s x = true) : putS s (x :: l) false = s :: x :: putS s l true:=by rw [putS,if_pos ⟨rfl,h⟩,if_pos h2]
theorem putS_eq {s x : Str} (l : List Str) (h : leB s x = true) (h2 : Op.bytesLess s x = false) : putS s (x :: l) false = x :: putS s l true:=by rw [putS,if_pos ⟨rfl,h⟩,if_neg (by simp [h2])]
theorem putS_gt {s x : Str} (l : List Str) (h : leB s x = false) : putS s (x :: l) false = x :: putS s l false:=by rw [putS,if_neg (by simp [h])]
theorem det_put (L : LibP pr F) {ls : List Str} {z : Nat} {tg : Tag} (hz : ls ≠ [] → z = 1) (hn : ls.length ≤ 400000) (s : Str) {H : List Blk} {rw : List Nat} (hH : 0 < H.length) :
  ∃ (v : AV) (rw' : List Nat),IsL 1 v ((putS s ls false).map nmRow) ∧ Rx rw rw' ∧ Det pr F 63 [.list z tg (ls.map nmRow),.str s] ⟨H,rw⟩ (.ret v) ⟨H,rw'⟩:=by
 have hm:=L.hm
 suffices h : Wp pr F 63 [.list z tg (ls.map nmRow),.str s] ⟨H,rw⟩ fun r S' => ∃ (v : AV) (rw' : List Nat),IsL 1 v ((putS s ls false).map nmRow) ∧ Rx rw rw' ∧ r = .ret v ∧ S' = ⟨H,rw'⟩ by
  obtain ⟨r,S',hd,v,rw',h1,h2,rfl,rfl⟩:=h.det hm
  exact ⟨v,rw',h1,h2,hd⟩
 obtain ⟨b,hb⟩ : ∃ b,H[0]? = some b:=⟨_,List.getElem?_eq_getElem hH⟩
 have hlt:=hH
 have hll : (ls.map nmRow).length = ls.length:=List.length_map _
 have hR : Rx rw rw:=Rx.rfl
 refine at_start_hp hm L.f63.1 L.f63.2 rfl (hp_of hb) ?_
 refine' stI
 refine at_loop hm (fun mm e S' => ∃ (q : Nat) (o : List Str) (d : Bool) (l : AV) (J : List Blk) (rw3 : List Nat),S' = ⟨hp H 0 b J,rw3⟩ ∧ q ≤ ls.length ∧ o.length ≤ q + 1 ∧ (d = false → o.length ≤ q) ∧ putS s ls false = o ++ putS s (ls.drop q) d ∧ Lst rw 1 l (o.map nmRow) rw3 ∧ Rx rw rw3 ∧ mm = ls.length - q ∧
  e = [(0,.list z tg (ls.map nmRow)),(1,.str s),(5,l),(6,.bool d),(7,.int .i64 q)]) ?_ (m:=ls.length) ⟨0,[],false,_,[],rw,rfl,by omega,by simp,by simp,rfl,Lst.nil,Rx.rfl,rfl,rfl⟩
 clear hR
 rintro mm e S' ⟨q,o,d,l,J,rw3,rfl,hq0,ho1,ho2,hp1,hl,hR,rfl,rfl⟩
 by_cases hq1 : q < ls.length
 ·obtain ⟨x,hx⟩ : ∃ x,ls[q]? = some x:=⟨_,List.getElem?_eq_getElem hq1⟩
  have hxr : (ls.map nmRow)[q]? = some (nmRow x):=by rw [List.getElem?_map,hx]; rfl
  have hdr : ls.drop q = x :: ls.drop (q + 1):=by rw [List.drop_eq_getElem_cons hq1]; rw [List.getElem?_eq_getElem hq1] at hx; simp only [Option.some.injEq] at hx; rw [hx]
  have hz1:=hz (by intro h; rw [h] at hx; simp at hx)
  subst hz1
  rw [hdr] at hp1
  have hol : (o.map nmRow).length = o.length:=List.length_map _
  cases d
  ·have ho3:=ho2 rfl
   refine' stI
   ·have h1 : leB s x = true:=by assumption
    refine id_append ?_
    refine g_append rfl rfl rfl ?_
    refine ap_lst (row:=nmRow s) hl hR (by simp only [List.length_map,maxRow]; omega) (by simp only [List.length_map,maxRow]; omega) (by omega) ?_
    intro l4 rw4 hl4 hR4
    refine zrk7 ?_
    refine' stI
    refine id_append ?_
    refine g_append rfl rfl rfl ?_
    refine ap_lst (row:=nmRow x) hl4 hR4 (by simp only [List.length_append,List.length_map,List.length_cons,List.length_nil,maxRow]; omega) (by simp only [List.length_append,List.length_map,List.length_cons,List.length_nil,maxRow]; omega) (by omega) ?_
    intro l5 rw5 hl5 hR5
    refine zrk7 ?_
    refine' stI
    refine ⟨ls.length - (q + 1),by omega,q + 1,o ++ [s] ++ [x],true,l5,_,rw5,rfl,by omega,by simp; omega,by simp,?_,?_,hR5,rfl,rfl⟩
    ·rw [hp1,putS_le _ h1 hq]; simp
    ·simp only [List.map_append,List.map_cons,List.map_nil]; exact hl5
   ·have h1 : leB s x = true:=by assumption
    refine id_append ?_
    refine g_append rfl rfl rfl ?_
    refine ap_lst (row:=nmRow x) hl hR (by simp only [List.length_map,maxRow]; omega) (by simp only [List.length_map,maxRow]; omega) (by omega) ?_
    intro l4 rw4 hl4 hR4
    refine zrk7 ?_
    refine' stI
    refine ⟨ls.length - (q + 1),by omega,q + 1,o ++ [x],true,l4,_,rw4,rfl,by omega,by simp; omega,by simp,?_,?_,hR4,rfl,rfl⟩
    ·rw [hp1,putS_eq _ h1 hq]; simp
    ·simp only [List.map_append,List.map_cons,List.map_nil]; exact hl4
   ·have h1 : leB s x = false:=hq
    refine id_append ?_
    refine g_append rfl rfl rfl ?_
    refine ap_lst (row:=nmRow x) hl hR (by simp only [List.length_map,maxRow]; omega) (by simp only [List.length_map,maxRow]; omega) (by omega) ?_
    intro l4 rw4 hl4 hR4
    refine zrk7 ?_
    refine' stI
    refine ⟨ls.length - (q + 1),by omega,q + 1,o ++ [x],false,l4,_,rw4,rfl,by omega,by simp; omega,fun _ => by simp; exact ho2 rfl,?_,?_,hR4,rfl,rfl⟩
    ·rw [hp1,putS_gt _ h1]; simp
    ·simp only [List.map_append,List.map_cons,List.map_nil]; exact hl4
  ·refine' stI
   refine id_append ?_
   refine g_append rfl rfl rfl ?_
   refine ap_lst (row:=nmRow x) hl hR (by simp only [List.length_map,maxRow]; omega) (by simp only [List.length_map,maxRow]; omega) (by omega) ?_
   intro l4 rw4 hl4 hR4
   refine zrk7 ?_
   refine' stI
   refine ⟨ls.length - (q + 1),by omega,q + 1,o ++ [x],true,l4,_,rw4,rfl,by omega,by simp; omega,by simp,?_,?_,hR4,rfl,rfl⟩
   ·rw [hp1,putS_t]; simp
   ·simp only [List.map_append,List.map_cons,List.map_nil]; exact hl4
 ·rw [List.drop_eq_nil_of_le (by omega)] at hp1
  cases d
  ·refine' stI
   refine id_append ?_
   refine g_append rfl rfl rfl ?_
   refine ap_lst (row:=nmRow s) hl hR (by simp only [List.length_map,maxRow]; omega) (by simp only [List.length_map,maxRow]; omega) (by omega) ?_
   intro l4 rw4 hl4 hR4
   refine zrk7 ?_
   refine' stI
   refine fin_ret rfl (hl4.isL.below _) (hp_take hlt) ⟨_,_,?_,hR4,rfl,st_of hb⟩
   rw [hp1]
   show IsL 1 l4 ((o ++ [s]).map nmRow)
   rw [List.map_append]
   exact hl4.isL
  ·refine' stI
   refine fin_ret rfl (hl.isL.below _) (hp_take hlt) ⟨_,_,?_,hR,rfl,st_of hb⟩
   rw [hp1]
   show IsL 1 l ((o ++ []).map nmRow)
   rw [List.append_nil]
   exact hl.isL
end Go.Proofs.YtmeakjgbjldkdaaGreat.Ai
namespace Go.Proofs.YtmeakjgbjldkdaaGreat.Ai
open Go
variable {pr : Prims} {F : Nat → Option IFn}
theorem putAll_append (l a b : List Str) : putAll l (a ++ b) = putAll (putAll l a) b:=by simp only [putAll,List.foldl_append]
theorem putAll_one (l : List Str) (s : Str) : putAll l [s] = putS s l false:=rfl
theorem sigsF_succ {cs : List Cls} {i : Nat} {c : Cls} (h : cs[i]? = some c) : sigsF (cs.take (i + 1)) = sigsF (cs.take i) ++ sigsC c:=by
 obtain ⟨hl,he⟩:=List.getElem?_eq_some_iff.1 h
 rw [List.take_succ_eq_append_getElem hl,he,sigsF,List.flatMap_append]
 simp [sigsF]
theorem sigsF_len {cs : List Cls} (hfw : Few cs) : ∀ i : Nat,(sigsF (cs.take i)).length ≤ 64 * i
 | 0 => by simp [sigsF]
 | i + 1 => by
  have ih:=sigsF_len hfw i
  cases hc : cs[i]? with
  | none =>
   rw [List.take_of_length_le (by have:=List.getElem?_eq_none_iff.1 hc; omega)]
   rw [List.take_of_length_le (by have:=List.getElem?_eq_none_iff.1 hc; omega)] at ih
   omega
  | some c =>
   have h1:=(hfw i c hc).2.2.1
   rw [sigsF_succ hc,List.length_append,sigsC,List.length_map]
   omega
theorem sigsC_succ {c : Cls} {k : Nat} {m : Mth} (h : c.meths[k]? = some m) : (sigsC c).take (k + 1) = (sigsC c).take k ++ [sigT m.name m.params]:=by
 have h2 : (sigsC c)[k]? = some (sigT m.name m.params):=by rw [sigsC,List.getElem?_map,h]; rfl
 obtain ⟨hl,he⟩:=List.getElem?_eq_some_iff.1 h2
 rw [List.take_succ_eq_append_getElem hl,he]
theorem qx_slots (L : LibP pr F) {cs : List Cls} (hfew : cs.length ≤ 6000) (hfw : Few cs) (hwt : wL wCls cs ≤ 42000000) (hok : ∀ c ∈ cs,okCls c) {H : List Blk} {rw : List Nat} (hH : 0 < H.length) :
  ∃ (v : AV) (rw' : List Nat),IsL 1 v ((slotsF cs).map nmRow) ∧ Rx rw rw' ∧ Det pr F 24 [lst 9 (cs.map clsRow)] ⟨H,rw⟩ (.ret v) ⟨H,rw'⟩:=by
 have hm:=L.hm
 suffices h : Wp pr F 24 [lst 9 (cs.map clsRow)] ⟨H,rw⟩ fun r S' => ∃ (v : AV) (rw' : List Nat),IsL 1 v ((slotsF cs).map nmRow) ∧ Rx rw rw' ∧ r = .ret v ∧ S' = ⟨H,rw'⟩ by
  obtain ⟨r,S',hd,v,rw',h1,h2,rfl,rfl⟩:=h.det hm
  exact ⟨v,rw',h1,h2,hd⟩
 obtain ⟨b,hb⟩ : ∃ b,H[0]? = some b:=⟨_,List.getElem?_eq_getElem hH⟩
 have hlt:=hH
 have hlm : (cs.map clsRow).length = cs.length:=List.length_map _
 have hR : Rx rw rw:=Rx.rfl
 refine at_start_hp hm L.f24.1 L.f24.2 rfl (hp_of hb) ?_
 refine' stI
 refine at_loop hm (fun mm e S' => ∃ (i : Nat) (l : AV) (rw3 : List Nat),S' = ⟨hp H 0 b [],rw3⟩ ∧ i ≤ cs.length ∧ IsL 1 l ((putAll [] (sigsF (cs.take i))).map nmRow) ∧ Rx rw rw3 ∧ mm = cs.length - i ∧
  e = [(0,lst 9 (cs.map clsRow)),(3,l),(4,.int .i64 i)]) ?_ (m:=cs.length) ⟨0,_,rw,rfl,by omega,IsL.nil,Rx.rfl,rfl,rfl⟩
 clear hR
 rintro mm e S' ⟨i,l,rw3,rfl,hi0,hl,hR,rfl,rfl⟩
 by_cases hi : i < cs.length
 ·obtain ⟨c,hc⟩ : ∃ c,cs[i]? = some c:=⟨_,List.getElem?_eq_getElem hi⟩
  have hcr : (cs.map clsRow)[i]? = some (clsRow c):=by rw [List.getElem?_map,hc]; rfl
  have hl9 : lst 9 (cs.map clsRow) = .list 9 .dead (cs.map clsRow):=lst_of_lt (i:=i) (by omega)
  have hcm:=List.mem_of_getElem? hc
  have hmo:=cls_meths (hok c hcm)
  have hml:=(hfw i c hc).2.2.1
  have hlm5 : (c.meths.map mthRow).length = c.meths.length:=List.length_map _
  have hl0:=sigsF_len hfw i
  rw [hl9]
  refine' stI
  refine at_loop hm (fun mm e S' => ∃ (k : Nat) (l : AV) (rw3 : List Nat),S' = ⟨hp H 0 b [],rw3⟩ ∧ k ≤ c.meths.length ∧ IsL 1 l ((putAll [] (sigsF (cs.take i) ++ (sigsC c).take k)).map nmRow) ∧ Rx rw rw3 ∧ mm = c.meths.length - k ∧
   e = [(0,.list 9 .dead (cs.map clsRow)),(3,l),(4,.int .i64 i),(5,.int .i64 k)]) ?_ (m:=c.meths.length) ⟨0,_,_,rfl,by omega,by simpa using hl,hR,rfl,rfl⟩
  clear hR hl
  rintro mm e S' ⟨k,l,rw4,rfl,hk0,hl,hR,rfl,rfl⟩
  obtain ⟨z,tg,rfl,hz,-⟩:=hl.ex
  by_cases hk : k < c.meths.length
  ·obtain ⟨m,hmk⟩ : ∃ m,c.meths[k]? = some m:=⟨_,List.getElem?_eq_getElem hk⟩
   have hmem:=List.mem_of_getElem? hmk
   have hmr : (c.meths.map mthRow)[k]? = some (mthRow m):=by rw [List.getElem?_map,hmk]; rfl
   obtain ⟨hb1,hb2,hb3,hb4⟩:=mth_bounds hcm hmem hwt
   obtain ⟨hk1,hk2,hk3,hk4⟩:=hmo m hmem
   have hsg:=qx_sig L.toLibE hb1 hb2 hk2
   have hl5 : lst 11 (c.meths.map mthRow) = .list 11 .dead (c.meths.map mthRow):=lst_of_lt (i:=k) (by omega)
   refine' stI
   rw [hl5]
   refine' stI
   rw [hl5]
   refine' stI
   have hpl:=putAll_len (sigsF (cs.take i) ++ (sigsC c).take k) []
   have hcl : ((sigsC c).take k).length ≤ k:=by rw [List.length_take]; omega
   simp only [List.length_append,List.length_nil] at hpl
   obtain ⟨v,rw5,hv,hR5,hd5⟩:=det_put L (z:=z) (tg:=tg) (ls:=putAll [] (sigsF (cs.take i) ++ (sigsC c).take k)) (fun h => hz (by simpa using h)) (by omega) (sigT m.name m.params) (H:=hp H 0 b []) (rw:=rwt) (hp_pos hlt)
   refine g_call rfl rfl rfl ?_
   refine c_det hd5 ?_
   replace hR:=hR.trans hR5
   clear hd5 hR5 hRt
   refine zrk7 ?_
   refine' stI
   refine ⟨c.meths.length - (k + 1),by omega,k + 1,v,rw5,rfl,by omega,?_,hR,rfl,rfl⟩
   rw [sigsC_succ hmk,← List.append_assoc,putAll_append,putAll_one]
   exact hv
  ·refine' stI
   refine ⟨cs.length - (i + 1),by omega,i + 1,_,rw4,rfl,by omega,?_,hR,rfl,rfl⟩
   rw [sigsF_succ hc]
   have htk : (sigsC c).take k = sigsC c:=List.take_of_length_le (by rw [sigsC,List.length_map]; omega)
   rw [htk] at hl ⊢
   exact hl
 ·refine' stI
  refine fin_ret rfl (hl.below _) (hp_take hlt) ⟨_,_,?_,hR,rfl,st_of hb⟩
  rw [List.take_of_length_le (by omega)] at hl
  exact hl
end Go.Proofs.YtmeakjgbjldkdaaGreat.Ai
namespace Go.Proofs.YtmeakjgbjldkdaaGreat.Ai
open Go
variable {pr : Prims} {F : Nat → Option IFn}
theorem filter_succ {p : Str → Bool} {l : List Str} {k : Nat} {x : Str} (h : l[k]? = some x) : ((l.take (k + 1)).filter p).length = ((l.take k).filter p).length + (if p x then 1 else 0):=by
 obtain ⟨hl,he⟩:=List.getElem?_eq_some_iff.1 h
 rw [List.take_succ_eq_append_getElem hl,he,List.filter_append,List.length_append]
 congr 1
 by_cases hp : p x <;> simp [hp]
theorem filter_len (p : Str → Bool) (l : List Str) (k : Nat) : ((l.take k).filter p).length ≤ k:=Nat.le_trans (List.length_filter_le _ _) (by rw [List.length_take]; omega)
theorem wp_calls (L : LibP pr F) {x sg : Str} {p : Prg} {ok : Bool} (hrd : RdOk pr F x p ok) (haw : ∀ S,Det pr F 13 [] S (.ret (.bool true)) S) (H : List Blk) (rw : List Nat) : Wp pr F 7 [.str x,.str sg] ⟨H,rw⟩ TrueQ:=by
 have hm:=L.hm
 have haw:=haw ⟨H,rw⟩
 refine at_start hm L.f7.1 L.f7.2 rfl ?_
 refine' hGO
 obtain ⟨r,S',hd,hN⟩:=(wp_table L.toLibF hrd H rw).det hm
 rcases hN with ⟨rw',hR,rfl,rfl⟩ | ⟨H',rw2,n,mb,z,zb,tg,tb,U,hK,hn,hR0,hle,T,hall,hfw,rfl,rfl⟩
 ·refine g_call rfl rfl rfl ?_
  refine c_det hd ?_
  refine zrk7 ?_
  refine' stI
  exact fin_true rfl
 obtain ⟨cs,mn⟩:=p
 simp only at hle T hall hfw hd
 have X:=tab_cx T hall
 have hlt : n < H'.length:=(List.getElem?_eq_some_iff.1 T.at_).1
 have hR : Rx rw2 rw2:=Rx.rfl
 have hlm : (cs.map clsRow).length = cs.length:=List.length_map _
 have hT:=fun M => T.keep (keep_n T.at_ M)
 refine g_call rfl rfl rfl ?_
 refine c_det hd ?_
 clear hd hR0
 rw [← st_of T.at_]
 generalize (Blk.cells [.list z tg (cs.map clsRow),.map mb,.list zb tb (U.map upRow),.int .u32 0,.int .i32 0,.int .u32 0,.list 0 .full []]) = B at hT ⊢
 refine zrk7 ?_
 refine' stI
 obtain ⟨vs,rw3,hvs,hR3,hd3⟩:=qx_slots L T.few hfw T.wt T.okc (H:=hp H' n B []) (rw:=rw2) (hp_pos hlt)
 refine g_call rfl rfl rfl ?_
 refine c_det hd3 ?_
 clear hd3 hR hR3
 have hR : Rx rw3 rw3:=Rx.rfl
 refine zrk7 ?_
 refine' stI
 obtain ⟨z1,t1,rfl,hz1,-⟩:=hvs.ex
 have hms:=fun s => methS_len hfw T.ups s
 have hsl : (slotsF cs).length ≤ 64 * cs.length:=by
  have h1:=putAll_len (sigsF cs) []
  have h2:=sigsF_len hfw cs.length
  rw [List.take_length] at h2
  simp only [List.length_nil] at h1
  have h3 : (slotsF cs).length ≤ (sigsF cs).length:=by rw [slotsF]; omega
  omega
 have hrl : ((slotsF cs).map nmRow).length = (slotsF cs).length:=List.length_map _
 have hfew:=T.few
 have hml2:=meth_len_slots cs U
 have hat:=fun s k sig j m => @meth_at cs U s k sig j m
 have hqd:=fun s sig => qx_disp L X hfew hfw T.wt s sig
 generalize slotsF cs = ss at *
 refine at_loop hm (fun mm e S' => ∃ (i : Nat) (J : List Blk) (rw' : List Nat),S' = ⟨hp H' n B J,rw'⟩ ∧ i ≤ cs.length ∧ mm = cs.length - i ∧
  e = [(1,.str sg),(5,.ptr n 0),(6,lst 9 (cs.map clsRow)),(7,.list z1 t1 (ss.map nmRow)),(8,.int .i64 i)]) ?_ (m:=cs.length) ⟨0,[],rw3,rfl,by omega,rfl,rfl⟩
 clear hR
 clear rw3
 rintro mm e S' ⟨i,J,rw3,rfl,hi0,rfl,rfl⟩
 have hR : Rx rw3 rw3:=Rx.rfl
 by_cases hi : i < cs.length
 ·obtain ⟨c,hc⟩ : ∃ c,cs[i]? = some c:=⟨_,List.getElem?_eq_getElem hi⟩
  have hcr : (cs.map clsRow)[i]? = some (clsRow c):=by rw [List.getElem?_map,hc]; rfl
  have hl9 : lst 9 (cs.map clsRow) = .list 9 .dead (cs.map clsRow):=lst_of_lt (i:=i) (by omega)
  rw [hl9] at hqd ⊢
  refine' stI
  obtain ⟨vm,rw4,hvM,hR4,hd4⟩:=det_methods L.toLibN (hT J) hfw rfl c.name (rw:=rw3)
  obtain ⟨zm,tm,rfl,hzm,-⟩:=hvM.ex
  refine g_call rfl rfl rfl ?_
  refine c_det hd4 ?_
  clear hd4 hR hR4
  have hR : Rx rw4 rw4:=Rx.rfl
  refine zrk7 ?_
  have hml:=hms c.name
  have hml3:=hml2 c.name
  have hat:=hat c.name
  generalize methS cs U c.name = l at *
  have hll:=memRows_len l
  refine' stI
  refine at_loop hm (fun mm e S' => ∃ (k N : Nat) (J : List Blk) (rw' : List Nat),N = ((ss.take k).filter fun k => (dispF cs U c.name k).isSome).length ∧ S' = ⟨hp H' n B J,rw'⟩ ∧ k ≤ ss.length ∧ mm = ss.length - k ∧
   e = [(1,.str sg),(5,.ptr n 0),(6,.list 9 .dead (cs.map clsRow)),(7,.list z1 t1 (ss.map nmRow)),(8,.int .i64 i),(9,.list zm tm (memRows l)),(10,.int .i64 N),(11,.int .i64 k)]) ?_ (m:=ss.length) ⟨0,0,J,rw4,rfl,rfl,by omega,rfl,rfl⟩
  clear hR
  clear rw4
  rintro mm e S' ⟨k,N,J,rw4,hN,rfl,hk0,rfl,rfl⟩
  have hR : Rx rw4 rw4:=Rx.rfl
  have hNk:=filter_len (fun k => (dispF cs U c.name k).isSome) ss k
  rw [← hN] at hNk
  by_cases hk : k < ss.length
  ·obtain ⟨sig,hks⟩ : ∃ sig,ss[k]? = some sig:=⟨_,List.getElem?_eq_getElem hk⟩
   have hkr : (ss.map nmRow)[k]? = some (nmRow sig):=by rw [List.getElem?_map,hks]; rfl
   have hz2 : z1 = 1:=hz1 (by intro h; rw [h] at hkr; simp at hkr)
   subst hz2
   have hNs:=filter_succ (p:=fun k => (dispF cs U c.name k).isSome) hks
   rw [← hN] at hNs
   have hdq:=hqd c.name sig
   have hds:=dspI_dsp (cs:=cs) (sig:=sig) (l:=roadsF cs U c.name)
   generalize dspI cs sig (roadsF cs U c.name) = dI at *
   rcases hds with ⟨hdn,rfl⟩ | ⟨j,q,d,x,hdn,rfl,hdj,hdm⟩
   ·have hdn' : dispF cs U c.name sig = none:=hdn
    rw [hdn'] at hNs
    simp only [Option.isSome_none,Bool.false_eq_true,if_false] at hNs
    simp only at hdq
    refine' stI
    obtain ⟨rw6,hR6,hd6⟩:=det_dispatch L.toLibE (hT (J ++ [.cells (memRow [] [] mthZ)])) c.name sig (rw:=rwt)
    rw [hdn'] at hd6
    refine g_call rfl rfl rfl ?_
    refine c_det hd6 ?_
    refine zrk7 ?_
    clear hd6 hR6 hR hRt
    have hR : Rx rw6 rw6:=Rx.rfl
    refine' stI
    exact ⟨ss.length - (k + 1),by omega,k + 1,N,_,rw6,by rw [hNs]; rfl,rfl,by omega,rfl,rfl⟩
   ·have hdn' : dispF cs U c.name sig = some (j,x):=hdn
    rw [hdn'] at hNs
    simp only [Option.isSome_some,if_true] at hNs
    simp only at hdq
    have hmt:=hat _ _ _ _ hks hdn'
    rw [← hN] at hmt
    refine' stI
    obtain ⟨rw6,hR6,hd6⟩:=det_dispatch L.toLibE (hT (J ++ [.cells (memRow [] [] mthZ)])) c.name sig (rw:=rwt)
    rw [hdn'] at hd6
    refine g_call rfl rfl rfl ?_
    refine c_det hd6 ?_
    refine zrk7 ?_
    clear hd6 hR6 hR hRt
    have hR : Rx rw6 rw6:=Rx.rfl
    have hrm:=row_mem sig (nameAt cs j) x
    have hna : nameAt cs j = d.name:=by simp only [nameAt,hdj]
    rw [hna] at hmt hrm
    simp only [dspRes,dspRow,Option.isSome_some,hna]
    have hjr : (cs.map clsRow)[j]? = some (clsRow d):=by rw [List.getElem?_map,hdj]; rfl
    have hjl:=(List.getElem?_eq_some_iff.1 hdj).1
    have hql:=(List.getElem?_eq_some_iff.1 hdm).1
    have hqb:=(hfw j d hdj).2.2.1
    have hqr : (d.meths.map mthRow)[q]? = some (mthRow x):=by rw [List.getElem?_map,hdm]; rfl
    have hqm : (d.meths.map mthRow).length = d.meths.length:=List.length_map _
    have hl11 : lst 11 (d.meths.map mthRow) = .list 11 .dead (d.meths.map mthRow):=lst_of_lt (i:=q) (by omega)
    have hmr:=memRows_get hmt
    have hNl:=(List.getElem?_eq_some_iff.1 hmt).1
    have hz3 : zm = 13:=hzm (by intro h; rw [h] at hmr; simp at hmr)
    subst hz3
    obtain ⟨mn1,mp1,⟨mk1,mt1,mu1,me1,mq1,ma1⟩,bd,ab,at1⟩:=x
    refine' stI
    rw [hl11]
    refine' stI
    exact ⟨ss.length - (k + 1),by omega,k + 1,N + 1,_,rw6,by rw [hNs],rfl,by omega,rfl,rfl⟩
  ·have hkk : k = ss.length:=by omega
   rw [hkk,List.take_length,← hml3] at hN
   subst hN
   have hdq:=hqd c.name sg
   have hds:=dspI_dsp (cs:=cs) (sig:=sg) (l:=roadsF cs U c.name)
   generalize dspI cs sg (roadsF cs U c.name) = dI at *
   refine' stI
   obtain ⟨rw6,hR6,hd6⟩:=det_dispatch L.toLibE (hT (J ++ [.cells (memRow [] [] mthZ)])) c.name sg (rw:=rw4)
   refine g_call rfl rfl rfl ?_
   refine c_det hd6 ?_
   refine zrk7 ?_
   clear hd6 hR6 hR
   have hR : Rx rw6 rw6:=Rx.rfl
   simp only [dspRes]
   have hrm : Row 13 (dspRow cs sg (dispF cs U c.name sg)):=by cases dispF cs U c.name sg <;> exact row_mem _ _ _
   rcases hds with ⟨hdn,rfl⟩ | ⟨j,q,d,x,hdn,rfl,hdj,hdm⟩
   ·have hdn' : dispF cs U c.name sg = none:=hdn
    rw [hdn'] at hrm ⊢
    simp only [Option.isSome_none]
    simp only at hdq
    refine' stI
    exact ⟨cs.length - (i + 1),by omega,i + 1,_,rwt,rfl,by omega,rfl,rfl⟩
   ·have hdn' : dispF cs U c.name sg = some (j,x):=hdn
    rw [hdn'] at hrm ⊢
    simp only [Option.isSome_some]
    simp only at hdq
    refine' stI
    exact ⟨cs.length - (i + 1),by omega,i + 1,_,rwt,rfl,by omega,rfl,rfl⟩
 ·refine' stI
  exact fin_true rfl
end Go.Proofs.YtmeakjgbjldkdaaGreat.Ai
namespace Go.Proofs.YtmeakjgbjldkdaaGreat.Ai
open Go
noncomputable def FA4 : Nat → Option IFn:=fun n => match n with
 | 7 => some i7
 | 8 => some i8
 | 24 => some i24
 | 27 => some i27
 | 38 => some i38
 | 39 => some i39
 | 63 => some i63
 | 70 => some i70
 | 71 => some i71
 | 75 => some i75
 | 112 => some i112
 | n => FA n
theorem fa4_chk : ∀ f fn,FA4 f = some fn → ∃ g,Tryz.prog.funcs[f]? = some g ∧ chkFn Tryz.prog g fn = true:=by
 intro f fn h
 unfold FA4 at h
 split at h
 ·exact ckr Tryz.func7 c7 h
 ·exact ckr Tryz.func8 c8 h
 ·exact ckr Tryz.func24 c24 h
 ·exact ckr Tryz.func27 c27 h
 ·exact ckr Tryz.func38 c38 h
 ·exact ckr Tryz.func39 c39 h
 ·exact ckr Tryz.func63 c63 h
 ·exact ckr Tryz.func70 c70 h
 ·exact ckr Tryz.func71 c71 h
 ·exact ckr Tryz.func75 c75 h
 ·exact ckr Tryz.func112 c112 h
 ·exact fa_chk _ _ h
theorem libP : LibP PrD FA4 where
 hm:=prD_mono
 f89:=⟨rfl,rfl⟩
 f130:=⟨rfl,rfl⟩
 f131:=⟨rfl,rfl⟩
 f132:=⟨rfl,rfl⟩
 f133:=⟨rfl,rfl⟩
 f190:=⟨rfl,rfl⟩
 f191:=⟨rfl,rfl⟩
 f226:=⟨rfl,rfl⟩
 f243:=⟨rfl,rfl⟩
 f90:=⟨rfl,rfl⟩
 f93:=⟨rfl,rfl⟩
 f95:=⟨rfl,rfl⟩
 f134:=⟨rfl,rfl⟩
 f135:=⟨rfl,rfl⟩
 f136:=⟨rfl,rfl⟩
 f140:=⟨rfl,rfl⟩
 f192:=⟨rfl,rfl⟩
 f193:=⟨rfl,rfl⟩
 f195:=⟨rfl,rfl⟩
 f201:=⟨rfl,rfl⟩
 f227:=⟨rfl,rfl⟩
 f228:=⟨rfl,rfl⟩
 f244:=⟨rfl,rfl⟩
 f245:=⟨rfl,rfl⟩
 f253:=⟨rfl,rfl⟩
 f94:=⟨rfl,rfl⟩
 f141:=⟨rfl,rfl⟩
 f196:=⟨rfl,rfl⟩
 f197:=⟨rfl,rfl⟩
 f137:=⟨rfl,rfl⟩
 f194:=⟨rfl,rfl⟩
 f139:=⟨rfl,rfl⟩
 f138:=⟨rfl,rfl⟩
 f91:=⟨rfl,rfl⟩
 f92:=⟨rfl,rfl⟩
 f51:=⟨rfl,rfl⟩
 f19:=⟨rfl,rfl⟩
 f15:=⟨rfl,rfl⟩
 f17:=⟨rfl,rfl⟩
 f20:=⟨rfl,rfl⟩
 f26:=⟨rfl,rfl⟩
 f30:=⟨rfl,rfl⟩
 f56:=⟨rfl,rfl⟩
 f64:=⟨rfl,rfl⟩
 f65:=⟨rfl,rfl⟩
 f66:=⟨rfl,rfl⟩
 f100:=⟨rfl,rfl⟩
 f101:=⟨rfl,rfl⟩
 f102:=⟨rfl,rfl⟩
 f103:=⟨rfl,rfl⟩
 f104:=⟨rfl,rfl⟩
 f105:=⟨rfl,rfl⟩
 f106:=⟨rfl,rfl⟩
 f149:=⟨rfl,rfl⟩
 f150:=⟨rfl,rfl⟩
 f151:=⟨rfl,rfl⟩
 f16:=⟨rfl,rfl⟩
 f18:=⟨rfl,rfl⟩
 f21:=⟨rfl,rfl⟩
 f53:=⟨rfl,rfl⟩
 f57:=⟨rfl,rfl⟩
 f204:=⟨rfl,rfl⟩
 f52:=⟨rfl,rfl⟩
 f96:=⟨rfl,rfl⟩
 f97:=⟨rfl,rfl⟩
 f127:=⟨rfl,rfl⟩
 f142:=⟨rfl,rfl⟩
 f143:=⟨rfl,rfl⟩
 f144:=⟨rfl,rfl⟩
 f145:=⟨rfl,rfl⟩
 f146:=⟨rfl,rfl⟩
 f198:=⟨rfl,rfl⟩
 f199:=⟨rfl,rfl⟩
 f200:=⟨rfl,rfl⟩
 f229:=⟨rfl,rfl⟩
 f55:=⟨rfl,rfl⟩
 f23:=⟨rfl,rfl⟩
 f33:=⟨rfl,rfl⟩
 f34:=⟨rfl,rfl⟩
 f35:=⟨rfl,rfl⟩
 f36:=⟨rfl,rfl⟩
 f68:=⟨rfl,rfl⟩
 f69:=⟨rfl,rfl⟩
 f111:=⟨rfl,rfl⟩
 f3:=⟨rfl,rfl⟩
 f6:=⟨rfl,rfl⟩
 f27:=⟨rfl,rfl⟩
 f38:=⟨rfl,rfl⟩
 f39:=⟨rfl,rfl⟩
 f70:=⟨rfl,rfl⟩
 f71:=⟨rfl,rfl⟩
 f75:=⟨rfl,rfl⟩
 f112:=⟨rfl,rfl⟩
 f7:=⟨rfl,rfl⟩
 f8:=⟨rfl,rfl⟩
 f24:=⟨rfl,rfl⟩
 f63:=⟨rfl,rfl⟩
 rd:=fun x => ⟨thePrg x,theOk x,(the_spec x).1,fun _ _ => det_run prD_mono (n:=1) rfl⟩
 join:=joinD_det
 awake:=fun _ => det_run prD_mono (n:=1) rfl
 p37:=rfl
end Go.Proofs.YtmeakjgbjldkdaaGreat.Ai
