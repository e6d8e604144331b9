/- A part of what is proved: L9, Q5, A1, A2, A3p, A3, A4, B0, Pri, L10, FA, Shelf. No condition. -/
import Derived.Test.YtmeakjgbjldkdaaGreatY13
import Derived.Test.YtmeakjgbjldkdaaGreatProg
import Derived.KernelRfl
import Derived.Shelf.Strings.Builder1
import Derived.Shelf.Strings.Builder2
import Derived.Shelf.Strings.OnBuilder
import Derived.Shelf.Small.Strs
import Derived.Shelf.Sort.Plain
import Derived.Ground.Names2Prog
import Derived.Shelf.Slices.Clone
import Derived.Shelf.Slices.CompactS
import Derived.Shelf.Slices.Cells
import Derived.Shelf.Slices.In.SortNone
set_option maxRecDepth 100000
set_option maxHeartbeats 16000000
namespace Go.Proofs.YtmeakjgbjldkdaaGreat.Ai
open Go
set_option maxRecDepth 100000
set_option maxHeartbeats 16000000
def F6a : {l : List IC // Tr.fn Tr.TT Tryz.f6 0 [[0],[0,16],[2],[3,4],[3,4,23],[2],[3,4,5],[3,4,5,30],[2],[3,4,5,6],[3,4,5,6,34],[3,4,5,6,7],[3,4,5,6,7,8],[3,4,5,6,7,8,9],[3,4,5,6,7,8,9,10],[3,4,5,6,7,8,9,10,49],[3,4,5,6,7,8,9,10,55],[3,4,5,6,7,8,9,10,71],[2],[3,4,5,6,7,8,9,10],[3,4,5,6,7,8,9,10,95],[2],[3,4,5,6,7,8,9,10],[3,4,5,6,8,9,11,12],[3,4,5,6,144],[2]] = l}:=⟨_,by cbv⟩
def r6_0 : IC:=Tr.pk F6a.1 0
def r6_1 : IC:=Tr.pk F6a.1 1
def r6_2 : IC:=Tr.pk F6a.1 2
def r6_3 : IC:=Tr.pk F6a.1 3
def r6_4 : IC:=Tr.pk F6a.1 4
def r6_5 : IC:=Tr.pk F6a.1 5
def r6_6 : IC:=Tr.pk F6a.1 6
def r6_7 : IC:=Tr.pk F6a.1 7
def r6_8 : IC:=Tr.pk F6a.1 8
def r6_9 : IC:=Tr.pk F6a.1 9
def r6_10 : IC:=Tr.pk F6a.1 10
def r6_11 : IC:=Tr.pk F6a.1 11
def r6_12 : IC:=Tr.pk F6a.1 12
def r6_13 : IC:=Tr.pk F6a.1 13
def r6_14 : IC:=Tr.pk F6a.1 14
def r6_15 : IC:=Tr.pk F6a.1 15
def r6_16 : IC:=Tr.pk F6a.1 16
def r6_17 : IC:=Tr.pk F6a.1 17
def r6_18 : IC:=Tr.pk F6a.1 18
def r6_19 : IC:=Tr.pk F6a.1 19
def r6_20 : IC:=Tr.pk F6a.1 20
def r6_21 : IC:=Tr.pk F6a.1 21
def r6_22 : IC:=Tr.pk F6a.1 22
def r6_23 : IC:=Tr.pk F6a.1 23
def r6_24 : IC:=Tr.pk F6a.1 24
def r6_25 : IC:=Tr.pk F6a.1 25
def F6b : {l : List IC // Tr.fn Tr.TT Tryz.f6 26 [[3,4,5,6],[3,14],[2]] = l}:=⟨_,by cbv⟩
def r6_26 : IC:=Tr.pk F6b.1 0
def r6_27 : IC:=Tr.pk F6b.1 1
def r6_28 : IC:=Tr.pk F6b.1 2
noncomputable def i6 : IFn:=⟨1,(.seq r6_0 (.seq (.seq r6_1 (.cond (.tmp 16) (.seq r6_2 .ret) (.skip))) (.seq r6_3 (.seq (.seq r6_4 (.cond (.tmp 23) (.seq r6_5 .ret) (.skip))) (.seq r6_6 (.seq (.seq r6_7 (.cond (.tmp 30) (.seq r6_8 .ret) (.skip))) (.seq (.seq r6_9 (.block 0 (.loop [3,4,5,6] (.seq (.seq r6_10 (.cond (.tmp 34) (.skip) (.exit 0))) (.seq (.block 1 (.seq r6_11 (.seq r6_12 (.seq r6_13 (.seq (.seq r6_14 (.block 2 (.loop [3,4,5,6,7,8,9,10] (.seq (.seq r6_15 (.cond (.tmp 49) (.skip) (.exit 2))) (.seq (.block 3 (.seq (.seq r6_16 (.cond (.tmp 55) (.seq (.seq r6_17 (.cond (.tmp 71) (.seq r6_18 .ret) (.skip))) r6_19) (.skip))) (.seq r6_20 (.cond (.tmp 95) (.seq r6_21 .ret) (.skip))))) r6_22))))) (.seq r6_23 (.seq r6_24 (.cond (.tmp 144) (.seq r6_25 .ret) (.skip))))))))) r6_26))))) (.seq r6_27 (.seq r6_28 .ret))))))))),[.tmp 2]⟩
theorem c6 : chkFn Tryz.prog Tryz.f6 i6 = true:=by kernel_rfl
def F23a : {l : List IC // Tr.fn Tr.TT Tryz.f23 0 [[0],[0,3],[3,9,10,11],[3,9,10,11,12],[3,5,9,10,11],[3,9,10,11],[3,9,10,11],[2]] = l}:=⟨_,by cbv⟩
def r23_0 : IC:=Tr.pk F23a.1 0
def r23_1 : IC:=Tr.pk F23a.1 1
def r23_2 : IC:=Tr.pk F23a.1 2
def r23_3 : IC:=Tr.pk F23a.1 3
def r23_4 : IC:=Tr.pk F23a.1 4
def r23_5 : IC:=Tr.pk F23a.1 5
def r23_6 : IC:=Tr.pk F23a.1 6
def r23_7 : IC:=Tr.pk F23a.1 7
noncomputable def i23 : IFn:=⟨1,(.seq r23_0 (.seq r23_1 (.seq (.seq r23_2 (.block 0 (.loop [3,9,10,11] (.seq r23_3 (.seq (.cond (.tmp 12) (.skip) (.exit 0)) (.seq (.block 1 (.seq r23_4 r23_5)) r23_6)))))) (.seq r23_7 .ret)))),[.tmp 2]⟩
theorem c23 : chkFn Tryz.prog Tryz.f23 i23 = true:=by kernel_rfl
def F33a : {l : List IC // Tr.fn Tr.TT Tryz.f33 0 [[0,1],[0,1,5],[0,5],[0,5,6],[0,5,6,18],[0,5,6,7],[0,5,6,7,24],[0,5,6,7,30],[0,5,6,7],[0,5,6,7],[0,5,6],[4]] = l}:=⟨_,by cbv⟩
def r33_0 : IC:=Tr.pk F33a.1 0
def r33_1 : IC:=Tr.pk F33a.1 1
def r33_2 : IC:=Tr.pk F33a.1 2
def r33_3 : IC:=Tr.pk F33a.1 3
def r33_4 : IC:=Tr.pk F33a.1 4
def r33_5 : IC:=Tr.pk F33a.1 5
def r33_6 : IC:=Tr.pk F33a.1 6
def r33_7 : IC:=Tr.pk F33a.1 7
def r33_8 : IC:=Tr.pk F33a.1 8
def r33_9 : IC:=Tr.pk F33a.1 9
def r33_10 : IC:=Tr.pk F33a.1 10
def r33_11 : IC:=Tr.pk F33a.1 11
noncomputable def i33 : IFn:=⟨2,(.seq r33_0 (.seq r33_1 (.seq r33_2 (.seq (.seq r33_3 (.block 0 (.loop [0,5,6] (.seq (.seq r33_4 (.cond (.tmp 18) (.skip) (.exit 0))) (.seq (.block 1 (.seq r33_5 (.block 2 (.loop [0,5,6,7] (.seq (.seq r33_6 (.cond (.tmp 24) (.skip) (.exit 2))) (.seq (.block 3 (.seq r33_7 (.cond (.tmp 30) r33_8 (.skip)))) r33_9)))))) r33_10))))) (.seq r33_11 .ret))))),[.tmp 4]⟩
theorem c33 : chkFn Tryz.prog Tryz.f33 i33 = true:=by kernel_rfl
def F34a : {l : List IC // Tr.fn Tr.TT Tryz.f34 0 [[0,1],[0,5,6],[0,5,20],[4],[0,5,7],[0,7,27,28,29],[0,7,27,28,29,30],[0,7,9,27,28,29],[0,7,27,28,29],[0,7,27,28,29],[4]] = l}:=⟨_,by cbv⟩
def r34_0 : IC:=Tr.pk F34a.1 0
def r34_1 : IC:=Tr.pk F34a.1 1
def r34_2 : IC:=Tr.pk F34a.1 2
def r34_3 : IC:=Tr.pk F34a.1 3
def r34_4 : IC:=Tr.pk F34a.1 4
def r34_5 : IC:=Tr.pk F34a.1 5
def r34_6 : IC:=Tr.pk F34a.1 6
def r34_7 : IC:=Tr.pk F34a.1 7
def r34_8 : IC:=Tr.pk F34a.1 8
def r34_9 : IC:=Tr.pk F34a.1 9
def r34_10 : IC:=Tr.pk F34a.1 10
noncomputable def i34 : IFn:=⟨2,(.seq r34_0 (.seq r34_1 (.seq (.seq r34_2 (.cond (.tmp 20) (.seq r34_3 .ret) (.skip))) (.seq r34_4 (.seq (.seq r34_5 (.block 0 (.loop [0,7,27,28,29] (.seq r34_6 (.seq (.cond (.tmp 30) (.skip) (.exit 0)) (.seq (.block 1 (.seq r34_7 r34_8)) r34_9)))))) (.seq r34_10 .ret)))))),[.tmp 4]⟩
theorem c34 : chkFn Tryz.prog Tryz.f34 i34 = true:=by kernel_rfl
def F36a : {l : List IC // Tr.fn Tr.TT Tryz.f36 0 [[0,1,4],[0,4,6,7],[0,4,6,18],[4,5],[4,5]] = l}:=⟨_,by cbv⟩
def r36_0 : IC:=Tr.pk F36a.1 0
def r36_1 : IC:=Tr.pk F36a.1 1
def r36_2 : IC:=Tr.pk F36a.1 2
def r36_3 : IC:=Tr.pk F36a.1 3
def r36_4 : IC:=Tr.pk F36a.1 4
noncomputable def i36 : IFn:=⟨2,(.seq r36_0 (.seq r36_1 (.seq (.seq r36_2 (.cond (.tmp 18) (.seq r36_3 .ret) (.skip))) (.seq r36_4 .ret)))),[.cell 4 (some 9),.tmp 5]⟩
theorem c36 : chkFn Tryz.prog Tryz.f36 i36 = true:=by kernel_rfl
def F68a : {l : List IC // Tr.fn Tr.TT Tryz.f68 0 [[0,1,2,6],[0,1,2,6,25],[0,1,2],[0,1,2,7],[0,1,2,7,36],[0,1,2,7,8],[0,1,2,7,8,50],[0,1,2,7],[0,1,2,7]] = l}:=⟨_,by cbv⟩
def r68_0 : IC:=Tr.pk F68a.1 0
def r68_1 : IC:=Tr.pk F68a.1 1
def r68_2 : IC:=Tr.pk F68a.1 2
def r68_3 : IC:=Tr.pk F68a.1 3
def r68_4 : IC:=Tr.pk F68a.1 4
def r68_5 : IC:=Tr.pk F68a.1 5
def r68_6 : IC:=Tr.pk F68a.1 6
def r68_7 : IC:=Tr.pk F68a.1 7
def r68_8 : IC:=Tr.pk F68a.1 8
noncomputable def i68 : IFn:=⟨3,(.seq (.seq r68_0 (.seq r68_1 (.cond (.tmp 25) r68_2 (.skip)))) (.seq r68_3 (.block 0 (.loop [0,1,2,7] (.seq (.seq r68_4 (.cond (.tmp 36) (.skip) (.exit 0))) (.seq (.block 1 (.seq r68_5 (.seq r68_6 (.cond (.tmp 50) r68_7 (.skip))))) r68_8)))))),[]⟩
theorem c68 : chkFn Tryz.prog Tryz.f68 i68 = true:=by kernel_rfl
end Go.Proofs.YtmeakjgbjldkdaaGreat.Ai
namespace Go.Proofs.YtmeakjgbjldkdaaGreat.Ai
open Go
variable {pr : Prims} {F : Nat → Option IFn}
end Go.Proofs.YtmeakjgbjldkdaaGreat.Ai
namespace Go.Proofs.YtmeakjgbjldkdaaGreat.Ai
open Go
variable {pr : Prims} {F : Nat → Option IFn}
structure LibG (pr : Prims) (F : Nat → Option IFn) : Prop extends LibF pr F where
 f23 : Has pr F 23 i23
 f33 : Has pr F 33 i33
 f34 : Has pr F 34 i34
 f35 : Has pr F 35 i35
 f36 : Has pr F 36 i36
 f68 : Has pr F 68 i68
 f69 : Has pr F 69 i69
 f111 : Has pr F 111 i111
 awake : ∀ S,Det pr F 13 [] S (.ret (.bool true)) S
end Go.Proofs.YtmeakjgbjldkdaaGreat.Ai
namespace Go.Proofs.YtmeakjgbjldkdaaGreat.Ai
open Go
variable {pr : Prims} {F : Nat → Option IFn}
def namesF (cs : List Cls) : List Str:=cs.map fun c => c.name
theorem det_namesL (L : LibG pr F) {H : List Blk} {rw : List Nat} {n mb z zb : Nat} {tg tb : Tag} {cs : List Cls} {U : List (List Nat)} {o1 o2 o3 sl : AV} (T : TabU H n mb cs z tg zb tb U o1 o2 o3 sl) :
  ∃ (v : AV) (rw' : List Nat),IsL 1 v ((namesF cs).map nmRow) ∧ Rx rw rw' ∧ Det pr F 23 [.ptr n 0] ⟨H,rw⟩ (.ret v) ⟨H,rw'⟩:=by
 have hm:=L.hm
 suffices h : Wp pr F 23 [.ptr n 0] ⟨H,rw⟩ fun r S' => ∃ (v : AV) (rw' : List Nat),IsL 1 v ((namesF cs).map nmRow) ∧ Rx rw rw' ∧ r = .ret v ∧ S' = ⟨H,rw'⟩ by
  obtain ⟨r,S',hd,v,rw',h1,h2,rfl,rfl⟩:=h.det hm
  exact ⟨v,rw',h1,h2,hd⟩
 have hlt : n < H.length:=(List.getElem?_eq_some_iff.1 T.at_).1
 have hfew:=T.few
 have hlm : (cs.map clsRow).length = cs.length:=List.length_map _
 have hR : Rx rw rw:=Rx.rfl
 refine at_start_hp hm L.f23.1 L.f23.2 rfl (hp_of T.at_) ?_
 refine' stH
 refine at_loop hm (fun mm e S' => ∃ (q : Nat) (l : AV) (J : List Blk) (rw3 : List Nat),S' = ⟨hp H n (.cells [.list z tg (cs.map clsRow),.map mb,.list zb tb (U.map upRow),o1,o2,o3,sl]) J,rw3⟩ ∧ q ≤ cs.length ∧ Lst rw 1 l ((namesF (cs.take q)).map nmRow) rw3 ∧ Rx rw rw3 ∧ mm = cs.length - q ∧ e = [(3,l),(9,.list z tg (cs.map clsRow)),(10,.int .i64 ((cs.map clsRow).length : Int)),(11,.int .i64 q)]) ?_ (m:=cs.length) ⟨0,_,[],rw,rfl,by omega,Lst.nil,Rx.rfl,rfl,rfl⟩
 clear hR
 rintro mm e S' ⟨q,l,J,rw3,rfl,hq0,hl,hR,rfl,rfl⟩
 by_cases hq1 : q < cs.length
 ·obtain ⟨c,hc⟩ : ∃ c,cs[q]? = some c:=⟨_,List.getElem?_eq_getElem hq1⟩
  have hcr : (cs.map clsRow)[q]? = some (clsRow c):=by rw [List.getElem?_map,hc]; rfl
  have hz : z = 9:=T.sz (by intro h; rw [h] at hq1; simp at hq1)
  subst hz
  refine' stH
  refine id_append ?_
  refine g_append rfl rfl rfl ?_
  refine ap_lst (row:=nmRow c.name) hl hR (by simp only [namesF,List.length_map,List.length_take,maxRow]; omega) (by simp only [namesF,List.length_map,List.length_take,maxRow]; omega) (by omega) ?_
  intro l4 rw4 hl4 hR4
  refine zrk6 ?_
  refine' stH
  refine ⟨cs.length - (q + 1),by omega,q + 1,l4,_,rw4,rfl,by omega,?_,hR4,rfl,rfl⟩
  rw [take_snoc hc]
  simp only [namesF,List.map_append] at hl4 ⊢
  exact hl4
 ·refine' stH
  rw [show q = cs.length by omega,List.take_length] at hl
  exact fin_ret rfl (hl.isL.below _) (hp_take hlt) ⟨_,_,hl.isL,hR,rfl,st_of T.at_⟩
end Go.Proofs.YtmeakjgbjldkdaaGreat.Ai
namespace Go.Proofs.YtmeakjgbjldkdaaGreat.Ai
open Go
def setAll (bs : List Bool) (l : List Nat) : List Bool:=l.foldl (fun b k => b.set k true) bs
theorem setAll_nil (bs : List Bool) : setAll bs [] = bs:=rfl
theorem setAll_len : ∀ (l : List Nat) (bs : List Bool),(setAll bs l).length = bs.length
 | [],_ => rfl
 | k :: l,bs => by
  show (setAll (bs.set k true) l).length = _
  rw [setAll_len,List.length_set]
theorem setAll_get : ∀ (l : List Nat) (bs : List Bool),(∀ k ∈ l,k < bs.length) → ∀ j,(setAll bs l)[j]? = some true ↔ bs[j]? = some true ∨ j ∈ l
 | [],bs,_,j => by simp [setAll_nil]
 | k :: l,bs,h,j => by
  show (setAll (bs.set k true) l)[j]? = some true ↔ _
  rw [setAll_get l (bs.set k true) (fun i hi => by rw [List.length_set]; exact h i (List.mem_cons_of_mem _ hi))]
  have hk:=h k List.mem_cons_self
  constructor
  ·rintro (h1 | h1)
   ·by_cases e : k = j
    ·subst e; exact .inr List.mem_cons_self
    ·rw [List.getElem?_set_ne e] at h1; exact .inl h1
   ·exact .inr (List.mem_cons_of_mem _ h1)
  ·rintro (h1 | h1)
   ·exact .inl (set_true h1)
   ·rcases List.mem_cons.1 h1 with rfl | h1
    ·exact .inl (List.getElem?_set_self hk)
    ·exact .inr h1
theorem setAll_same {l : List Nat} {bs : List Bool} (h : ∀ k ∈ l,bs[k]? = some true) : setAll bs l = bs:=by
 induction l with
 | nil => rfl
 | cons k l ih =>
  show setAll (bs.set k true) l = bs
  have e : bs.set k true = bs:=by
   apply List.ext_getElem?
   intro i
   by_cases hk : k = i
   ·subst hk
    rw [h k List.mem_cons_self]
    exact List.getElem?_set_self (List.getElem?_eq_some_iff.1 (h k List.mem_cons_self)).1
   ·rw [List.getElem?_set_ne hk]
  rw [e]
  exact ih (fun i hi => h i (List.mem_cons_of_mem _ hi))
def cnt (bs : List Bool) : Nat:=bs.countP (· = true)
theorem cnt_set {bs : List Bool} {k : Nat} (hk : k < bs.length) : cnt (bs.set k true) = cnt bs + (if bs[k]? = some true then 0 else 1):=by
 induction bs generalizing k with
 | nil => simp at hk
 | cons b bs ih =>
  cases k with
  | zero => cases b <;> simp [cnt]
  | succ k =>
   have:=ih (k:=k) (by simpa using hk)
   simp only [cnt] at this ⊢
   simp only [List.set_cons_succ,List.countP_cons,this,List.getElem?_cons_succ]
   omega
theorem cnt_setAll : ∀ {l : List Nat} {bs : List Bool},(∀ k ∈ l,k < bs.length) → cnt bs ≤ cnt (setAll bs l) ∧ (cnt (setAll bs l) = cnt bs → setAll bs l = bs ∧ ∀ k ∈ l,bs[k]? = some true)
 | [],bs,_ => ⟨Nat.le_refl _,fun _ => ⟨rfl,fun k h => by cases h⟩⟩
 | k :: l,bs,h => by
  have hk:=h k List.mem_cons_self
  have h1:=cnt_set hk
  obtain ⟨h2,h3⟩:=cnt_setAll (l:=l) (bs:=bs.set k true) (fun i hi => by rw [List.length_set]; exact h i (List.mem_cons_of_mem _ hi))
  have e : setAll bs (k :: l) = setAll (bs.set k true) l:=rfl
  rw [e]
  refine ⟨by omega,fun h4 => ?_⟩
  have hb : bs[k]? = some true:=by
   by_cases hb : bs[k]? = some true
   ·exact hb
   ·rw [if_neg hb] at h1; omega
  have e2 : bs.set k true = bs:=setAll_same (l:=[k]) (fun i hi => by simp only [List.mem_singleton] at hi; subst hi; exact hb)
  rw [e2] at h3 h2 h4 ⊢
  obtain ⟨h5,h6⟩:=h3 h4
  refine ⟨h5,fun i hi => ?_⟩
  rcases List.mem_cons.1 hi with rfl | hi
  ·exact hb
  ·exact h6 i hi
theorem cnt_le (bs : List Bool) : cnt bs ≤ bs.length:=List.countP_le_length
theorem cnt_all {bs : List Bool} (h : cnt bs = bs.length) (k : Nat) (hk : k < bs.length) : bs[k]? = some true:=by
 have:=List.countP_eq_length.1 h (bs[k]) (List.getElem_mem hk)
 rw [List.getElem?_eq_getElem hk]
 simpa using this
def Shut (cs : List Cls) (bs : List Bool) : Prop:=∀ j,bs[j]? = some true → ∀ k ∈ nxt cs j,bs[k]? = some true
structure Rnd (cs : List Cls) (i : Nat) (b0 bs : List Bool) (q : Nat) : Prop where
 len : bs.length = cs.length
 sound : ∀ k,bs[k]? = some true → Up cs i k
 first : ∀ k ∈ nxt cs i,bs[k]? = some true
 more : cnt b0 < cnt bs ∨ (bs = b0 ∧ ∀ j,j < q → b0[j]? = some true → ∀ k ∈ nxt cs j,b0[k]? = some true)
 shut : Shut cs b0 → bs = b0
theorem Rnd.skip {cs : List Cls} {i q : Nat} {b0 bs : List Bool} (h : Rnd cs i b0 bs q) (hq : bs[q]? = some false) : Rnd cs i b0 bs (q + 1) where
 len:=h.len
 sound:=h.sound
 first:=h.first
 shut:=h.shut
 more:=by
  rcases h.more with h1 | ⟨rfl,h1⟩
  ·exact .inl h1
  ·refine .inr ⟨rfl,fun j hj hb k hk => ?_⟩
   by_cases e : j = q
   ·subst e; rw [hq] at hb; simp at hb
   ·exact h1 j (by omega) hb k hk
theorem Rnd.step {cs : List Cls} (hl : Linked cs) {i q : Nat} {b0 bs : List Bool} (h : Rnd cs i b0 bs q) (hq : bs[q]? = some true) : Rnd cs i b0 (setAll bs (nxt cs q)) (q + 1):=by
 have hlt : ∀ k ∈ nxt cs q,k < bs.length:=fun k hk => by rw [h.len]; exact nxt_lt hl hk
 have hg:=setAll_get (nxt cs q) bs hlt
 obtain ⟨hc1,hc2⟩:=cnt_setAll hlt
 refine ⟨by rw [setAll_len,h.len],fun k hk => ?_,fun k hk => (hg k).2 (.inl (h.first k hk)),?_,fun hs => ?_⟩
 ·rcases (hg k).1 hk with h1 | h1
  ·exact h.sound k h1
  ·exact .more (h.sound q hq) h1
 ·rcases h.more with h1 | ⟨rfl,h1⟩
  ·exact .inl (by omega)
  ·by_cases e : cnt (setAll bs (nxt cs q)) = cnt bs
   ·obtain ⟨h2,h3⟩:=hc2 e
    refine .inr ⟨h2,fun j hj hb k hk => ?_⟩
    by_cases ej : j = q
    ·subst ej; exact h3 k hk
    ·exact h1 j (by omega) hb k hk
   ·exact .inl (by omega)
 ·have:=h.shut hs
  subst this
  exact setAll_same (hs q hq)
structure Rnds (cs : List Cls) (i : Nat) (bs : List Bool) (n : Nat) : Prop where
 len : bs.length = cs.length
 sound : ∀ k,bs[k]? = some true → Up cs i k
 first : ∀ k ∈ nxt cs i,bs[k]? = some true
 more : Shut cs bs ∨ n ≤ cnt bs
theorem Rnds.start {cs : List Cls} (hl : Linked cs) (i : Nat) : Rnds cs i (setAll (List.replicate cs.length false) (nxt cs i)) 0:=by
 have hlt : ∀ k ∈ nxt cs i,k < (List.replicate cs.length false).length:=fun k hk => by rw [List.length_replicate]; exact nxt_lt hl hk
 have hg:=setAll_get (nxt cs i) _ hlt
 refine ⟨by rw [setAll_len,List.length_replicate],fun k hk => ?_,fun k hk => (hg k).2 (.inr hk),.inr (Nat.zero_le _)⟩
 rcases (hg k).1 hk with h1 | h1
 ·have:=List.mem_of_getElem? h1
  simp at this
 ·exact .one h1
theorem Rnds.round {cs : List Cls} {i n : Nat} {bs : List Bool} (h : Rnds cs i bs n) : Rnd cs i bs bs 0:=
 ⟨h.len,h.sound,h.first,.inr ⟨rfl,fun j hj => by omega⟩,fun _ => rfl⟩
theorem Rnds.next {cs : List Cls} {i n : Nat} {b0 bs : List Bool} (h : Rnds cs i b0 n) (h' : Rnd cs i b0 bs cs.length) : Rnds cs i bs (n + 1):=by
 refine ⟨h'.len,h'.sound,h'.first,?_⟩
 rcases h.more with h1 | h1
 ·rw [h'.shut h1]; exact .inl h1
 ·rcases h'.more with h2 | ⟨rfl,h2⟩
  ·exact .inr (by omega)
  ·refine .inl fun j hj k hk => ?_
   have hjl:=(List.getElem?_eq_some_iff.1 hj).1
   exact h2 j (by rw [← h.len]; exact hjl) hj k hk
theorem Rnds.done {cs : List Cls} (hl : Linked cs) {i : Nat} {bs : List Bool} (h : Rnds cs i bs cs.length) (k : Nat) : bs[k]? = some true ↔ Up cs i k:=by
 have hs : Shut cs bs:=by
  rcases h.more with h1 | h1
  ·exact h1
  ·have h2:=cnt_le bs
   have h3 : cnt bs = bs.length:=by have:=h.len; omega
   intro j _ k hk
   exact cnt_all h3 k (by rw [h.len]; exact nxt_lt hl hk)
 refine ⟨h.sound k,fun hu => ?_⟩
 induction hu with
 | one h1 => exact h.first _ h1
 | more _ h1 ih => exact hs _ ih _ h1
end Go.Proofs.YtmeakjgbjldkdaaGreat.Ai
namespace Go.Proofs.YtmeakjgbjldkdaaGreat.Ai
open Go
variable {pr : Prims} {F : Nat → Option IFn}
def pl (cs : List Cls) (s : Str) : Nat:=(place cs s).getD 0
end Go.Proofs.YtmeakjgbjldkdaaGreat.Ai
namespace Go.Proofs.YtmeakjgbjldkdaaGreat.Ai
open Go
variable {pr : Prims} {F : Nat → Option IFn}
end Go.Proofs.YtmeakjgbjldkdaaGreat.Ai
namespace Go.Proofs.YtmeakjgbjldkdaaGreat.Ai
open Go
variable {pr : Prims} {F : Nat → Option IFn}
structure LibH (pr : Prims) (F : Nat → Option IFn) : Prop extends LibG pr F where
 f3 : Has pr F 3 i3
 f6 : Has pr F 6 i6
section
variable {b0 base ix : Nat} {d : Option Nat} {g : Option (Nat × Bool)} {prev items : List Item} {kp : List Nat} {k : List Fr} {e : Env} {Q : Ex → Env → St → Prop} {S : St}
theorem id_bld {zs : List AV} {parts : List (Nat × Nat × Opd)} (h : In pr F b0 Q base prev (⟨ix,d,g,.q (.build zs parts)⟩ :: items) kp k e S) : In pr F b0 Q base prev (⟨ix,d,g,.q (.build zs parts)⟩ :: items) kp k e S:=h
theorem i_listR {sz m : Nat} {tag : Tag} {rows : List (List AV)} {r : List AV} {ki : IntKind} {n : Int} {K : AV → Prop} (hn : n = (m : Nat)) (hr : rows[m]? = some r) (h : K (.ref r)) : IaAt sz (.list sz tag rows) (.int ki n) K:=i_list hr hn h
end
theorem zrk7 {base : Nat} {H0 : List Blk} {prev : List Item} {re : List Nat} {e : Env} {X : Prop} (hx : X) (h : recheck prev re e H0 base = true:=by first | with_reducible exact rec_nil | (repeat' first | with_reducible exact rc_end | refine rc_skip rfl ?_ | (refine id_rcload ?_; first | refine rc_off rfl ?_ | refine rc_load (rw:=[]) rfl rfl rfl ?_ ?_) | (refine id_rcalloc ?_; refine rc_allocN (by assumption) rfl (by (simp only [Nat.reduceAdd,Nat.add_zero]; try rfl)) (by (first | rfl | assumption | exact at_bk0 | exact at_bk1 | exact at_bk2 | exact at_bk3 | exact at_bk4 | exact at_bl0 | exact at_bl1 | exact at_bl2 | exact at_bl3 | exact at_bl4)) rfl ?_) | (refine id_rclk ?_; first | refine rc_off rfl ?_ | refine rc_lookup (rw:=[]) rfl rfl rfl rfl ?_ ?_) | refine rc_off rfl ?_ | refine rc_keep rfl rfl rfl ?_ | (refine l_ref0 rfl ?_)      | (refine id_lref ?_; first | refine zlr ?_ | refine zls ?_)      | (refine id_lown ?_; first | refine zlo ?_ | refine zlo2 ?_ | refine zlo3 ?_ | refine zlx ?_)      | (refine id_lown0 ?_; first | refine zlo0 ?_ | refine zlm0 ?_ | refine zlx0 ?_)      | (refine id_ln0 ?_; refine zln0 ?_)      | (refine id_lptr0 ?_; first | refine zlp0 ?_ | refine zlf0 ?_)      | (refine id_lownP ?_; (first | refine zloP ?_ par_ty | refine zloP ?_ fld_ty | refine zloP ?_ mth_ty | refine zloP ?_ mem_ty)) | (refine id_lptr ?_; first | refine zlpc ?_ | refine zlfc ?_ | refine zlnC ?_) | rfl)) : recheck prev re e H0 base = true ∧ X:=⟨h,hx⟩
theorem stI {Q : Prop} (h : Q:=by (repeat' (first | (refine in_id ?_; first  | (refine id_mov ?_; first | refine g_mov rfl rfl ?_ | refine in_no rfl ?_)  | (refine id_bin ?_; first    | (refine g_bin rfl rfl rfl ?_; first      | (refine id_bnS .add ?_; first | refine b_cat (by first | omega | (simp only [List.length_append,List.length_cons,List.length_nil]; omega)) ?_ | refine b_str rfl ?_)      | (refine id_bn .add ?_; first | refine b_int rfl (wrap64 (by omega) (by omega)) ?_ | refine b_int rfl rfl ?_)      | (refine id_bn .sub ?_; first | refine b_int rfl (wrap64 (by omega) (by omega)) ?_ | refine b_int rfl rfl ?_)      | (refine id_bnS .eql ?_; first | refine b_eqt (by decide) ?_ | refine b_eqf (by decide) ?_) | refine b_true rfl (by first | with_reducible rfl | assumption | (simp only [decide_eq_true_eq,beq_iff_eq,bne_iff_ne,ne_eq,Bool.not_eq_true',beq_eq_false_iff_ne,List.length_map]; first | done | omega | assumption) | decide) ?_      | refine b_false rfl (by first | with_reducible rfl | assumption | (simp only [decide_eq_false_iff_not,beq_eq_false_iff_ne,bne_eq_false_iff_eq,ne_eq,Bool.not_eq_false',beq_iff_eq,List.length_map]; first | done | omega | assumption) | decide) ?_      | (refine b_two rfl (fun hq => ?_) (fun hq => ?_) <;> (try simp only [decide_eq_true_eq,decide_eq_false_iff_not,beq_iff_eq,beq_eq_false_iff_ne,bne_iff_ne,ne_eq,bne_eq_false_iff_eq,Bool.not_eq_true',Int.not_lt,Int.not_le,Decidable.not_not,List.length_map] at hq))      | refine b_int rfl rfl ?_)    | refine in_no rfl ?_)  | (refine id_load ?_; first    | (refine g_load rfl rfl ?_; first      | (refine l_ref0 rfl ?_)      | (refine id_lref ?_; first | refine zlr ?_ | refine zls ?_)      | (refine id_lown ?_; first | refine zlo ?_ | refine zlo2 ?_ | refine zlo3 ?_ | refine zlx ?_)      | (refine id_lown0 ?_; first | refine zlo0 ?_ | refine zlm0 ?_ | refine zlx0 ?_)      | (refine id_ln0 ?_; refine zln0 ?_)      | (refine id_lptr0 ?_; first | refine zlp0 ?_ | refine zlf0 ?_)      | (refine id_lownP ?_; (first | refine zloP ?_ par_ty | refine zloP ?_ fld_ty | refine zloP ?_ mth_ty | refine zloP ?_ mem_ty)) | (refine id_lptr ?_; first | refine zlpc ?_ | refine zlfc ?_ | refine zlnC ?_))    | refine in_no rfl ?_)  | (refine id_alloc ?_; refine zaa ?_)  | (refine id_ixa ?_; first    | (refine g_ixa rfl rfl rfl ?_; first      | (refine i_tok (by omega) (by omega) ?_; intro tk htk htk2)      | refine i_listR (by with_reducible rfl) (by assumption) ?_ | refine i_list (by assumption) (by omega) ?_      | refine i_list rfl rfl ?_      | refine i_arr (by omega) (by omega) ?_)    | refine in_no rfl ?_)  | (refine id_ix ?_; first    | refine in_byte2 rfl rfl rfl (by with_reducible rfl) (by assumption) ?_    | refine in_byte (by assumption) rfl rfl rfl (by omega) ?_    | refine in_no rfl ?_)  | (refine id_list ?_; first    | (refine g_list rfl rfl ?_; first      | (refine id_ls1 ?_; first | refine ze1 ?_ | refine ls_c rfl ?_)      | (refine id_ls2 ?_; first | refine ze2 ?_ | refine ls_c rfl ?_)      | refine ls_c rfl ?_)    | refine in_no rfl ?_)  | (refine id_cut ?_; first    | refine in_cut rfl rfl rfl rfl (by simp only [Option.getD_some,Option.getD_none]; omega) rfl ?_    | refine in_no rfl ?_)  | (refine id_len ?_; refine g_lenlst rfl rfl ?_)  | (refine id_lk ?_; refine g_lookup rfl rfl rfl ?_; first | (refine k_pl (by assumption) (fun kq kc hkq hkc hkr hkl => ?_) (fun hkq => ?_)) | (refine k_pln (by assumption) ?_)) | (refine id_q ?_; first | refine g_q rfl rfl ?_ | refine in_no rfl ?_)  | (refine id_store ?_; first    | (refine g_store rfl rfl rfl ?_; first      | (refine id_stn 0 ?_; refine s_n hlt (Nat.le_refl _) rfl (by first | rfl | exact Row.len (by (first | assumption | with_reducible exact row_ex _ | with_reducible exact row_tok _ | with_reducible exact row_ty _ | with_reducible exact row_sm _ | with_reducible exact row_par _ | with_reducible exact row_fld _ | with_reducible exact row_mth _ | with_reducible exact row_ctr _ | with_reducible exact row_cls _ | with_reducible exact row_prg _ | with_reducible exact row_nm _ | with_reducible exact row_mem _ _ _))) (by first | rfl | exact Row.len (by (first | assumption | with_reducible exact row_ex _ | with_reducible exact row_tok _ | with_reducible exact row_ty _ | with_reducible exact row_sm _ | with_reducible exact row_par _ | with_reducible exact row_fld _ | with_reducible exact row_mth _ | with_reducible exact row_ctr _ | with_reducible exact row_cls _ | with_reducible exact row_prg _ | with_reducible exact row_nm _ | with_reducible exact row_mem _ _ _))) ?_; refine zrk7 ?_) | (refine id_stn (0 + 1) ?_; refine s_rI hlt (by assumption) (by omega) ?_; intro rc _ _ _ _ _ _; refine zrk7 ?_)      | (refine id_stn (0 + 3) ?_; refine s_rDeep hlt (by assumption) (by omega) ?_; intro rc _ _ _ _ _ _; refine zrk7 ?_)      | (refine id_stown ?_; first        | (refine id_stag0 ?_; first          | (refine zsR ?_; refine zrk7 ?_)          | (refine zsA ?_; refine zrk7 ?_)) | (refine id_stagg ?_; refine zsT ?_; refine zrk7 ?_)        | (refine zsO ?_; refine zrk7 ?_)))    | refine in_no_l rfl (by first | exact rec_nil | rfl) ?_)  | (refine id_box ?_; refine g_box hlt rfl rfl rfl (by (simp only [List.map_cons,List.map_nil,List.nil_append,List.cons_append,List.append_nil,cells_agg,cells_str,cells_int,cells_bool,cells_list]; rfl)) (by (first | (simp only [List.length_cons,List.length_nil,Nat.reduceAdd,Nat.zero_add]; rfl) | rfl)) ?_; refine zrk7 ?_) | (refine id_call ?_; first    | (refine g_call rfl rfl rfl ?_; first      | (refine id_cl 56 ?_; (first | refine ⟨_,_,det_fault L _ _ _ _,?_⟩ | refine ⟨_,_,det_fault L.toLibD _ _ _ _,?_⟩); refine zrk7 ?_) | (refine id_cl2 90 (.int .i64 0) ?_; (refine c_rqb (cis0 _) hlt (by assumption) ?_ ?_ <;> intro hP <;> obtain ⟨_,_⟩:=hP <;> refine zrk7 ?_)) | (refine id_cl2 90 (.int .i64 1) ?_; (refine c_rqb (cis1 _) hlt (by assumption) ?_ ?_ <;> intro hP <;> obtain ⟨_,_⟩:=hP <;> refine zrk7 ?_)) | (refine id_cl2 90 (.int .i64 2) ?_; (refine c_rqb (cis2 _) hlt (by assumption) ?_ ?_ <;> intro hP <;> obtain ⟨_,_⟩:=hP <;> refine zrk7 ?_))      | (refine id_cl 134 ?_; refine c_rq cpl hlt (by assumption) ?_; intro _ _; refine zrk7 ?_)      | (refine id_cl 136 ?_; (refine c_rcb (ctk _) hlt (by assumption) (by omega) (by omega) ?_ ?_ <;> intro rc rwc hR' _ _ _ _ _ _ hP <;> replace hR:=hR.trans hR' <;> (try replace hRL:=hRL.trans hR') <;> obtain ⟨_,_⟩:=hP <;> refine zrk7 ?_)) | (refine id_cl 140 ?_; (refine c_rcb (cen) hlt (by assumption) (by omega) (by omega) ?_ ?_ <;> intro rc rwc hR' _ _ _ _ _ _ hP <;> replace hR:=hR.trans hR' <;> (try replace hRL:=hRL.trans hR') <;> obtain ⟨_,_⟩:=hP <;> refine zrk7 ?_)) | (refine id_cl 93 ?_; (refine c_rc (cnd _) hlt (by assumption) (by omega) (by omega) ?_; intro _ rc rwc hR' _ _ _ _ _ _ hP; replace hR:=hR.trans hR'; (try replace hRL:=hRL.trans hR'); obtain ⟨_,_⟩:=hP; refine zrk7 ?_)) | (refine id_cl 95 ?_; (refine c_rc (cfl) hlt (by assumption) (by omega) (by omega) ?_; intro _ rc rwc hR' _ _ _ _ _ _ hP; replace hR:=hR.trans hR'; (try replace hRL:=hRL.trans hR'); obtain ⟨_,_⟩:=hP; refine zrk7 ?_))      | (refine c_tx (by assumption) (hp_pos hlt) ?_; intro rwt hRt; replace hR:=hR.trans hRt; refine zrk7 ?_) | (refine c_det (by first | assumption | exact hk1 _ _ | exact hd1 _ | exact hd2 _ | exact hd3 _ | exact hd4 _ | exact hd5 _ | exact hd6 _) ?_; refine zrk7 ?_))    | refine in_no_l rfl (by first | exact rec_nil | rfl) ?_)  | (refine id_l ?_; refine in_no_l rfl (by first | exact rec_nil | rfl) ?_)  | (refine id_nil ?_; refine in_nil (by simp only [keep,List.filterMap_cons,List.filterMap_nil,args0,List.zipIdx_cons,List.zipIdx_nil,List.map_cons,List.map_nil,eput,eget,if_true,if_false,Nat.reduceEqDiff,reduceIte,Option.map_some,Option.map_none]; rfl) ?_)) | (refine at_id ?_; first  | refine at_seq hm ?_  | (refine id_region ?_; first | refine zar hm ?_ | refine at_region hm (List.append_nil _) rfl ?_)  | (refine id_cond ?_; first | refine at_true rfl ?_ | refine at_false rfl ?_ | refine at_ifb rfl (fun hq => ?_) (fun hq => ?_))  | refine at_block ?_  | refine at_skip ?_  | refine at_ret ?_  | refine at_exit ?_) | (refine back_id ?_; first  | refine back_code ?_  | refine back_blk ?_  | refine back_ret_code ?_  | refine back_ret_blk ?_  | refine back_exit_code ?_  | refine back_exit_same ?_  | refine back_exit_other (by omega) ?_  | refine back_nil ?_))); all_goals (refine ob ?_; apply_rules (newGoals:=.nonDependentOnly) only [bx]; exact trivial)) : Q:=h
theorem stJ {Q : Prop} (h : Q:=by (repeat' (first | (refine in_id ?_; (fail_if_success (refine id_bld ?_)); first  | (refine id_mov ?_; first | refine g_mov rfl rfl ?_ | refine in_no rfl ?_)  | (refine id_bin ?_; first    | (refine g_bin rfl rfl rfl ?_; first      | (refine id_bnS .add ?_; first | refine b_cat (by first | omega | (simp only [List.length_append,List.length_cons,List.length_nil]; omega)) ?_ | refine b_str rfl ?_)      | (refine id_bn .add ?_; first | refine b_int rfl (wrap64 (by omega) (by omega)) ?_ | refine b_int rfl rfl ?_)      | (refine id_bn .sub ?_; first | refine b_int rfl (wrap64 (by omega) (by omega)) ?_ | refine b_int rfl rfl ?_)      | (refine id_bnS .eql ?_; first | refine b_eqt (by decide) ?_ | refine b_eqf (by decide) ?_) | refine b_true rfl (by first | with_reducible rfl | assumption | (simp only [decide_eq_true_eq,beq_iff_eq,bne_iff_ne,ne_eq,Bool.not_eq_true',beq_eq_false_iff_ne,List.length_map]; first | done | omega | assumption) | decide) ?_      | refine b_false rfl (by first | with_reducible rfl | assumption | (simp only [decide_eq_false_iff_not,beq_eq_false_iff_ne,bne_eq_false_iff_eq,ne_eq,Bool.not_eq_false',beq_iff_eq,List.length_map]; first | done | omega | assumption) | decide) ?_      | (refine b_two rfl (fun hq => ?_) (fun hq => ?_) <;> (try simp only [decide_eq_true_eq,decide_eq_false_iff_not,beq_iff_eq,beq_eq_false_iff_ne,bne_iff_ne,ne_eq,bne_eq_false_iff_eq,Bool.not_eq_true',Int.not_lt,Int.not_le,Decidable.not_not,List.length_map] at hq))      | refine b_int rfl rfl ?_)    | refine in_no rfl ?_)  | (refine id_load ?_; first    | (refine g_load rfl rfl ?_; first      | (refine l_ref0 rfl ?_)      | (refine id_lref ?_; first | refine zlr ?_ | refine zls ?_)      | (refine id_lown ?_; first | refine zlo ?_ | refine zlo2 ?_ | refine zlo3 ?_ | refine zlx ?_)      | (refine id_lown0 ?_; first | refine zlo0 ?_ | refine zlm0 ?_ | refine zlx0 ?_)      | (refine id_ln0 ?_; refine zln0 ?_)      | (refine id_lptr0 ?_; first | refine zlp0 ?_ | refine zlf0 ?_)      | (refine id_lownP ?_; (first | refine zloP ?_ par_ty | refine zloP ?_ fld_ty | refine zloP ?_ mth_ty | refine zloP ?_ mem_ty)) | (refine id_lptr ?_; first | refine zlpc ?_ | refine zlfc ?_ | refine zlnC ?_))    | refine in_no rfl ?_)  | (refine id_alloc ?_; refine zaa ?_)  | (refine id_ixa ?_; first    | (refine g_ixa rfl rfl rfl ?_; first      | (refine i_tok (by omega) (by omega) ?_; intro tk htk htk2)      | refine i_listR (by with_reducible rfl) (by assumption) ?_ | refine i_list (by assumption) (by omega) ?_      | refine i_list rfl rfl ?_      | refine i_arr (by omega) (by omega) ?_)    | refine in_no rfl ?_)  | (refine id_ix ?_; first    | refine in_byte2 rfl rfl rfl (by with_reducible rfl) (by assumption) ?_    | refine in_byte (by assumption) rfl rfl rfl (by omega) ?_    | refine in_no rfl ?_)  | (refine id_list ?_; first    | (refine g_list rfl rfl ?_; first      | (refine id_ls1 ?_; first | refine ze1 ?_ | refine ls_c rfl ?_)      | (refine id_ls2 ?_; first | refine ze2 ?_ | refine ls_c rfl ?_)      | refine ls_c rfl ?_)    | refine in_no rfl ?_)  | (refine id_cut ?_; first    | refine in_cut rfl rfl rfl rfl (by simp only [Option.getD_some,Option.getD_none]; omega) rfl ?_    | refine in_no rfl ?_)  | (refine id_len ?_; refine g_lenlst rfl rfl ?_)  | (refine id_lk ?_; refine g_lookup rfl rfl rfl ?_; first | (refine k_pl (by assumption) (fun kq kc hkq hkc hkr hkl => ?_) (fun hkq => ?_)) | (refine k_pln (by assumption) ?_)) | (refine id_q ?_; first | refine g_q rfl rfl ?_ | refine in_no rfl ?_)  | (refine id_store ?_; first    | (refine g_store rfl rfl rfl ?_; first      | (refine id_stn 0 ?_; refine s_n hlt (Nat.le_refl _) rfl (by first | rfl | exact Row.len (by (first | assumption | with_reducible exact row_ex _ | with_reducible exact row_tok _ | with_reducible exact row_ty _ | with_reducible exact row_sm _ | with_reducible exact row_par _ | with_reducible exact row_fld _ | with_reducible exact row_mth _ | with_reducible exact row_ctr _ | with_reducible exact row_cls _ | with_reducible exact row_prg _ | with_reducible exact row_nm _ | with_reducible exact row_mem _ _ _))) (by first | rfl | exact Row.len (by (first | assumption | with_reducible exact row_ex _ | with_reducible exact row_tok _ | with_reducible exact row_ty _ | with_reducible exact row_sm _ | with_reducible exact row_par _ | with_reducible exact row_fld _ | with_reducible exact row_mth _ | with_reducible exact row_ctr _ | with_reducible exact row_cls _ | with_reducible exact row_prg _ | with_reducible exact row_nm _ | with_reducible exact row_mem _ _ _))) ?_; refine zrk7 ?_) | (refine id_stn (0 + 1) ?_; refine s_rI hlt (by assumption) (by omega) ?_; intro rc _ _ _ _ _ _; refine zrk7 ?_)      | (refine id_stn (0 + 3) ?_; refine s_rDeep hlt (by assumption) (by omega) ?_; intro rc _ _ _ _ _ _; refine zrk7 ?_)      | (refine id_stown ?_; first        | (refine id_stag0 ?_; first          | (refine zsR ?_; refine zrk7 ?_)          | (refine zsA ?_; refine zrk7 ?_)) | (refine id_stagg ?_; refine zsT ?_; refine zrk7 ?_)        | (refine zsO ?_; refine zrk7 ?_)))    | refine in_no_l rfl (by first | exact rec_nil | rfl) ?_)  | (refine id_box ?_; refine g_box hlt rfl rfl rfl (by (simp only [List.map_cons,List.map_nil,List.nil_append,List.cons_append,List.append_nil,cells_agg,cells_str,cells_int,cells_bool,cells_list]; rfl)) (by (first | (simp only [List.length_cons,List.length_nil,Nat.reduceAdd,Nat.zero_add]; rfl) | rfl)) ?_; refine zrk7 ?_) | (refine id_call ?_; first    | (refine g_call rfl rfl rfl ?_; first      | (refine id_cl 56 ?_; (first | refine ⟨_,_,det_fault L _ _ _ _,?_⟩ | refine ⟨_,_,det_fault L.toLibD _ _ _ _,?_⟩); refine zrk7 ?_) | (refine id_cl2 90 (.int .i64 0) ?_; (refine c_rqb (cis0 _) hlt (by assumption) ?_ ?_ <;> intro hP <;> obtain ⟨_,_⟩:=hP <;> refine zrk7 ?_)) | (refine id_cl2 90 (.int .i64 1) ?_; (refine c_rqb (cis1 _) hlt (by assumption) ?_ ?_ <;> intro hP <;> obtain ⟨_,_⟩:=hP <;> refine zrk7 ?_)) | (refine id_cl2 90 (.int .i64 2) ?_; (refine c_rqb (cis2 _) hlt (by assumption) ?_ ?_ <;> intro hP <;> obtain ⟨_,_⟩:=hP <;> refine zrk7 ?_))      | (refine id_cl 134 ?_; refine c_rq cpl hlt (by assumption) ?_; intro _ _; refine zrk7 ?_)      | (refine id_cl 136 ?_; (refine c_rcb (ctk _) hlt (by assumption) (by omega) (by omega) ?_ ?_ <;> intro rc rwc hR' _ _ _ _ _ _ hP <;> replace hR:=hR.trans hR' <;> (try replace hRL:=hRL.trans hR') <;> obtain ⟨_,_⟩:=hP <;> refine zrk7 ?_)) | (refine id_cl 140 ?_; (refine c_rcb (cen) hlt (by assumption) (by omega) (by omega) ?_ ?_ <;> intro rc rwc hR' _ _ _ _ _ _ hP <;> replace hR:=hR.trans hR' <;> (try replace hRL:=hRL.trans hR') <;> obtain ⟨_,_⟩:=hP <;> refine zrk7 ?_)) | (refine id_cl 93 ?_; (refine c_rc (cnd _) hlt (by assumption) (by omega) (by omega) ?_; intro _ rc rwc hR' _ _ _ _ _ _ hP; replace hR:=hR.trans hR'; (try replace hRL:=hRL.trans hR'); obtain ⟨_,_⟩:=hP; refine zrk7 ?_)) | (refine id_cl 95 ?_; (refine c_rc (cfl) hlt (by assumption) (by omega) (by omega) ?_; intro _ rc rwc hR' _ _ _ _ _ _ hP; replace hR:=hR.trans hR'; (try replace hRL:=hRL.trans hR'); obtain ⟨_,_⟩:=hP; refine zrk7 ?_))      | (refine c_tx (by assumption) (hp_pos hlt) ?_; intro rwt hRt; replace hR:=hR.trans hRt; refine zrk7 ?_) | (refine c_det (by first | assumption | exact hk1 _ _ | exact hd1 _ | exact hd2 _ | exact hd3 _ | exact hd4 _ | exact hd5 _ | exact hd6 _) ?_; refine zrk7 ?_))    | refine in_no_l rfl (by first | exact rec_nil | rfl) ?_)  | (refine id_l ?_; refine in_no_l rfl (by first | exact rec_nil | rfl) ?_)  | (refine id_nil ?_; refine in_nil (by simp only [keep,List.filterMap_cons,List.filterMap_nil,args0,List.zipIdx_cons,List.zipIdx_nil,List.map_cons,List.map_nil,eput,eget,if_true,if_false,Nat.reduceEqDiff,reduceIte,Option.map_some,Option.map_none]; rfl) ?_)) | (refine at_id ?_; first  | refine at_seq hm ?_  | (refine id_region ?_; first | refine zar hm ?_ | refine at_region hm (List.append_nil _) rfl ?_)  | (refine id_cond ?_; first | refine at_true rfl ?_ | refine at_false rfl ?_ | refine at_ifb rfl (fun hq => ?_) (fun hq => ?_))  | refine at_block ?_  | refine at_skip ?_  | refine at_ret ?_  | refine at_exit ?_) | (refine back_id ?_; first  | refine back_code ?_  | refine back_blk ?_  | refine back_ret_code ?_  | refine back_ret_blk ?_  | refine back_exit_code ?_  | refine back_exit_same ?_  | refine back_exit_other (by omega) ?_  | refine back_nil ?_))); all_goals (refine ob ?_; apply_rules (newGoals:=.nonDependentOnly) only [bx]; exact trivial)) : Q:=h
end Go.Proofs.YtmeakjgbjldkdaaGreat.Ai
namespace Go.Proofs.YtmeakjgbjldkdaaGreat.Ai
open Go
def strsOf : List (List AV) → Option (List Str)
 | [] => some []
 | [.str s] :: rs => match strsOf rs with
  | some l => some (s :: l)
  | none => none
 | _ => none
def sumLen (k : Nat) : List Str → Nat
 | [] => 0
 | s :: l => s.length + k + sumLen k l
def joinP : CallFn → List AV → St → Option (Res × St):=fun _ vs S => match vs with
 | [.list _ _ rows,.str sep] => match strsOf rows with
  | some l => if sumLen sep.length l ≤ 2147483648 ∧ l.length ≤ 2147483648 then some (.ret (.str (joinT sep l)),S) else none
  | none => none
 | _ => none
def cloneP : CallFn → List AV → St → Option (Res × St):=fun _ vs S => match vs with
 | [.list 1 _ (r :: rows)] => match strsOf (r :: rows) with
  | some l => if l.length ≤ 1000000 then some (.ret (.list 1 .dead (r :: rows)),S) else none
  | none => none
 | _ => none
def setC (H : List Blk) (n off : Nat) (v : AV) : List Blk:=match H[n]? with
 | some (.cells cs) => H.set n (.cells (overlay cs off [v]))
 | _ => H
def onceP : CallFn → List AV → St → Option (Res × St):=fun cl vs S => match vs with
 | [.ptr n off,.func 59 [] [.ptr m 0]] => match S.heap[n]? with
  | some (.cells cs) => match cs[off]?,cs[off + 1]? with
   | some (.int .u32 0),some (.int .i32 0) => match cl 59 [.ptr m 0] ⟨setC S.heap n (off + 1) (.int .i32 1),S.rows⟩ with
    | some (.ret (.tup []),S') => match S'.heap[n]? with
     | some (.cells cs') => match cs'[off]?,cs'[off + 1]? with
      | some (.int .u32 0),some (.int .i32 1) => some (.ret (.tup []),⟨setC (setC S'.heap n off (.int .u32 1)) n (off + 1) (.int .i32 0),S'.rows⟩)
      | _,_ => none
     | _ => none
    | _ => none
   | some (.int .u32 1),_ => some (.ret (.tup []),S)
   | _,_ => none
  | _ => none
 | _ => none
end Go.Proofs.YtmeakjgbjldkdaaGreat.Ai
namespace Go.Proofs.YtmeakjgbjldkdaaGreat.Ai
open Go
set_option maxRecDepth 100000
set_option maxHeartbeats 16000000
def F156a : {l : List IC // Tr.fn Tr.TT Tryz.f156 0 [[0,1,2,6],[0,1,2,6,12],[0,1,2,6,7],[0,1,2,6,7,30],[0,1,2,6,7],[0,1,2,6,7],[0,1,2,6]] = l}:=⟨_,by cbv⟩
def r156_0 : IC:=Tr.pk F156a.1 0
def r156_1 : IC:=Tr.pk F156a.1 1
def r156_2 : IC:=Tr.pk F156a.1 2
def r156_3 : IC:=Tr.pk F156a.1 3
def r156_4 : IC:=Tr.pk F156a.1 4
def r156_5 : IC:=Tr.pk F156a.1 5
def r156_6 : IC:=Tr.pk F156a.1 6
noncomputable def i156 : IFn:=⟨3,(.seq r156_0 (.block 0 (.loop [0,1,2,6] (.seq (.seq r156_1 (.cond (.tmp 12) (.skip) (.exit 0))) (.seq (.block 1 (.seq r156_2 (.block 2 (.loop [0,1,2,6,7] (.seq (.seq r156_3 (.cond (.tmp 30) (.skip) (.exit 2))) (.seq (.block 3 r156_4) r156_5)))))) r156_6))))),[]⟩
theorem c156 : chkFn Tryz.prog Tryz.f156 i156 = true:=by kernel_rfl
end Go.Proofs.YtmeakjgbjldkdaaGreat.Ai
namespace Go.Proofs.YtmeakjgbjldkdaaGreat.Ai
open Go
noncomputable def FA : Nat → Option IFn:=fun n => match n with
 | 3 => some i3
 | 6 => some i6
 | 13 => some i13
 | 14 => some i14
 | 15 => some i15
 | 16 => some i16
 | 17 => some i17
 | 18 => some i18
 | 19 => some i19
 | 20 => some i20
 | 21 => some i21
 | 22 => some i22
 | 23 => some i23
 | 25 => some i25
 | 26 => some i26
 | 30 => some i30
 | 33 => some i33
 | 34 => some i34
 | 35 => some i35
 | 36 => some i36
 | 51 => some i51
 | 52 => some i52
 | 53 => some i53
 | 55 => some i55b
 | 56 => some i56
 | 57 => some i57
 | 59 => some i59
 | 60 => some i60
 | 61 => some i61
 | 64 => some ifn64
 | 65 => some i65
 | 66 => some i66
 | 68 => some i68
 | 69 => some i69
 | 89 => some i89
 | 90 => some i90
 | 91 => some i91
 | 92 => some i92
 | 93 => some i93
 | 94 => some i94
 | 95 => some i95
 | 96 => some i96
 | 97 => some i97
 | 100 => some i100
 | 101 => some i101
 | 102 => some i102
 | 103 => some i103
 | 104 => some i104
 | 105 => some i105
 | 106 => some i106
 | 109 => some i109
 | 110 => some i110
 | 111 => some i111
 | 127 => some i127
 | 130 => some i130
 | 131 => some i131
 | 132 => some i132
 | 133 => some i133
 | 134 => some i134
 | 135 => some i135
 | 136 => some i136
 | 137 => some i137
 | 138 => some i138
 | 139 => some i139
 | 140 => some i140
 | 141 => some i141
 | 142 => some i142
 | 143 => some i143
 | 144 => some i144
 | 145 => some i145
 | 146 => some i146
 | 149 => some i149
 | 150 => some i150
 | 151 => some i151
 | 156 => some i156
 | 165 => some i165
 | 166 => some i166
 | 190 => some i190
 | 191 => some i191
 | 192 => some i192
 | 193 => some i193
 | 194 => some i194
 | 195 => some i195
 | 196 => some i196
 | 197 => some i197
 | 198 => some i198
 | 199 => some i199
 | 200 => some i200
 | 201 => some i201
 | 204 => some i204
 | 226 => some i226
 | 227 => some i227
 | 228 => some i228
 | 229 => some i229
 | 243 => some i243
 | 244 => some i244
 | 245 => some i245
 | 253 => some i253
 | _ => none
end Go.Proofs.YtmeakjgbjldkdaaGreat.Ai
namespace Go.Proofs
open Go.Shelf
open Go.RowKit in
def Tryz.lays156_ren : Go.Shelf.Ren:=⟨fun | 156 => 54 | 165 => 98 | 166 => 99 | 169 => 87 | 240 => 147 | 241 => 148 | 276 => 202 | 277 => 203 | n => n,fun | 31 => 29 | 9 => 9 | 3 => 3 | 4 => 4 | 0 => 0 | 20 => 20 | 72 => 156 | 76 => 178 | 70 => 153 | 37 => 154 | 75 => 177 | 127 => 204 | 164 => 262 | 5 => 5 | 80 => 162 | n => n,fun | n => n⟩
theorem Tryz.lays156 : Go.Proofs.Lays.n156 Tryz.prog Tryz.lays156_ren:={
 mixed:=by kernel_rfl
 f156:=Tryz.func54.trans (congrArg some (by kernel_rfl))
 f165:=Tryz.func98.trans (congrArg some (by kernel_rfl))
 f166:=Tryz.func99.trans (congrArg some (by kernel_rfl))
 f169:=Tryz.func87.trans (congrArg some (by kernel_rfl))
 f240:=Tryz.func147.trans (congrArg some (by kernel_rfl))
 f241:=Tryz.func148.trans (congrArg some (by kernel_rfl))
 f276:=Tryz.func202.trans (congrArg some (by kernel_rfl))
 f277:=Tryz.func203.trans (congrArg some (by kernel_rfl))
 t0:=Tryz.underlying0
 a0:=Tryz.isAgg0
 z0:=Tryz.sizeOf0
 v0:=Tryz.zeroValue0
 t3:=Tryz.underlying3
 a3:=Tryz.isAgg3
 z3:=Tryz.sizeOf3
 v3:=Tryz.zeroValue3
 t4:=Tryz.underlying4
 a4:=Tryz.isAgg4
 z4:=Tryz.sizeOf4
 v4:=Tryz.zeroValue4
 t9:=Tryz.underlying9
 a9:=Tryz.isAgg9
 z9:=Tryz.sizeOf9
 v9:=Tryz.zeroValue9
 t20:=Tryz.underlying20
 a20:=Tryz.isAgg20
 z20:=Tryz.sizeOf20
 v20:=Tryz.zeroValue20
 t31:=Tryz.underlying29
 a31:=Tryz.isAgg29
 z31:=Tryz.sizeOf29
 v31:=Tryz.zeroValue29
 t37:=Tryz.underlying154
 a37:=Tryz.isAgg154
 z37:=Tryz.sizeOf154
 v37:=Tryz.zeroValue154
 t70:=Tryz.underlying153
 a70:=Tryz.isAgg153
 z70:=Tryz.sizeOf153
 v70:=Tryz.zeroValue153
 t72:=Tryz.underlying156
 a72:=Tryz.isAgg156
 z72:=Tryz.sizeOf156
 v72:=Tryz.zeroValue156
 t75:=Tryz.underlying177
 a75:=Tryz.isAgg177
 z75:=Tryz.sizeOf177
 v75:=Tryz.zeroValue177
 t76:=Tryz.underlying178
 a76:=Tryz.isAgg178
 z76:=Tryz.sizeOf178
 v76:=Tryz.zeroValue178
 t127:=Tryz.underlying204
 a127:=Tryz.isAgg204
 z127:=Tryz.sizeOf204
 v127:=Tryz.zeroValue204
 t164:=Tryz.underlying262
 a164:=Tryz.isAgg262
 z164:=Tryz.sizeOf262
 v164:=Tryz.zeroValue262}
theorem Tryz.Builder_Extra_156 : Builder.Extra Tryz.prog Tryz.lays156_ren:={
 sizeBuilder:=by kernel_rfl
 liesBuilder:=by kernel_rfl
 t5:=Tryz.underlying5
 a5:=Tryz.isAgg5
 z5:=Tryz.sizeOf5
 v5:=Tryz.zeroValue5
 infoByte:=by kernel_rfl
 cellsByte:=by kernel_rfl
 sizeByte:=by kernel_rfl
 neB5:=by decide}
open Go.RowKit in
theorem Tryz.strings_Join_none (a : Option Addr) (c : Nat) (sep : ByteArray) (w : World) :
  Calls Tryz.prog 54 #[.slice a 0 c,.string sep] w fun e w' => e = .returned (.string ⟨#[]⟩) ∧ w' = w:=Any.strings_Join_none Tryz.lays156 Tryz.Builder_Extra_156 a c sep w
open Go.RowKit in
theorem Tryz.strings_Join (bk o c : Nat) (xs : List ByteArray) (sep : ByteArray) (w : World) (hcells : ∀ (j : Nat) x,xs[j]? = some x → w.cell? ⟨bk,o + j,none⟩ = some (.string x)) (hbk : bk < w.heap.size) (hN : xs.length ≤ 140737488355328) (hcap : xs.length ≤ c) (hlen : (Lib.join (xs.map (·.data.toList)) sep.data.toList).length ≤ 140737488355328) :
  Calls Tryz.prog 54 #[.slice (some ⟨bk,o,none⟩) xs.length c,.string sep] w fun e w' => e = .returned (.string ⟨(Lib.join (xs.map (·.data.toList)) sep.data.toList).toArray⟩) ∧ Below w.heap.size w w':=Any.strings_Join Tryz.lays156 Tryz.Builder_Extra_156 bk o c xs sep w hcells hbk hN hcap hlen
open Go.RowKit in
def Tryz.lays190_ren : Go.Shelf.Ren:=⟨fun | 190 => 60 | 125 => 110 | 258 => 109 | 128 => 165 | 129 => 166 | 302 => 156 | 303 => 157 | 304 => 158 | 305 => 159 | 306 => 160 | 307 => 161 | 308 => 162 | 309 => 163 | 310 => 164 | 333 => 209 | 329 => 210 | 330 => 211 | 334 => 212 | 335 => 213 | 336 => 214 | 344 => 238 | n => n,fun | 31 => 29 | 9 => 9 | 3 => 3 | 46 => 186 | 0 => 0 | 51 => 114 | 53 => 234 | 4 => 4 | 183 => 227 | 182 => 226 | 131 => 108 | 5 => 5 | 218 => 269 | 222 => 273 | 228 => 286 | 229 => 53 | n => n,fun | n => n⟩
theorem Tryz.lays190 : Go.Proofs.Lays.n190 Tryz.prog Tryz.lays190_ren:={
 mixed:=by kernel_rfl
 f125:=Tryz.func110.trans (congrArg some (by kernel_rfl))
 f128:=Tryz.func165.trans (congrArg some (by kernel_rfl))
 f129:=Tryz.func166.trans (congrArg some (by kernel_rfl))
 f190:=Tryz.func60.trans (congrArg some (by kernel_rfl))
 f258:=Tryz.func109.trans (congrArg some (by kernel_rfl))
 f302:=Tryz.func156.trans (congrArg some (by kernel_rfl))
 f303:=Tryz.func157.trans (congrArg some (by kernel_rfl))
 f304:=Tryz.func158.trans (congrArg some (by kernel_rfl))
 f305:=Tryz.func159.trans (congrArg some (by kernel_rfl))
 f306:=Tryz.func160.trans (congrArg some (by kernel_rfl))
 f307:=Tryz.func161.trans (congrArg some (by kernel_rfl))
 f308:=Tryz.func162.trans (congrArg some (by kernel_rfl))
 f309:=Tryz.func163.trans (congrArg some (by kernel_rfl))
 f310:=Tryz.func164.trans (congrArg some (by kernel_rfl))
 f329:=Tryz.func210.trans (congrArg some (by kernel_rfl))
 f330:=Tryz.func211.trans (congrArg some (by kernel_rfl))
 f333:=Tryz.func209.trans (congrArg some (by kernel_rfl))
 f334:=Tryz.func212.trans (congrArg some (by kernel_rfl))
 f335:=Tryz.func213.trans (congrArg some (by kernel_rfl))
 f336:=Tryz.func214.trans (congrArg some (by kernel_rfl))
 f344:=Tryz.func238.trans (congrArg some (by kernel_rfl))
 t0:=Tryz.underlying0
 a0:=Tryz.isAgg0
 z0:=Tryz.sizeOf0
 v0:=Tryz.zeroValue0
 t3:=Tryz.underlying3
 a3:=Tryz.isAgg3
 z3:=Tryz.sizeOf3
 v3:=Tryz.zeroValue3
 t4:=Tryz.underlying4
 a4:=Tryz.isAgg4
 z4:=Tryz.sizeOf4
 v4:=Tryz.zeroValue4
 t5:=Tryz.underlying5
 a5:=Tryz.isAgg5
 z5:=Tryz.sizeOf5
 v5:=Tryz.zeroValue5
 t9:=Tryz.underlying9
 a9:=Tryz.isAgg9
 z9:=Tryz.sizeOf9
 v9:=Tryz.zeroValue9
 t31:=Tryz.underlying29
 a31:=Tryz.isAgg29
 z31:=Tryz.sizeOf29
 v31:=Tryz.zeroValue29
 t46:=Tryz.underlying186
 a46:=Tryz.isAgg186
 z46:=Tryz.sizeOf186
 v46:=Tryz.zeroValue186
 t51:=Tryz.underlying114
 a51:=Tryz.isAgg114
 z51:=Tryz.sizeOf114
 v51:=Tryz.zeroValue114
 t53:=Tryz.underlying234
 a53:=Tryz.isAgg234
 z53:=Tryz.sizeOf234
 v53:=Tryz.zeroValue234
 t131:=Tryz.underlying108
 a131:=Tryz.isAgg108
 z131:=Tryz.sizeOf108
 v131:=Tryz.zeroValue108
 t182:=Tryz.underlying226
 a182:=Tryz.isAgg226
 z182:=Tryz.sizeOf226
 v182:=Tryz.zeroValue226
 t183:=Tryz.underlying227
 a183:=Tryz.isAgg227
 z183:=Tryz.sizeOf227
 v183:=Tryz.zeroValue227
 t218:=Tryz.underlying269
 a218:=Tryz.isAgg269
 z218:=Tryz.sizeOf269
 v218:=Tryz.zeroValue269
 t222:=Tryz.underlying273
 a222:=Tryz.isAgg273
 z222:=Tryz.sizeOf273
 v222:=Tryz.zeroValue273
 t228:=Tryz.underlying286
 a228:=Tryz.isAgg286
 z228:=Tryz.sizeOf286
 v228:=Tryz.zeroValue286
 t229:=Tryz.underlying53
 a229:=Tryz.isAgg53
 z229:=Tryz.sizeOf53
 v229:=Tryz.zeroValue53}
open Go.Sort Go.RowKit in
theorem Tryz.slices_Sort_string (blk off cap : Nat) (ss : List (List UInt8)) (w : World) (hH : Holds encStr w blk off ss.toArray) (hblk : blk < w.heap.size) (hsz : ss.length < 4611686018427387904) :
  Calls Tryz.prog 60 #[.slice (some ⟨blk,off,none⟩) ss.length cap] w fun e w' =>
   e = .returned (.tuple #[]) ∧ ∃ n os,w' = grow (putRow encStr (Sort.ahead w n) blk off (ss.mergeSort fun x y => decide (x ≤ y)).toArray) os:=Any.slices_Sort_string Tryz.lays190 blk off cap ss w hH hblk hsz
def Tryz.laysNm216_ren : Go.Shelf.Ren:=⟨fun | 16 => 62 | n => n,fun | 24 => 29 | 9 => 9 | 4 => 4 | n => n,fun | n => n⟩
theorem Tryz.laysNm216 : Go.Proofs.Lays2.n16 Tryz.prog Tryz.laysNm216_ren:={
 mixed:=by kernel_rfl
 f16:=Tryz.func62.trans (congrArg some (by kernel_rfl))
 t4:=Tryz.underlying4
 a4:=Tryz.isAgg4
 z4:=Tryz.sizeOf4
 v4:=Tryz.zeroValue4
 t9:=Tryz.underlying9
 a9:=Tryz.isAgg9
 z9:=Tryz.sizeOf9
 v9:=Tryz.zeroValue9
 t24:=Tryz.underlying29
 a24:=Tryz.isAgg29
 z24:=Tryz.sizeOf29
 v24:=Tryz.zeroValue29
 i9:=by kernel_rfl}
open Go.RowKit Go.Lib in
theorem Tryz.slices_Clone_string (b off n c : Nat) (zs : List ByteArray) (w : World) (hz : n ≤ zs.length) (hbig : n * 16 ≤ 140737488355328) (hc : ∀ j,j < zs.length → w.cell? ⟨b,off + j,none⟩ = some (.string (zs.getD j ByteArray.empty))) :
  Calls Tryz.prog 62 #[.slice (some ⟨b,off,none⟩) n c] w fun e w' => ∃ v',e = .returned v' ∧ w'.ownsRow w.heap.size 9 1 v' n ((zs.take n).map (Value.string)) ∧ v' ≠ .slice none 0 0 ∧ Below w.heap.size w w':=Any.slices_Clone_string Tryz.laysNm216 b off n c zs w hz hbig hc
open Go.RowKit Go.Lib in
theorem Tryz.slices_Clone_string_nil (n c : Nat) (w : World) :
  Calls Tryz.prog 62 #[.slice none n c] w fun e w' => e = .returned (.slice none 0 0) ∧ w' = w:=Any.slices_Clone_string_nil Tryz.laysNm216 n c w
open Go.RowKit Go.Lib in
theorem Tryz.slices_Clone_string_zero (a : Addr) (c : Nat) (w : World) :
  Calls Tryz.prog 62 #[.slice (some a) 0 c] w fun e w' => ∃ v',e = .returned v' ∧ w'.ownsRow w.heap.size 9 1 v' 0 [] ∧ v' ≠ .slice none 0 0 ∧ Below w.heap.size w w':=Any.slices_Clone_string_zero Tryz.laysNm216 a c w
def Tryz.lays194_ren : Go.Shelf.Ren:=⟨fun | 194 => 61 | n => n,fun | 31 => 29 | 9 => 9 | 3 => 3 | 4 => 4 | 0 => 0 | n => n,fun | n => n⟩
theorem Tryz.lays194 : Go.Proofs.Lays.n194 Tryz.prog Tryz.lays194_ren:={
 mixed:=by kernel_rfl
 f194:=Tryz.func61.trans (congrArg some (by kernel_rfl))
 t0:=Tryz.underlying0
 a0:=Tryz.isAgg0
 z0:=Tryz.sizeOf0
 v0:=Tryz.zeroValue0
 t3:=Tryz.underlying3
 a3:=Tryz.isAgg3
 z3:=Tryz.sizeOf3
 v3:=Tryz.zeroValue3
 t4:=Tryz.underlying4
 a4:=Tryz.isAgg4
 z4:=Tryz.sizeOf4
 v4:=Tryz.zeroValue4
 t9:=Tryz.underlying9
 a9:=Tryz.isAgg9
 z9:=Tryz.sizeOf9
 v9:=Tryz.zeroValue9
 t31:=Tryz.underlying29
 a31:=Tryz.isAgg29
 z31:=Tryz.sizeOf29
 v31:=Tryz.zeroValue29}
open Go.RowKit Go.Lib Go.Sort in
theorem Tryz.slices_Compact_string (blk off cap : Nat) (zs : List (List UInt8)) (w : World) (hH : Holds encStr w blk off zs.toArray) (hsz : zs.length ≤ 9223372036854775807) (hcap : zs.length ≤ cap) :
  Calls Tryz.prog 61 #[.slice (some ⟨blk,off,none⟩) zs.length cap] w fun e w' => e = .returned (.slice (some ⟨blk,off,none⟩) (Lib.compact zs).length cap) ∧ ∃ q,w' = putRow encStr (Sort.ahead w q) blk off (Lib.compact zs ++ List.replicate (zs.length - (Lib.compact zs).length) []).toArray:=Any.slices_Compact_string Tryz.lays194 blk off cap zs w hH hsz hcap
open Go.RowKit Go.Lib Go.Sort in
theorem Tryz.slices_Compact_string_empty (a : Option Addr) (cap : Nat) (w : World) :
  Calls Tryz.prog 61 #[.slice a 0 cap] w fun e w' => e = .returned (.slice a 0 cap) ∧ w' = w:=Any.slices_Compact_string_empty Tryz.lays194 a cap w
open Go.RowKit Go.Sort in
theorem Tryz.slices_Sort_string_none (p : Option Addr) (cap : Nat) (w : World) :
  Calls Tryz.prog 60 #[.slice p 0 cap] w fun e w' => e = .returned (.tuple #[]) ∧ w' = w:=Any.slices_Sort_string_none Tryz.lays190 p cap w
end Go.Proofs
