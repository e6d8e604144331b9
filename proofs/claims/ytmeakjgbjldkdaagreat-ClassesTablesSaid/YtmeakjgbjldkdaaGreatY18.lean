/- A part of what is proved: L13, M1, M2, D0q, L15, F1c, Q1, Q2a, Q2b, Q2c, Q2d, Q2e, Q3, Q4, D1q, D3. No condition. -/
import Derived.Test.YtmeakjgbjldkdaaGreatY17
import Derived.Test.YtmeakjgbjldkdaaGreatProg
import Derived.KernelRfl
set_option maxRecDepth 100000
set_option maxHeartbeats 16000000
namespace Go.Proofs.YtmeakjgbjldkdaaGreat.Ai
open Go
set_option maxRecDepth 100000
set_option maxHeartbeats 16000000
def F38a : {l : List IC // Tr.fn Tr.TT Tryz.f38 0 [[0,1,2],[0,1,2,8],[0,1,2,8,18],[6,7],[0,2,8,9],[0,2,8,9,26],[0,2,8,10],[0,2,9,10],[0,2,9,10,11],[0,2,9,10,11,35],[0,2,9,10,11,41],[0,2,9,10,11],[0,2,9,10,11],[0,2,9,12],[0,2,9,12,49],[0,2,9,12,13],[0,2,9,12,13,62],[6,7],[0,2,9,12],[6,7]] = l}:=⟨_,by cbv⟩
def r38_0 : IC:=Tr.pk F38a.1 0
def r38_1 : IC:=Tr.pk F38a.1 1
def r38_2 : IC:=Tr.pk F38a.1 2
def r38_3 : IC:=Tr.pk F38a.1 3
def r38_4 : IC:=Tr.pk F38a.1 4
def r38_5 : IC:=Tr.pk F38a.1 5
def r38_6 : IC:=Tr.pk F38a.1 6
def r38_7 : IC:=Tr.pk F38a.1 7
def r38_8 : IC:=Tr.pk F38a.1 8
def r38_9 : IC:=Tr.pk F38a.1 9
def r38_10 : IC:=Tr.pk F38a.1 10
def r38_11 : IC:=Tr.pk F38a.1 11
def r38_12 : IC:=Tr.pk F38a.1 12
def r38_13 : IC:=Tr.pk F38a.1 13
def r38_14 : IC:=Tr.pk F38a.1 14
def r38_15 : IC:=Tr.pk F38a.1 15
def r38_16 : IC:=Tr.pk F38a.1 16
def r38_17 : IC:=Tr.pk F38a.1 17
def r38_18 : IC:=Tr.pk F38a.1 18
def r38_19 : IC:=Tr.pk F38a.1 19
noncomputable def i38 : IFn:=⟨3,(.seq r38_0 (.seq r38_1 (.seq (.seq r38_2 (.cond (.tmp 18) (.seq r38_3 .ret) (.skip))) (.seq r38_4 (.seq (.seq r38_5 (.cond (.tmp 26) (.seq r38_6 (.seq r38_7 (.seq r38_8 (.block 0 (.loop [0,2,9,10,11] (.seq (.seq r38_9 (.cond (.tmp 35) (.skip) (.exit 0))) (.seq (.block 1 (.seq r38_10 (.cond (.tmp 41) r38_11 (.skip)))) r38_12))))))) (.skip))) (.seq (.seq r38_13 (.block 2 (.loop [0,2,9,12] (.seq (.seq r38_14 (.cond (.tmp 49) (.skip) (.exit 2))) (.seq (.block 3 (.seq r38_15 (.seq r38_16 (.cond (.tmp 62) (.seq r38_17 .ret) (.skip))))) r38_18))))) (.seq r38_19 .ret))))))),[.tmp 6,.tmp 7]⟩
def F39a : {l : List IC // Tr.fn Tr.TT Tryz.f39 0 [[0,1,2],[0,1,2,7],[2,7,12,13,14],[2,7,12,13,14,15],[2,7,9,12,13,14],[2,7,9,12,13,14,22],[2,7,12,13,14],[2,7,12,13,14],[6]] = l}:=⟨_,by cbv⟩
def r39_0 : IC:=Tr.pk F39a.1 0
def r39_1 : IC:=Tr.pk F39a.1 1
def r39_2 : IC:=Tr.pk F39a.1 2
def r39_3 : IC:=Tr.pk F39a.1 3
def r39_4 : IC:=Tr.pk F39a.1 4
def r39_5 : IC:=Tr.pk F39a.1 5
def r39_6 : IC:=Tr.pk F39a.1 6
def r39_7 : IC:=Tr.pk F39a.1 7
def r39_8 : IC:=Tr.pk F39a.1 8
noncomputable def i39 : IFn:=⟨3,(.seq r39_0 (.seq r39_1 (.seq (.seq r39_2 (.block 0 (.loop [2,7,12,13,14] (.seq r39_3 (.seq (.cond (.tmp 15) (.skip) (.exit 0)) (.seq (.block 1 (.seq r39_4 (.seq r39_5 (.cond (.tmp 22) r39_6 (.skip))))) r39_7)))))) (.seq r39_8 .ret)))),[.tmp 6]⟩
def F70a : {l : List IC // Tr.fn Tr.TT Tryz.f70 0 [[0,1],[4]] = l}:=⟨_,by cbv⟩
def r70_0 : IC:=Tr.pk F70a.1 0
def r70_1 : IC:=Tr.pk F70a.1 1
noncomputable def i70 : IFn:=⟨2,(.seq r70_0 (.seq r70_1 .ret)),[.tmp 4]⟩
def F71a : {l : List IC // Tr.fn Tr.TT Tryz.f71 0 [[1,2],[3]] = l}:=⟨_,by cbv⟩
def r71_0 : IC:=Tr.pk F71a.1 0
def r71_1 : IC:=Tr.pk F71a.1 1
noncomputable def i71 : IFn:=⟨2,(.seq r71_0 (.seq r71_1 .ret)),[.tmp 3]⟩
def F75a : {l : List IC // Tr.fn Tr.TT Tryz.f75 0 [[1,2],[1,2,5],[1,2,5,10],[1,2,5,27],[4],[1,2,5],[4]] = l}:=⟨_,by cbv⟩
def r75_0 : IC:=Tr.pk F75a.1 0
def r75_1 : IC:=Tr.pk F75a.1 1
def r75_2 : IC:=Tr.pk F75a.1 2
def r75_3 : IC:=Tr.pk F75a.1 3
def r75_4 : IC:=Tr.pk F75a.1 4
def r75_5 : IC:=Tr.pk F75a.1 5
def r75_6 : IC:=Tr.pk F75a.1 6
noncomputable def i75 : IFn:=⟨2,(.seq r75_0 (.seq (.seq r75_1 (.block 0 (.loop [1,2,5] (.seq (.seq r75_2 (.cond (.tmp 10) (.skip) (.exit 0))) (.seq (.block 1 (.seq r75_3 (.cond (.tmp 27) (.seq r75_4 .ret) (.skip)))) r75_5))))) (.seq r75_6 .ret))),[.tmp 4]⟩
def F112a : {l : List IC // Tr.fn Tr.TT Tryz.f112 0 [[0,1],[0,1,7,8],[0,1,7,8,9],[0,1,5,7,8],[0,1,5,7,8,16],[4],[0,1,7,8],[4]] = l}:=⟨_,by cbv⟩
def r112_0 : IC:=Tr.pk F112a.1 0
def r112_1 : IC:=Tr.pk F112a.1 1
def r112_2 : IC:=Tr.pk F112a.1 2
def r112_3 : IC:=Tr.pk F112a.1 3
def r112_4 : IC:=Tr.pk F112a.1 4
def r112_5 : IC:=Tr.pk F112a.1 5
def r112_6 : IC:=Tr.pk F112a.1 6
def r112_7 : IC:=Tr.pk F112a.1 7
noncomputable def i112 : IFn:=⟨2,(.seq r112_0 (.seq (.seq r112_1 (.block 0 (.loop [0,1,7,8] (.seq r112_2 (.seq (.cond (.tmp 9) (.skip) (.exit 0)) (.seq (.block 1 (.seq r112_3 (.seq r112_4 (.cond (.tmp 16) (.seq r112_5 .ret) (.skip))))) r112_6)))))) (.seq r112_7 .ret))),[.tmp 4]⟩
def F7a : {l : List IC // Tr.fn Tr.TT Tryz.f7 0 [[0,1],[0,1,21],[4],[1,5,6],[1,5,6,28],[4],[1,5,6,7],[1,5,6,7,8],[1,5,6,7,8,34],[1,5,6,7,8,9],[1,5,6,7,8,9,10],[1,5,6,7,8,9,10,11],[1,5,6,7,8,9,10,11,47],[1,5,6,7,8,9,10,11,12,13],[1,5,6,7,8,9,10,11,12,13,14,15],[1,5,6,7,8,9,10,11,12,13,14,15,81],[4],[1,5,6,7,8,9,10,11,12,13,14,83],[1,5,6,7,8,9,10,11,14,115],[4],[1,5,6,7,8,9,10,11,153],[4]] = l}:=⟨_,by cbv⟩
def r7_0 : IC:=Tr.pk F7a.1 0
def r7_1 : IC:=Tr.pk F7a.1 1
def r7_2 : IC:=Tr.pk F7a.1 2
def r7_3 : IC:=Tr.pk F7a.1 3
def r7_4 : IC:=Tr.pk F7a.1 4
def r7_5 : IC:=Tr.pk F7a.1 5
def r7_6 : IC:=Tr.pk F7a.1 6
def r7_7 : IC:=Tr.pk F7a.1 7
def r7_8 : IC:=Tr.pk F7a.1 8
def r7_9 : IC:=Tr.pk F7a.1 9
def r7_10 : IC:=Tr.pk F7a.1 10
def r7_11 : IC:=Tr.pk F7a.1 11
def r7_12 : IC:=Tr.pk F7a.1 12
def r7_13 : IC:=Tr.pk F7a.1 13
def r7_14 : IC:=Tr.pk F7a.1 14
def r7_15 : IC:=Tr.pk F7a.1 15
def r7_16 : IC:=Tr.pk F7a.1 16
def r7_17 : IC:=Tr.pk F7a.1 17
def r7_18 : IC:=Tr.pk F7a.1 18
def r7_19 : IC:=Tr.pk F7a.1 19
def r7_20 : IC:=Tr.pk F7a.1 20
def r7_21 : IC:=Tr.pk F7a.1 21
def F7b : {l : List IC // Tr.fn Tr.TT Tryz.f7 22 [[1,5,6,7,8,9,10,11],[1,5,6,7,8,9,10,11],[1,5,6,7,8,9,10,17],[1,5,6,7,8,9,10,17,18],[1,5,6,7,8,187],[4],[1,5,6,7,8],[4]] = l}:=⟨_,by cbv⟩
def r7_22 : IC:=Tr.pk F7b.1 0
def r7_23 : IC:=Tr.pk F7b.1 1
def r7_24 : IC:=Tr.pk F7b.1 2
def r7_25 : IC:=Tr.pk F7b.1 3
def r7_26 : IC:=Tr.pk F7b.1 4
def r7_27 : IC:=Tr.pk F7b.1 5
def r7_28 : IC:=Tr.pk F7b.1 6
def r7_29 : IC:=Tr.pk F7b.1 7
noncomputable def i7 : IFn:=⟨2,(.seq r7_0 (.seq (.seq r7_1 (.cond (.tmp 21) (.seq r7_2 .ret) (.skip))) (.seq r7_3 (.seq (.seq r7_4 (.cond (.tmp 28) (.seq r7_5 .ret) (.skip))) (.seq r7_6 (.seq (.seq r7_7 (.block 0 (.loop [1,5,6,7,8] (.seq (.seq r7_8 (.cond (.tmp 34) (.skip) (.exit 0))) (.seq (.block 1 (.seq r7_9 (.seq r7_10 (.seq (.seq r7_11 (.block 2 (.loop [1,5,6,7,8,9,10,11] (.seq (.seq r7_12 (.cond (.tmp 47) (.skip) (.exit 2))) (.seq (.block 3 (.seq r7_13 (.seq r7_14 (.seq (.seq r7_15 (.cond (.tmp 81) (.seq r7_16 .ret) (.skip))) (.seq (.seq r7_17 (.cond (.tmp 83) (.exit 3) (.skip))) (.seq (.seq r7_18 (.cond (.tmp 115) (.seq r7_19 .ret) (.skip))) (.seq (.seq r7_20 (.cond (.tmp 153) (.seq r7_21 .ret) (.skip))) r7_22))))))) r7_23))))) (.seq r7_24 (.seq r7_25 (.seq r7_26 (.cond (.tmp 187) (.seq r7_27 .ret) (.skip))))))))) r7_28))))) (.seq r7_29 .ret))))))),[.tmp 4]⟩
theorem c7 : chkFn Tryz.prog Tryz.f7 i7 = true:=by kernel_rfl
end Go.Proofs.YtmeakjgbjldkdaaGreat.Ai
namespace Go.Proofs.YtmeakjgbjldkdaaGreat.Ai
open Go
variable {pr : Prims} {F : Nat → Option IFn}
structure LibM (pr : Prims) (F : Nat → Option IFn) : Prop extends LibG pr F where
 f38 : Has pr F 38 i38
 f39 : Has pr F 39 i39
 f70 : Has pr F 70 i70
 f71 : Has pr F 71 i71
 f75 : Has pr F 75 i75
 f112 : Has pr F 112 i112
end Go.Proofs.YtmeakjgbjldkdaaGreat.Ai
namespace Go.Proofs.YtmeakjgbjldkdaaGreat.Ai
open Go
variable {pr : Prims} {F : Nat → Option IFn}
theorem ap_grow {K : AV → St → Prop} {rw0 rw : List Nat} {sz by_ : Nat} {v : AV} {rows : List (List AV)} {row : List AV} {H : List Blk} (h : Grow rw0 sz v rows rw) (hx : Rx rw0 rw) (hb : (rows.length + 1) * by_ ≤ maxRow) (hl : rows.length + 1 ≤ maxRow) (hs : 0 < sz)
  (hk : ∀ v' rw',Grow rw0 sz v' (rows ++ [row]) rw' → Rx rw0 rw' → K v' ⟨H,rw'⟩) : ApAt sz by_ v (.list sz .full [row]) ⟨H,rw⟩ K:=by
 obtain ⟨v',rw',h1,h2,h3⟩:=h.push (H:=H) (row:=row) hx hb hl hs
 exact ⟨_,_,h1,hk v' rw' h2 h3⟩
theorem wx_keepQ {pr : Prims} {F : Nat → Option IFn} {b0 : Nat} {c : IC} {e : Env} {S S' : St} {Q Q' : Ex → Env → St → Prop} (h : At pr F b0 Q c [] e S') (hS : S' = S) (hQ : ∀ x e S,Q x e S → Q' x e S) : Wx pr F b0 c e S Q':=by
 subst hS
 exact Wx.mono h.h hQ
end Go.Proofs.YtmeakjgbjldkdaaGreat.Ai
namespace Go.Proofs.YtmeakjgbjldkdaaGreat.Ai
open Go
def putS (s : Str) : List Str → Bool → List Str
 | [],d => if d then [] else [s]
 | x :: l,d => if d = false ∧ leB s x = true then (if Op.bytesLess s x then s :: x :: putS s l true else x :: putS s l true) else x :: putS s l d
theorem putS_true (s : Str) : ∀ l : List Str,putS s l true = l
 | [] => rfl
 | x :: l => by
  unfold putS
  rw [if_neg (by simp),putS_true s l]
theorem putS_false (s x : Str) (l : List Str) : putS s (x :: l) false = if leB s x = true then (if Op.bytesLess s x = true then s :: x :: l else x :: l) else x :: putS s l false:=by
 rw [putS]
 simp only [true_and,putS_true]
theorem putS_mem {s y : Str} : ∀ {l : List Str},y ∈ putS s l false ↔ y = s ∨ y ∈ l
 | [] => by simp [putS]
 | x :: l => by
  rw [putS_false]
  by_cases h1 : leB s x = true
  ·rw [if_pos h1]
   by_cases h2 : Op.bytesLess s x = true
   ·rw [if_pos h2]; simp
   ·rw [if_neg h2]
    have : s = x:=by
     unfold leB at h1
     have h2' : Op.bytesLess s x = false:=by simpa using h2
     rw [h2'] at h1
     simpa using h1
    subst this
    simp
  ·rw [if_neg h1]
   rw [List.mem_cons,putS_mem,List.mem_cons]
   constructor
   ·rintro (h | h | h)
    ·exact .inr (.inl h)
    ·exact .inl h
    ·exact .inr (.inr h)
   ·rintro (h | h | h)
    ·exact .inr (.inl h)
    ·exact .inl h
    ·exact .inr (.inr h)
def Rising (l : List Str) : Prop:=l.Pairwise fun a b => a < b
theorem less_iff {a b : Str} : Op.bytesLess a b = true ↔ a < b:=by
 rw [Go.Proofs.bytesLess_eq,decide_eq_true_eq]
theorem putS_rising {s : Str} : ∀ {l : List Str},Rising l → Rising (putS s l false)
 | [],_ => by simp [putS,Rising]
 | x :: l,h => by
  have h':=List.pairwise_cons.1 h
  rw [putS_false]
  by_cases h1 : leB s x = true
  ·rw [if_pos h1]
   by_cases h2 : Op.bytesLess s x = true
   ·rw [if_pos h2]
    have h3:=less_iff.1 h2
    refine List.pairwise_cons.2 ⟨fun y hy => ?_,h⟩
    rcases List.mem_cons.1 hy with rfl | hy
    ·exact h3
    ·exact List.lt_trans h3 (h'.1 y hy)
   ·rw [if_neg h2]; exact h
  ·rw [if_neg h1]
   refine List.pairwise_cons.2 ⟨fun y hy => ?_,putS_rising h'.2⟩
   rcases putS_mem.1 hy with rfl | hy
   ·rw [leB_eq,decide_eq_true_eq] at h1
    exact List.not_le.1 h1
   ·exact h'.1 y hy
theorem putS_len (s : Str) : ∀ (l : List Str),(putS s l false).length ≤ l.length + 1
 | [] => by simp [putS]
 | x :: l => by
  have ih:=putS_len s l
  rw [putS_false]
  split
  ·split <;> simp
  ·simp only [List.length_cons]; omega
def sigsC (c : Cls) : List Str:=c.meths.map fun m => sigT m.name m.params
def sigsF (cs : List Cls) : List Str:=cs.flatMap sigsC
def putAll (l : List Str) (ss : List Str) : List Str:=ss.foldl (fun l s => putS s l false) l
def slotsF (cs : List Cls) : List Str:=putAll [] (sigsF cs)
theorem putAll_rising : ∀ (ss l : List Str),Rising l → Rising (putAll l ss)
 | [],_,h => h
 | s :: ss,l,h => putAll_rising ss (putS s l false) (putS_rising h)
theorem putAll_mem {y : Str} : ∀ {ss l : List Str},y ∈ putAll l ss ↔ y ∈ l ∨ y ∈ ss
 | [],l => by simp [putAll]
 | s :: ss,l => by
  show y ∈ putAll (putS s l false) ss ↔ _
  rw [putAll_mem,putS_mem,List.mem_cons]
  constructor
  ·rintro ((h | h) | h)
   ·exact .inr (.inl h)
   ·exact .inl h
   ·exact .inr (.inr h)
  ·rintro (h | h | h)
   ·exact .inl (.inr h)
   ·exact .inl (.inl h)
   ·exact .inr h
theorem putAll_len : ∀ (ss l : List Str),(putAll l ss).length ≤ l.length + ss.length
 | [],l => by simp [putAll]
 | s :: ss,l => by
  have h1:=putAll_len ss (putS s l false)
  have h2:=putS_len s l
  show (putAll (putS s l false) ss).length ≤ _
  simp only [List.length_cons]
  omega
theorem slots_rising (cs : List Cls) : Rising (slotsF cs):=putAll_rising _ _ List.Pairwise.nil
theorem rising_ext : ∀ {a b : List Str},Rising a → Rising b → (∀ x,x ∈ a ↔ x ∈ b) → a = b:=by
 intro a b ha hb h
 have hna : a.Nodup:=ha.imp fun h e => by subst e; exact List.lt_irrefl _ h
 have hnb : b.Nodup:=hb.imp fun h e => by subst e; exact List.lt_irrefl _ h
 exact List.Perm.eq_of_pairwise (le:=fun a b => a < b) (fun x y _ _ h1 h2 => absurd (List.lt_trans h1 h2) (List.lt_irrefl _)) ha hb ((List.perm_ext_iff_of_nodup hna hnb).2 h)
end Go.Proofs.YtmeakjgbjldkdaaGreat.Ai
namespace Go.Proofs.YtmeakjgbjldkdaaGreat.Ai
open Go
set_option maxRecDepth 100000
set_option maxHeartbeats 16000000
def F27a : {l : List IC // Tr.fn Tr.TT Tryz.f27 0 [[0,1],[0,1,5],[0,1,5,6],[0,1,5,6,11],[0,1,5,6,7],[0,5,6,7,22],[4],[0,5,6,7],[0,1,5,6],[0,1,5,6],[4]] = l}:=⟨_,by cbv⟩
def r27_0 : IC:=Tr.pk F27a.1 0
def r27_1 : IC:=Tr.pk F27a.1 1
def r27_2 : IC:=Tr.pk F27a.1 2
def r27_3 : IC:=Tr.pk F27a.1 3
def r27_4 : IC:=Tr.pk F27a.1 4
def r27_5 : IC:=Tr.pk F27a.1 5
def r27_6 : IC:=Tr.pk F27a.1 6
def r27_7 : IC:=Tr.pk F27a.1 7
def r27_8 : IC:=Tr.pk F27a.1 8
def r27_9 : IC:=Tr.pk F27a.1 9
def r27_10 : IC:=Tr.pk F27a.1 10
noncomputable def i27 : IFn:=⟨2,(.seq r27_0 (.seq r27_1 (.seq (.seq r27_2 (.block 0 (.loop [0,1,5,6] (.seq (.seq r27_3 (.cond (.tmp 11) (.skip) (.exit 0))) (.seq (.block 1 (.seq r27_4 (.seq (.seq r27_5 (.cond (.tmp 22) (.seq r27_6 .ret) (.skip))) (.seq r27_7 r27_8)))) r27_9))))) (.seq r27_10 .ret)))),[.tmp 4]⟩
theorem c27 : chkFn Tryz.prog Tryz.f27 i27 = true:=by kernel_rfl
def F24a : {l : List IC // Tr.fn Tr.TT Tryz.f24 0 [[0],[0,3],[0,3,4],[0,3,4,9],[0,3,4,5],[0,3,4,5,19],[0,3,4,5],[0,3,4,5],[0,3,4],[2]] = l}:=⟨_,by cbv⟩
def r24_0 : IC:=Tr.pk F24a.1 0
def r24_1 : IC:=Tr.pk F24a.1 1
def r24_2 : IC:=Tr.pk F24a.1 2
def r24_3 : IC:=Tr.pk F24a.1 3
def r24_4 : IC:=Tr.pk F24a.1 4
def r24_5 : IC:=Tr.pk F24a.1 5
def r24_6 : IC:=Tr.pk F24a.1 6
def r24_7 : IC:=Tr.pk F24a.1 7
def r24_8 : IC:=Tr.pk F24a.1 8
def r24_9 : IC:=Tr.pk F24a.1 9
noncomputable def i24 : IFn:=⟨1,(.seq r24_0 (.seq r24_1 (.seq (.seq r24_2 (.block 0 (.loop [0,3,4] (.seq (.seq r24_3 (.cond (.tmp 9) (.skip) (.exit 0))) (.seq (.block 1 (.seq r24_4 (.block 2 (.loop [0,3,4,5] (.seq (.seq r24_5 (.cond (.tmp 19) (.skip) (.exit 2))) (.seq (.block 3 r24_6) r24_7)))))) r24_8))))) (.seq r24_9 .ret)))),[.tmp 2]⟩
theorem c24 : chkFn Tryz.prog Tryz.f24 i24 = true:=by kernel_rfl
def F63a : {l : List IC // Tr.fn Tr.TT Tryz.f63 0 [[0,1],[0,1,5],[0,1,5,6],[0,1,5,6,7],[0,1,5,6,7,11],[0,1,5,6,7,23],[0,1,5,6,7],[0,1,5,6,7,29],[0,1,5,6,7],[0,1,5,6,7],[0,1,5,6,7],[1,5,42],[5],[4]] = l}:=⟨_,by cbv⟩
def r63_0 : IC:=Tr.pk F63a.1 0
def r63_1 : IC:=Tr.pk F63a.1 1
def r63_2 : IC:=Tr.pk F63a.1 2
def r63_3 : IC:=Tr.pk F63a.1 3
def r63_4 : IC:=Tr.pk F63a.1 4
def r63_5 : IC:=Tr.pk F63a.1 5
def r63_6 : IC:=Tr.pk F63a.1 6
def r63_7 : IC:=Tr.pk F63a.1 7
def r63_8 : IC:=Tr.pk F63a.1 8
def r63_9 : IC:=Tr.pk F63a.1 9
def r63_10 : IC:=Tr.pk F63a.1 10
def r63_11 : IC:=Tr.pk F63a.1 11
def r63_12 : IC:=Tr.pk F63a.1 12
def r63_13 : IC:=Tr.pk F63a.1 13
noncomputable def i63 : IFn:=⟨2,(.seq r63_0 (.seq r63_1 (.seq r63_2 (.seq (.seq r63_3 (.block 0 (.loop [0,1,5,6,7] (.seq (.seq r63_4 (.cond (.tmp 11) (.skip) (.exit 0))) (.seq (.block 1 (.seq (.seq r63_5 (.cond (.tmp 23) (.seq r63_6 (.seq r63_7 (.cond (.tmp 29) r63_8 (.skip)))) (.skip))) r63_9)) r63_10))))) (.seq (.seq r63_11 (.cond (.tmp 42) r63_12 (.skip))) (.seq r63_13 .ret)))))),[.tmp 4]⟩
theorem c63 : chkFn Tryz.prog Tryz.f63 i63 = true:=by kernel_rfl
end Go.Proofs.YtmeakjgbjldkdaaGreat.Ai
namespace Go.Proofs.YtmeakjgbjldkdaaGreat.Ai
open Go
variable {pr : Prims} {F : Nat → Option IFn}
structure LibJ (pr : Prims) (F : Nat → Option IFn) : Prop extends LibH pr F where
 f27 : Has pr F 27 i27
end Go.Proofs.YtmeakjgbjldkdaaGreat.Ai
namespace Go.Proofs.YtmeakjgbjldkdaaGreat.Ai
open Go
variable {pr : Prims} {F : Nat → Option IFn}
theorem joinT_snoc (sep x : Str) : ∀ (l : List Str),joinT sep (l ++ [x]) = if l = [] then x else joinT sep l ++ sep ++ x:=by
 intro l
 induction l with
 | nil => simp [joinT]
 | cons y l ih =>
  cases l with
  | nil => simp [joinT]
  | cons w l =>
   simp only [List.cons_append,joinT] at ih ⊢
   rw [ih]
   simp
theorem qx_bind (L : LibE pr F) (x : Xp) : TxOk pr F 229 [.agg (exRow x)] (.int .i64 (bindF x.op)):=by
 have hm:=L.hm
 refine TxOk.of hm ?_
 intro H rw hH
 have hR : Rx rw rw:=Rx.rfl
 obtain ⟨op,name,args,ty,a⟩:=x
 simp only [Xp.op]
 have hd1:=fun S => det_Level L.toLibX S op
 have hle : levelF op ≤ 5:=by
  unfold levelF
  repeat' split
  all_goals omega
 unfold bindF
 refine at_start hm L.f229.1 L.f229.2 rfl ?_
 refine at_seq hm ?_
 unfold r229_0
 show At pr F H.length (fin _ H.length _) _ _ _ _
 refine at_box hm rfl ?_
 intro H1 hH1 hlen hlt
 refine' stH
 all_goals refine fin_retF hH1 rfl rfl ⟨_,hR,?_,rfl⟩
 all_goals first
  | rw [if_pos (Or.inl (by assumption))]
  | rw [if_pos (Or.inr (by assumption))]
  | rw [if_neg (by rintro (h | h) <;> contradiction),if_pos (by omega)]
  | rw [if_neg (by rintro (h | h) <;> contradiction),if_neg (by omega)]
theorem qx_at (L : LibE pr F) (x : Xp) (k : Int) (hx : TxOk pr F 146 [.agg (exRow x)] (.str (exText x))) (hs : (exText x).length ≤ 2147483648) : TxOk pr F 200 [.agg (exRow x),.int .i64 k] (.str (atT (bindF x.op,exText x) k)):=by
 have hm:=L.hm
 refine TxOk.of hm ?_
 intro H rw hH
 have hR : Rx rw rw:=Rx.rfl
 have hb:=qx_bind L x
 refine at_start hm L.f200.1 L.f200.2 rfl ?_
 refine at_seq hm ?_
 unfold r200_0
 show At pr F H.length (fin _ H.length _) _ _ _ _
 refine at_box hm rfl ?_
 intro H1 hH1 hlen hlt
 refine' stH
 ·exact fin_retF hH1 rfl rfl ⟨_,hR,by rw [atT,if_neg (by omega)],rfl⟩
 ·exact fin_retF hH1 rfl rfl ⟨_,hR,by rw [atT,if_pos (by omega)],rfl⟩
theorem qx_texts (L : LibE pr F) (xs : List Xp) (z : Nat) (tag : Tag) (hz : xs ≠ [] → z = 5) (hx : ∀ x ∈ xs,TxOk pr F 146 [.agg (exRow x)] (.str (exText x)) ∧ (exText x).length ≤ 2147483648) (hs : ((xs.map exText).map fun x => x.length + 2).sum ≤ 2147483648) (hxs : xs.length ≤ 42000000) :
  TxOk pr F 199 [.list z tag (exRows xs)] (.str (joinT [44,32] (xs.map exText))):=by
 have hm:=L.hm
 have hlx:=exRows_len xs
 refine TxOk.of0 hm L.f199.1 L.f199.2 rfl ?_
 intro H rw b hlt
 have hR : Rx rw rw:=Rx.rfl
 refine' stH
 refine at_loop hm (fun mm e S' => ∃ (q : Nat) (s : Str) (J : List Blk) (rw3 : List Nat),S' = ⟨hp H 0 b J,rw3⟩ ∧ q ≤ xs.length ∧ s = joinT [44,32] ((xs.take q).map exText) ∧ s.length ≤ 2147483648 ∧ Rx rw rw3 ∧ mm = xs.length - q ∧ e = [(0,.list z tag (exRows xs)),(3,.str s),(4,.int .i64 q)]) ?_ (m:=xs.length) ⟨0,_,[],rw,rfl,by omega,rfl,by simp [joinT],Rx.rfl,rfl,rfl⟩
 clear hR
 rintro mm e S' ⟨q,s,J,rw3,rfl,hq0,hsq,hsl,hR,rfl,rfl⟩
 by_cases hq1 : q < xs.length
 ·obtain ⟨x,hxq⟩ : ∃ x,xs[q]? = some x:=⟨_,List.getElem?_eq_getElem hq1⟩
  have hxr:=exRows_get hxq
  have hz5 : z = 5:=hz (by intro h; rw [h] at hq1; simp at hq1)
  subst hz5
  obtain ⟨hx1,hx2⟩:=hx x (List.mem_of_getElem? hxq)
  have hnew : ∀ s',s' = joinT [44,32] ((xs.take (q + 1)).map exText) → s'.length ≤ 2147483648:=by
   intro s' h
   have h1:=len_joinT [44,32] ((xs.take (q + 1)).map exText)
   rw [h]
   refine Nat.le_trans h1 (Nat.le_trans ?_ hs)
   have h2 : xs.map exText = (xs.take (q + 1)).map exText ++ (xs.drop (q + 1)).map exText:=by rw [← List.map_append,List.take_append_drop]
   rw [h2,List.map_append,List.sum_append]
   exact Nat.le_add_right _ _
  have hjs : joinT [44,32] ((xs.take (q + 1)).map exText) = if q = 0 then exText x else s ++ [44,32] ++ exText x:=by
   rw [take_snoc hxq,List.map_append,List.map_cons,List.map_nil,joinT_snoc,hsq]
   by_cases h0 : q = 0
   ·subst h0; simp
   ·rw [if_neg h0,if_neg]
    intro h
    have:=congrArg List.length h
    simp only [List.length_map,List.length_take,List.length_nil] at this
    omega
  refine' stH
  ·have e1 : s ++ [44,32] ++ exText x = joinT [44,32] ((xs.take (q + 1)).map exText):=by rw [hjs,if_neg (by omega)]
   exact ⟨xs.length - (q + 1),by omega,q + 1,_,J,rwt,rfl,by omega,e1,hnew _ e1,hR,rfl,rfl⟩
  ·have e0 : q = 0:=by omega
   have e1 : s ++ exText x = joinT [44,32] ((xs.take (q + 1)).map exText):=by
    rw [hjs,if_pos e0,hsq,e0]
    simp [joinT]
   exact ⟨xs.length - (q + 1),by omega,q + 1,_,J,rwt,rfl,by omega,e1,hnew _ e1,hR,rfl,rfl⟩
 ·refine' stH
  rw [show q = xs.length by omega,List.take_length] at hsq
  exact fin_ret rfl rfl (hp_take hlt) ⟨_,hR,by rw [hsq],rfl⟩
end Go.Proofs.YtmeakjgbjldkdaaGreat.Ai
namespace Go.Proofs.YtmeakjgbjldkdaaGreat.Ai
open Go
variable {pr : Prims} {F : Nat → Option IFn}
theorem qx_leaf1 (L : LibE pr F) {op name : Str} {args : List Xp} {ty : List Ty} {a : Int} (hka : okExs args) (hkt : okTys ty) (hw : 1 + op.length + name.length + wExs args + wTys ty ≤ 42000000) (IH : ∀ y,wEx y < 1 + op.length + name.length + wExs args + wTys ty → okEx y → TxOk pr F 146 [.agg (exRow y)] (.str (exText y))) (IHt : ∀ t,wTy t < 1 + op.length + name.length + wExs args + wTys ty → okTy t → TxOk pr F 97 [.agg (tyRow t)] (.str (tyText t))) (hop : (op = [110,117,109] ∨ op = [118,97,114]) ∧ args = [] ∧ ty = []) :
  TxOk pr F 146 [.agg (exRow (.mk op name args ty a))] (.str (exText (.mk op name args ty a))):=by
 have hm:=L.hm
 refine TxOk.of hm ?_
 intro H rw hH
 have hal:=wExs_len args
 have hxs:=exRows_len args
 have hR : Rx rw rw:=Rx.rfl
 have hA : ∀ y ∈ args,TxOk pr F 146 [.agg (exRow y)] (.str (exText y)) ∧ (exText y).length ≤ 2147483648:=by
  intro y hy
  have h2:=wExs_mem hy
  have h3:=len_exText y
  exact ⟨IH y (by omega) (okExs_mem hka hy),by omega⟩
 have hsum:=sum_texts args
 have hlt0:=len_exTexts args
 have hg0:=exTexts_getD 0 args
 have hg1:=exTexts_getD 1 args
 have hmap:=exTexts_map args
 have hty:=len_tysText ty
 have hnm : name.length ≤ 42000000:=by omega
 have hopl : op.length ≤ 42000000:=by omega
 simp only [exText]
 refine at_start hm L.f146.1 L.f146.2 rfl ?_
 refine at_seq hm ?_
 unfold r146_0
 show At pr F H.length (fin _ H.length _) _ _ _ _
 refine at_box hm rfl ?_
 intro H1 hH1 hlen hlt
 rcases hop with ⟨rfl | rfl,rfl,rfl⟩
 all_goals
  refine' stH
  exact fin_retF hH1 rfl rfl ⟨_,hR,rfl,rfl⟩
theorem qx_leaf2 (L : LibE pr F) {op name : Str} {args : List Xp} {ty : List Ty} {a : Int} (hka : okExs args) (hkt : okTys ty) (hw : 1 + op.length + name.length + wExs args + wTys ty ≤ 42000000) (IH : ∀ y,wEx y < 1 + op.length + name.length + wExs args + wTys ty → okEx y → TxOk pr F 146 [.agg (exRow y)] (.str (exText y))) (IHt : ∀ t,wTy t < 1 + op.length + name.length + wExs args + wTys ty → okTy t → TxOk pr F 97 [.agg (tyRow t)] (.str (tyText t))) (hop : (op = [116,114,117,101] ∨ op = [102,97,108,115,101] ∨ op = [110,117,108,108] ∨ op = [116,104,105,115] ∨ op = [114,101,97,100]) ∧ args = [] ∧ ty = []) :
  TxOk pr F 146 [.agg (exRow (.mk op name args ty a))] (.str (exText (.mk op name args ty a))):=by
 have hm:=L.hm
 refine TxOk.of hm ?_
 intro H rw hH
 have hal:=wExs_len args
 have hxs:=exRows_len args
 have hR : Rx rw rw:=Rx.rfl
 have hA : ∀ y ∈ args,TxOk pr F 146 [.agg (exRow y)] (.str (exText y)) ∧ (exText y).length ≤ 2147483648:=by
  intro y hy
  have h2:=wExs_mem hy
  have h3:=len_exText y
  exact ⟨IH y (by omega) (okExs_mem hka hy),by omega⟩
 have hsum:=sum_texts args
 have hlt0:=len_exTexts args
 have hg0:=exTexts_getD 0 args
 have hg1:=exTexts_getD 1 args
 have hmap:=exTexts_map args
 have hty:=len_tysText ty
 have hnm : name.length ≤ 42000000:=by omega
 have hopl : op.length ≤ 42000000:=by omega
 simp only [exText]
 refine at_start hm L.f146.1 L.f146.2 rfl ?_
 refine at_seq hm ?_
 unfold r146_0
 show At pr F H.length (fin _ H.length _) _ _ _ _
 refine at_box hm rfl ?_
 intro H1 hH1 hlen hlt
 rcases hop with ⟨rfl | rfl | rfl | rfl | rfl,rfl,rfl⟩
 all_goals
  refine' stH
  exact fin_retF hH1 rfl rfl ⟨_,hR,rfl,rfl⟩
end Go.Proofs.YtmeakjgbjldkdaaGreat.Ai
namespace Go.Proofs.YtmeakjgbjldkdaaGreat.Ai
open Go
variable {pr : Prims} {F : Nat → Option IFn}
theorem qx_len (L : LibE pr F) {op name : Str} {args : List Xp} {ty : List Ty} {a : Int} (hka : okExs args) (hkt : okTys ty) (hw : 1 + op.length + name.length + wExs args + wTys ty ≤ 42000000) (IH : ∀ y,wEx y < 1 + op.length + name.length + wExs args + wTys ty → okEx y → TxOk pr F 146 [.agg (exRow y)] (.str (exText y))) (IHt : ∀ t,wTy t < 1 + op.length + name.length + wExs args + wTys ty → okTy t → TxOk pr F 97 [.agg (tyRow t)] (.str (tyText t))) (hop : op = [108,101,110] ∧ (∃ x,args = [x]) ∧ ty = []) :
  TxOk pr F 146 [.agg (exRow (.mk op name args ty a))] (.str (exText (.mk op name args ty a))):=by
 have hm:=L.hm
 refine TxOk.of hm ?_
 intro H rw hH
 have hal:=wExs_len args
 have hxs:=exRows_len args
 have hR : Rx rw rw:=Rx.rfl
 have hA : ∀ y ∈ args,TxOk pr F 146 [.agg (exRow y)] (.str (exText y)) ∧ (exText y).length ≤ 2147483648:=by
  intro y hy
  have h2:=wExs_mem hy
  have h3:=len_exText y
  exact ⟨IH y (by omega) (okExs_mem hka hy),by omega⟩
 have hsum:=sum_texts args
 have hlt0:=len_exTexts args
 have hg0:=exTexts_getD 0 args
 have hg1:=exTexts_getD 1 args
 have hmap:=exTexts_map args
 have hty:=len_tysText ty
 have hnm : name.length ≤ 42000000:=by omega
 have hopl : op.length ≤ 42000000:=by omega
 simp only [exText]
 refine at_start hm L.f146.1 L.f146.2 rfl ?_
 refine at_seq hm ?_
 unfold r146_0
 show At pr F H.length (fin _ H.length _) _ _ _ _
 refine at_box hm rfl ?_
 intro H1 hH1 hlen hlt
 rcases hop with ⟨rfl,⟨y,rfl⟩,rfl⟩
 ·
  obtain ⟨hy1,hy2⟩:=hA y List.mem_cons_self
  have hy0r : (exRows [y])[0]? = some (exRow y):=rfl
  have e : textOf [108,101,110] name (exTexts [y]) (tysText []) = [108,101,110,40] ++ exText y ++ [41]:=by
   show [108,101,110,40] ++ ((exTexts [y]).getD 0 nulT).2 ++ [41] = _
   rw [hg0]; rfl
  rw [e]
  refine' stH
  exact fin_retF hH1 rfl rfl ⟨_,hR,rfl,rfl⟩
theorem qx_new (L : LibE pr F) {op name : Str} {args : List Xp} {ty : List Ty} {a : Int} (hka : okExs args) (hkt : okTys ty) (hw : 1 + op.length + name.length + wExs args + wTys ty ≤ 42000000) (IH : ∀ y,wEx y < 1 + op.length + name.length + wExs args + wTys ty → okEx y → TxOk pr F 146 [.agg (exRow y)] (.str (exText y))) (IHt : ∀ t,wTy t < 1 + op.length + name.length + wExs args + wTys ty → okTy t → TxOk pr F 97 [.agg (tyRow t)] (.str (tyText t))) (hop : op = [110,101,119] ∧ ty = []) :
  TxOk pr F 146 [.agg (exRow (.mk op name args ty a))] (.str (exText (.mk op name args ty a))):=by
 have hm:=L.hm
 refine TxOk.of hm ?_
 intro H rw hH
 have hal:=wExs_len args
 have hxs:=exRows_len args
 have hR : Rx rw rw:=Rx.rfl
 have hA : ∀ y ∈ args,TxOk pr F 146 [.agg (exRow y)] (.str (exText y)) ∧ (exText y).length ≤ 2147483648:=by
  intro y hy
  have h2:=wExs_mem hy
  have h3:=len_exText y
  exact ⟨IH y (by omega) (okExs_mem hka hy),by omega⟩
 have hsum:=sum_texts args
 have hlt0:=len_exTexts args
 have hg0:=exTexts_getD 0 args
 have hg1:=exTexts_getD 1 args
 have hmap:=exTexts_map args
 have hty:=len_tysText ty
 have hnm : name.length ≤ 42000000:=by omega
 have hopl : op.length ≤ 42000000:=by omega
 simp only [exText]
 refine at_start hm L.f146.1 L.f146.2 rfl ?_
 refine at_seq hm ?_
 unfold r146_0
 show At pr F H.length (fin _ H.length _) _ _ _ _
 refine at_box hm rfl ?_
 intro H1 hH1 hlen hlt
 rcases hop with ⟨rfl,rfl⟩
 ·
  have htx : TxOk pr F 199 [lst 5 (exRows args)] (.str (joinT [44,32] (args.map exText))):=by
   obtain ⟨z,tag,h,h2,-⟩:=isL_lst (sz:=5) (rows:=exRows args)
   rw [h]
   exact qx_texts L args z tag (fun hne => h2 (by intro h3; apply hne; cases args with | nil => rfl | cons u us => simp [exRows] at h3)) (fun y hy => hA y hy) (by omega) (by omega)
  have e : textOf [110,101,119] name (exTexts args) (tysText []) = [110,101,119,32] ++ name ++ [40] ++ joinT [44,32] (args.map exText) ++ [41]:=by
   show [110,101,119,32] ++ name ++ [40] ++ joinT [44,32] ((exTexts args).map (·.2)) ++ [41] = _
   rw [hmap]
  rw [e]
  have hj:=len_joinT [44,32] (args.map exText)
  simp only [List.length_cons,List.length_nil,Nat.reduceAdd,Nat.zero_add] at hj
  refine' stH
  exact fin_retF hH1 rfl rfl ⟨_,hR,rfl,rfl⟩
theorem qx_list (L : LibE pr F) {op name : Str} {args : List Xp} {ty : List Ty} {a : Int} (hka : okExs args) (hkt : okTys ty) (hw : 1 + op.length + name.length + wExs args + wTys ty ≤ 42000000) (IH : ∀ y,wEx y < 1 + op.length + name.length + wExs args + wTys ty → okEx y → TxOk pr F 146 [.agg (exRow y)] (.str (exText y))) (IHt : ∀ t,wTy t < 1 + op.length + name.length + wExs args + wTys ty → okTy t → TxOk pr F 97 [.agg (tyRow t)] (.str (tyText t))) (hop : op = [108,105,115,116] ∧ (∃ x z,args = [x,z]) ∧ ∃ t,ty = [t]) :
  TxOk pr F 146 [.agg (exRow (.mk op name args ty a))] (.str (exText (.mk op name args ty a))):=by
 have hm:=L.hm
 refine TxOk.of hm ?_
 intro H rw hH
 have hal:=wExs_len args
 have hxs:=exRows_len args
 have hR : Rx rw rw:=Rx.rfl
 have hA : ∀ y ∈ args,TxOk pr F 146 [.agg (exRow y)] (.str (exText y)) ∧ (exText y).length ≤ 2147483648:=by
  intro y hy
  have h2:=wExs_mem hy
  have h3:=len_exText y
  exact ⟨IH y (by omega) (okExs_mem hka hy),by omega⟩
 have hsum:=sum_texts args
 have hlt0:=len_exTexts args
 have hg0:=exTexts_getD 0 args
 have hg1:=exTexts_getD 1 args
 have hmap:=exTexts_map args
 have hty:=len_tysText ty
 have hnm : name.length ≤ 42000000:=by omega
 have hopl : op.length ≤ 42000000:=by omega
 simp only [exText]
 refine at_start hm L.f146.1 L.f146.2 rfl ?_
 refine at_seq hm ?_
 unfold r146_0
 show At pr F H.length (fin _ H.length _) _ _ _ _
 refine at_box hm rfl ?_
 intro H1 hH1 hlen hlt
 rcases hop with ⟨rfl,⟨y,y2,rfl⟩,⟨t,rfl⟩⟩
 ·
  have htx : TxOk pr F 199 [lst 5 (exRows [y,y2])] (.str (joinT [44,32] ([y,y2].map exText))):=qx_texts L [y,y2] 5 .dead (fun _ => rfl) (fun u hu => hA u hu) (by omega) (by omega)
  have hT:=IHt t (by simp only [wTys]; omega) hkt.1
  have hT2:=len_tyText t
  simp only [wTys] at hw
  have e : textOf [108,105,115,116] name (exTexts [y,y2]) (tysText [t]) = [108,105,115,116,32] ++ tyText t ++ [40] ++ joinT [44,32] ([y,y2].map exText) ++ [41]:=by
   show [108,105,115,116,32] ++ tysText [t] ++ [40] ++ joinT [44,32] ((exTexts [y,y2]).map (·.2)) ++ [41] = _
   rw [hmap]
   simp only [tysText]
  rw [e]
  have hj:=len_joinT [44,32] ([y,y2].map exText)
  simp only [List.length_cons,List.length_nil,Nat.reduceAdd,Nat.zero_add] at hj
  have htr : (tyRows [t])[0]? = some (tyRow t):=rfl
  have hl1 : (tyRows [t]).length = 1:=rfl
  refine' stH
  exact fin_retF hH1 rfl rfl ⟨_,hR,rfl,rfl⟩
end Go.Proofs.YtmeakjgbjldkdaaGreat.Ai
namespace Go.Proofs.YtmeakjgbjldkdaaGreat.Ai
open Go
variable {pr : Prims} {F : Nat → Option IFn}
theorem qx_field (L : LibE pr F) {op name : Str} {args : List Xp} {ty : List Ty} {a : Int} (hka : okExs args) (hkt : okTys ty) (hw : 1 + op.length + name.length + wExs args + wTys ty ≤ 42000000) (IH : ∀ y,wEx y < 1 + op.length + name.length + wExs args + wTys ty → okEx y → TxOk pr F 146 [.agg (exRow y)] (.str (exText y))) (IHt : ∀ t,wTy t < 1 + op.length + name.length + wExs args + wTys ty → okTy t → TxOk pr F 97 [.agg (tyRow t)] (.str (tyText t))) (hop : op = [102,105,101,108,100] ∧ (∃ x,args = [x]) ∧ ty = []) :
  TxOk pr F 146 [.agg (exRow (.mk op name args ty a))] (.str (exText (.mk op name args ty a))):=by
 have hm:=L.hm
 refine TxOk.of hm ?_
 intro H rw hH
 have hal:=wExs_len args
 have hxs:=exRows_len args
 have hR : Rx rw rw:=Rx.rfl
 have hA : ∀ y ∈ args,TxOk pr F 146 [.agg (exRow y)] (.str (exText y)) ∧ (exText y).length ≤ 2147483648:=by
  intro y hy
  have h2:=wExs_mem hy
  have h3:=len_exText y
  exact ⟨IH y (by omega) (okExs_mem hka hy),by omega⟩
 have hsum:=sum_texts args
 have hlt0:=len_exTexts args
 have hg0:=exTexts_getD 0 args
 have hg1:=exTexts_getD 1 args
 have hmap:=exTexts_map args
 have hty:=len_tysText ty
 have hnm : name.length ≤ 42000000:=by omega
 have hopl : op.length ≤ 42000000:=by omega
 simp only [exText]
 refine at_start hm L.f146.1 L.f146.2 rfl ?_
 refine at_seq hm ?_
 unfold r146_0
 show At pr F H.length (fin _ H.length _) _ _ _ _
 refine at_box hm rfl ?_
 intro H1 hH1 hlen hlt
 rcases hop with ⟨rfl,⟨y,rfl⟩,rfl⟩
 ·
  obtain ⟨hy1,hy2⟩:=hA y List.mem_cons_self
  have hy0r : (exRows [y])[0]? = some (exRow y):=rfl
  have ht:=qx_at L y 7 hy1 hy2
  have hl : (atT (bindF y.op,exText y) 7).length ≤ (exText y).length + 2:=len_atT _ _
  have e : textOf [102,105,101,108,100] name (exTexts [y]) (tysText []) = atT (bindF y.op,exText y) 7 ++ [46] ++ name:=by
   show atT ((exTexts [y]).getD 0 nulT) 7 ++ [46] ++ name = _
   rw [hg0]; rfl
  rw [e]
  refine' stH
  exact fin_retF hH1 rfl rfl ⟨_,hR,rfl,rfl⟩
theorem qx_call (L : LibE pr F) {op name : Str} {args : List Xp} {ty : List Ty} {a : Int} (hka : okExs args) (hkt : okTys ty) (hw : 1 + op.length + name.length + wExs args + wTys ty ≤ 42000000) (IH : ∀ y,wEx y < 1 + op.length + name.length + wExs args + wTys ty → okEx y → TxOk pr F 146 [.agg (exRow y)] (.str (exText y))) (IHt : ∀ t,wTy t < 1 + op.length + name.length + wExs args + wTys ty → okTy t → TxOk pr F 97 [.agg (tyRow t)] (.str (tyText t))) (hop : op = [99,97,108,108] ∧ (∃ x l,args = x :: l) ∧ ty = []) :
  TxOk pr F 146 [.agg (exRow (.mk op name args ty a))] (.str (exText (.mk op name args ty a))):=by
 have hm:=L.hm
 refine TxOk.of hm ?_
 intro H rw hH
 have hal:=wExs_len args
 have hxs:=exRows_len args
 have hR : Rx rw rw:=Rx.rfl
 have hA : ∀ y ∈ args,TxOk pr F 146 [.agg (exRow y)] (.str (exText y)) ∧ (exText y).length ≤ 2147483648:=by
  intro y hy
  have h2:=wExs_mem hy
  have h3:=len_exText y
  exact ⟨IH y (by omega) (okExs_mem hka hy),by omega⟩
 have hsum:=sum_texts args
 have hlt0:=len_exTexts args
 have hg0:=exTexts_getD 0 args
 have hg1:=exTexts_getD 1 args
 have hmap:=exTexts_map args
 have hty:=len_tysText ty
 have hnm : name.length ≤ 42000000:=by omega
 have hopl : op.length ≤ 42000000:=by omega
 simp only [exText]
 refine at_start hm L.f146.1 L.f146.2 rfl ?_
 refine at_seq hm ?_
 unfold r146_0
 show At pr F H.length (fin _ H.length _) _ _ _ _
 refine at_box hm rfl ?_
 intro H1 hH1 hlen hlt
 rcases hop with ⟨rfl,⟨y,l,rfl⟩,rfl⟩
 ·
  obtain ⟨hy1,hy2⟩:=hA y List.mem_cons_self
  have hy0r : (exRows (y :: l))[0]? = some (exRow y):=rfl
  have ht:=qx_at L y 7 hy1 hy2
  have hl : (atT (bindF y.op,exText y) 7).length ≤ (exText y).length + 2:=len_atT _ _
  have hsl:=sum_texts l
  simp only [wExs,exRows,List.length_cons] at hw hal hxs
  have htx:=qx_texts L l 5 .dead (fun _ => rfl) (fun u hu => hA u (List.mem_cons_of_mem _ hu)) (by omega) (by omega)
  have e : textOf [99,97,108,108] name (exTexts (y :: l)) (tysText []) = atT (bindF y.op,exText y) 7 ++ [46] ++ name ++ [40] ++ joinT [44,32] (l.map exText) ++ [41]:=by
   show atT ((exTexts (y :: l)).getD 0 nulT) 7 ++ [46] ++ name ++ [40] ++ joinT [44,32] (((exTexts (y :: l)).drop 1).map (·.2)) ++ [41] = _
   rw [hg0,exTexts_cons]
   show atT (bindF y.op,exText y) 7 ++ [46] ++ name ++ [40] ++ joinT [44,32] ((exTexts l).map (·.2)) ++ [41] = _
   rw [exTexts_map]
  rw [e]
  have hj:=len_joinT [44,32] (l.map exText)
  simp only [List.length_cons,List.length_nil,Nat.reduceAdd,Nat.zero_add] at hj
  refine' stH
  refine g_q rfl (v:=.list 5 .dead (exRows l)) slice_tailG ?_
  refine' stH
  exact fin_retF hH1 rfl rfl ⟨_,hR,rfl,rfl⟩
theorem qx_index (L : LibE pr F) {op name : Str} {args : List Xp} {ty : List Ty} {a : Int} (hka : okExs args) (hkt : okTys ty) (hw : 1 + op.length + name.length + wExs args + wTys ty ≤ 42000000) (IH : ∀ y,wEx y < 1 + op.length + name.length + wExs args + wTys ty → okEx y → TxOk pr F 146 [.agg (exRow y)] (.str (exText y))) (IHt : ∀ t,wTy t < 1 + op.length + name.length + wExs args + wTys ty → okTy t → TxOk pr F 97 [.agg (tyRow t)] (.str (tyText t))) (hop : op = [105,110,100,101,120] ∧ (∃ x z,args = [x,z]) ∧ ty = []) :
  TxOk pr F 146 [.agg (exRow (.mk op name args ty a))] (.str (exText (.mk op name args ty a))):=by
 have hm:=L.hm
 refine TxOk.of hm ?_
 intro H rw hH
 have hal:=wExs_len args
 have hxs:=exRows_len args
 have hR : Rx rw rw:=Rx.rfl
 have hA : ∀ y ∈ args,TxOk pr F 146 [.agg (exRow y)] (.str (exText y)) ∧ (exText y).length ≤ 2147483648:=by
  intro y hy
  have h2:=wExs_mem hy
  have h3:=len_exText y
  exact ⟨IH y (by omega) (okExs_mem hka hy),by omega⟩
 have hsum:=sum_texts args
 have hlt0:=len_exTexts args
 have hg0:=exTexts_getD 0 args
 have hg1:=exTexts_getD 1 args
 have hmap:=exTexts_map args
 have hty:=len_tysText ty
 have hnm : name.length ≤ 42000000:=by omega
 have hopl : op.length ≤ 42000000:=by omega
 simp only [exText]
 refine at_start hm L.f146.1 L.f146.2 rfl ?_
 refine at_seq hm ?_
 unfold r146_0
 show At pr F H.length (fin _ H.length _) _ _ _ _
 refine at_box hm rfl ?_
 intro H1 hH1 hlen hlt
 rcases hop with ⟨rfl,⟨y,y2,rfl⟩,rfl⟩
 ·
  obtain ⟨hy1,hy2⟩:=hA y List.mem_cons_self
  have hy0r : (exRows [y,y2])[0]? = some (exRow y):=rfl
  have hy1r : (exRows [y,y2])[1]? = some (exRow y2):=rfl
  obtain ⟨hy3,hy4⟩:=hA y2 (by simp)
  have ht:=qx_at L y 7 hy1 hy2
  have hl : (atT (bindF y.op,exText y) 7).length ≤ (exText y).length + 2:=len_atT _ _
  have e : textOf [105,110,100,101,120] name (exTexts [y,y2]) (tysText []) = atT (bindF y.op,exText y) 7 ++ [91] ++ exText y2 ++ [93]:=by
   show atT ((exTexts [y,y2]).getD 0 nulT) 7 ++ [91] ++ ((exTexts [y,y2]).getD 1 nulT).2 ++ [93] = _
   rw [hg0,hg1]; rfl
  rw [e]
  refine' stH
  exact fin_retF hH1 rfl rfl ⟨_,hR,rfl,rfl⟩
end Go.Proofs.YtmeakjgbjldkdaaGreat.Ai
namespace Go.Proofs.YtmeakjgbjldkdaaGreat.Ai
open Go
variable {pr : Prims} {F : Nat → Option IFn}
theorem qx_neg (L : LibE pr F) {op name : Str} {args : List Xp} {ty : List Ty} {a : Int} (hka : okExs args) (hkt : okTys ty) (hw : 1 + op.length + name.length + wExs args + wTys ty ≤ 42000000) (IH : ∀ y,wEx y < 1 + op.length + name.length + wExs args + wTys ty → okEx y → TxOk pr F 146 [.agg (exRow y)] (.str (exText y))) (IHt : ∀ t,wTy t < 1 + op.length + name.length + wExs args + wTys ty → okTy t → TxOk pr F 97 [.agg (tyRow t)] (.str (tyText t))) (hop : (op = [110,101,103] ∨ op = [110,111,116]) ∧ (∃ x,args = [x]) ∧ ty = []) :
  TxOk pr F 146 [.agg (exRow (.mk op name args ty a))] (.str (exText (.mk op name args ty a))):=by
 have hm:=L.hm
 refine TxOk.of hm ?_
 intro H rw hH
 have hal:=wExs_len args
 have hxs:=exRows_len args
 have hR : Rx rw rw:=Rx.rfl
 have hA : ∀ y ∈ args,TxOk pr F 146 [.agg (exRow y)] (.str (exText y)) ∧ (exText y).length ≤ 2147483648:=by
  intro y hy
  have h2:=wExs_mem hy
  have h3:=len_exText y
  exact ⟨IH y (by omega) (okExs_mem hka hy),by omega⟩
 have hsum:=sum_texts args
 have hlt0:=len_exTexts args
 have hg0:=exTexts_getD 0 args
 have hg1:=exTexts_getD 1 args
 have hmap:=exTexts_map args
 have hty:=len_tysText ty
 have hnm : name.length ≤ 42000000:=by omega
 have hopl : op.length ≤ 42000000:=by omega
 simp only [exText]
 refine at_start hm L.f146.1 L.f146.2 rfl ?_
 refine at_seq hm ?_
 unfold r146_0
 show At pr F H.length (fin _ H.length _) _ _ _ _
 refine at_box hm rfl ?_
 intro H1 hH1 hlen hlt
 rcases hop with ⟨rfl | rfl,⟨y,rfl⟩,rfl⟩
 all_goals
   obtain ⟨hy1,hy2⟩:=hA y List.mem_cons_self
   have hy0r : (exRows [y])[0]? = some (exRow y):=rfl
   have ht:=qx_at L y 6 hy1 hy2
   have hl : (atT (bindF y.op,exText y) 6).length ≤ (exText y).length + 2:=len_atT _ _
   refine' stH
   refine fin_retF hH1 rfl rfl ⟨_,hR,?_,rfl⟩
   first
    | (show _ = Res.ret (AV.str ([45] ++ atT ((exTexts [y]).getD 0 nulT) 6)); rw [hg0]; rfl)
    | (show _ = Res.ret (AV.str ([33] ++ atT ((exTexts [y]).getD 0 nulT) 6)); rw [hg0]; rfl)
end Go.Proofs.YtmeakjgbjldkdaaGreat.Ai
namespace Go.Proofs.YtmeakjgbjldkdaaGreat.Ai
open Go
variable {pr : Prims} {F : Nat → Option IFn}
theorem qx_bin (L : LibE pr F) {op name : Str} {args : List Xp} {ty : List Ty} {a : Int} (hka : okExs args) (hkt : okTys ty) (hw : 1 + op.length + name.length + wExs args + wTys ty ≤ 42000000) (IH : ∀ y,wEx y < 1 + op.length + name.length + wExs args + wTys ty → okEx y → TxOk pr F 146 [.agg (exRow y)] (.str (exText y))) (IHt : ∀ t,wTy t < 1 + op.length + name.length + wExs args + wTys ty → okTy t → TxOk pr F 97 [.agg (tyRow t)] (.str (tyText t))) (hop : 0 ≤ levelF op ∧ (∃ x z,args = [x,z]) ∧ ty = []) :
  TxOk pr F 146 [.agg (exRow (.mk op name args ty a))] (.str (exText (.mk op name args ty a))):=by
 have hm:=L.hm
 refine TxOk.of hm ?_
 intro H rw hH
 have hal:=wExs_len args
 have hxs:=exRows_len args
 have hR : Rx rw rw:=Rx.rfl
 have hA : ∀ y ∈ args,TxOk pr F 146 [.agg (exRow y)] (.str (exText y)) ∧ (exText y).length ≤ 2147483648:=by
  intro y hy
  have h2:=wExs_mem hy
  have h3:=len_exText y
  exact ⟨IH y (by omega) (okExs_mem hka hy),by omega⟩
 have hsum:=sum_texts args
 have hlt0:=len_exTexts args
 have hg0:=exTexts_getD 0 args
 have hg1:=exTexts_getD 1 args
 have hmap:=exTexts_map args
 have hty:=len_tysText ty
 have hnm : name.length ≤ 42000000:=by omega
 have hopl : op.length ≤ 42000000:=by omega
 simp only [exText]
 refine at_start hm L.f146.1 L.f146.2 rfl ?_
 refine at_seq hm ?_
 unfold r146_0
 show At pr F H.length (fin _ H.length _) _ _ _ _
 refine at_box hm rfl ?_
 intro H1 hH1 hlen hlt
 rcases hop with ⟨hlv,⟨y,y2,rfl⟩,rfl⟩
 ·
  obtain ⟨hy1,hy2⟩:=hA y List.mem_cons_self
  obtain ⟨hy3,hy4⟩:=hA y2 (by simp)
  have hy0r : (exRows [y,y2])[0]? = some (exRow y):=rfl
  have hy1r : (exRows [y,y2])[1]? = some (exRow y2):=rfl
  have hd1:=fun S => det_Level L.toLibX S op
  by_cases hop : op = [61,62]
  ·subst hop
   have hlv0 : levelF [61,62] = 0:=by decide
   have ht:=qx_at L y 1 hy1 hy2
   have ht2:=qx_at L y2 0 hy3 hy4
   have hl : (atT (bindF y.op,exText y) 1).length ≤ (exText y).length + 2:=len_atT _ _
   have hl2 : (atT (bindF y2.op,exText y2) 0).length ≤ (exText y2).length + 2:=len_atT _ _
   have e : textOf [61,62] name (exTexts [y,y2]) (tysText []) = atT (bindF y.op,exText y) 1 ++ [32,61,62,32] ++ atT (bindF y2.op,exText y2) 0:=by
    show atT ((exTexts [y,y2]).getD 0 nulT) 1 ++ [32] ++ [61,62] ++ [32] ++ atT ((exTexts [y,y2]).getD 1 nulT) 0 = _
    rw [hg0,hg1]
    simp
   rw [e]
   refine' stH
   exact fin_retF hH1 rfl rfl ⟨_,hR,by simp,rfl⟩
  ·have hle : levelF op ≤ 5:=by
    unfold levelF
    repeat' split
    all_goals omega
   have hl0 : levelF op ≠ 0:=by
    intro h
    unfold levelF at h
    rw [if_neg hop] at h
    revert h
    repeat' split
    all_goals omega
   have n1 : op ≠ [110,117,109]:=by rintro rfl; revert hlv; decide
   have n2 : op ≠ [118,97,114]:=by rintro rfl; revert hlv; decide
   have n3 : op ≠ [102,105,101,108,100]:=by rintro rfl; revert hlv; decide
   have n4 : op ≠ [99,97,108,108]:=by rintro rfl; revert hlv; decide
   have n5 : op ≠ [110,101,119]:=by rintro rfl; revert hlv; decide
   have n6 : op ≠ [108,105,115,116]:=by rintro rfl; revert hlv; decide
   have n7 : op ≠ [105,110,100,101,120]:=by rintro rfl; revert hlv; decide
   have n8 : op ≠ [108,101,110]:=by rintro rfl; revert hlv; decide
   have n9 : op ≠ [114,101,97,100]:=by rintro rfl; revert hlv; decide
   have n10 : op ≠ [110,101,103]:=by rintro rfl; revert hlv; decide
   have n11 : op ≠ [110,111,116]:=by rintro rfl; revert hlv; decide
   have n12 : op ≠ [116,114,117,101]:=by rintro rfl; revert hlv; decide
   have n13 : op ≠ [102,97,108,115,101]:=by rintro rfl; revert hlv; decide
   have n14 : op ≠ [110,117,108,108]:=by rintro rfl; revert hlv; decide
   have n15 : op ≠ [116,104,105,115]:=by rintro rfl; revert hlv; decide
   have hbk : bindF op = levelF op:=by unfold bindF; rw [if_neg (by simp only [n10,n11,or_self,not_false_eq_true]),if_pos hlv]
   have e : textOf op name (exTexts [y,y2]) (tysText []) = atT (bindF y.op,exText y) (if levelF op = 3 then 4 else levelF op) ++ [32] ++ op ++ [32] ++ atT (bindF y2.op,exText y2) (levelF op + 1):=by
    unfold textOf
    simp only [n1,n2,n3,n4,n5,n6,n7,n8,n9,n10,n11,or_self,if_false,hl0]
    rw [if_neg (by omega),hg0,hg1]
    rfl
   rw [e]
   have ht:=qx_at L y (levelF op) hy1 hy2
   have ht4:=qx_at L y 4 hy1 hy2
   have ht2:=qx_at L y2 (levelF op + 1) hy3 hy4
   have hl4 : (atT (bindF y.op,exText y) 4).length ≤ (exText y).length + 2:=len_atT _ _
   have hl : (atT (bindF y.op,exText y) (levelF op)).length ≤ (exText y).length + 2:=len_atT _ _
   have hl2 : (atT (bindF y2.op,exText y2) (levelF op + 1)).length ≤ (exText y2).length + 2:=len_atT _ _
   refine' stH
   all_goals
    refine fin_retF hH1 rfl rfl ⟨_,hR,?_,rfl⟩
    first
     | rw [if_pos (by omega)]
     | rw [if_neg (by omega)]
end Go.Proofs.YtmeakjgbjldkdaaGreat.Ai
namespace Go.Proofs.YtmeakjgbjldkdaaGreat.Ai
open Go
variable {pr : Prims} {F : Nat → Option IFn}
theorem qx_text (L : LibE pr F) (x : Xp) (hok : okEx x) (hw : wEx x ≤ 42000000) (IH : ∀ y,wEx y < wEx x → okEx y → TxOk pr F 146 [.agg (exRow y)] (.str (exText y))) (IHt : ∀ t,wTy t < wEx x → okTy t → TxOk pr F 97 [.agg (tyRow t)] (.str (tyText t))) :
  TxOk pr F 146 [.agg (exRow x)] (.str (exText x)):=by
 obtain ⟨op,name,args,ty,a⟩:=x
 simp only [okEx] at hok
 obtain ⟨hop,hka,hkt⟩:=hok
 simp only [wEx] at hw IH IHt
 unfold okOp at hop
 rcases hop with ⟨h1,h2,h3,-⟩ | ⟨h1,h2,h3,-⟩ | ⟨h1,h2,h3,-⟩ | ⟨h1,h2,h3,-⟩ | ⟨h1,h2,-⟩ | ⟨h1,h2,h3,-⟩ | ⟨h1,h2,h3,-⟩ | ⟨h1,h2,h3,-⟩ | ⟨h1,h2,h3,-⟩ | ⟨h1,h2,h3,-⟩ | ⟨h1,h2,h3,-⟩
 ·exact qx_leaf1 L hka hkt hw IH IHt ⟨.inl h1,h2,h3⟩
 ·exact qx_leaf1 L hka hkt hw IH IHt ⟨.inr h1,h2,h3⟩
 ·exact qx_leaf2 L hka hkt hw IH IHt ⟨h1,h2,h3⟩
 ·exact qx_len L hka hkt hw IH IHt ⟨h1,h2,h3⟩
 ·exact qx_new L hka hkt hw IH IHt ⟨h1,h2⟩
 ·exact qx_list L hka hkt hw IH IHt ⟨h1,h2,h3⟩
 ·exact qx_field L hka hkt hw IH IHt ⟨h1,h2,h3⟩
 ·exact qx_call L hka hkt hw IH IHt ⟨h1,h2,h3⟩
 ·exact qx_index L hka hkt hw IH IHt ⟨h1,h2,h3⟩
 ·exact qx_neg L hka hkt hw IH IHt ⟨h1,h2,h3⟩
 ·exact qx_bin L hka hkt hw IH IHt ⟨h1,h2,h3⟩
theorem qx_type (L : LibE pr F) (t : Ty) (hok : okTy t) (hw : wTy t ≤ 42000000) (IH : ∀ y,wEx y < wTy t → okEx y → TxOk pr F 146 [.agg (exRow y)] (.str (exText y))) (IHt : ∀ u,wTy u < wTy t → okTy u → TxOk pr F 97 [.agg (tyRow u)] (.str (tyText u))) :
  TxOk pr F 97 [.agg (tyRow t)] (.str (tyText t)):=by
 have hm:=L.hm
 refine TxOk.of hm ?_
 intro H rw hH
 obtain ⟨kind,name,null,elem,pred,a⟩:=t
 simp only [okTy] at hok
 obtain ⟨hk,hpl,hke,hkp⟩:=hok
 simp only [wTy] at hw IH IHt
 have hR : Rx rw rw:=Rx.rfl
 have hpr : (exRows pred).length = pred.length:=exRows_len pred
 have hnm : name.length ≤ 42000000:=by omega
 refine at_start hm L.f97.1 L.f97.2 rfl ?_
 refine at_seq hm ?_
 unfold r97_0
 show At pr F H.length (fin _ H.length _) _ _ _ _
 refine at_box hm rfl ?_
 intro H1 hH1 hlen hlt
 obtain ⟨bt,hbt,hbe⟩ : ∃ bt : Str,bt.length ≤ 1400000000 ∧ bt = baseT (.mk kind name null elem pred a):=⟨_,by have:=len_baseT (.mk kind name null elem pred a); simp only [wTy] at this; omega,rfl⟩
 have hel : kind = 4 → ∃ u,elem = [u] ∧ TxOk pr F 97 [.agg (tyRow u)] (.str (tyText u)) ∧ (tyText u).length ≤ 1400000000:=by
  intro h4
  rcases hk with ⟨h,-⟩ | ⟨h,-⟩ | ⟨h,-⟩ | ⟨-,-,u,rfl⟩
  ·omega
  ·omega
  ·omega
  ·have hlu:=len_tyText u
   simp only [wTys] at hw IHt
   exact ⟨u,rfl,IHt u (by omega) hke.1,by omega⟩
 have hk4 : kind = 1 ∨ kind = 2 ∨ kind = 3 ∨ kind = 4:=by
  rcases hk with ⟨h,-⟩ | ⟨h,-⟩ | ⟨h,-⟩ | ⟨h,-⟩
  ·exact .inl h
  ·exact .inr (.inl h)
  ·exact .inr (.inr (.inl h))
  ·exact .inr (.inr (.inr h))
 have hE : ∀ s,s = baseT (.mk kind name null elem pred a) ++ (if null then [63] else []) ++ predText pred → s = tyText (.mk kind name null elem pred a):=by
  intro s hs
  rw [hs]
  simp only [tyText,baseT]
 have hB:=len_baseT (.mk kind name null elem pred a)
 simp only [wTy] at hB
 have hS : (baseT (.mk kind name null elem pred a) ++ (if null then [63] else [])).length ≤ 1400000000:=by
  rw [List.length_append]
  split <;> simp only [List.length_cons,List.length_nil] <;> omega
 rcases hk4 with rfl | rfl | rfl | rfl
 rotate_left 3
 ·obtain ⟨u,rfl,hu,hul⟩:=hel rfl
  have htr : (tyRows [u])[0]? = some (tyRow u):=rfl
  have hlt1 : (tyRows [u]).length = 1:=rfl
  refine' stH
  all_goals
   have hb0 : null = true ∨ null = false:=by cases null <;> simp
   obtain ⟨s0,hs0,hs1⟩ : ∃ s0 : Str,s0 = baseT (.mk 4 name null [u] pred a) ++ (if null then [63] else []) ∧ s0.length ≤ 1400000000:=⟨_,rfl,hS⟩
   refine at_loop hm (fun mm e S' => ∃ (q : Nat) (s : Str) (J : List Blk) (rw3 : List Nat),S' = ⟨hp H1 H.length (.cells (tyRow (.mk 4 name null [u] pred a))) J,rw3⟩ ∧ q ≤ pred.length ∧ s = s0 ++ predText (pred.take q) ∧ Rx rw rw3 ∧ mm = pred.length - q ∧ e = [(1,.ptr H.length 0),(3,.str s),(4,.int .i64 q)]) ?_ (m:=pred.length) ⟨0,_,_,_,rfl,by omega,?_,hR,rfl,rfl⟩
   rotate_left 1
   ·rw [hs0]
    simp only [List.take_zero,predText,List.append_nil,baseT,tysText,hq,if_true,Bool.false_eq_true,if_false,Int.reduceEq]
   clear hR
   rintro mm e S' ⟨q,s,J,rw3,rfl,hq0,rfl,hR,rfl,rfl⟩
   by_cases hq1 : q < pred.length
   ·obtain ⟨x,hx⟩ : ∃ x,pred[q]? = some x:=⟨_,List.getElem?_eq_getElem hq1⟩
    have hxr:=exRows_get hx
    have hl5 : lst 5 (exRows pred) = .list 5 .dead (exRows pred):=lst_of_lt (i:=q) (by omega)
    have hmem:=List.mem_of_getElem? hx
    have hwx:=wExs_mem hmem
    have hxl:=len_exText x
    have hX:=IH x (by omega) (okExs_mem hkp hmem)
    have hq00 : q = 0:=by omega
    subst hq00
    have e0 : predText (List.take 0 pred) = []:=by simp [predText]
    rw [e0,List.append_nil]
    refine' stH
    rw [hl5]
    refine' stH
    refine ⟨pred.length - 1,by omega,1,_,_,rwt,rfl,by omega,?_,hR,rfl,rfl⟩
    rw [show (1 : Nat) = 0 + 1 from rfl,take_snoc hx]
    simp only [List.take_zero,List.nil_append,predText,List.append_nil,List.append_assoc]
   ·refine' stH
    have e1 : List.take q pred = pred:=by rw [show q = pred.length by omega,List.take_length]
    rw [e1]
    exact fin_retF hH1 rfl rfl ⟨_,hR,by rw [hE (s0 ++ predText pred) (by rw [hs0])],rfl⟩
 all_goals
  clear hel
  refine' stH
  all_goals
   have hb0 : null = true ∨ null = false:=by cases null <;> simp
   obtain ⟨s0,hs0,hs1⟩ : ∃ s0 : Str,s0 = baseT (.mk _ name null elem pred a) ++ (if null then [63] else []) ∧ s0.length ≤ 1400000000:=⟨_,rfl,hS⟩
   refine at_loop hm (fun mm e S' => ∃ (q : Nat) (s : Str) (J : List Blk) (rw3 : List Nat),S' = ⟨hp H1 H.length (.cells (tyRow (.mk _ name null elem pred a))) J,rw3⟩ ∧ q ≤ pred.length ∧ s = s0 ++ predText (pred.take q) ∧ Rx rw rw3 ∧ mm = pred.length - q ∧ e = [(1,.ptr H.length 0),(3,.str s),(4,.int .i64 q)]) ?_ (m:=pred.length) ⟨0,_,_,_,rfl,by omega,?_,hR,rfl,rfl⟩
   rotate_left 1
   ·rw [hs0]
    simp only [List.take_zero,predText,List.append_nil,baseT,hq,if_true,Bool.false_eq_true,if_false,Int.reduceEq]
   clear hR
   rintro mm e S' ⟨q,s,J,rw3,rfl,hq0,rfl,hR,rfl,rfl⟩
   by_cases hq1 : q < pred.length
   ·obtain ⟨x,hx⟩ : ∃ x,pred[q]? = some x:=⟨_,List.getElem?_eq_getElem hq1⟩
    have hxr:=exRows_get hx
    have hl5 : lst 5 (exRows pred) = .list 5 .dead (exRows pred):=lst_of_lt (i:=q) (by omega)
    have hmem:=List.mem_of_getElem? hx
    have hwx:=wExs_mem hmem
    have hxl:=len_exText x
    have hX:=IH x (by omega) (okExs_mem hkp hmem)
    have hq00 : q = 0:=by omega
    subst hq00
    have e0 : predText (List.take 0 pred) = []:=by simp [predText]
    rw [e0,List.append_nil]
    refine' stH
    rw [hl5]
    refine' stH
    refine ⟨pred.length - 1,by omega,1,_,_,rwt,rfl,by omega,?_,hR,rfl,rfl⟩
    rw [show (1 : Nat) = 0 + 1 from rfl,take_snoc hx]
    simp only [List.take_zero,List.nil_append,predText,List.append_nil,List.append_assoc]
   ·refine' stH
    have e1 : List.take q pred = pred:=by rw [show q = pred.length by omega,List.take_length]
    rw [e1]
    exact fin_retF hH1 rfl rfl ⟨_,hR,by rw [hE (s0 ++ predText pred) (by rw [hs0])],rfl⟩
theorem qx_all (L : LibE pr F) : ∀ k : Nat,(∀ x,wEx x < k → wEx x ≤ 42000000 → okEx x → TxOk pr F 146 [.agg (exRow x)] (.str (exText x))) ∧ (∀ t,wTy t < k → wTy t ≤ 42000000 → okTy t → TxOk pr F 97 [.agg (tyRow t)] (.str (tyText t))):=by
 intro k
 induction k with
 | zero => exact ⟨fun x h => by omega,fun x h => by omega⟩
 | succ k ih =>
  obtain ⟨h1,h2⟩:=ih
  exact ⟨fun x hk hw ho => qx_text L x ho hw (fun y hy hoy => h1 y (by omega) (by omega) hoy) (fun t ht hot => h2 t (by omega) (by omega) hot),
   fun x hk hw ho => qx_type L x ho hw (fun y hy hoy => h1 y (by omega) (by omega) hoy) (fun t ht hot => h2 t (by omega) (by omega) hot)⟩
theorem qx_ty (L : LibE pr F) {t : Ty} (hw : wTy t ≤ 42000000) (ho : okTy t) : TxOk pr F 97 [.agg (tyRow t)] (.str (tyText t)):=(qx_all L (wTy t + 1)).2 t (by omega) hw ho
end Go.Proofs.YtmeakjgbjldkdaaGreat.Ai
namespace Go.Proofs.YtmeakjgbjldkdaaGreat.Ai
open Go
variable {pr : Prims} {F : Nat → Option IFn}
theorem qx_joined (L : LibE pr F) {t : Ty} (hw : wTy t ≤ 42000000) (ho : okTy t) : TxOk pr F 53 [.agg (tyRow t)] (.str (tyText t)):=by
 have hm:=L.hm
 refine TxOk.of hm ?_
 intro H rw hH
 have hR : Rx rw rw:=Rx.rfl
 have hT:=qx_ty L hw ho
 refine at_start hm L.f53.1 L.f53.2 rfl ?_
 refine at_seq hm ?_
 unfold r53_0
 show At pr F H.length (fin _ H.length _) _ _ _ _
 refine at_box hm rfl ?_
 intro H1 hH1 hlen hlt
 refine' stH
 exact fin_retF hH1 rfl rfl ⟨_,hR,rfl,rfl⟩
theorem qx_base (L : LibE pr F) {t : Ty} (hw : wTy t ≤ 42000000) (ho : okTy t ∨ isVoid t) : TxOk pr F 16 [.agg (tyRow t)] (.str (baseT t)):=by
 have hm:=L.hm
 refine TxOk.of hm ?_
 intro H rw hH
 have hR : Rx rw rw:=Rx.rfl
 have hT : ∀ u,wTy u < wTy t → okTy u → TxOk pr F 53 [.agg (tyRow u)] (.str (tyText u)):=fun u hu hou => qx_joined L (by omega) hou
 have hk : ∃ kind name null elem pred a,t = .mk kind name null elem pred a ∧ ((kind = 1 ∨ kind = 2 ∨ kind = 3 ∨ kind = 0) ∨ kind = 4 ∧ ∃ u,elem = [u] ∧ TxOk pr F 53 [.agg (tyRow u)] (.str (tyText u)) ∧ (tyText u).length ≤ 1400000000):=by
  obtain ⟨kind,name,null,elem,pred,a⟩:=t
  refine ⟨kind,name,null,elem,pred,a,rfl,?_⟩
  rcases ho with ho | ⟨a',ha⟩
  ·simp only [okTy] at ho
   obtain ⟨hk,-,hke,-⟩:=ho
   rcases hk with ⟨h,-⟩ | ⟨h,-⟩ | ⟨h,-⟩ | ⟨h,-,u,rfl⟩
   ·exact .inl (.inl h)
   ·exact .inl (.inr (.inl h))
   ·exact .inl (.inr (.inr (.inl h)))
   ·refine .inr ⟨h,u,rfl,?_⟩
    have h1:=len_tyText u
    simp only [wTy,wTys] at hw hT
    exact ⟨hT u (by omega) hke.1,by omega⟩
  ·injection ha with h1
   exact .inl (.inr (.inr (.inr h1)))
 obtain ⟨kind,name,null,elem,pred,a,rfl,hk⟩:=hk
 clear hT ho
 refine at_start hm L.f16.1 L.f16.2 rfl ?_
 refine at_seq hm ?_
 unfold r16_0
 show At pr F H.length (fin _ H.length _) _ _ _ _
 refine at_box hm rfl ?_
 intro H1 hH1 hlen hlt
 rcases hk with (rfl | rfl | rfl | rfl) | ⟨rfl,u,rfl,hu,hul⟩
 rotate_left 4
 ·have htr : (tyRows [u])[0]? = some (tyRow u):=rfl
  have hlt1 : (tyRows [u]).length = 1:=rfl
  refine' stH
  exact fin_retF hH1 rfl rfl ⟨_,hR,rfl,rfl⟩
 all_goals
  refine' stH
  exact fin_retF hH1 rfl rfl ⟨_,hR,rfl,rfl⟩
theorem qx_sig (L : LibE pr F) {name : Str} {ps : List Par} (hn : name.length ≤ 42000000) (hw : wL wPar ps ≤ 42000000) (ho : ∀ p ∈ ps,okPar p) : TxOk pr F 18 [.str name,lst 8 (ps.map parRow)] (.str (sigT name ps)):=by
 have hm:=L.hm
 have hlp:=parRow_len ps
 have hpl:=wL_len wPar (fun p => by simp only [wPar]; omega) ps
 have hsum:=sum_bases ps
 refine TxOk.of0 hm L.f18.1 L.f18.2 rfl ?_
 intro H rw b hlt
 have hR : Rx rw rw:=Rx.rfl
 refine' stH
 refine at_loop hm (fun mm e S' => ∃ (q : Nat) (s : Str) (J : List Blk) (rw3 : List Nat),S' = ⟨hp H 0 b J,rw3⟩ ∧ q ≤ ps.length ∧ s = name ++ [40] ++ joinT [44] ((ps.take q).map fun p => baseT p.type) ∧ s.length ≤ 1500000000 ∧ Rx rw rw3 ∧ mm = ps.length - q ∧ e = [(1,lst 8 (ps.map parRow)),(5,.str s),(6,.int .i64 q)]) ?_ (m:=ps.length) ⟨0,_,[],rw,rfl,by omega,by simp [joinT],by simp; omega,Rx.rfl,rfl,rfl⟩
 clear hR
 rintro mm e S' ⟨q,s,J,rw3,rfl,hq0,hsq,hsl,hR,rfl,rfl⟩
 by_cases hq1 : q < ps.length
 ·obtain ⟨p,hpq⟩ : ∃ p,ps[q]? = some p:=⟨_,List.getElem?_eq_getElem hq1⟩
  have hpr : (ps.map parRow)[q]? = some (parRow p):=by rw [List.getElem?_map,hpq]; rfl
  have hmem:=List.mem_of_getElem? hpq
  have hwp:=wL_mem wPar hmem
  have hwt:=wPar_ty p
  have hx1:=qx_base L (t:=p.type) (by omega) (.inl (ho p hmem).2)
  have hbl:=len_baseT p.type
  have hnew : ∀ s',s' = name ++ [40] ++ joinT [44] ((ps.take (q + 1)).map fun p => baseT p.type) → s'.length ≤ 1500000000:=by
   intro s' h
   have h1:=len_joinT [44] ((ps.take (q + 1)).map fun p => baseT p.type)
   have h2 : (ps.map fun p => baseT p.type) = ((ps.take (q + 1)).map fun p => baseT p.type) ++ ((ps.drop (q + 1)).map fun p => baseT p.type):=by rw [← List.map_append,List.take_append_drop]
   rw [h2,List.map_append,List.sum_append] at hsum
   simp only [List.length_cons,List.length_nil,Nat.zero_add] at h1
   rw [h]
   simp only [List.length_append,List.length_cons,List.length_nil]
   omega
  have hjs : name ++ [40] ++ joinT [44] ((ps.take (q + 1)).map fun p => baseT p.type) = if q = 0 then s ++ baseT p.type else s ++ [44] ++ baseT p.type:=by
   rw [take_snoc hpq,List.map_append,List.map_cons,List.map_nil,joinT_snoc,hsq]
   by_cases h0 : q = 0
   ·subst h0; simp [joinT]
   ·rw [if_neg h0,if_neg]
    ·simp
    ·intro h
     have:=congrArg List.length h
     simp only [List.length_map,List.length_take,List.length_nil] at this
     omega
  have hl5 : lst 8 (ps.map parRow) = .list 8 .dead (ps.map parRow):=lst_of_lt (i:=q) (by omega)
  rw [hl5]
  obtain ⟨nm1,⟨k1,t1,u1,e1,p1,a1⟩,at1⟩:=p
  simp only at hx1 hbl hjs hwt
  refine' stH
  ·have e1 : s ++ [44] ++ baseT (.mk k1 t1 u1 e1 p1 a1) = name ++ [40] ++ joinT [44] ((ps.take (q + 1)).map fun p => baseT p.type):=by rw [hjs,if_neg (by omega)]
   exact ⟨ps.length - (q + 1),by omega,q + 1,_,J,rwt,rfl,by omega,e1,hnew _ e1,hR,rfl,rfl⟩
  ·have e2 : s ++ baseT (.mk k1 t1 u1 e1 p1 a1) = name ++ [40] ++ joinT [44] ((ps.take (q + 1)).map fun p => baseT p.type):=by rw [hjs,if_pos (by omega)]
   exact ⟨ps.length - (q + 1),by omega,q + 1,_,J,rwt,rfl,by omega,e2,hnew _ e2,hR,rfl,rfl⟩
 ·refine' stH
  rw [show q = ps.length by omega,List.take_length] at hsq
  exact fin_ret rfl rfl (hp_take hlt) ⟨_,hR,by rw [hsq]; rfl,rfl⟩
end Go.Proofs.YtmeakjgbjldkdaaGreat.Ai
namespace Go.Proofs.YtmeakjgbjldkdaaGreat.Ai
open Go
structure LibQ (pr : Prims) (F : Nat → Option IFn) : Prop extends LibJ pr F where
 f24 : Has pr F 24 i24
 f63 : Has pr F 63 i63
end Go.Proofs.YtmeakjgbjldkdaaGreat.Ai
namespace Go.Proofs.YtmeakjgbjldkdaaGreat.Ai
open Go
variable {pr : Prims} {F : Nat → Option IFn}
theorem putS_t (s x : Str) (l : List Str) : putS s (x :: l) true = x :: putS s l true:=by rw [putS,if_neg (by simp)]
theorem putS_le {s x : Str} (l : List Str) (h : leB s x = true) (h2 : Op.bytesLess s x = true) : putS s (x :: l) false = s :: x :: putS s l true:=by rw [putS,if_pos ⟨rfl,h⟩,if_pos h2]
theorem putS_eq {s x : Str} (l : List Str) (h : leB s x = true) (h2 : Op.bytesLess s x = false) : putS s (x :: l) false = x :: putS s l true:=by rw [putS,if_pos ⟨rfl,h⟩,if_neg (by simp [h2])]
theorem putS_gt {s x : Str} (l : List Str) (h : leB s x = false) : putS s (x :: l) false = x :: putS s l false:=by rw [putS,if_neg (by simp [h])]
theorem det_put (L : LibQ pr F) {ls : List Str} {z : Nat} {tg : Tag} (hz : ls ≠ [] → z = 1) (hn : ls.length ≤ 400000) (s : Str) {H : List Blk} {rw : List Nat} (hH : 0 < H.length) :
  ∃ (v : AV) (rw' : List Nat),IsL 1 v ((putS s ls false).map nmRow) ∧ Rx rw rw' ∧ Det pr F 63 [.list z tg (ls.map nmRow),.str s] ⟨H,rw⟩ (.ret v) ⟨H,rw'⟩:=by
 have hm:=L.hm
 suffices h : Wp pr F 63 [.list z tg (ls.map nmRow),.str s] ⟨H,rw⟩ fun r S' => ∃ (v : AV) (rw' : List Nat),IsL 1 v ((putS s ls false).map nmRow) ∧ Rx rw rw' ∧ r = .ret v ∧ S' = ⟨H,rw'⟩ by
  obtain ⟨r,S',hd,v,rw',h1,h2,rfl,rfl⟩:=h.det hm
  exact ⟨v,rw',h1,h2,hd⟩
 obtain ⟨b,hb⟩ : ∃ b,H[0]? = some b:=⟨_,List.getElem?_eq_getElem hH⟩
 have hlt:=hH
 have hll : (ls.map nmRow).length = ls.length:=List.length_map _
 have hR : Rx rw rw:=Rx.rfl
 refine at_start_hp hm L.f63.1 L.f63.2 rfl (hp_of hb) ?_
 refine' stI
 refine at_loop hm (fun mm e S' => ∃ (q : Nat) (o : List Str) (d : Bool) (l : AV) (J : List Blk) (rw3 : List Nat),S' = ⟨hp H 0 b J,rw3⟩ ∧ q ≤ ls.length ∧ o.length ≤ q + 1 ∧ (d = false → o.length ≤ q) ∧ putS s ls false = o ++ putS s (ls.drop q) d ∧ Lst rw 1 l (o.map nmRow) rw3 ∧ Rx rw rw3 ∧ mm = ls.length - q ∧
  e = [(0,.list z tg (ls.map nmRow)),(1,.str s),(5,l),(6,.bool d),(7,.int .i64 q)]) ?_ (m:=ls.length) ⟨0,[],false,_,[],rw,rfl,by omega,by simp,by simp,rfl,Lst.nil,Rx.rfl,rfl,rfl⟩
 clear hR
 rintro mm e S' ⟨q,o,d,l,J,rw3,rfl,hq0,ho1,ho2,hp1,hl,hR,rfl,rfl⟩
 by_cases hq1 : q < ls.length
 ·obtain ⟨x,hx⟩ : ∃ x,ls[q]? = some x:=⟨_,List.getElem?_eq_getElem hq1⟩
  have hxr : (ls.map nmRow)[q]? = some (nmRow x):=by rw [List.getElem?_map,hx]; rfl
  have hdr : ls.drop q = x :: ls.drop (q + 1):=by rw [List.drop_eq_getElem_cons hq1]; rw [List.getElem?_eq_getElem hq1] at hx; simp only [Option.some.injEq] at hx; rw [hx]
  have hz1:=hz (by intro h; rw [h] at hx; simp at hx)
  subst hz1
  rw [hdr] at hp1
  have hol : (o.map nmRow).length = o.length:=List.length_map _
  cases d
  ·have ho3:=ho2 rfl
   refine' stI
   ·have h1 : leB s x = true:=by assumption
    refine id_append ?_
    refine g_append rfl rfl rfl ?_
    refine ap_lst (row:=nmRow s) hl hR (by simp only [List.length_map,maxRow]; omega) (by simp only [List.length_map,maxRow]; omega) (by omega) ?_
    intro l4 rw4 hl4 hR4
    refine zrk7 ?_
    refine' stI
    refine id_append ?_
    refine g_append rfl rfl rfl ?_
    refine ap_lst (row:=nmRow x) hl4 hR4 (by simp only [List.length_append,List.length_map,List.length_cons,List.length_nil,maxRow]; omega) (by simp only [List.length_append,List.length_map,List.length_cons,List.length_nil,maxRow]; omega) (by omega) ?_
    intro l5 rw5 hl5 hR5
    refine zrk7 ?_
    refine' stI
    refine ⟨ls.length - (q + 1),by omega,q + 1,o ++ [s] ++ [x],true,l5,_,rw5,rfl,by omega,by simp; omega,by simp,?_,?_,hR5,rfl,rfl⟩
    ·rw [hp1,putS_le _ h1 hq]; simp
    ·simp only [List.map_append,List.map_cons,List.map_nil]; exact hl5
   ·have h1 : leB s x = true:=by assumption
    refine id_append ?_
    refine g_append rfl rfl rfl ?_
    refine ap_lst (row:=nmRow x) hl hR (by simp only [List.length_map,maxRow]; omega) (by simp only [List.length_map,maxRow]; omega) (by omega) ?_
    intro l4 rw4 hl4 hR4
    refine zrk7 ?_
    refine' stI
    refine ⟨ls.length - (q + 1),by omega,q + 1,o ++ [x],true,l4,_,rw4,rfl,by omega,by simp; omega,by simp,?_,?_,hR4,rfl,rfl⟩
    ·rw [hp1,putS_eq _ h1 hq]; simp
    ·simp only [List.map_append,List.map_cons,List.map_nil]; exact hl4
   ·have h1 : leB s x = false:=hq
    refine id_append ?_
    refine g_append rfl rfl rfl ?_
    refine ap_lst (row:=nmRow x) hl hR (by simp only [List.length_map,maxRow]; omega) (by simp only [List.length_map,maxRow]; omega) (by omega) ?_
    intro l4 rw4 hl4 hR4
    refine zrk7 ?_
    refine' stI
    refine ⟨ls.length - (q + 1),by omega,q + 1,o ++ [x],false,l4,_,rw4,rfl,by omega,by simp; omega,fun _ => by simp; exact ho2 rfl,?_,?_,hR4,rfl,rfl⟩
    ·rw [hp1,putS_gt _ h1]; simp
    ·simp only [List.map_append,List.map_cons,List.map_nil]; exact hl4
  ·refine' stI
   refine id_append ?_
   refine g_append rfl rfl rfl ?_
   refine ap_lst (row:=nmRow x) hl hR (by simp only [List.length_map,maxRow]; omega) (by simp only [List.length_map,maxRow]; omega) (by omega) ?_
   intro l4 rw4 hl4 hR4
   refine zrk7 ?_
   refine' stI
   refine ⟨ls.length - (q + 1),by omega,q + 1,o ++ [x],true,l4,_,rw4,rfl,by omega,by simp; omega,by simp,?_,?_,hR4,rfl,rfl⟩
   ·rw [hp1,putS_t]; simp
   ·simp only [List.map_append,List.map_cons,List.map_nil]; exact hl4
 ·rw [List.drop_eq_nil_of_le (by omega)] at hp1
  cases d
  ·refine' stI
   refine id_append ?_
   refine g_append rfl rfl rfl ?_
   refine ap_lst (row:=nmRow s) hl hR (by simp only [List.length_map,maxRow]; omega) (by simp only [List.length_map,maxRow]; omega) (by omega) ?_
   intro l4 rw4 hl4 hR4
   refine zrk7 ?_
   refine' stI
   refine fin_ret rfl (hl4.isL.below _) (hp_take hlt) ⟨_,_,?_,hR4,rfl,st_of hb⟩
   rw [hp1]
   show IsL 1 l4 ((o ++ [s]).map nmRow)
   rw [List.map_append]
   exact hl4.isL
  ·refine' stI
   refine fin_ret rfl (hl.isL.below _) (hp_take hlt) ⟨_,_,?_,hR,rfl,st_of hb⟩
   rw [hp1]
   show IsL 1 l ((o ++ []).map nmRow)
   rw [List.append_nil]
   exact hl.isL
end Go.Proofs.YtmeakjgbjldkdaaGreat.Ai
