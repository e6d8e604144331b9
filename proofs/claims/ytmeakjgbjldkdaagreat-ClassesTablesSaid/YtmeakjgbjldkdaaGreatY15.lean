/- A part of what is proved: JoinS, CloneS, SrtP, SloA, Slo, Awk, AwkD, Awk_k89, Awk_k92, Awk_k91a, Awk_k91b, Awk_k51, Awk_k55, Awk_k19, Awk_k26, Awk_k30, Awk_k35, Awk_k25a, Awk_k25b, Awk_k13, OnceW, SloW, SloT, OnceD, OnceS. No condition. -/
import Derived.Test.YtmeakjgbjldkdaaGreatY14
import Derived.KernelRfl
import Derived.Sort.Walk0
import Derived.Test.YtmeakjgbjldkdaaGreatProg
import Derived.Tactics
import Derived.Tactics2
import Derived.Defers
import Derived.Laws.Pointers
import Derived.Laws.LoneSync
import Derived.Laws.NewBlocks
import Derived.RegionTactic
import Derived.RegionCalls
import Derived.ChangeAlike
set_option maxRecDepth 100000
set_option maxHeartbeats 16000000
namespace Go.Proofs.YtmeakjgbjldkdaaGreat.Ai
open Go
theorem rel_below {K : Ghost} {S : St} {w w' : World} (R : Rel K S w) (h : RowKit.Below w.heap.size w w') : Rel K S w' ∧ ∀ X,Step K X w K w':=by
 have hb : ∀ B b,w.heap[B]? = some b → w'.heap[B]? = some b:=fun B b hB => by
  rw [h.block B (Array.getElem?_eq_some_iff.1 hB).1]
  exact hB
 refine ⟨⟨R.dom,R.inj,R.sep,fun n B cs h1 h2 => ?_,fun n B es h1 h2 => ?_,fun B l h1 => ?_,fun B b E sz size h1 => ?_⟩,fun X => ⟨Ext.refl K,h.os,h.tape,h.output,h.size,fun B hB _ _ => h.block B hB,fun B _ h1 h2 => ⟨h1,h2⟩,fun _ _ h => h,fun _ x h => .inl ⟨x,h⟩⟩⟩
 ·obtain ⟨vs,t,e1,e2⟩:=R.cells n B cs h1 h2
  exact ⟨vs,t,hb _ _ e1,e2⟩
 ·obtain ⟨vs,t,e1,e2⟩:=R.maps n B es h1 h2
  exact ⟨vs,t,hb _ _ e1,e2⟩
 ·obtain ⟨vs,t,e1,e2⟩:=R.rows B l h1
  exact ⟨vs,t,hb _ _ e1,e2⟩
 ·obtain ⟨l,e0,⟨vs,t,e1,e2⟩,e3⟩:=R.grow B b E sz size h1
  exact ⟨l,e0,⟨vs,t,hb _ _ e1,e2⟩,e3⟩
theorem joinT_eq (sep : Str) : ∀ l : List Str,Lib.join l sep = joinT sep l:=by
 intro l
 induction l with
 | nil => rfl
 | cons x l ih =>
  cases l with
  | nil => simp [Lib.join_one,joinT]
  | cons y l =>
   rw [Lib.join_cons] at ih ⊢
   simp only [joinT,← ih]
   simp [Lib.joinTail]
theorem strs_vals {K : Ghost} : ∀ {rows : List (List AV)} {l : List Str} {vs : List Value},strsOf rows = some l → RepLL K rows vs → vs = l.map (fun s => Value.string ⟨s.toArray⟩) ∧ rows.length = l.length:=by
 intro rows
 induction rows with
 | nil =>
  intro l vs h h2
  simp only [strsOf,Option.some.injEq] at h
  subst h
  simp only [RepLL] at h2
  subst h2
  exact ⟨rfl,rfl⟩
 | cons r rows ih =>
  intro l vs h h2
  unfold strsOf at h
  split at h
  ·simp at *
  ·rename_i s rs heq
   injection heq with e1 e2
   subst e1 e2
   split at h
   ·rename_i l' hl'
    simp only [Option.some.injEq] at h
    subst h
    simp only [RepLL,RepL,Rep] at h2
    obtain ⟨u,us,rfl,⟨v,vs',rfl,-,rfl,rfl⟩,h3⟩:=h2
    obtain ⟨e1,e2⟩:=ih hl' h3
    exact ⟨by rw [e1]; rfl,by simp [e2]⟩
   ·simp at h
  ·simp at h
theorem sumLen_join (sep : Str) : ∀ l : List Str,(joinT sep l).length ≤ sumLen sep.length l:=by
 intro l
 induction l with
 | nil => simp [joinT]
 | cons x l ih =>
  cases l with
  | nil => simp [joinT,sumLen]
  | cons y l =>
   simp only [joinT,List.length_append,sumLen] at ih ⊢
   omega
theorem enter54 (us : Array Value) (w : World) : (callFunc 54 us).run Tryz.prog w = .ok (.enter 54 us) w:=by
 have hf:=Tryz.func54
 have hb : Tryz.f54.body.isSome = true:=by kernel_rfl
 have h2 : (Tryz.f54.name != "runtime.NumGoroutine") = true:=by kernel_rfl
 obtain ⟨c,hc⟩:=Option.isSome_iff_exists.1 hb
 have h3 : ¬Tryz.f54.name = "runtime.NumGoroutine":=by simpa using h2
 simp [callFunc,hf,h3,hc]
theorem join_sim : PrimSim Tryz.prog 54 joinP:=by
 intro cl hcl vs S r S' hp K w us R hI ha
 unfold joinP at hp
 split at hp
 ·rename_i sz tag rows sep
  split at hp
  ·rename_i l hl
   split at hp
   ·rename_i hsz
    simp only [Option.some.injEq,Prod.mk.injEq] at hp
    obtain ⟨rfl,rfl⟩:=hp
    simp only [RepT,Rep] at ha
    obtain ⟨v1,us1,rfl,⟨base,cap,rfl,hcap,-,hb⟩,v2,us2,rfl,rfl,rfl⟩:=ha
    refine .inl ⟨enter54 _ _,?_⟩
    have hlj:=sumLen_join sep l
    rcases hb with ⟨rfl,rfl,rfl⟩ | ⟨B,o,vs,rfl,hfix,hrep,-⟩
    ·simp only [strsOf,Option.some.injEq] at hl
     subst hl
     refine (Tryz.strings_Join_none none 0 ⟨sep.toArray⟩ w).mono ?_
     rintro e w' ⟨rfl,rfl⟩
     exact ⟨K,R,Step.refl K _ _,keeps_refl _ _,_,rfl,by simp [Rep,joinT]⟩
    ·obtain ⟨hvs,hlen⟩:=strs_vals hl hrep
     subst hvs
     have hfix0:=hfix
     obtain ⟨lg,hg,-⟩:=hfix
     obtain ⟨va,t,hva,-⟩:=R.rows B lg hg
     have hBs : B < w.heap.size:=(Array.getElem?_eq_some_iff.1 hva).1
     have hdl : ((l.map fun s => (⟨s.toArray⟩ : ByteArray)).map (·.data.toList)) = l:=by
      rw [List.map_map]
      conv => rhs; rw [← List.map_id l]
      exact List.map_congr_left fun s _ => rfl
     have hJ:=Tryz.strings_Join B o cap (l.map fun s => (⟨s.toArray⟩ : ByteArray)) ⟨sep.toArray⟩ w (fun j x hx => by
      rw [List.getElem?_map] at hx
      cases hj : l[j]? with
      | none => rw [hj] at hx; simp at hx
      | some s =>
       rw [hj] at hx
       simp only [Option.map_some,Option.some.injEq] at hx
       subst hx
       exact R.fix_cell hfix0 j _ (by rw [List.getElem?_map,hj]; rfl)) hBs (by rw [List.length_map]; omega) (by rw [List.length_map]; omega) (by
      rw [hdl,joinT_eq]
      exact Nat.le_trans hlj (by omega))
     rw [List.length_map,← hlen] at hJ
     refine hJ.mono ?_
     rintro e w' ⟨rfl,hbel⟩
     obtain ⟨R',hst⟩:=rel_below R hbel
     refine ⟨K,R',hst _,keeps_refl _ _,_,rfl,?_⟩
     simp only [Rep]
     rw [hdl,joinT_eq]
   ·simp at hp
  ·simp at hp
 ·simp at hp
end Go.Proofs.YtmeakjgbjldkdaaGreat.Ai
namespace Go.Proofs.YtmeakjgbjldkdaaGreat.Ai
open Go
theorem m_lt {K : Ghost} {S : St} {w : World} (R : Rel K S w) {n B : Nat} (h : K.m n = some B) : B < w.heap.size:=by
 have hn:=R.dom n B h
 obtain ⟨b,hb⟩ : ∃ b,S.heap[n]? = some b:=⟨_,List.getElem?_eq_getElem hn⟩
 cases b with
 | cells cs =>
  obtain ⟨vs,t,e1,-⟩:=R.cells n B cs h hb
  exact (Array.getElem?_eq_some_iff.1 e1).1
 | map es =>
  obtain ⟨vs,t,e1,-⟩:=R.maps n B es h hb
  exact (Array.getElem?_eq_some_iff.1 e1).1
theorem g_lt {K : Ghost} {S : St} {w : World} (R : Rel K S w) {B : Nat} {l : List Value} (h : K.g B = some l) : B < w.heap.size:=by
 obtain ⟨vs,t,e1,-⟩:=R.rows B l h
 exact (Array.getElem?_eq_some_iff.1 e1).1
theorem a_none {K : Ghost} {S : St} {w : World} (R : Rel K S w) {B : Nat} (h : w.heap.size ≤ B) : K.a B = none:=by
 cases ha : K.a B with
 | none => rfl
 | some x =>
  obtain ⟨b,E,sz,size⟩:=x
  obtain ⟨l,hg,-⟩:=R.grow B b E sz size ha
  have:=g_lt R hg
  omega
def addG (K : Ghost) (g : Nat) (l : List Value) : Ghost:={K with g:=fun B => if B = g then some l else K.g B}
theorem rel_addG {K : Ghost} {S : St} {w w' : World} (R : Rel K S w) (h : RowKit.Below w.heap.size w w') {g : Nat} {l : List Value} {cur : Array Value} {t : TypeId} (hg : w.heap.size ≤ g) (hc : w'.heap[g]? = some (.cells cur t (0,0))) (hl : cur.toList.take l.length = l) :
  Rel (addG K g l) S w' ∧ ∀ X,Step K X w (addG K g l) w':=by
 obtain ⟨R',hst⟩:=rel_below R h
 have hne : ∀ B lb,K.g B = some lb → B ≠ g:=fun B lb hB e => by
  have:=g_lt R hB
  omega
 have hnm : ∀ n B,K.m n = some B → B ≠ g:=fun n B hB e => by
  have:=m_lt R hB
  omega
 have hext : Ext K (addG K g l):=by
  refine ⟨fun _ _ h => h,fun B lb hB => ⟨[],?_⟩,fun B b E sz size hB => ⟨E,hB,Nat.le_refl _,fun l1 l2 e1 e2 => ?_⟩,fun _ _ _ h => h⟩
  ·show (if B = g then some l else K.g B) = some (lb ++ [])
   rw [if_neg (hne B lb hB),List.append_nil]
   exact hB
  ·change (if B = g then some l else K.g B) = some l2 at e2
   rw [if_neg (hne B l1 e1),e1] at e2
   simp only [Option.some.injEq] at e2
   subst e2
   simp
 refine ⟨⟨R'.dom,R'.inj,fun n B hB => ?_,fun n B cs h1 h2 => ?_,fun n B es h1 h2 => ?_,fun B lb hB => ?_,fun B b E sz size hB => ?_⟩,fun X => ⟨hext,h.os,h.tape,h.output,h.size,fun B hB _ _ => h.block B hB,fun B hB h1 h2 => ⟨h1,?_⟩,fun _ _ h => h,fun _ x h => .inl ⟨x,h⟩⟩⟩
 ·show (if B = g then some l else K.g B) = none
  rw [if_neg (hnm n B hB)]
  exact R'.sep n B hB
 ·obtain ⟨vs,t,e1,e2⟩:=R'.cells n B cs h1 h2
  exact ⟨vs,t,e1,e2.ext hext _ _⟩
 ·obtain ⟨vs,t,e1,e2⟩:=R'.maps n B es h1 h2
  exact ⟨vs,t,e1,e2.ext hext⟩
 ·change (if B = g then some l else K.g B) = some lb at hB
  split at hB
  ·rename_i e
   subst e
   simp only [Option.some.injEq] at hB
   subst hB
   exact ⟨cur,t,hc,hl⟩
  ·exact R'.rows B lb hB
 ·obtain ⟨l0,e1,e2,e3⟩:=R'.grow B b E sz size hB
  refine ⟨l0,?_,e2,e3⟩
  show (if B = g then some l else K.g B) = some l0
  rw [if_neg (hne B l0 e1)]
  exact e1
 ·show (if B = g then some l else K.g B) = none
  rw [if_neg (by omega)]
  exact h2
theorem vals_strs {K : Ghost} : ∀ {rows : List (List AV)} {l : List Str},strsOf rows = some l → RepLL K rows (l.map fun s => Value.string ⟨s.toArray⟩):=by
 intro rows
 induction rows with
 | nil =>
  intro l h
  simp only [strsOf,Option.some.injEq] at h
  subst h
  simp [RepLL]
 | cons r rows ih =>
  intro l h
  unfold strsOf at h
  split at h
  ·simp at *
  ·rename_i s rs heq
   injection heq with e1 e2
   subst e1 e2
   split at h
   ·rename_i l' hl'
    simp only [Option.some.injEq] at h
    subst h
    simp only [RepLL,RepL,Rep,List.map_cons]
    exact ⟨[_],_,rfl,⟨_,_,rfl,rfl,rfl,rfl⟩,ih hl'⟩
   ·simp at h
  ·simp at h
theorem enter62 (us : Array Value) (w : World) : (callFunc 62 us).run Tryz.prog w = .ok (.enter 62 us) w:=by
 have hf:=Tryz.func62
 have hb : Tryz.f62.body.isSome = true:=by kernel_rfl
 have h2 : (Tryz.f62.name != "runtime.NumGoroutine") = true:=by kernel_rfl
 obtain ⟨c,hc⟩:=Option.isSome_iff_exists.1 hb
 have h3 : ¬Tryz.f62.name = "runtime.NumGoroutine":=by simpa using h2
 simp [callFunc,hf,h3,hc]
theorem clone_sim : PrimSim Tryz.prog 62 cloneP:=by
 intro cl hcl vs S r S' hp K w us R hI ha
 unfold cloneP at hp
 split at hp
 ·rename_i tag r0 rows
  split at hp
  ·rename_i l hl
   split at hp
   ·rename_i hsz
    simp only [Option.some.injEq,Prod.mk.injEq] at hp
    obtain ⟨rfl,rfl⟩:=hp
    simp only [RepT,Rep] at ha
    obtain ⟨v1,us1,rfl,⟨base,cap,rfl,hcap,hrw,hb⟩,rfl⟩:=ha
    refine .inl ⟨enter62 _ _,?_⟩
    rcases hb with ⟨rfl,h0,rfl⟩ | ⟨B,o,vs,rfl,hfix,hrep,-⟩
    ·simp at h0
    ·obtain ⟨hvs,hlen⟩:=strs_vals hl hrep
     subst hvs
     have hC:=Tryz.slices_Clone_string B o l.length cap (l.map fun s => (⟨s.toArray⟩ : ByteArray)) w (by rw [List.length_map]; exact Nat.le_refl _) (by omega) (fun j hj => by
      rw [List.length_map] at hj
      refine R.fix_cell hfix j _ ?_
      rw [List.getElem?_map,List.getElem?_eq_getElem hj]
      simp only [Option.map_some,List.getD_eq_getElem?_getD,List.getElem?_map,List.getElem?_eq_getElem hj,Option.getD_some])
     rw [← hlen] at hC
     refine hC.mono ?_
     rintro e w' ⟨v',rfl,⟨hxl,hown⟩,hnn,hbel⟩
     rcases hown with ⟨rfl,-⟩ | ⟨g,cap',cur,rfl,hge,hgc,hcap',-,hcs,htk⟩
     ·exact absurd rfl hnn
     ·have hx : (List.take (r0 :: rows).length (l.map fun s => (⟨s.toArray⟩ : ByteArray))).map Value.string = l.map fun s => Value.string ⟨s.toArray⟩:=by
       rw [hlen,← List.length_map (f:=fun s : Str => (⟨s.toArray⟩ : ByteArray)),List.take_length,List.map_map]
       rfl
      rw [hx] at htk hxl
      obtain ⟨R',hst⟩:=rel_addG R hbel hge hgc (l:=l.map fun s => Value.string ⟨s.toArray⟩) (by rw [List.length_map,← hlen]; simpa using htk)
      refine ⟨_,R',hst _,keeps_refl _ _,_,rfl,?_⟩
      simp only [Rep]
      refine ⟨_,cap',rfl,hcap',hrw,.inr ⟨g,0,_,rfl,⟨l.map fun s => Value.string ⟨s.toArray⟩,?_,?_⟩,vals_strs hl,⟨fun x hx => (by rw [show (addG K g _).a g = K.a g from rfl,a_none R hge] at hx; cases hx),trivial⟩⟩⟩
      ·show (if g = g then some _ else K.g g) = some _
       rw [if_pos rfl]
      ·rw [List.drop_zero,List.take_length]
   ·simp at hp
  ·simp at hp
 ·simp at hp
end Go.Proofs.YtmeakjgbjldkdaaGreat.Ai
namespace Go.Proofs.YtmeakjgbjldkdaaGreat.Ai
open Go
def leB (s x : List UInt8) : Bool:=Op.bytesLess s x || (s == x)
def insB (s : List UInt8) : List (List UInt8) → List (List UInt8)
 | [] => [s]
 | x :: l => if leB s x = true then s :: x :: l else x :: insB s l
def sortB : List (List UInt8) → List (List UInt8)
 | [] => []
 | s :: l => insB s (sortB l)
def dedP (p : List UInt8) : List (List UInt8) → List (List UInt8)
 | [] => []
 | x :: l => if x = p then dedP p l else x :: dedP x l
def dedB : List (List UInt8) → List (List UInt8)
 | [] => []
 | x :: l => x :: dedP x l
theorem leB_eq (x y : List UInt8) : leB x y = decide (x ≤ y):=by
 unfold leB
 rw [Go.Proofs.bytesLess_eq]
 by_cases h : x ≤ y
 ·rw [decide_eq_true h]
  by_cases h2 : x < y
  ·simp [h2]
  ·have : x = y:=List.le_antisymm h h2
   simp [this]
 ·rw [decide_eq_false h]
  have h3 : y < x:=Classical.not_not.1 h
  have h2 : ¬ x < y:=fun h2 => h (Std.le_of_lt h2)
  have h4 : x ≠ y:=fun e => h (e ▸ Std.le_refl x)
  simp [h2,h4]
theorem insB_perm (s : List UInt8) : ∀ l,(insB s l).Perm (s :: l)
 | [] => List.Perm.refl _
 | x :: l => by
  unfold insB
  split
  ·exact List.Perm.refl _
  ·exact ((insB_perm s l).cons x).trans (List.Perm.swap s x l)
theorem sortB_perm : ∀ l,(sortB l).Perm l
 | [] => List.Perm.refl _
 | s :: l => (insB_perm s (sortB l)).trans ((sortB_perm l).cons s)
theorem insB_sorted (s : List UInt8) : ∀ {l : List (List UInt8)},l.Pairwise (fun a b => a ≤ b) → (insB s l).Pairwise (fun a b => a ≤ b)
 | [],_ => by simp [insB]
 | x :: l,h => by
  unfold insB
  have h':=List.pairwise_cons.1 h
  split
  ·rename_i hle
   rw [leB_eq,decide_eq_true_eq] at hle
   refine List.pairwise_cons.2 ⟨fun y hy => ?_,h⟩
   rcases List.mem_cons.1 hy with rfl | hy
   ·exact hle
   ·exact List.le_trans hle (h'.1 y hy)
  ·rename_i hle
   rw [leB_eq,decide_eq_true_eq] at hle
   have hxs : x ≤ s:=(List.le_total s x).resolve_left hle
   refine List.pairwise_cons.2 ⟨fun y hy => ?_,insB_sorted s h'.2⟩
   rcases List.mem_cons.1 ((insB_perm s l).mem_iff.1 hy) with rfl | hy
   ·exact hxs
   ·exact h'.1 y hy
theorem sortB_sorted : ∀ l,(sortB l).Pairwise (fun a b => a ≤ b)
 | [] => List.Pairwise.nil
 | s :: l => insB_sorted s (sortB_sorted l)
theorem sortB_eq (l : List (List UInt8)) : l.mergeSort (fun x y => decide (x ≤ y)) = sortB l:=by
 refine List.Perm.eq_of_pairwise (le:=fun a b => a ≤ b) (fun a b _ _ h1 h2 => List.le_antisymm h1 h2) ?_ (sortB_sorted l) ((List.mergeSort_perm _ _).trans (sortB_perm l).symm)
 have:=List.pairwise_mergeSort (le:=fun x y : List UInt8 => decide (x ≤ y)) (fun a b c h1 h2 => by simp only [decide_eq_true_eq] at *; exact List.le_trans h1 h2) (fun a b => by simp only [Bool.or_eq_true,decide_eq_true_eq]; exact List.le_total a b) l
 exact this.imp (fun h => by simpa using h)
theorem dedP_eq : ∀ (rest pre : List (List UInt8)) (p : List UInt8),((List.range' (pre.length + 1) rest.length).filter (Lib.keeps (pre ++ p :: rest).toArray)).map ((pre ++ p :: rest).toArray[·]!) = dedP p rest
 | [],pre,p => by simp [dedP]
 | x :: r,pre,p => by
  have ih:=dedP_eq r (pre ++ [p]) x
  have e : pre ++ [p] ++ x :: r = pre ++ p :: x :: r:=by simp
  have e2 : (pre ++ [p]).length + 1 = pre.length + 1 + 1:=by simp
  rw [e,e2] at ih
  have g1 : (pre ++ p :: x :: r).toArray[pre.length + 1]! = x:=by simp []
  have g0 : (pre ++ p :: x :: r).toArray[pre.length]! = p:=by simp
  simp only [List.length_cons]
  rw [List.range'_succ,List.filter_cons]
  have hk : Lib.keeps (pre ++ p :: x :: r).toArray (pre.length + 1) = decide (x ≠ p):=by
   unfold Lib.keeps
   rw [g1,Nat.add_sub_cancel,g0]
   simp
  rw [hk]
  unfold dedP
  by_cases hx : x = p
  ·subst hx
   simp only [ne_eq,not_true_eq_false,decide_false,Bool.false_eq_true,if_false,if_true]
   exact ih
  ·simp only [ne_eq,hx,not_false_eq_true,decide_true,if_true,if_false,List.map_cons,g1]
   rw [ih]
theorem dedB_eq (l : List (List UInt8)) : Lib.compact l = dedB l:=by
 cases l with
 | nil => rfl
 | cons x l =>
  have h:=dedP_eq l [] x
  simp only [List.nil_append,List.length_nil,Nat.zero_add] at h
  unfold Lib.compact Lib.compactUpTo dedB
  rw [List.length_cons,List.range_eq_range',List.range'_succ,List.filter_cons,if_pos (Lib.keeps_lt_one _ 0 (by omega)),List.map_cons,h]
  rfl
theorem sortB_length (l : List (List UInt8)) : (sortB l).length = l.length:=(sortB_perm l).length_eq
theorem dedP_length (p : List UInt8) : ∀ l,(dedP p l).length ≤ l.length
 | [] => Nat.le_refl _
 | x :: l => by
  unfold dedP
  split
  ·have:=dedP_length p l
   simp only [List.length_cons]; omega
  ·have:=dedP_length x l
   simp only [List.length_cons]; omega
theorem dedB_length : ∀ l,(dedB l).length ≤ l.length
 | [] => Nat.le_refl _
 | x :: l => by
  unfold dedB
  have:=dedP_length x l
  simp only [List.length_cons]; omega
theorem mem_dedP (p : List UInt8) : ∀ l,∀ s ∈ dedP p l,s ∈ l
 | [],s,h => by cases h
 | x :: l,s,h => by
  unfold dedP at h
  split at h
  ·exact List.mem_cons_of_mem _ (mem_dedP p l s h)
  ·rcases List.mem_cons.1 h with rfl | h
   ·exact List.mem_cons_self
   ·exact List.mem_cons_of_mem _ (mem_dedP x l s h)
theorem mem_dedB : ∀ l,∀ s ∈ dedB l,s ∈ l
 | [],s,h => by cases h
 | x :: l,s,h => by
  unfold dedB at h
  rcases List.mem_cons.1 h with rfl | h
  ·exact List.mem_cons_self
  ·exact List.mem_cons_of_mem _ (mem_dedP x l s h)
end Go.Proofs.YtmeakjgbjldkdaaGreat.Ai
namespace Go.Proofs.YtmeakjgbjldkdaaGreat.Ai
open Go
def badS (l : List Str) : AV → Bool
 | .str s => l.contains s
 | _ => false
def tagB (b : Nat) : Tag → Bool
 | .row b' _ => b' != b
 | _ => true
mutual
def aw (l : List Str) (b : Nat) : AV → Bool
 | .list _ tag rows => tagB b tag && awLL l b rows
 | .ref cs => awC l b cs
 | .func _ x y => awT l b x && awT l b y
 | .iface _ v => aw l b v
 | .agg cs => awT l b cs
 | .tup cs => awT l b cs
 | _ => true
def awT (l : List Str) (b : Nat) : List AV → Bool
 | [] => true
 | x :: xs => aw l b x && awT l b xs
def awC (l : List Str) (b : Nat) : List AV → Bool
 | [] => true
 | x :: xs => !badS l x && (aw l b x && awC l b xs)
def awLL (l : List Str) (b : Nat) : List (List AV) → Bool
 | [] => true
 | r :: rs => awC l b r && awLL l b rs
end
def awB (l : List Str) (b : Nat) : Blk → Bool
 | .cells cs => awT l b cs
 | .map es => es.all fun x => aw l b x.2
def awH (l : List Str) (b n : Nat) : Nat → List Blk → Bool
 | _,[] => true
 | k,x :: xs => (k == n || awB l b x) && awH l b n (k + 1) xs
theorem awH_spec {l : List Str} {b n : Nat} : ∀ {k : Nat} {hs : List Blk},awH l b n k hs = true → ∀ i x,hs[i]? = some x → k + i ≠ n → awB l b x = true
 | k,[],_,i,x,h,_ => by simp at h
 | k,y :: ys,hh,i,x,h,hne => by
  simp only [awH,Bool.and_eq_true,Bool.or_eq_true,beq_iff_eq] at hh
  cases i with
  | zero =>
   simp only [List.getElem?_cons_zero,Option.some.injEq] at h
   subst h
   exact hh.1.resolve_left (by simpa using hne)
  | succ i =>
   simp only [List.getElem?_cons_succ] at h
   exact awH_spec hh.2 i x h (by omega)
structure Moved (l : List Str) (b Br : Nat) (K K' : Ghost) : Prop where
 m : K'.m = K.m
 fix' : ∀ {B o vs},K.fix B o vs → (∀ v ∈ vs,∀ s ∈ l,v ≠ .string ⟨s.toArray⟩) → K'.fix B o vs
 tag : ∀ {sz tag len cap B o},K.tagOk sz tag len cap B o → tagB b tag = true → K'.tagOk sz tag len cap B o
theorem moved_fix {l : List Str} {Br : Nat} {K K' : Ghost} (g : ∀ B,B ≠ Br → K'.g B = K.g B) (fix : ∀ o vs,K.fix Br o vs → (∀ v ∈ vs,∀ s ∈ l,v ≠ .string ⟨s.toArray⟩) → K'.fix Br o vs) {B o : Nat} {vs : List Value} (h : K.fix B o vs) (hv : ∀ v ∈ vs,∀ s ∈ l,v ≠ .string ⟨s.toArray⟩) : K'.fix B o vs:=by
 by_cases hB : B = Br
 ·subst hB
  exact fix o vs h hv
 ·obtain ⟨x,h1,h2⟩:=h
  exact ⟨x,by rw [g B hB]; exact h1,h2⟩
theorem moved_z {l : List Str} {b Br : Nat} {K K' : Ghost} (m : K'.m = K.m) (g : ∀ B,B ≠ Br → K'.g B = K.g B) (ha : ∀ B,B ≠ Br → K'.a B = K.a B) (hb : ∀ x,K.a Br = some x → x.1 = b) (z : K'.a Br = none) (fix : ∀ o vs,K.fix Br o vs → (∀ v ∈ vs,∀ s ∈ l,v ≠ .string ⟨s.toArray⟩) → K'.fix Br o vs) : Moved l b Br K K':=by
 refine ⟨m,moved_fix g fix,fun {sz tag len cap B o} h hbt => ⟨fun x hx => ?_,?_⟩⟩
 ·by_cases hB : B = Br
  ·subst hB
   rw [z] at hx
   cases hx
  ·rw [ha B hB] at hx
   exact h.1 x hx
 replace h:=h.2
 cases tag with
 | full => exact h
 | still =>
  by_cases hB : B = Br
  ·subst hB
   exact z
  ·show K'.a B = none
   rw [ha B hB]
   exact h
 | dead => trivial
 | row b' e =>
  obtain ⟨⟨x,h1,h2⟩,h3⟩:=h
  have hB : B ≠ Br:=fun e => by
   subst e
   have:=hb x h1
   simp only [tagB,bne_iff_ne,ne_eq] at hbt
   exact hbt (h2.symm.trans this)
  refine ⟨⟨x,by rw [ha B hB]; exact h1,h2⟩,fun hlt => ?_⟩
  obtain ⟨E,size,l',ha',hg,hr⟩:=h3 hlt
  exact ⟨E,size,l',by rw [ha B hB]; exact ha',by rw [g B hB]; exact hg,hr⟩
theorem notbad {l : List Str} {K : Ghost} {x : AV} {v : Value} (hb : badS l x = false) (h : Rep K x v) : ∀ s ∈ l,v ≠ .string ⟨s.toArray⟩:=by
 intro s hs he
 subst he
 cases x with
 | str s' =>
  simp only [Rep,Value.string.injEq,ByteArray.mk.injEq] at h
  have : s = s':=by simpa using congrArg Array.toList h
  subst this
  simp only [badS,List.contains_eq_mem,decide_eq_false_iff_not] at hb
  exact hb hs
 | _ => simp only [Rep] at h <;> first | (obtain ⟨_,h,_⟩:=h; simp at h) | (obtain ⟨_,_,h,_⟩:=h; simp at h) | (obtain ⟨_,_,_,h,_⟩:=h; simp at h) | (obtain ⟨_,_,h⟩:=h; simp at h) | (obtain ⟨_,_,_,_,h⟩:=h; simp at h) | simp at h
theorem notbadC {l : List Str} {b : Nat} {K : Ghost} : ∀ {cs : List AV} {vs : List Value},awC l b cs = true → RepL K cs vs → ∀ v ∈ vs,∀ s ∈ l,v ≠ .string ⟨s.toArray⟩
 | [],vs,_,h,v,hv => by simp only [RepL] at h; subst h; cases hv
 | x :: xs,vs,hc,h,v,hv => by
  simp only [RepL] at h
  obtain ⟨u,us,rfl,-,h1,h2⟩:=h
  simp only [awC,Bool.and_eq_true,Bool.not_eq_true'] at hc
  rcases List.mem_cons.1 hv with rfl | hv
  ·exact notbad hc.1 h1
  ·exact notbadC hc.2.2 h2 v hv
theorem notbadLL {l : List Str} {b : Nat} {K : Ghost} : ∀ {rs : List (List AV)} {vs : List Value},awLL l b rs = true → RepLL K rs vs → ∀ v ∈ vs,∀ s ∈ l,v ≠ .string ⟨s.toArray⟩
 | [],vs,_,h,v,hv => by simp only [RepLL] at h; subst h; cases hv
 | x :: xs,vs,hc,h,v,hv => by
  simp only [RepLL] at h
  obtain ⟨u,us,rfl,h1,h2⟩:=h
  simp only [awLL,Bool.and_eq_true] at hc
  rcases List.mem_append.1 hv with hv | hv
  ·exact notbadC hc.1 h1 v hv
  ·exact notbadLL hc.2 h2 v hv
mutual
theorem Moved.rep {l : List Str} {b Br : Nat} {K K' : Ghost} (M : Moved l b Br K K') : ∀ (x : AV) (v : Value),Rep K x v → aw l b x = true → Rep K' x v
 | .bool _,_,r,_ => by simpa only [Rep] using r
 | .int _ _,_,r,_ => by simpa only [Rep] using r
 | .str _,_,r,_ => by simpa only [Rep] using r
 | .nilp,_,r,_ => by simpa only [Rep] using r
 | .nilm,_,r,_ => by simpa only [Rep] using r
 | .nilf,_,r,_ => by simpa only [Rep] using r
 | .nili,_,r,_ => by simpa only [Rep] using r
 | .undef,_,r,_ => by simpa only [Rep] using r
 | .ptr n off,v,r,_ => by simp only [Rep,M.m] at r ⊢; exact r
 | .map n,v,r,_ => by simp only [Rep,M.m] at r ⊢; exact r
 | .arr n off sz len,v,r,_ => by simp only [Rep,M.m] at r ⊢; exact r
 | .ref cs,v,r,h => by
  simp only [aw] at h
  simp only [Rep] at r ⊢
  obtain ⟨B,o,vs,hv,hf,hr⟩:=r
  exact ⟨B,o,vs,hv,M.fix' hf (notbadC h hr),Moved.repC M cs vs hr h⟩
 | .list sz tag rows,v,r,h => by
  simp only [aw,Bool.and_eq_true] at h
  simp only [Rep] at r ⊢
  obtain ⟨base,cap,hv,hc,hs,hr⟩:=r
  refine ⟨base,cap,hv,hc,hs,hr.imp id ?_⟩
  rintro ⟨B,o,vs,hb,hf,hr,ht⟩
  exact ⟨B,o,vs,hb,M.fix' hf (notbadLL h.2 hr),Moved.repLL M rows vs hr h.2,M.tag ht h.1⟩
 | .func f x y,v,r,h => by
  simp only [aw,Bool.and_eq_true] at h
  simp only [Rep] at r ⊢
  obtain ⟨us,vs,hv,h1,h2⟩:=r
  exact ⟨us,vs,hv,Moved.repT M x us h1 h.1,Moved.repT M y vs h2 h.2⟩
 | .iface t x,v,r,h => by
  simp only [aw] at h
  simp only [Rep] at r ⊢
  obtain ⟨u,hv,h1⟩:=r
  exact ⟨u,hv,Moved.rep M x u h1 h⟩
 | .agg cs,v,r,h => by
  simp only [aw] at h
  simp only [Rep] at r ⊢
  obtain ⟨vs,hv,h1⟩:=r
  exact ⟨vs,hv,Moved.repL M cs vs h1 h⟩
 | .tup cs,v,r,h => by
  simp only [aw] at h
  simp only [Rep] at r ⊢
  obtain ⟨vs,hv,h1⟩:=r
  exact ⟨vs,hv,Moved.repT M cs vs h1 h⟩
theorem Moved.repL {l : List Str} {b Br : Nat} {K K' : Ghost} (M : Moved l b Br K K') : ∀ (x : List AV) (v : List Value),RepL K x v → awT l b x = true → RepL K' x v
 | [],v,r,_ => by simpa only [RepL] using r
 | a :: ys,v,r,h => by
  simp only [awT,Bool.and_eq_true] at h
  simp only [RepL] at r ⊢
  obtain ⟨u,us,hv,h1,h2,h3⟩:=r
  exact ⟨u,us,hv,h1,Moved.rep M a u h2 h.1,Moved.repL M ys us h3 h.2⟩
theorem Moved.repC {l : List Str} {b Br : Nat} {K K' : Ghost} (M : Moved l b Br K K') : ∀ (x : List AV) (v : List Value),RepL K x v → awC l b x = true → RepL K' x v
 | [],v,r,_ => by simpa only [RepL] using r
 | a :: ys,v,r,h => by
  simp only [awC,Bool.and_eq_true] at h
  simp only [RepL] at r ⊢
  obtain ⟨u,us,hv,h1,h2,h3⟩:=r
  exact ⟨u,us,hv,h1,Moved.rep M a u h2 h.2.1,Moved.repC M ys us h3 h.2.2⟩
theorem Moved.repT {l : List Str} {b Br : Nat} {K K' : Ghost} (M : Moved l b Br K K') : ∀ (x : List AV) (v : List Value),RepT K x v → awT l b x = true → RepT K' x v
 | [],v,r,_ => by simpa only [RepT] using r
 | a :: ys,v,r,h => by
  simp only [awT,Bool.and_eq_true] at h
  simp only [RepT] at r ⊢
  obtain ⟨u,us,hv,h2,h3⟩:=r
  exact ⟨u,us,hv,Moved.rep M a u h2 h.1,Moved.repT M ys us h3 h.2⟩
theorem Moved.repLL {l : List Str} {b Br : Nat} {K K' : Ghost} (M : Moved l b Br K K') : ∀ (x : List (List AV)) (v : List Value),RepLL K x v → awLL l b x = true → RepLL K' x v
 | [],v,r,_ => by simpa only [RepLL] using r
 | a :: ys,v,r,h => by
  simp only [awLL,Bool.and_eq_true] at h
  simp only [RepLL] at r ⊢
  obtain ⟨u,us,hv,h2,h3⟩:=r
  exact ⟨u,us,hv,Moved.repC M a u h2 h.1,Moved.repLL M ys us h3 h.2⟩
end
theorem Moved.repM {l : List Str} {b Br : Nat} {K K' : Ghost} (M : Moved l b Br K K') : ∀ {es : List (Str × AV)} {ms : List MapEntry},RepM K es ms → (es.all fun x => aw l b x.2) = true → RepM K' es ms
 | [],_,h,_ => by simpa only [RepM] using h
 | x :: es,ms,h,ha => by
  simp only [List.all_cons,Bool.and_eq_true] at ha
  simp only [RepM] at h ⊢
  obtain ⟨m,ms',h1,h2,h3,h4⟩:=h
  exact ⟨m,ms',h1,h2,Moved.rep M _ _ h3 ha.1,M.repM h4 ha.2⟩
end Go.Proofs.YtmeakjgbjldkdaaGreat.Ai
namespace Go.Proofs.YtmeakjgbjldkdaaGreat.Ai
open Go
noncomputable def pre59 : IC:=match i59.body with
 | .seq a _ => a
 | c => c
noncomputable def slotsP : CallFn → List AV → St → Option (Res × St):=fun cl vs S =>
 if vs.length = 1 then match exec S.heap.length cl 100 pre59 (args0 vs) S with
  | some (.normal,e1,S1) => match eget e1 0 with
   | some (.ptr bx 0) => match S1.heap[bx]? with
    | some (.cells (.ptr n 0 :: _)) => match S1.heap[n]? with
     | some (.cells cs) => match (cs[6]? : Option AV) with
      | some (.list 1 (.row b _) rows) => match strsOf rows with
       | some l => if bx < S.heap.length ∧ n < S.heap.length ∧ S.rows.length ≤ b ∧ l.length ≤ 1000000 ∧ 0 < l.length ∧ awT l b (overlay cs 6 [.nilp]) = true ∧ awH l b n 0 (S1.heap.take S.heap.length) = true then
         some (.ret (.tup []),⟨(S1.heap.take S.heap.length).set n (.cells (overlay cs 6 [.list 1 .dead ((dedB (sortB l)).map fun s => [.str s])])),S1.rows⟩)
        else none
       | none => none
      | _ => none
     | _ => none
    | _ => none
   | _ => none
  | _ => none
 else none
end Go.Proofs.YtmeakjgbjldkdaaGreat.Ai
namespace Go.Proofs.YtmeakjgbjldkdaaGreat.Ai
open Go
noncomputable def PrB : Prims:=fun n => match n with
 | 54 => some joinP
 | 58 => some onceP
 | 59 => some slotsP
 | 62 => some cloneP
 | _ => none
theorem joinP_mono : PrimMono joinP:=fun _ _ _ _ _ _ h => h
theorem cloneP_mono : PrimMono cloneP:=fun _ _ _ _ _ _ h => h
theorem onceP_mono : PrimMono onceP:=by
 intro c c' h vs S a ha
 unfold onceP at ha ⊢
 split at ha
 ·rename_i n off m
  try dsimp only at ha ⊢
  split at ha
  ·rename_i cs hcs
   try dsimp only at ha ⊢
   split at ha
   ·rename_i h0 h1
    cases hx : c 59 [.ptr m 0] ⟨setC S.heap n (off + 1) (.int .i32 1),S.rows⟩ with
    | none => rw [hx] at ha; simp at ha
    | some x =>
     rw [h _ _ _ _ hx]
     rw [hx] at ha
     exact ha
   ·exact ha
   ·simp at ha
  ·simp at ha
 ·simp at ha
theorem slotsP_mono : PrimMono slotsP:=by
 intro c c' h vs S a ha
 unfold slotsP at ha ⊢
 split at ha
 ·rename_i hv
  rw [if_pos hv]
  cases hx : exec S.heap.length c 100 pre59 (args0 vs) S with
  | none => rw [hx] at ha; simp at ha
  | some x =>
   rw [exec_mono h (Nat.le_refl 100) _ _ _ _ hx]
   rw [hx] at ha
   exact ha
 ·simp at ha
theorem prB_mono : Mono PrB:=by
 intro f p hp
 unfold PrB at hp
 split at hp
 ·simp only [Option.some.injEq] at hp; subst hp; exact joinP_mono
 ·simp only [Option.some.injEq] at hp; subst hp; exact onceP_mono
 ·simp only [Option.some.injEq] at hp; subst hp; exact slotsP_mono
 ·simp only [Option.some.injEq] at hp; subst hp; exact cloneP_mono
 ·simp at hp
structure Kn where
 f : Nat
 vs : List AV
 S : St
 r : Res
 T : St
def beqM : List (Str × AV) → List (Str × AV) → Bool
 | [],[] => true
 | (a,x) :: l,(b,y) :: m => a == b && (AV.beq x y && beqM l m)
 | _,_ => false
def beqB : Blk → Blk → Bool
 | .cells a,.cells b => AV.beqL a b
 | .map a,.map b => beqM a b
 | _,_ => false
def beqH : List Blk → List Blk → Bool
 | [],[] => true
 | a :: l,b :: m => beqB a b && beqH l m
 | _,_ => false
def beqS (S T : St) : Bool:=beqH S.heap T.heap && S.rows == T.rows
def beqR : Res → Res → Bool
 | .ret a,.ret b => AV.beq a b
 | .panic a,.panic b => AV.beq a b
 | _,_ => false
theorem beqM_eq : ∀ {a b : List (Str × AV)},beqM a b = true → a = b
 | [],[],_ => rfl
 | (a,x) :: l,(b,y) :: m,h => by
  simp only [beqM,Bool.and_eq_true,beq_iff_eq] at h
  rw [h.1,eq_of_beq _ _ h.2.1,beqM_eq h.2.2]
 | [],_ :: _,h => by simp [beqM] at h
 | _ :: _,[],h => by simp [beqM] at h
theorem beqB_eq {a b : Blk} (h : beqB a b = true) : a = b:=by
 cases a <;> cases b <;> simp only [beqB,Bool.false_eq_true] at h
 ·rw [eq_of_beqL _ _ h]
 ·rw [beqM_eq h]
theorem beqH_eq : ∀ {a b : List Blk},beqH a b = true → a = b
 | [],[],_ => rfl
 | a :: l,b :: m,h => by
  simp only [beqH,Bool.and_eq_true] at h
  rw [beqB_eq h.1,beqH_eq h.2]
 | [],_ :: _,h => by simp [beqH] at h
 | _ :: _,[],h => by simp [beqH] at h
theorem beqS_eq {S T : St} (h : beqS S T = true) : S = T:=by
 simp only [beqS,Bool.and_eq_true,beq_iff_eq] at h
 cases S; cases T
 simp only at h
 rw [beqH_eq h.1,h.2]
theorem beqR_eq {a b : Res} (h : beqR a b = true) : a = b:=by
 cases a <;> cases b <;> simp only [beqR,Bool.false_eq_true] at h
 ·rw [eq_of_beq _ _ h]
 ·rw [eq_of_beq _ _ h]
def seek (f : Nat) (vs : List AV) (S : St) : List Kn → Option (Res × St)
 | [] => none
 | k :: ks => if (k.f == f && (AV.beqL k.vs vs && beqS k.S S)) = true then some (k.r,k.T) else seek f vs S ks
def Known (k : Kn) : Prop:=∃ n,callN PrB FA n k.f k.vs k.S = some (k.r,k.T)
theorem seek_spec {f : Nat} {vs : List AV} {S : St} : ∀ {ks : List Kn} {x : Res × St},seek f vs S ks = some x → ∃ k ∈ ks,k.f = f ∧ k.vs = vs ∧ k.S = S ∧ x = (k.r,k.T)
 | [],x,h => by simp [seek] at h
 | k :: ks,x,h => by
  simp only [seek] at h
  split at h
  ·rename_i hc
   simp only [Bool.and_eq_true,beq_iff_eq] at hc
   simp only [Option.some.injEq] at h
   exact ⟨k,List.mem_cons_self,hc.1,eq_of_beqL _ _ hc.2.1,beqS_eq hc.2.2,h.symm⟩
  ·obtain ⟨k',h1,h2⟩:=seek_spec h
   exact ⟨k',List.mem_cons_of_mem _ h1,h2⟩
noncomputable def callK (ks : List Kn) : Nat → CallFn
 | 0 => fun _ _ _ => none
 | n + 1 => fun f vs S => match seek f vs S ks with
  | some x => some x
  | none => match PrB f with
   | some p => p (callK ks n) vs S
   | none => match FA f with
    | some fn => enter (callK ks n) n fn vs S
    | none => none
theorem known_all : ∀ {ks : List Kn},(∀ k ∈ ks,Known k) → ∃ M,∀ k ∈ ks,callN PrB FA M k.f k.vs k.S = some (k.r,k.T)
 | [],_ => ⟨0,fun k h => by cases h⟩
 | k :: ks,h => by
  obtain ⟨M,hM⟩:=known_all (fun k' hk => h k' (List.mem_cons_of_mem _ hk))
  obtain ⟨n,hn⟩:=h k List.mem_cons_self
  refine ⟨n + M,fun k' hk => ?_⟩
  rcases List.mem_cons.1 hk with rfl | hk
  ·exact callN_mono prB_mono (by omega) _ _ _ _ hn
  ·exact callN_mono prB_mono (by omega) _ _ _ _ (hM k' hk)
theorem callK_le {ks : List Kn} {M : Nat} (h : ∀ k ∈ ks,callN PrB FA M k.f k.vs k.S = some (k.r,k.T)) : ∀ n,CLe (callK ks n) (callN PrB FA (M + n))
 | 0 => fun f vs S a ha => by simp [callK] at ha
 | n + 1 => by
  intro f vs S a ha
  have ih:=callK_le h n
  rw [callK] at ha
  dsimp only at ha
  split at ha
  ·rename_i x hx
   obtain ⟨k,hk,rfl,rfl,rfl,rfl⟩:=seek_spec hx
   simp only [Option.some.injEq] at ha
   subst ha
   exact callN_mono prB_mono (by omega) _ _ _ _ (h k hk)
  ·rw [show M + (n + 1) = (M + n) + 1 by omega,callN]
   dsimp only
   split at ha
   ·rename_i p hp
    rw [hp]
    exact prB_mono f p hp _ _ ih vs S a ha
   ·rename_i hp
    rw [hp]
    dsimp only
    split at ha
    ·rename_i fn hf
     rw [hf]
     exact enter_mono ih (by omega) fn vs S a ha
    ·simp at ha
def isK (o : Option (Res × St)) (k : Kn) : Bool:=match o with
 | some x => beqR x.1 k.r && beqS x.2 k.T
 | none => false
theorem known_of {ks : List Kn} (h : ∀ k ∈ ks,Known k) (k : Kn) {n : Nat} (hk : isK (callK ks n k.f k.vs k.S) k = true) : Known k:=by
 obtain ⟨M,hM⟩:=known_all h
 unfold isK at hk
 split at hk
 ·rename_i x hx
  simp only [Bool.and_eq_true] at hk
  refine ⟨M + n,?_⟩
  rw [callK_le hM n _ _ _ _ hx]
  rw [← beqR_eq hk.1,← beqS_eq hk.2]
 ·simp at hk
end Go.Proofs.YtmeakjgbjldkdaaGreat.Ai
namespace Go.Proofs.YtmeakjgbjldkdaaGreat.Ai
open Go
noncomputable def Qt6 : List AV:=[.str [73],.bool true,.str [],.list 0 .full [],.list 0 .full [],.list 0 .full [],.list 0 .full [],.list 11 .dead [[.str [102],.list 8 .dead [[.str [97],Qz 1,.str [],.bool false,.list 0 .full [],.list 0 .full [],Qz 23,Qz 20]],Qz 1,.str [],.bool false,.list 0 .full [],.list 0 .full [],Qz 29,.list 0 .full [],.bool true,Qz 18]],Qz 10]
noncomputable def Qt7 : List AV:=[.str [65],.bool false,.str [],.list 1 .dead [[.str [73]]],.list 9 .dead [[.str [110],Qz 1,.str [],.bool false,.list 0 .full [],.list 0 .full [],Qz 68,.bool true,Qz 65]],.list 0 .full [],.list 0 .full [],.list 11 .dead [[.str [102],.list 8 .dead [[.str [97],Qz 1,.str [],.bool false,.list 0 .full [],.list 0 .full [],Qz 82,Qz 79]],Qz 1,.str [],.bool false,.list 0 .full [],.list 0 .full [],Qz 88,.list 7 .dead [[.str [114,101,116,117,114,110],.str [],.list 0 .full [],.list 5 .dead [[.str [118,97,114],.str [97],.list 0 .full [],.list 0 .full [],Qz 101]],.list 0 .full [],.list 0 .full [],Qz 94]],.bool false,Qz 77]],Qz 42]
noncomputable def Qt1 : List (List AV):=[Qt6,Qt7,[.str [66],.bool false,.str [65],.list 0 .full [],.list 0 .full [],.list 0 .full [],.list 0 .full [],.list 0 .full [],Qz 114]]
noncomputable def Qt2 : List (List AV):=[[Qz 1,.str [105,110,116,101,114,102,97,99,101],Qz 0],[Qz 1,.str [73],Qz 10],[Qz 3,.str [123],Qz 12],[Qz 1,.str [100,101,102],Qz 14],[Qz 1,.str [102],Qz 18],[Qz 3,.str [40],Qz 19],[Qz 1,.str [97],Qz 20],[Qz 3,.str [58],Qz 21],[Qz 1,.str [105,110,116],Qz 23],[Qz 3,.str [41],Qz 26],[Qz 3,.str [58],Qz 27],[Qz 1,.str [105,110,116],Qz 29],[Qz 3,.str [59],Qz 32],[Qz 3,.str [125],Qz 34],[Qz 1,.str [99,108,97,115,115],Qz 36],[Qz 1,.str [65],Qz 42],[Qz 1,.str [105,109,112,108,101,109,101,110,116,115],Qz 44],[Qz 1,.str [73],Qz 55],[Qz 3,.str [123],Qz 57],[Qz 1,.str [102,105,110,97,108],Qz 59],[Qz 1,.str [110],Qz 65],[Qz 3,.str [58],Qz 66],[Qz 1,.str [105,110,116],Qz 68],[Qz 3,.str [59],Qz 71],[Qz 1,.str [100,101,102],Qz 73],[Qz 1,.str [102],Qz 77],[Qz 3,.str [40],Qz 78],[Qz 1,.str [97],Qz 79],[Qz 3,.str [58],Qz 80],[Qz 1,.str [105,110,116],Qz 82],[Qz 3,.str [41],Qz 85],[Qz 3,.str [58],Qz 86],[Qz 1,.str [105,110,116],Qz 88],[Qz 3,.str [123],Qz 92],[Qz 1,.str [114,101,116,117,114,110],Qz 94],[Qz 1,.str [97],Qz 101],[Qz 3,.str [59],Qz 102],[Qz 3,.str [125],Qz 104],[Qz 3,.str [125],Qz 106],[Qz 1,.str [99,108,97,115,115],Qz 108],[Qz 1,.str [66],Qz 114],[Qz 1,.str [101,120,116,101,110,100,115],Qz 116],[Qz 1,.str [65],Qz 124],[Qz 3,.str [123],Qz 126],[Qz 3,.str [125],Qz 128],[Qz 1,.str [109,97,105,110],Qz 130],[Qz 3,.str [123],Qz 135],[Qz 3,.str [125],Qz 137]]
noncomputable def Qt3 : List AV:=[.str [102,40,105,110,116,41],.str [65],.str [102],.list 8 .dead [[.str [97],Qz 1,.str [],.bool false,.list 0 .full [],.list 0 .full [],Qz 82,Qz 79]],Qz 1,.str [],.bool false,.list 0 .full [],.list 0 .full [],Qz 88,.list 7 .dead [[.str [114,101,116,117,114,110],.str [],.list 0 .full [],.list 5 .dead [[.str [118,97,114],.str [97],.list 0 .full [],.list 0 .full [],Qz 101]],.list 0 .full [],.list 0 .full [],Qz 94]],.bool false,Qz 77]
noncomputable def Qt4 : List Blk:=[.cells [.list 9 .dead Qt1,.list 0 .full []],.cells [Qz 0,Qz 0],.cells [Qz 0,Qz 0],.cells [.list 9 .dead Qt1,.list 0 .full []],.map [([73],Qz 0),([65],Qz 1),([66],Qz 2)],.cells [.list 9 .dead Qt1,.map 4,.list 1 (.row 11 3) [[.list 0 .full []],[.list 1 .dead [[Qz 0]]],[.list 1 .dead [[Qz 0],[Qz 1]]]],.int .u32 1,.int .i32 0,.int .u32 0,.list 1 .dead [[.str [102,40,105,110,116,41]]]],.cells [.func 100 [.ptr 5 0] [],.func 101 [.ptr 5 0] [],.func 102 [.ptr 5 0] [],.func 103 [.ptr 5 0] []],.cells [Qz 0,Qz 0],.cells [Qz 0,Qz 0],.cells [Qz 0,Qz 0],.cells [Qz 0,Qz 0],.cells [Qz 0,Qz 0],.cells [Qz 0,Qz 0],.cells [Qz 0,Qz 0],.cells [Qz 0,Qz 0],.cells [Qz 0,Qz 0],.cells [Qz 0,Qz 0],.cells Qt3,.cells [.str [110],Qz 1,.str [],.bool false,.list 0 .full [],.list 0 .full [],Qz 68,.bool true,Qz 65]]
noncomputable def Qt9 : List AV:=[.list 9 .dead Qt1,.map 4,.list 1 (.row 11 3) [[.list 0 .full []],[.list 1 .dead [[Qz 0]]],[.list 1 .dead [[Qz 0],[Qz 1]]]],.int .u32 0,.int .i32 0,.int .u32 0,.list 0 .full []]
noncomputable def Qt5 : List Blk:=[.cells [.list 9 .dead Qt1,.list 0 .full []],.cells [Qz 0,Qz 0],.cells [Qz 0,Qz 0],.cells [.list 9 .dead Qt1,.list 0 .full []],.map [([73],Qz 0),([65],Qz 1),([66],Qz 2)],.cells Qt9,.cells [.func 100 [.ptr 5 0] [],.func 101 [.ptr 5 0] [],.func 102 [.ptr 5 0] [],.func 103 [.ptr 5 0] []],.cells [Qz 0,Qz 0],.cells [Qz 0,Qz 0],.cells [Qz 0,Qz 0],.cells [Qz 0,Qz 0],.cells [Qz 0,Qz 0],.cells [Qz 0,Qz 0],.cells [Qz 0,Qz 0],.cells [Qz 0,Qz 0],.cells [Qz 0,Qz 0],.cells [Qz 0,Qz 0],.cells Qt3,.cells [.str [110],Qz 1,.str [],.bool false,.list 0 .full [],.list 0 .full [],Qz 68,.bool true,Qz 65]]
noncomputable def Qt8 : List AV:=[.str [105,110,116,101,114,102,97,99,101,32,73,32,123,32,100,101,102,32,102,40,97,58,32,105,110,116,41,58,32,105,110,116,59,32,125,32,99,108,97,115,115,32,65,32,105,109,112,108,101,109,101,110,116,115,32,73,32,123,32,102,105,110,97,108,32,110,58,32,105,110,116,59,32,100,101,102,32,102,40,97,58,32,105,110,116,41,58,32,105,110,116,32,123,32,114,101,116,117,114,110,32,97,59,32,125,32,125,32,99,108,97,115,115,32,66,32,101,120,116,101,110,100,115,32,65,32,123,32,125,32,109,97,105,110,32,123,32,125]]
noncomputable def Qt10 : List Blk:=[.cells [.list 9 .dead Qt1,.list 0 .full []],.cells [Qz 0,Qz 0],.cells [Qz 0,Qz 0],.cells [.list 9 .dead Qt1,.list 0 .full []],.map [([73],Qz 0),([65],Qz 1),([66],Qz 2)],.cells Qt9,.cells [.func 100 [.ptr 5 0] [],.func 101 [.ptr 5 0] [],.func 102 [.ptr 5 0] [],.func 103 [.ptr 5 0] []],.cells [Qz 0,Qz 0],.cells [Qz 0,Qz 0],.cells [Qz 0,Qz 0],.cells [Qz 0,Qz 0],.cells [Qz 0,Qz 0],.cells [Qz 0,Qz 0],.cells [Qz 0,Qz 0],.cells [Qz 0,Qz 0],.cells [Qz 0,Qz 0],.cells [Qz 0,Qz 0],.cells [.str [],.str [],.str [],.list 0 .full [],Qz 0,.str [],.bool false,.list 0 .full [],.list 0 .full [],Qz 0,.list 0 .full [],.bool false,Qz 0]]
noncomputable def Qt11 : List Blk:=[.cells [.list 9 .dead Qt1,.list 0 .full []],.cells [Qz 0,Qz 0],.cells [Qz 0,Qz 0],.cells [.list 9 .dead Qt1,.list 0 .full []],.map [([73],Qz 0),([65],Qz 1),([66],Qz 2)],.cells Qt9,.cells [.func 100 [.ptr 5 0] [],.func 101 [.ptr 5 0] [],.func 102 [.ptr 5 0] [],.func 103 [.ptr 5 0] []],.cells [Qz 0,Qz 0],.cells [Qz 0,Qz 0],.cells [Qz 0,Qz 0],.cells [Qz 0,Qz 0],.cells [Qz 0,Qz 0],.cells [Qz 0,Qz 0],.cells [Qz 0,Qz 0],.cells [Qz 0,Qz 0],.cells [Qz 0,Qz 0],.cells [Qz 0,Qz 0],.cells Qt3,.cells [.str [],Qz 0,.str [],.bool false,.list 0 .full [],.list 0 .full [],Qz 0,.bool false,Qz 0]]
noncomputable def Qt12 : List Blk:=[.cells [.list 9 .dead Qt1,.list 0 .full []],.cells [Qz 0,Qz 0],.cells [Qz 0,Qz 0],.cells [.list 9 .dead Qt1,.list 0 .full []],.map [([73],Qz 0),([65],Qz 1),([66],Qz 2)],.cells Qt9,.cells [.func 100 [.ptr 5 0] [],.func 101 [.ptr 5 0] [],.func 102 [.ptr 5 0] [],.func 103 [.ptr 5 0] []],.cells [Qz 0,Qz 0],.cells [Qz 0,Qz 0],.cells [Qz 0,Qz 0],.cells [Qz 0,Qz 0],.cells [Qz 0,Qz 0],.cells [Qz 0,Qz 0],.cells [Qz 0,Qz 0],.cells [Qz 0,Qz 0],.cells [Qz 0,Qz 0],.cells [Qz 0,Qz 0]]
noncomputable def k89 : Kn:=⟨89,Qt8,
 ⟨[.cells [.list 0 .full [],.list 0 .full []],.cells [.list 0 .full [],.list 0 .full []],.cells [.list 0 .full [],.list 0 .full []],.cells [.list 0 .full [],.list 0 .full []]],[]⟩,
 (.ret (.tup [.list 3 (.row 0 48) Qt2,Qz 0,Qz 0])),
 ⟨[.cells [.list 0 .full [],.list 0 .full []],.cells [.list 0 .full [],.list 0 .full []],.cells [.list 0 .full [],.list 0 .full []],.cells [.list 0 .full [],.list 0 .full []]],[48]⟩⟩
noncomputable def k92 : Kn:=⟨92,[.ptr 4 0],
 ⟨[.cells [.list 0 .full [],.list 0 .full []],.cells [.list 0 .full [],.list 0 .full []],.cells [.list 0 .full [],.list 0 .full []],.cells [.list 0 .full [],.list 0 .full []],.cells [.list 3 (.row 0 48) Qt2,Qz 0,Qz 138,Qz 0,Qz 0,Qz 0],.cells [.list 0 .full [],.list 0 .full []]],[48]⟩,
 (.ret (.agg Qt6)),
 ⟨[.cells [.list 0 .full [],.list 0 .full []],.cells [.list 0 .full [],.list 0 .full []],.cells [.list 0 .full [],.list 0 .full []],.cells [.list 0 .full [],.list 0 .full []],.cells [.list 3 (.row 0 48) Qt2,Qz 14,Qz 138,Qz 0,Qz 0,Qz 0],.cells [.list 0 .full [],.list 0 .full []]],[48,1,1]⟩⟩
noncomputable def k91a : Kn:=⟨91,[.ptr 4 0],
 ⟨[.cells [.list 0 .full [],.list 0 .full []],.cells [.list 0 .full [],.list 0 .full []],.cells [.list 0 .full [],.list 0 .full []],.cells [.list 0 .full [],.list 0 .full []],.cells [.list 3 (.row 0 48) Qt2,Qz 14,Qz 138,Qz 0,Qz 0,Qz 0],.cells [.list 9 (.row 3 1) [Qt6],.list 0 .full []]],[48,1,1,1]⟩,
 (.ret (.agg Qt7)),
 ⟨[.cells [.list 0 .full [],.list 0 .full []],.cells [.list 0 .full [],.list 0 .full []],.cells [.list 0 .full [],.list 0 .full []],.cells [.list 0 .full [],.list 0 .full []],.cells [.list 3 (.row 0 48) Qt2,Qz 39,Qz 138,Qz 0,Qz 0,Qz 0],.cells [.list 9 (.row 3 1) [Qt6],.list 0 .full []]],[48,1,1,1,1,1,1,1]⟩⟩
noncomputable def k91b : Kn:=⟨91,[.ptr 4 0],
 ⟨[.cells [.list 0 .full [],.list 0 .full []],.cells [.list 0 .full [],.list 0 .full []],.cells [.list 0 .full [],.list 0 .full []],.cells [.list 0 .full [],.list 0 .full []],.cells [.list 3 (.row 0 48) Qt2,Qz 39,Qz 138,Qz 0,Qz 0,Qz 0],.cells [.list 9 (.row 3 2) [Qt6,Qt7],.list 0 .full []]],[48,1,1,2,1,1,1,1]⟩,
 (.ret (.agg [.str [66],.bool false,.str [65],.list 0 .full [],.list 0 .full [],.list 0 .full [],.list 0 .full [],.list 0 .full [],Qz 114])),
 ⟨[.cells [.list 0 .full [],.list 0 .full []],.cells [.list 0 .full [],.list 0 .full []],.cells [.list 0 .full [],.list 0 .full []],.cells [.list 0 .full [],.list 0 .full []],.cells [.list 3 (.row 0 48) Qt2,Qz 45,Qz 138,Qz 0,Qz 0,Qz 0],.cells [.list 9 (.row 3 2) [Qt6,Qt7],.list 0 .full []]],[48,1,1,2,1,1,1,1]⟩⟩
noncomputable def k51 : Kn:=⟨51,Qt8,
 ⟨[.cells [.list 0 .full [],.list 0 .full []],.cells [.list 0 .full [],.list 0 .full []],.cells [.list 0 .full [],.list 0 .full []]],[]⟩,
 (.ret (.tup [.agg [.list 9 .dead Qt1,.list 0 .full []],Qz 0,Qz 0])),
 ⟨[.cells [.list 0 .full [],.list 0 .full []],.cells [.list 0 .full [],.list 0 .full []],.cells [.list 0 .full [],.list 0 .full []]],[48,1,1,3,1,1,1,1]⟩⟩
noncomputable def k55 : Kn:=⟨55,[.agg [.list 9 .dead Qt1,.list 0 .full []]],
 ⟨[.cells [.list 9 .dead Qt1,.list 0 .full []],.cells [Qz 0,Qz 0]],[48,1,1,3,1,1,1,1]⟩,
 (.ret (.tup [.ptr 5 0,.agg [Qz 0,Qz 0]])),
 ⟨Qt12,[48,1,1,3,1,1,1,1,1,2,1,3,1,1,2,1,2,1,1,1,1,1,1,1,2,1]⟩⟩
noncomputable def k19 : Kn:=⟨19,Qt8,
 ⟨[],[]⟩,
 (.ret (.tup [.ptr 5 0,.list 9 .dead Qt1])),
 ⟨Qt12,[48,1,1,3,1,1,1,1,1,2,1,3,1,1,2,1,2,1,1,1,1,1,1,1,2,1]⟩⟩
noncomputable def k26 : Kn:=⟨26,[.ptr 5 0,.str [66],.str [102,40,105,110,116,41]],
 ⟨Qt10,[48,1,1,3,1,1,1,1,1,2,1,3,1,1,2,1,2,1,1,1,1,1,1,1,2,1]⟩,
 (.ret (.tup [.agg Qt3,.bool true])),
 ⟨Qt10,[48,1,1,3,1,1,1,1,1,2,1,3,1,1,2,1,2,1,1,1,1,1,1,1,2,1,2,1]⟩⟩
noncomputable def k30 : Kn:=⟨30,[.ptr 5 0,.str [66],.str [110]],
 ⟨Qt11,[48,1,1,3,1,1,1,1,1,2,1,3,1,1,2,1,2,1,1,1,1,1,1,1,2,1,2,1]⟩,
 (.ret (.tup [.agg [.str [110],Qz 1,.str [],.bool false,.list 0 .full [],.list 0 .full [],Qz 68,.bool true,Qz 65],.str [65],.bool true])),
 ⟨Qt11,[48,1,1,3,1,1,1,1,1,2,1,3,1,1,2,1,2,1,1,1,1,1,1,1,2,1,2,1,2]⟩⟩
noncomputable def k35 : Kn:=⟨35,[.ptr 5 0,.str [66],.str [73]],
 ⟨Qt5,[48,1,1,3,1,1,1,1,1,2,1,3,1,1,2,1,2,1,1,1,1,1,1,1,2,1,2,1,2]⟩,
 (.ret (.bool true)),
 ⟨Qt5,[48,1,1,3,1,1,1,1,1,2,1,3,1,1,2,1,2,1,1,1,1,1,1,1,2,1,2,1,2]⟩⟩
noncomputable def k25a : Kn:=⟨25,[.ptr 5 0,.str [66]],
 ⟨Qt5,[48,1,1,3,1,1,1,1,1,2,1,3,1,1,2,1,2,1,1,1,1,1,1,1,2,1,2,1,2]⟩,
 (.ret (.list 1 (.row 34 1) [[Qz 1]])),
 ⟨Qt4,[48,1,1,3,1,1,1,1,1,2,1,3,1,1,2,1,2,1,1,1,1,1,1,1,2,1,2,1,2,1,2,1,2,1,1]⟩⟩
noncomputable def k25b : Kn:=⟨25,[.ptr 5 0,.str [66]],
 ⟨Qt4,[48,1,1,3,1,1,1,1,1,2,1,3,1,1,2,1,2,1,1,1,1,1,1,1,2,1,2,1,2,1,2,1,2,1,1]⟩,
 (.ret (.list 1 (.row 37 1) [[Qz 1]])),
 ⟨Qt4,[48,1,1,3,1,1,1,1,1,2,1,3,1,1,2,1,2,1,1,1,1,1,1,1,2,1,2,1,2,1,2,1,2,1,1,2,1,1]⟩⟩
noncomputable def k13 : Kn:=⟨13,[],
 ⟨[],[]⟩,
 (.ret (.bool true)),
 ⟨[],[48,1,1,3,1,1,1,1,1,2,1,3,1,1,2,1,2,1,1,1,1,1,1,1,2,1,2,1,2,1,2,1,2,1,1,2,1,1]⟩⟩
end Go.Proofs.YtmeakjgbjldkdaaGreat.Ai
namespace Go.Proofs.YtmeakjgbjldkdaaGreat.Ai
open Go
theorem h_k89 : ∀ k ∈ ([] : List Kn),Known k:=fun k h => by cases h
theorem e_k89 : Known k89:=known_of h_k89 k89 (n:=300) (by kernel_rfl)
end Go.Proofs.YtmeakjgbjldkdaaGreat.Ai
namespace Go.Proofs.YtmeakjgbjldkdaaGreat.Ai
open Go
theorem h_k92 : ∀ k ∈ ([] : List Kn),Known k:=fun k h => by cases h
theorem e_k92 : Known k92:=known_of h_k92 k92 (n:=300) (by kernel_rfl)
end Go.Proofs.YtmeakjgbjldkdaaGreat.Ai
namespace Go.Proofs.YtmeakjgbjldkdaaGreat.Ai
open Go
theorem h_k91a : ∀ k ∈ ([] : List Kn),Known k:=fun k h => by cases h
theorem e_k91a : Known k91a:=known_of h_k91a k91a (n:=300) (by kernel_rfl)
end Go.Proofs.YtmeakjgbjldkdaaGreat.Ai
namespace Go.Proofs.YtmeakjgbjldkdaaGreat.Ai
open Go
theorem h_k91b : ∀ k ∈ ([] : List Kn),Known k:=fun k h => by cases h
theorem e_k91b : Known k91b:=known_of h_k91b k91b (n:=300) (by kernel_rfl)
end Go.Proofs.YtmeakjgbjldkdaaGreat.Ai
namespace Go.Proofs.YtmeakjgbjldkdaaGreat.Ai
open Go
theorem h_k51 : ∀ k ∈ ([k89,k92,k91a,k91b] : List Kn),Known k:=by
 intro k hk
 simp only [List.mem_cons,List.not_mem_nil,or_false] at hk
 rcases hk with rfl | rfl | rfl | rfl
 ·exact e_k89
 ·exact e_k92
 ·exact e_k91a
 ·exact e_k91b
theorem e_k51 : Known k51:=known_of h_k51 k51 (n:=300) (by kernel_rfl)
end Go.Proofs.YtmeakjgbjldkdaaGreat.Ai
namespace Go.Proofs.YtmeakjgbjldkdaaGreat.Ai
open Go
theorem h_k55 : ∀ k ∈ ([] : List Kn),Known k:=fun k h => by cases h
theorem e_k55 : Known k55:=known_of h_k55 k55 (n:=300) (by kernel_rfl)
end Go.Proofs.YtmeakjgbjldkdaaGreat.Ai
namespace Go.Proofs.YtmeakjgbjldkdaaGreat.Ai
open Go
theorem h_k19 : ∀ k ∈ ([k51,k55] : List Kn),Known k:=by
 intro k hk
 simp only [List.mem_cons,List.not_mem_nil,or_false] at hk
 rcases hk with rfl | rfl
 ·exact e_k51
 ·exact e_k55
theorem e_k19 : Known k19:=known_of h_k19 k19 (n:=300) (by kernel_rfl)
end Go.Proofs.YtmeakjgbjldkdaaGreat.Ai
namespace Go.Proofs.YtmeakjgbjldkdaaGreat.Ai
open Go
theorem h_k26 : ∀ k ∈ ([] : List Kn),Known k:=fun k h => by cases h
theorem e_k26 : Known k26:=known_of h_k26 k26 (n:=300) (by kernel_rfl)
end Go.Proofs.YtmeakjgbjldkdaaGreat.Ai
namespace Go.Proofs.YtmeakjgbjldkdaaGreat.Ai
open Go
theorem h_k30 : ∀ k ∈ ([] : List Kn),Known k:=fun k h => by cases h
theorem e_k30 : Known k30:=known_of h_k30 k30 (n:=300) (by kernel_rfl)
end Go.Proofs.YtmeakjgbjldkdaaGreat.Ai
namespace Go.Proofs.YtmeakjgbjldkdaaGreat.Ai
open Go
theorem h_k35 : ∀ k ∈ ([] : List Kn),Known k:=fun k h => by cases h
theorem e_k35 : Known k35:=known_of h_k35 k35 (n:=300) (by kernel_rfl)
end Go.Proofs.YtmeakjgbjldkdaaGreat.Ai
namespace Go.Proofs.YtmeakjgbjldkdaaGreat.Ai
open Go
theorem h_k25a : ∀ k ∈ ([] : List Kn),Known k:=fun k h => by cases h
theorem e_k25a : Known k25a:=known_of h_k25a k25a (n:=300) (by kernel_rfl)
end Go.Proofs.YtmeakjgbjldkdaaGreat.Ai
namespace Go.Proofs.YtmeakjgbjldkdaaGreat.Ai
open Go
theorem h_k25b : ∀ k ∈ ([] : List Kn),Known k:=fun k h => by cases h
theorem e_k25b : Known k25b:=known_of h_k25b k25b (n:=300) (by kernel_rfl)
end Go.Proofs.YtmeakjgbjldkdaaGreat.Ai
namespace Go.Proofs.YtmeakjgbjldkdaaGreat.Ai
open Go
theorem h_k13 : ∀ k ∈ ([k19,k26,k30,k35,k25a,k25b] : List Kn),Known k:=by
 intro k hk
 simp only [List.mem_cons,List.not_mem_nil,or_false] at hk
 rcases hk with rfl | rfl | rfl | rfl | rfl | rfl
 ·exact e_k19
 ·exact e_k26
 ·exact e_k30
 ·exact e_k35
 ·exact e_k25a
 ·exact e_k25b
theorem e_k13 : Known k13:=known_of h_k13 k13 (n:=300) (by kernel_rfl)
end Go.Proofs.YtmeakjgbjldkdaaGreat.Ai
namespace Go.Proofs.YtmeakjgbjldkdaaGreat.Once
open Go
theorem disable (w : World) : (callFunc 230 #[]).run Tryz.prog w = .ok (.value (.tuple #[])) w:=run_call_mark0 Tryz.func230 (by kernel_rfl) (by kernel_rfl) (by kernel_rfl) .disable (by kernel_rfl) w
theorem enable (w : World) : (callFunc 232 #[]).run Tryz.prog w = .ok (.value (.tuple #[])) w:=run_call_mark0 Tryz.func232 (by kernel_rfl) (by kernel_rfl) (by kernel_rfl) .enable (by kernel_rfl) w
theorem acquire (a : Addr) (w : World) : (callFunc 233 #[.pointer (some a)]).run Tryz.prog w = .ok (.value (.tuple #[])) w:=run_call_marked Tryz.func233 (by kernel_rfl) (by kernel_rfl) (by kernel_rfl) .acquire (by kernel_rfl) a w
theorem releaseMerge (a : Addr) (w : World) : (callFunc 235 #[.pointer (some a)]).run Tryz.prog w = .ok (.value (.tuple #[])) w:=run_call_marked Tryz.func235 (by kernel_rfl) (by kernel_rfl) (by kernel_rfl) .releaseMerge (by kernel_rfl) a w
theorem store_deferred (a : Addr) (x : Value) (u : FrameMode) (w : World) (hc : w.cell? a = some x) (hz : w.frozen? a = false) :
  CallsD Tryz.prog 155 #[.pointer (some a),.bool true] u w fun e u' w' => u' = u ∧ (e = .returned (.tuple #[]) ∧ w' = w.drew.setCell a (.int .u32 1)):=by
 have hc' : w.drew.cell? a = some x:=by go_simp
 have hz' : w.drew.frozen? a = false:=by go_simp
 have hst:=run_call_store (P:=Tryz.prog) Tryz.func207 (by kernel_rfl) (by kernel_rfl) (by kernel_rfl) (by kernel_rfl) (k:=.u32) (y:=1) hc' hz'
 go_enter_d Tryz.func155,Tryz.ntmps155
 go_wp2
 go_region_calls
 all_goals (go_end0; exact ⟨rfl,rfl⟩)
theorem unlock_deferred (a : Addr) (u : FrameMode) (w : World) (hc : w.cell? a = some (.int .i32 1)) (hz : w.frozen? a = false) :
  CallsD Tryz.prog 154 #[.pointer (some a)] u w fun e u' w' => u' = u ∧ (e = .returned (.tuple #[]) ∧ w' = w.setCell a (.int .i32 0)):=by
 have hd:=disable
 have he:=enable
 have hr:=releaseMerge
 have hadd:=run_call_add (P:=Tryz.prog) Tryz.func236 (by kernel_rfl) (by kernel_rfl) (by kernel_rfl) .i32 (by kernel_rfl) (y:=-1) (s:=0) hc hz (by simp [go_sem]; rfl)
 have hcv:=run_convert_to_unsafe (P:=Tryz.prog) (src:=280) (dst:=262) Tryz.underlying280 Tryz.underlying262 (by kernel_rfl) hc
 go_enter_d Tryz.func154,Tryz.ntmps154
 go_wp2
 go_end0
 go_wp2
 go_end0
 exact ⟨rfl,rfl⟩
theorem lock_free (a : Addr) (w : World) (hc : w.cell? a = some (.int .i32 0)) (hz : w.frozen? a = false) :
  Calls Tryz.prog 153 #[.pointer (some a)] w fun e w' => e = .returned (.tuple #[]) ∧ w' = w.setCell a (.int .i32 1):=by
 have hd:=disable
 have he:=enable
 have ha:=acquire
 have hcas:=run_call_cas_hit (P:=Tryz.prog) Tryz.func231 (by kernel_rfl) (by kernel_rfl) (by kernel_rfl) .i32 (by kernel_rfl) (y:=1) hc hz
 have hc' : (w.setCell a (.int .i32 1)).cell? a = some (.int .i32 1):=World.cell?_setCell_same w a _ hc
 have hcv:=run_convert_to_unsafe (P:=Tryz.prog) (src:=280) (dst:=262) Tryz.underlying280 Tryz.underlying262 (by kernel_rfl) hc'
 go_enter Tryz.func153,Tryz.ntmps153
 go_wp2
 first | go_end0 | (simp only [Exit.inBlock,Exit.then]; refine bodyPost_ret (results_none rfl _ _ _) rfl ?_) | refine bodyPost_ret (results_none rfl _ _ _) rfl ?_
 go_wp2
 go_end0
 exact ⟨rfl,rfl⟩
end Go.Proofs.YtmeakjgbjldkdaaGreat.Once
namespace Go.Proofs.YtmeakjgbjldkdaaGreat.Slo
open Go Go.Sort Go.Lib
def sub1 : Code → Code
 | .seq a _ => a
 | c => c
def sub2 : Code → Code
 | .seq _ b => b
 | c => c
noncomputable def tail59 : Code:=sub2 (Tryz.f59.body.getD .skip)
noncomputable def last59 : Code:=sub2 tail59
theorem act50 (a : Act) (h : a.tmps.size = 50) (hd : a.defers = []) : ∃ t0 t1 t2 t3 t4 t5 t6 t7 t8 t9 t10 t11 t12 t13 t14 t15 t16 t17 t18 t19 t20 t21 t22 t23 t24 t25 t26 t27 t28 t29 t30 t31 t32 t33 t34 t35 t36 t37 t38 t39 t40 t41 t42 t43 t44 t45 t46 t47 t48 t49 : Value,
  a = {tmps:=#[t0,t1,t2,t3,t4,t5,t6,t7,t8,t9,t10,t11,t12,t13,t14,t15,t16,t17,t18,t19,t20,t21,t22,t23,t24,t25,t26,t27,t28,t29,t30,t31,t32,t33,t34,t35,t36,t37,t38,t39,t40,t41,t42,t43,t44,t45,t46,t47,t48,t49],defers:=[]}:=by
 obtain ⟨⟨l⟩,d⟩:=a
 simp only at h hd
 subst hd
 simp only [List.size_toArray] at h
 match l,h with
 | t0 :: t1 :: t2 :: t3 :: t4 :: t5 :: t6 :: t7 :: t8 :: t9 :: t10 :: t11 :: t12 :: t13 :: t14 :: t15 :: t16 :: t17 :: t18 :: t19 :: t20 :: t21 :: t22 :: t23 :: t24 :: t25 :: t26 :: t27 :: t28 :: t29 :: t30 :: t31 :: t32 :: t33 :: t34 :: t35 :: t36 :: t37 :: t38 :: t39 :: t40 :: t41 :: t42 :: t43 :: t44 :: t45 :: t46 :: t47 :: t48 :: t49 :: [],_ => exact ⟨t0,t1,t2,t3,t4,t5,t6,t7,t8,t9,t10,t11,t12,t13,t14,t15,t16,t17,t18,t19,t20,t21,t22,t23,t24,t25,t26,t27,t28,t29,t30,t31,t32,t33,t34,t35,t36,t37,t38,t39,t40,t41,t42,t43,t44,t45,t46,t47,t48,t49,rfl⟩
theorem last_wp (bx bt br off cap : Nat) (l : List (List UInt8)) (Q : Exit → Act → World → Prop) (a : Act) (w : World) (hs : a.tmps.size = 50) (hd : a.defers = []) (ha : a.tmps.getD 0 Go.undef = .pointer (some ⟨bx,0,none⟩))
  (hx : w.cell? ⟨bx,0,none⟩ = some (.pointer (some ⟨bt,0,none⟩))) (hc : w.cell? ⟨bt,6,none⟩ = some (.slice (some ⟨br,off,none⟩) l.length cap)) (_hz : w.frozen? ⟨bt,6,none⟩ = false)
  (hH : Holds encStr w.drew br off l.toArray) (hl2 : l.length ≤ 9223372036854775807) (hcap : l.length ≤ cap)
  (hx2 : ∀ q,(putRow encStr (Sort.ahead w.drew q) br off (compact l ++ List.replicate (l.length - (compact l).length) []).toArray).cell? ⟨bx,0,none⟩ = some (.pointer (some ⟨bt,0,none⟩)))
  (hc2 : ∀ q,(putRow encStr (Sort.ahead w.drew q) br off (compact l ++ List.replicate (l.length - (compact l).length) []).toArray).cell? ⟨bt,6,none⟩ = some (.slice (some ⟨br,off,none⟩) l.length cap))
  (hz2 : ∀ q,(putRow encStr (Sort.ahead w.drew q) br off (compact l ++ List.replicate (l.length - (compact l).length) []).toArray).frozen? ⟨bt,6,none⟩ = false)
  (hQ : ∀ a' q,a'.defers = [] → Q .normal a' ((putRow encStr (Sort.ahead w.drew q) br off (compact l ++ List.replicate (l.length - (compact l).length) []).toArray).setCell ⟨bt,6,none⟩ (.slice (some ⟨br,off,none⟩) (compact l).length cap))) :
  last59.wp Tryz.prog Q a w:=by
 obtain ⟨t0,t1,t2,t3,t4,t5,t6,t7,t8,t9,t10,t11,t12,t13,t14,t15,t16,t17,t18,t19,t20,t21,t22,t23,t24,t25,t26,t27,t28,t29,t30,t31,t32,t33,t34,t35,t36,t37,t38,t39,t40,t41,t42,t43,t44,t45,t46,t47,t48,t49,rfl⟩:=act50 a hs hd
 clear hs hd
 change t0 = _ at ha
 subst ha
 unfold last59 tail59 Tryz.f59
 dsimp only [Option.getD_some,sub2]
 refine wp_region_any (by kernel_rfl) ?_
 try (change wpAny _ _ _ _ _ _ _ (World.drew _))
 refine wpAny_ready (rs:=[0,1]) (by kernel_rfl) (by simp) ?_
 refine AllReady.cons rfl (fun K hK => ?_) ?_
 ·go_simp
  refine hK _ _ ?_
  clear hK K
  refine wpAny_ready (rs:=[1]) (by kernel_rfl) (by simp) ?_
  refine AllReady.cons rfl (fun K hK => ?_) ?_
  ·go_simp
   refine hK _ _ ?_
   clear hK K
   refine wpAny_ready (rs:=[2]) (by kernel_rfl) (by simp) ?_
   refine AllReady.cons rfl (fun K hK => ?_) ?_
   ·go_simp
    refine hK _ _ ?_
    clear hK K
    refine wpAny_ready (rs:=[3]) (by kernel_rfl) (by simp) ?_
    refine AllReady.cons rfl (fun K hK => ?_) ?_
    ·go_simp
     refine hK _ _ ?_
     clear hK K
     refine wpAny_ready (rs:=[4]) (by kernel_rfl) (by simp) ?_
     refine AllReady.cons rfl (fun K hK => ?_) ?_
     ·go_simp
      refine hK _ _ ?_
      clear hK K
      refine wpAny_ready (rs:=[5]) (by kernel_rfl) (by simp) ?_
      refine AllReady.cons rfl (fun K hK => ?_) ?_
      ·go_simp
       go_wp2_with (go_at_call 61; refine (Tryz.slices_Compact_string br off cap l _ hH hl2 hcap).mono ?_; rintro e w2 ⟨rfl,q,rfl⟩)
       try (refine hK _ _ ?_; clear hK K)
       refine wpAny_ready (rs:=[6]) (by kernel_rfl) (by simp) ?_
       refine AllReady.cons rfl (fun K hK => ?_) ?_
       ·go_simp
        refine hK _ _ ?_
        clear hK K
        refine wpAny_ready (rs:=[7]) (by kernel_rfl) (by simp) ?_
        refine AllReady.cons rfl (fun K hK => ?_) ?_
        ·go_simp
         refine hK _ _ ?_
         clear hK K
         refine wpAny_ready (rs:=[8]) (by kernel_rfl) (by simp) ?_
         refine AllReady.cons rfl (fun K hK => ?_) ?_
         ·go_simp
          refine hK _ _ ?_
          clear hK K
          refine wpAny_done (by kernel_rfl) ?_ _
          exact hQ _ _ rfl
         exact AllReady.nil
        exact AllReady.nil
       exact AllReady.nil
      exact AllReady.nil
     exact AllReady.nil
    exact AllReady.nil
   exact AllReady.nil
  exact AllReady.nil
 refine AllReady.cons rfl (fun K hK => ?_) ?_
 ·go_simp
  refine hK _ _ ?_
  clear hK K
  refine wpAny_ready (rs:=[0,2]) (by kernel_rfl) (by simp) ?_
  refine AllReady.cons rfl (fun K hK => ?_) ?_
  ·go_simp
   refine hK _ _ ?_
   clear hK K
   refine wpAny_ready (rs:=[2]) (by kernel_rfl) (by simp) ?_
   refine AllReady.cons rfl (fun K hK => ?_) ?_
   ·go_simp
    refine hK _ _ ?_
    clear hK K
    refine wpAny_ready (rs:=[3]) (by kernel_rfl) (by simp) ?_
    refine AllReady.cons rfl (fun K hK => ?_) ?_
    ·go_simp
     refine hK _ _ ?_
     clear hK K
     refine wpAny_ready (rs:=[4]) (by kernel_rfl) (by simp) ?_
     refine AllReady.cons rfl (fun K hK => ?_) ?_
     ·go_simp
      refine hK _ _ ?_
      clear hK K
      refine wpAny_ready (rs:=[5]) (by kernel_rfl) (by simp) ?_
      refine AllReady.cons rfl (fun K hK => ?_) ?_
      ·go_simp
       go_wp2_with (go_at_call 61; refine (Tryz.slices_Compact_string br off cap l _ hH hl2 hcap).mono ?_; rintro e w2 ⟨rfl,q,rfl⟩)
       try (refine hK _ _ ?_; clear hK K)
       refine wpAny_ready (rs:=[6]) (by kernel_rfl) (by simp) ?_
       refine AllReady.cons rfl (fun K hK => ?_) ?_
       ·go_simp
        refine hK _ _ ?_
        clear hK K
        refine wpAny_ready (rs:=[7]) (by kernel_rfl) (by simp) ?_
        refine AllReady.cons rfl (fun K hK => ?_) ?_
        ·go_simp
         refine hK _ _ ?_
         clear hK K
         refine wpAny_ready (rs:=[8]) (by kernel_rfl) (by simp) ?_
         refine AllReady.cons rfl (fun K hK => ?_) ?_
         ·go_simp
          refine hK _ _ ?_
          clear hK K
          refine wpAny_done (by kernel_rfl) ?_ _
          exact hQ _ _ rfl
         exact AllReady.nil
        exact AllReady.nil
       exact AllReady.nil
      exact AllReady.nil
     exact AllReady.nil
    exact AllReady.nil
   exact AllReady.nil
  refine AllReady.cons rfl (fun K hK => ?_) ?_
  ·go_simp
   refine hK _ _ ?_
   clear hK K
   refine wpAny_ready (rs:=[0,3]) (by kernel_rfl) (by simp) ?_
   refine AllReady.cons rfl (fun K hK => ?_) ?_
   ·go_simp
    refine hK _ _ ?_
    clear hK K
    refine wpAny_ready (rs:=[3]) (by kernel_rfl) (by simp) ?_
    refine AllReady.cons rfl (fun K hK => ?_) ?_
    ·go_simp
     refine hK _ _ ?_
     clear hK K
     refine wpAny_ready (rs:=[4]) (by kernel_rfl) (by simp) ?_
     refine AllReady.cons rfl (fun K hK => ?_) ?_
     ·go_simp
      refine hK _ _ ?_
      clear hK K
      refine wpAny_ready (rs:=[5]) (by kernel_rfl) (by simp) ?_
      refine AllReady.cons rfl (fun K hK => ?_) ?_
      ·go_simp
       go_wp2_with (go_at_call 61; refine (Tryz.slices_Compact_string br off cap l _ hH hl2 hcap).mono ?_; rintro e w2 ⟨rfl,q,rfl⟩)
       try (refine hK _ _ ?_; clear hK K)
       refine wpAny_ready (rs:=[6]) (by kernel_rfl) (by simp) ?_
       refine AllReady.cons rfl (fun K hK => ?_) ?_
       ·go_simp
        refine hK _ _ ?_
        clear hK K
        refine wpAny_ready (rs:=[7]) (by kernel_rfl) (by simp) ?_
        refine AllReady.cons rfl (fun K hK => ?_) ?_
        ·go_simp
         refine hK _ _ ?_
         clear hK K
         refine wpAny_ready (rs:=[8]) (by kernel_rfl) (by simp) ?_
         refine AllReady.cons rfl (fun K hK => ?_) ?_
         ·go_simp
          refine hK _ _ ?_
          clear hK K
          refine wpAny_done (by kernel_rfl) ?_ _
          exact hQ _ _ rfl
         exact AllReady.nil
        exact AllReady.nil
       exact AllReady.nil
      exact AllReady.nil
     exact AllReady.nil
    exact AllReady.nil
   refine AllReady.cons rfl (fun K hK => ?_) ?_
   ·go_simp
    refine hK _ _ ?_
    clear hK K
    refine wpAny_ready (rs:=[0,4]) (by kernel_rfl) (by simp) ?_
    refine AllReady.cons rfl (fun K hK => ?_) ?_
    ·go_simp
     refine hK _ _ ?_
     clear hK K
     refine wpAny_ready (rs:=[4]) (by kernel_rfl) (by simp) ?_
     refine AllReady.cons rfl (fun K hK => ?_) ?_
     ·go_simp
      refine hK _ _ ?_
      clear hK K
      refine wpAny_ready (rs:=[5]) (by kernel_rfl) (by simp) ?_
      refine AllReady.cons rfl (fun K hK => ?_) ?_
      ·go_simp
       go_wp2_with (go_at_call 61; refine (Tryz.slices_Compact_string br off cap l _ hH hl2 hcap).mono ?_; rintro e w2 ⟨rfl,q,rfl⟩)
       try (refine hK _ _ ?_; clear hK K)
       refine wpAny_ready (rs:=[6]) (by kernel_rfl) (by simp) ?_
       refine AllReady.cons rfl (fun K hK => ?_) ?_
       ·go_simp
        refine hK _ _ ?_
        clear hK K
        refine wpAny_ready (rs:=[7]) (by kernel_rfl) (by simp) ?_
        refine AllReady.cons rfl (fun K hK => ?_) ?_
        ·go_simp
         refine hK _ _ ?_
         clear hK K
         refine wpAny_ready (rs:=[8]) (by kernel_rfl) (by simp) ?_
         refine AllReady.cons rfl (fun K hK => ?_) ?_
         ·go_simp
          refine hK _ _ ?_
          clear hK K
          refine wpAny_done (by kernel_rfl) ?_ _
          exact hQ _ _ rfl
         exact AllReady.nil
        exact AllReady.nil
       exact AllReady.nil
      exact AllReady.nil
     exact AllReady.nil
    refine AllReady.cons rfl (fun K hK => ?_) ?_
    ·go_simp
     refine hK _ _ ?_
     clear hK K
     refine wpAny_ready (rs:=[0,5]) (by kernel_rfl) (by simp) ?_
     refine AllReady.cons rfl (fun K hK => ?_) ?_
     ·go_simp
      refine hK _ _ ?_
      clear hK K
      refine wpAny_ready (rs:=[5]) (by kernel_rfl) (by simp) ?_
      refine AllReady.cons rfl (fun K hK => ?_) ?_
      ·go_simp
       go_wp2_with (go_at_call 61; refine (Tryz.slices_Compact_string br off cap l _ hH hl2 hcap).mono ?_; rintro e w2 ⟨rfl,q,rfl⟩)
       try (refine hK _ _ ?_; clear hK K)
       refine wpAny_ready (rs:=[6]) (by kernel_rfl) (by simp) ?_
       refine AllReady.cons rfl (fun K hK => ?_) ?_
       ·go_simp
        refine hK _ _ ?_
        clear hK K
        refine wpAny_ready (rs:=[7]) (by kernel_rfl) (by simp) ?_
        refine AllReady.cons rfl (fun K hK => ?_) ?_
        ·go_simp
         refine hK _ _ ?_
         clear hK K
         refine wpAny_ready (rs:=[8]) (by kernel_rfl) (by simp) ?_
         refine AllReady.cons rfl (fun K hK => ?_) ?_
         ·go_simp
          refine hK _ _ ?_
          clear hK K
          refine wpAny_done (by kernel_rfl) ?_ _
          exact hQ _ _ rfl
         exact AllReady.nil
        exact AllReady.nil
       exact AllReady.nil
      exact AllReady.nil
     refine AllReady.cons rfl (fun K hK => ?_) ?_
     ·go_simp
      go_wp2_with (go_at_call 61; refine (Tryz.slices_Compact_string br off cap l _ hH hl2 hcap).mono ?_; rintro e w2 ⟨rfl,q,rfl⟩)
      try (refine hK _ _ ?_; clear hK K)
      refine wpAny_ready (rs:=[0]) (by kernel_rfl) (by simp) ?_
      refine AllReady.cons rfl (fun K hK => ?_) ?_
      ·go_simp
       refine hK _ _ ?_
       clear hK K
       refine wpAny_ready (rs:=[6]) (by kernel_rfl) (by simp) ?_
       refine AllReady.cons rfl (fun K hK => ?_) ?_
       ·go_simp
        refine hK _ _ ?_
        clear hK K
        refine wpAny_ready (rs:=[7]) (by kernel_rfl) (by simp) ?_
        refine AllReady.cons rfl (fun K hK => ?_) ?_
        ·go_simp
         refine hK _ _ ?_
         clear hK K
         refine wpAny_ready (rs:=[8]) (by kernel_rfl) (by simp) ?_
         refine AllReady.cons rfl (fun K hK => ?_) ?_
         ·go_simp
          refine hK _ _ ?_
          clear hK K
          refine wpAny_done (by kernel_rfl) ?_ _
          exact hQ _ _ rfl
         exact AllReady.nil
        exact AllReady.nil
       exact AllReady.nil
      exact AllReady.nil
     exact AllReady.nil
    exact AllReady.nil
   exact AllReady.nil
  exact AllReady.nil
 exact AllReady.nil
end Go.Proofs.YtmeakjgbjldkdaaGreat.Slo
namespace Go.Proofs.YtmeakjgbjldkdaaGreat.Slo
open Go Go.Sort Go.Lib Go.Proofs.YtmeakjgbjldkdaaGreat.Ai
theorem putRow_at {w : World} {br off : Nat} {d : Array (List UInt8)} {us : Array Value} {t : TypeId} (h : w.heap[br]? = some (.cells us t (0,0))) : (putRow encStr w br off d).heap[br]? = some (.cells (putCells encStr off d us) t (0,0)):=by
 simp [putRow,mapBlock,Array.getElem?_modify,h,onCells]
theorem putRow_ne {w : World} {br off k : Nat} {d : Array (List UInt8)} (h : k ≠ br) : (putRow encStr w br off d).heap[k]? = w.heap[k]?:=by
 simp only [putRow,mapBlock,Array.getElem?_modify]
 rw [if_neg (Ne.symm h)]
theorem putCells_two {off : Nat} {d d' : Array (List UInt8)} (h : d'.size = d.size) (us : Array Value) : putCells encStr off d' (putCells encStr off d us) = putCells encStr off d' us:=by
 apply Array.ext_getElem?
 intro k
 simp only [putCells,Array.getElem?_mapIdx]
 cases us[k]? with
 | none => rfl
 | some y =>
  simp only [Option.map_some]
  by_cases hr : off ≤ k ∧ k < off + d'.size
  ·rw [if_pos hr,if_pos hr]
  ·rw [if_neg hr,if_neg hr,if_neg (by omega)]
noncomputable def first59 : Code:=sub1 tail59
theorem tail_seq : tail59 = .seq first59 last59:=by
 unfold first59 last59 tail59 Tryz.f59
 rfl
def slotRow (l : List (List UInt8)) : Array (List UInt8):=(dedB (sortB l) ++ List.replicate (l.length - (dedB (sortB l)).length) []).toArray
theorem fin_world {bt br off cap : Nat} {l : List (List UInt8)} {Q : Exit → Act → World → Prop} {w : World} {vs us : Array Value} {tv tu : TypeId}
  (hQ : ∀ a' w',a'.defers = [] → w'.os = w.os → w'.tape = w.tape → w'.output = w.output → w.heap.size ≤ w'.heap.size →
   (∀ k,k < w.heap.size → k ≠ br → k ≠ bt → w'.heap[k]? = w.heap[k]?) →
   w'.heap[bt]? = some (.cells (vs.setIfInBounds 6 (.slice (some ⟨br,off,none⟩) (dedB (sortB l)).length cap)) tv (0,0)) →
   w'.heap[br]? = some (.cells (putCells encStr off (slotRow l) us) tu (0,0)) → Q .normal a' w') (a' : Act) (hda : a'.defers = []) (hv6l : 6 < vs.size) {cs : List (List UInt8)} (hcs : cs = dedB (sortB l)) (hvr : bt ≠ br) (_hbr : br < w.heap.size) {w2 : World}
  (Zr : w2.heap[br]? = some (.cells (putCells encStr off (slotRow l) us) tu (0,0))) (Zv : w2.heap[bt]? = some (.cells vs tv (0,0))) (Zk : ∀ k,k < w.heap.size → k ≠ br → w2.heap[k]? = w.heap[k]?)
  (Zo : w2.os = w.os) (Zt : w2.tape = w.tape) (Zp : w2.output = w.output) (Zs : w.heap.size ≤ w2.heap.size) : Q .normal a' (w2.setCell ⟨bt,6,none⟩ (.slice (some ⟨br,off,none⟩) cs.length cap)):=by
 subst hcs
 obtain ⟨cur',hW,hcl,hcs⟩:=Wr.setCells (B:=bt) (t:=tv) [.slice (some ⟨br,off,none⟩) (dedB (sortB l)).length cap] 6 _ vs Zv (by simp; omega)
 have hcur : cur' = vs.setIfInBounds 6 (.slice (some ⟨br,off,none⟩) (dedB (sortB l)).length cap):=by
  apply Array.ext'
  rw [hcl,Array.toList_setIfInBounds,List.set_eq_take_append_cons_drop,if_pos (by simpa using hv6l)]
  simp
 have hW' : Wr w2 (w2.setCell ⟨bt,6,none⟩ (.slice (some ⟨br,off,none⟩) (dedB (sortB l)).length cap)) bt cur' tv:=hW
 refine hQ a' _ hda (hW'.os.trans Zo) (hW'.tape.trans Zt) (hW'.output.trans Zp) (by rw [hW'.size]; exact Zs) (fun k hk h1 h2 => (hW'.other k h2).trans (Zk k hk h1)) ?_ ((hW'.other br (Ne.symm hvr)).trans Zr)
 rw [← hcur]
 exact hW'.block
theorem tail_wp (bx bt br off cap : Nat) (l : List (List UInt8)) (Q : Exit → Act → World → Prop) (a : Act) (w : World) (hs : a.tmps.size = 50) (hd : a.defers = []) (ha : a.tmps.getD 0 Go.undef = .pointer (some ⟨bx,0,none⟩))
  {xs vs us : Array Value} {tx tv tu : TypeId} (hx : w.heap[bx]? = some (.cells xs tx (0,0))) (hx0 : xs[0]? = some (.pointer (some ⟨bt,0,none⟩)))
  (hv : w.heap[bt]? = some (.cells vs tv (0,0))) (hv6 : vs[6]? = some (.slice (some ⟨br,off,none⟩) l.length cap))
  (hu : w.heap[br]? = some (.cells us tu (0,0))) (hul : ∀ j,j < l.length → us[off + j]? = some (encStr (l.toArray[j]!)))
  (hxr : bx ≠ br) (hvr : bt ≠ br) (hl : l.length ≤ 1073741824) (hcap : l.length ≤ cap)
  (hQ : ∀ a' w',a'.defers = [] → w'.os = w.os → w'.tape = w.tape → w'.output = w.output → w.heap.size ≤ w'.heap.size →
   (∀ k,k < w.heap.size → k ≠ br → k ≠ bt → w'.heap[k]? = w.heap[k]?) →
   w'.heap[bt]? = some (.cells (vs.setIfInBounds 6 (.slice (some ⟨br,off,none⟩) (dedB (sortB l)).length cap)) tv (0,0)) →
   w'.heap[br]? = some (.cells (putCells encStr off (slotRow l) us) tu (0,0)) → Q .normal a' w') :
  tail59.wp Tryz.prog Q a w:=by
 rw [tail_seq]
 refine wp_seq ?_
 have hbr : br < w.heap.size:=(Array.getElem?_eq_some_iff.1 hu).1
 have hbt : bt < w.heap.size:=(Array.getElem?_eq_some_iff.1 hv).1
 have hbx : bx < w.heap.size:=(Array.getElem?_eq_some_iff.1 hx).1
 have hH : Holds encStr w br off l.toArray:=fun j hj => ⟨by rw [cells_at hu]; exact hul j (by simpa using hj),free_at hu _⟩
 have cx : w.cell? ⟨bx,0,none⟩ = some (.pointer (some ⟨bt,0,none⟩)):=by rw [cells_at hx]; exact hx0
 have cv : w.cell? ⟨bt,6,none⟩ = some (.slice (some ⟨br,off,none⟩) l.length cap):=by rw [cells_at hv]; exact hv6
 have key : ∀ a1 n os,a1.tmps.size = 50 → a1.defers = [] → a1.tmps.getD 0 Go.undef = .pointer (some ⟨bx,0,none⟩) →
   last59.wp Tryz.prog Q a1 (grow (putRow encStr (Sort.ahead w n) br off (l.mergeSort fun x y => decide (x ≤ y)).toArray) os):=by
  intro a1 n os h1 h2 h3
  rw [sortB_eq]
  have hsl:=sortB_length l
  have hdl:=dedB_length (sortB l)
  have W0 : ∀ k,k < w.heap.size → k ≠ br → (grow (putRow encStr (Sort.ahead w n) br off (sortB l).toArray) os).heap[k]? = w.heap[k]?:=by
   intro k hk hne
   have : (grow (putRow encStr (Sort.ahead w n) br off (sortB l).toArray) os).heap[k]? = (putRow encStr (Sort.ahead w n) br off (sortB l).toArray).heap[k]?:=Array.getElem?_append_left (by simpa using hk)
   rw [this,putRow_ne hne]
   rfl
  have W1 : (grow (putRow encStr (Sort.ahead w n) br off (sortB l).toArray) os).heap[br]? = some (.cells (putCells encStr off (sortB l).toArray us) tu (0,0)):=by
   have : (grow (putRow encStr (Sort.ahead w n) br off (sortB l).toArray) os).heap[br]? = (putRow encStr (Sort.ahead w n) br off (sortB l).toArray).heap[br]?:=Array.getElem?_append_left (by simpa using hbr)
   rw [this]
   exact putRow_at hu
  have hWs : w.heap.size ≤ (grow (putRow encStr (Sort.ahead w n) br off (sortB l).toArray) os).heap.size:=by simp
  have hWos : (grow (putRow encStr (Sort.ahead w n) br off (sortB l).toArray) os).os = w.os:=rfl
  have hWtape : (grow (putRow encStr (Sort.ahead w n) br off (sortB l).toArray) os).tape = w.tape:=rfl
  have hWout : (grow (putRow encStr (Sort.ahead w n) br off (sortB l).toArray) os).output = w.output:=rfl
  have hWH : Holds encStr (grow (putRow encStr (Sort.ahead w n) br off (sortB l).toArray) os) br off (sortB l).toArray:=by
   refine holds_grow encStr _ os br off _ (by simpa using hbr) ?_
   exact holds_putRow encStr (Sort.ahead w n) br off l.toArray _ (holds_ahead encStr w n br off _ hH) (by simp [hsl])
  generalize grow (putRow encStr (Sort.ahead w n) br off (sortB l).toArray) os = W at W0 W1 hWs hWos hWtape hWout hWH ⊢
  have Wx : W.heap[bx]? = some (.cells xs tx (0,0)):=(W0 bx hbx hxr).trans hx
  have Wv : W.heap[bt]? = some (.cells vs tv (0,0)):=(W0 bt hbt hvr).trans hv
  have Y : ∀ q k,k ≠ br → (putRow encStr (Sort.ahead W.drew q) br off (compact (sortB l) ++ List.replicate ((sortB l).length - (compact (sortB l)).length) []).toArray).heap[k]? = W.heap[k]?:=by
   intro q k hne
   rw [putRow_ne hne]
   rfl
  refine last_wp bx bt br off cap (sortB l) Q a1 W h1 h2 h3 (by rw [cells_at Wx]; exact hx0) (by rw [cells_at Wv,hsl]; exact hv6) (free_at Wv _) hWH (by omega) (by omega) ?_ ?_ ?_ ?_
  ·intro q
   rw [cells_at ((Y q bx hxr).trans Wx)]; exact hx0
  ·intro q
   rw [cells_at ((Y q bt hvr).trans Wv),hsl]; exact hv6
  ·intro q
   exact free_at ((Y q bt hvr).trans Wv) _
  ·intro a' q hda
   have hv6l : 6 < vs.size:=(Array.getElem?_eq_some_iff.1 hv6).1
   have Zr : (putRow encStr (Sort.ahead W.drew q) br off (compact (sortB l) ++ List.replicate ((sortB l).length - (compact (sortB l)).length) []).toArray).heap[br]? = some (.cells (putCells encStr off (slotRow l) us) tu (0,0)):=by
    refine (putRow_at (us:=putCells encStr off (sortB l).toArray us) (t:=tu) W1).trans ?_
    rw [dedB_eq,hsl,putCells_two (by simp; omega)]
    rfl
   have Zv:=(Y q bt hvr).trans Wv
   have Zk:=fun k (hk : k < w.heap.size) (h1 : k ≠ br) => (Y q k h1).trans (W0 k hk h1)
   have Zo : (putRow encStr (Sort.ahead W.drew q) br off (compact (sortB l) ++ List.replicate ((sortB l).length - (compact (sortB l)).length) []).toArray).os = w.os:=hWos
   have Zt : (putRow encStr (Sort.ahead W.drew q) br off (compact (sortB l) ++ List.replicate ((sortB l).length - (compact (sortB l)).length) []).toArray).tape = w.tape:=hWtape
   have Zp : (putRow encStr (Sort.ahead W.drew q) br off (compact (sortB l) ++ List.replicate ((sortB l).length - (compact (sortB l)).length) []).toArray).output = w.output:=hWout
   have Zs : w.heap.size ≤ (putRow encStr (Sort.ahead W.drew q) br off (compact (sortB l) ++ List.replicate ((sortB l).length - (compact (sortB l)).length) []).toArray).heap.size:=by rw [size_putRow]; exact hWs
   generalize putRow encStr (Sort.ahead W.drew q) br off (compact (sortB l) ++ List.replicate ((sortB l).length - (compact (sortB l)).length) []).toArray = w2 at Zr Zv Zk Zo Zt Zp Zs ⊢
   exact fin_world hQ a' hda hv6l (dedB_eq _) hvr hbr Zr Zv Zk Zo Zt Zp Zs
 obtain ⟨t0,t1,t2,t3,t4,t5,t6,t7,t8,t9,t10,t11,t12,t13,t14,t15,t16,t17,t18,t19,t20,t21,t22,t23,t24,t25,t26,t27,t28,t29,t30,t31,t32,t33,t34,t35,t36,t37,t38,t39,t40,t41,t42,t43,t44,t45,t46,t47,t48,t49,rfl⟩:=act50 a hs hd
 change t0 = _ at ha
 subst ha
 clear hQ hs hd hx hv hu hul hx0 hv6 hxr hvr
 have hfz:=hH
 unfold first59 tail59 Tryz.f59
 dsimp only [Option.getD_some,sub1,sub2]
 go_wp2_with (go_at_call 60; refine (Tryz.slices_Sort_string br off cap l _ hH hbr (by omega)).mono ?_; rintro e w' ⟨rfl,n,os,rfl⟩)
 exact key _ _ _ rfl rfl rfl
end Go.Proofs.YtmeakjgbjldkdaaGreat.Slo
namespace Go.Proofs.YtmeakjgbjldkdaaGreat.Once
open Go
def Left (b off : Nat) (Q : World → Prop) (e : Ending) (w' : World) : Prop:=
 e = .returned (.tuple #[]) ∧ Q w' ∧ w'.cell? ⟨b,off,none⟩ = some (.int .u32 0) ∧ w'.cell? ⟨b,off + 1,none⟩ = some (.int .i32 1) ∧ w'.frozen? ⟨b,off,none⟩ = false ∧ w'.frozen? ⟨b,off + 1,none⟩ = false
theorem slow_any (b off : Nat) (pl : Addr) (Q : World → Prop) (w : World)
  (h0 : w.cell? ⟨b,off,none⟩ = some (.int .u32 0)) (h1 : w.cell? ⟨b,off + 1,none⟩ = some (.int .i32 0))
  (f1 : w.frozen? ⟨b,off + 1,none⟩ = false)
  (hf : Calls Tryz.prog 59 #[.pointer (some pl)] (w.setCell ⟨b,off + 1,none⟩ (.int .i32 1)) (Left b off Q)) :
  Calls Tryz.prog 108 #[.pointer (some ⟨b,off,none⟩),.func (.func 59) #[] #[.pointer (some pl)]] w fun e w' => e = .returned (.tuple #[]) ∧
   ∃ w2,Q w2 ∧ w' = (w2.drew.setCell ⟨b,off,none⟩ (.int .u32 1)).setCell ⟨b,off + 1,none⟩ (.int .i32 0):=by
 have hl:=run_call_load (P:=Tryz.prog) Tryz.func152 (by kernel_rfl) (by kernel_rfl) (by kernel_rfl) .u32 (by kernel_rfl) (w:=w.setCell ⟨b,off + 1,none⟩ (.int .i32 1)) (a:=⟨b,off,none⟩) (x:=0) ((World.cell?_setCell_other _ ⟨b,off + 1,none⟩ ⟨b,off,none⟩ _ (by simp)).trans h0)
 have hnot : ∀ (x : Bool) (w : World),(Op.unary .not (.bool x)).run Tryz.prog w = .ok (.bool (!x)) w:=fun _ _ => rfl
 go_enter_defers Tryz.func108,Tryz.ntmps108
 go_wp2_with (go_at_call 153; refine (lock_free ⟨b,off + 1,none⟩ _ (by go_simp) (by go_simp)).mono ?_; rintro e w' ⟨rfl,rfl⟩)
 go_wp2_with (first | (go_at_call 59; refine hf.mono ?_; rintro e w2 ⟨rfl,hQ,g0,g1,z0,z1⟩) | (go_at_call 107; go_in))
 first | (simp only [bodyPostD]) | go_wp2
 refine leaves_cons (f:=155) (args:=#[.pointer (some ⟨b,off,none⟩),.bool true]) (by simp) (by simp [go_sem]) ?_
 refine (store_deferred ⟨b,off,none⟩ (.int .u32 0) .returning _ ?_ (by simp [z0])).mono ?_
 ·exact g0
 rintro e u' w'' ⟨rfl,rfl,rfl⟩
 refine leaves_cons (f:=154) (args:=#[.pointer (some ⟨b,off + 1,none⟩)]) (by simp [settle]) (by simp [go_sem]) ?_
 refine (unlock_deferred ⟨b,off + 1,none⟩ _ _ ?_ (by simp [z1])).mono ?_
 ·refine (World.cell?_setCell_other _ ⟨b,off,none⟩ ⟨b,off + 1,none⟩ _ (by simp)).trans ?_
  rw [World.cell?_drew]
  exact g1
 rintro e u' w'' ⟨rfl,rfl,rfl⟩
 simp [Leaves,settle,results,Tryz.results108]
 exact ⟨w2,hQ,rfl⟩
theorem do_first (b off : Nat) (pl : Addr) (Q : World → Prop) (w : World)
  (h0 : w.cell? ⟨b,off,none⟩ = some (.int .u32 0)) (h1 : w.cell? ⟨b,off + 1,none⟩ = some (.int .i32 0))
  (f1 : w.frozen? ⟨b,off + 1,none⟩ = false)
  (hf : Calls Tryz.prog 59 #[.pointer (some pl)] (w.setCell ⟨b,off + 1,none⟩ (.int .i32 1)) (Left b off Q)) :
  Calls Tryz.prog 58 #[.pointer (some ⟨b,off,none⟩),.func (.func 59) #[] #[.pointer (some pl)]] w fun e w' => e = .returned (.tuple #[]) ∧
   ∃ w2,Q w2 ∧ w' = (w2.drew.setCell ⟨b,off,none⟩ (.int .u32 1)).setCell ⟨b,off + 1,none⟩ (.int .i32 0):=by
 have hl:=run_call_load (P:=Tryz.prog) Tryz.func152 (by kernel_rfl) (by kernel_rfl) (by kernel_rfl) .u32 (by kernel_rfl) h0
 have hnot : ∀ (x : Bool) (w : World),(Op.unary .not (.bool x)).run Tryz.prog w = .ok (.bool (!x)) w:=fun _ _ => rfl
 go_enter Tryz.func58,Tryz.ntmps58
 go_wp2_with (first | (go_at_call 108; refine (slow_any b off pl Q _ h0 h1 f1 hf).mono ?_; rintro e w' ⟨rfl,hw⟩) | (go_at_call 107; go_in))
 go_end0
 exact ⟨rfl,hw⟩
theorem do_done (a : Addr) (d : Int) (hd : ¬d = 0) (fv : Value) (w : World) (h0 : w.cell? a = some (.int .u32 d)) :
  Calls Tryz.prog 58 #[.pointer (some a),fv] w fun e w' => e = .returned (.tuple #[]) ∧ w' = w:=by
 have hl:=run_call_load (P:=Tryz.prog) Tryz.func152 (by kernel_rfl) (by kernel_rfl) (by kernel_rfl) .u32 (by kernel_rfl) h0
 have hnot : ∀ (x : Bool) (w : World),(Op.unary .not (.bool x)).run Tryz.prog w = .ok (.bool (!x)) w:=fun _ _ => rfl
 have hd' : (d != 0) = true:=by simp [hd]
 go_enter Tryz.func58,Tryz.ntmps58
 go_wp2
 go_end0
 exact ⟨rfl,rfl⟩
end Go.Proofs.YtmeakjgbjldkdaaGreat.Once
namespace Go.Proofs.YtmeakjgbjldkdaaGreat.Ai
open Go
theorem rel_set {K : Ghost} {S : St} {w : World} {n B off : Nat} {cs : List AV} {x : AV} {u : Value} (R : Rel K S w) (hm : K.m n = some B) (hb : S.heap[n]? = some (.cells cs)) (ho : off < cs.length) (hx1 : x.one = true) (hx : Rep K x u) :
  Rel K ⟨S.heap.set n (.cells (overlay cs off [x])),S.rows⟩ (w.setCell ⟨B,off,none⟩ u) ∧ ∀ X,Step K X w K (w.setCell ⟨B,off,none⟩ u):=by
 obtain ⟨vs,t,hw,hr⟩:=R.cells n B cs hm hb
 have hrl:=hr.length
 simp only [Array.length_toList] at hrl
 obtain ⟨cur',hW,hl,hs⟩:=Wr.setCells (B:=B) (t:=t) [u] off w vs hw (by simp; omega)
 have e : w.setCells B off [u] = w.setCell ⟨B,off,none⟩ u:=rfl
 rw [e] at hW
 refine ⟨R.write hm hb hW ?_,Step.write hm hW⟩
 rw [hl]
 exact hr.overlay (by simp only [RepL]; exact ⟨u,[],rfl,hx1,hx,rfl⟩)
theorem rel_drew {K : Ghost} {S : St} {w : World} (R : Rel K S w) : Rel K S w.drew ∧ ∀ X,Step K X w K w.drew:=
 ⟨⟨R.dom,R.inj,R.sep,R.cells,R.maps,R.rows,R.grow⟩,fun _ => ⟨Ext.refl K,rfl,rfl,rfl,Nat.le_refl _,fun _ _ _ _ => rfl,fun _ _ h1 h2 => ⟨h1,h2⟩,fun _ _ h => h,fun _ x h => .inl ⟨x,h⟩⟩⟩
theorem cell_of {K : Ghost} {S : St} {w : World} {n B off : Nat} {cs : List AV} {k : IntKind} {x : Int} (R : Rel K S w) (hm : K.m n = some B) (hb : S.heap[n]? = some (.cells cs)) (hx : cs[off]? = some (.int k x)) :
  w.cell? ⟨B,off,none⟩ = some (.int k x) ∧ w.frozen? ⟨B,off,none⟩ = false:=by
 obtain ⟨vs,t,hw,hr⟩:=R.cells n B cs hm hb
 obtain ⟨u,h1,-,h2⟩:=hr.get off _ hx
 simp only [Rep] at h2
 subst h2
 refine ⟨?_,free_at hw _⟩
 rw [cells_at hw]
 simpa using h1
theorem enter58 (us : Array Value) (w : World) : (callFunc 58 us).run Tryz.prog w = .ok (.enter 58 us) w:=by
 have hf:=Tryz.func58
 have hb : Tryz.f58.body.isSome = true:=by kernel_rfl
 have h2 : (Tryz.f58.name != "runtime.NumGoroutine") = true:=by kernel_rfl
 obtain ⟨c,hc⟩:=Option.isSome_iff_exists.1 hb
 have h3 : ¬Tryz.f58.name = "runtime.NumGoroutine":=by simpa using h2
 simp [callFunc,hf,h3,hc]
theorem enter59 (us : Array Value) (w : World) : (callFunc 59 us).run Tryz.prog w = .ok (.enter 59 us) w:=by
 have hf:=Tryz.func59
 have hb : Tryz.f59.body.isSome = true:=by kernel_rfl
 have h2 : (Tryz.f59.name != "runtime.NumGoroutine") = true:=by kernel_rfl
 obtain ⟨c,hc⟩:=Option.isSome_iff_exists.1 hb
 have h3 : ¬Tryz.f59.name = "runtime.NumGoroutine":=by simpa using h2
 simp [callFunc,hf,h3,hc]
theorem setC_eq {H : List Blk} {n off : Nat} {cs : List AV} {v : AV} (h : H[n]? = some (.cells cs)) : setC H n off v = H.set n (.cells (overlay cs off [v])):=by
 unfold setC
 rw [h]
theorem keeps_trans' {b0 : Nat} {S S' S'' : St} (h : Keeps b0 S S') (h' : Keeps b0 S' S'') : Keeps b0 S S'':=⟨Nat.le_trans h.1 h'.1,fun k hk hi => h'.2.1 k hk (h.2.1 k hk hi),fun hi => h'.2.2 (h.2.2 hi)⟩
theorem once_sim : PrimSim Tryz.prog 58 onceP:=by
 intro cl hcl vs S r S' hp K w us R hI ha
 unfold onceP at hp
 split at hp
 ·rename_i n off m
  split at hp
  ·rename_i cs hcs
   simp only [RepT,Rep] at ha
   obtain ⟨v1,us1,rfl,⟨B,hmB,rfl⟩,v2,us2,rfl,⟨us3,vs3,rfl,hu3,v4,vs5,hv3,⟨B2,hmB2,rfl⟩,hv5⟩,rfl⟩:=ha
   subst hu3 hv5 hv3
   refine .inl ⟨enter58 _ _,?_⟩
   split at hp
   ·
    rename_i h0 h1
    split at hp
    ·rename_i S2 hcall
     split at hp
     ·rename_i cs2 hcs2
      split at hp
      ·rename_i g0 g1
       simp only [Option.some.injEq,Prod.mk.injEq] at hp
       obtain ⟨rfl,rfl⟩:=hp
       obtain ⟨c0,f0⟩:=cell_of R hmB hcs h0
       obtain ⟨c1,f1⟩:=cell_of R hmB hcs h1
       have ho1 : off + 1 < cs.length:=(List.getElem?_eq_some_iff.1 h1).1
       obtain ⟨R1,st1⟩:=rel_set (x:=.int .i32 1) (u:=.int .i32 1) R hmB hcs ho1 rfl rfl
       have k1 : Keeps S.heap.length S ⟨S.heap.set n (.cells (overlay cs (off + 1) [.int .i32 1])),S.rows⟩:=keeps_store (x:=.int .i32 1) hcs (.inr rfl) rfl
       rw [setC_eq hcs] at hcall
       have hcl59:=hcl 59 [.ptr m 0] _ _ _ hcall K (w.setCell ⟨B,off + 1,none⟩ (.int .i32 1)) [.pointer (some ⟨B2,0,none⟩)] R1 (k1.2.2 hI) (by simp only [RepT,Rep]; exact ⟨_,_,rfl,⟨B2,hmB2,rfl⟩,rfl⟩)
       rcases hcl59 with ⟨-,hC⟩ | ⟨u,w',hv,-⟩
       ·refine (Once.do_first B off ⟨B2,0,none⟩ (fun w' => ∃ K2,Rel K2 S2 w' ∧ Step K (fun k => k < S.heap.length) (w.setCell ⟨B,off + 1,none⟩ (.int .i32 1)) K2 w' ∧ Keeps S.heap.length ⟨S.heap.set n (.cells (overlay cs (off + 1) [.int .i32 1])),S.rows⟩ S2) w c0 c1 f1 (hC.mono ?_)).mono ?_
        ·rintro e w' ⟨K2,R2,st2,k2,u,rfl,hu⟩
         simp only [List.length_set] at st2 k2
         have hm2:=st2.ext.m n B hmB
         obtain ⟨d0,z0⟩:=cell_of R2 hm2 hcs2 g0
         obtain ⟨d1,z1⟩:=cell_of R2 hm2 hcs2 g1
         refine ⟨?_,⟨K2,R2,st2,k2⟩,d0,d1,z0,z1⟩
         simp only [Rep] at hu
         obtain ⟨l,rfl,hl⟩:=hu
         simp only [RepT] at hl
         subst hl
         rfl
        ·rintro e w' ⟨rfl,w2,⟨K2,R2,st2,k2⟩,rfl⟩
         have hm2:=st2.ext.m n B hmB
         have go0 : off < cs2.length:=(List.getElem?_eq_some_iff.1 g0).1
         have go1 : off + 1 < cs2.length:=(List.getElem?_eq_some_iff.1 g1).1
         obtain ⟨Rd,sd⟩:=rel_drew R2
         obtain ⟨R3,st3⟩:=rel_set (x:=.int .u32 1) (u:=.int .u32 1) Rd hm2 hcs2 go0 rfl rfl
         have hn2 : n < S2.heap.length:=(List.getElem?_eq_some_iff.1 hcs2).1
         have hcs3 : (S2.heap.set n (.cells (overlay cs2 off [.int .u32 1])))[n]? = some (.cells (overlay cs2 off [.int .u32 1])):=List.getElem?_set_self hn2
         have hl3 : (overlay cs2 off [.int .u32 1]).length = cs2.length:=by simp [overlay]; omega
         obtain ⟨R4,st4⟩:=rel_set (x:=.int .i32 0) (u:=.int .i32 0) R3 hm2 hcs3 (by rw [hl3]; exact go1) rfl rfl
         have k3 : Keeps S.heap.length S2 ⟨S2.heap.set n (.cells (overlay cs2 off [.int .u32 1])),S2.rows⟩:=keeps_store (x:=.int .u32 1) hcs2 (.inr rfl) rfl
         have k4:=keeps_store (S:=⟨S2.heap.set n (.cells (overlay cs2 off [.int .u32 1])),S2.rows⟩) (b0:=S.heap.length) (off:=off + 1) (x:=.int .i32 0) hcs3 (.inr rfl) rfl
         refine ⟨K2,?_,(st1 _).trans (st2.trans ((sd _).trans ((st3 _).trans (st4 _) (fun _ h => h)) (fun _ h => h)) (fun _ h => h)) (fun _ h => h),?_,_,rfl,?_⟩
         ·rw [setC_eq hcs2,setC_eq hcs3]
          exact R4
         ·rw [setC_eq hcs2,setC_eq hcs3]
          exact keeps_trans' k1 (keeps_trans' k2 (keeps_trans' k3 k4))
         ·simp only [Rep,RepT]
          exact ⟨[],rfl,rfl⟩
       ·rw [enter59] at hv
        simp at hv
      ·simp at hp
     ·simp at hp
    ·simp at hp
   ·
    rename_i h0
    simp only [Option.some.injEq,Prod.mk.injEq] at hp
    obtain ⟨rfl,rfl⟩:=hp
    obtain ⟨c0,f0⟩:=cell_of R hmB hcs (by assumption)
    refine (Once.do_done ⟨B,off,none⟩ 1 (by decide) _ w c0).mono ?_
    rintro e w' ⟨rfl,rfl⟩
    exact ⟨K,R,Step.refl K _ _,keeps_refl _ _,_,rfl,by simp only [Rep,RepT]; exact ⟨[],rfl,rfl⟩⟩
   ·simp at hp
  ·simp at hp
 ·simp at hp
end Go.Proofs.YtmeakjgbjldkdaaGreat.Ai
