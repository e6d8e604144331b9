/- A part of what is proved: Ai9, Ai10, Ai11, Ai12, Ai13. No condition. -/
import Derived.Test.YtmeakjgbjldkdaaGreatY2
import Derived.IntWalk
import Derived.Orders
set_option maxRecDepth 100000
set_option maxHeartbeats 16000000
namespace Go.Proofs.YtmeakjgbjldkdaaGreat.Ai
open Go
variable {P : Program} {K : Ghost} {S : St} {w : World} {e : Slots} {a : Act} {v : AV}
theorem mput_some {s : Str} {x : AV} {u : Value} (hx : Rep K x u) : ∀ {es : List (Str × AV)} {ms : List MapEntry} {v : AV} (i : Nat),RepM K es ms → mlook es s = some v →
  ∃ j u0,Instr.findNow .string (.string ⟨s.toArray⟩) ms i = some (some (i + j,u0)) ∧ (∃ m,ms[j]? = some m ∧ m.key = .string ⟨s.toArray⟩) ∧
   RepM K (mput es s x) (ms.modify j fun e => {e with key:=.string ⟨s.toArray⟩,val:=u})
 | [],_,_,_,_,h => by simp [mlook] at h
 | (k,a) :: es,ms,v,i,hr,h => by
  simp only [RepM] at hr
  obtain ⟨m,ms',rfl,hk,hv,hr'⟩:=hr
  simp only [mlook] at h
  by_cases hks : k = s
  ·subst hks
   refine ⟨0,m.val,by simp [Instr.findNow,Instr.sameNow,hk,beq_mk],⟨m,rfl,hk⟩,?_⟩
   simp only [mput,if_true,RepM,List.modify_zero_cons]
   exact ⟨_,_,rfl,rfl,hx,hr'⟩
  ·rw [if_neg hks] at h
   obtain ⟨j,u0,h1,⟨m',h3,h4⟩,h5⟩:=mput_some hx (i + 1) hr' h
   refine ⟨j + 1,u0,?_,⟨m',by simpa using h3,h4⟩,?_⟩
   ·have hne : ((⟨s.toArray⟩ : ByteArray) == ⟨k.toArray⟩) = false:=by
     rw [beq_mk,beq_eq_false_iff_ne]
     exact fun heq => hks heq.symm
    simp only [Instr.findNow,Instr.sameNow,hk,hne]
    rw [h1]
    congr 3
    omega
   ·simp only [mput,if_neg hks,RepM,List.modify_succ_cons]
    exact ⟨_,_,rfl,hk,hv,h5⟩
theorem mput_none {s : Str} {x : AV} {u : Value} {born : Nat} (hx : Rep K x u) : ∀ {es : List (Str × AV)} {ms : List MapEntry},RepM K es ms → mlook es s = none →
   RepM K (mput es s x) (ms ++ [{key:=.string ⟨s.toArray⟩,val:=u,born:=born}])
 | [],ms,hr,_ => by
  simp only [RepM] at hr
  subst hr
  simp only [mput,RepM,List.nil_append]
  exact ⟨_,_,rfl,rfl,hx,rfl⟩
 | (k,a) :: es,ms,hr,h => by
  simp only [RepM] at hr
  obtain ⟨m,ms',rfl,hk,hv,hr'⟩:=hr
  simp only [mlook] at h
  by_cases hks : k = s
  ·rw [if_pos hks] at h; cases h
  ·rw [if_neg hks] at h
   simp only [mput,if_neg hks,RepM,List.cons_append]
   exact ⟨_,_,rfl,hk,hv,mput_none hx hr' h⟩
theorem Rel.writeM {n B : Nat} {blk : Blk} {ms' : Array MapEntry} {ck : Nat} {es' : List (Str × AV)} (R : Rel K S w) (hm : K.m n = some B) (hb : S.heap[n]? = some blk) (hr : RepM K es' ms'.toList) :
  Rel K {S with heap:=S.heap.set n (.map es')} {w with heap:=w.heap.setIfInBounds B (.map ms' ck)} ∧ ∀ X,Step K X w K {w with heap:=w.heap.setIfInBounds B (.map ms' ck)}:=by
 have hn:=(List.getElem?_eq_some_iff.1 hb).1
 have hB:=R.lt_m hm
 have hblock : ({w with heap:=w.heap.setIfInBounds B (.map ms' ck)} : World).heap[B]? = some (.map ms' ck):=by simp [hB]
 have hother : ∀ k,k ≠ B → ({w with heap:=w.heap.setIfInBounds B (.map ms' ck)} : World).heap[k]? = w.heap[k]?:=fun k hk => by
  simp only
  rw [Array.getElem?_setIfInBounds_ne (fun h => hk h.symm)]
 refine ⟨⟨?_,R.inj,R.sep,?_,?_,?_,?_⟩,fun X => ⟨Ext.refl K,rfl,rfl,rfl,by simp,fun B' _ h1 _ => hother B' (fun h => h1 n (h ▸ hm)),fun _ _ h1 h2 => ⟨h1,h2⟩,fun _ _ h => h,fun _ x h => .inl ⟨x,h⟩⟩⟩
 ·intro k B' hk; simpa using R.dom k B' hk
 ·intro k B' cs hk hc
  by_cases hkn : k = n
  ·subst hkn
   simp only [List.getElem?_set_self hn,Option.some.injEq,reduceCtorEq] at hc
  ·rw [List.getElem?_set_ne (fun h => hkn h.symm)] at hc
   obtain ⟨us,t',h1,h2⟩:=R.cells k B' cs hk hc
   exact ⟨us,t',by rw [hother B' (fun h => hkn (R.inj k n B (h ▸ hk) hm))]; exact h1,h2⟩
 ·intro k B' es hk hc
  by_cases hkn : k = n
  ·subst hkn
   rw [hm] at hk
   cases hk
   simp only [List.getElem?_set_self hn,Option.some.injEq,Blk.map.injEq] at hc
   subst hc
   exact ⟨ms',ck,hblock,hr⟩
  ·rw [List.getElem?_set_ne (fun h => hkn h.symm)] at hc
   obtain ⟨us,t',h1,h2⟩:=R.maps k B' es hk hc
   exact ⟨us,t',by rw [hother B' (fun h => hkn (R.inj k n B (h ▸ hk) hm))]; exact h1,h2⟩
 ·intro B' l hg
  obtain ⟨us,t',h1,h2⟩:=R.rows B' l hg
  exact ⟨us,t',by rw [hother B' (fun h => by rw [h,R.sep n B hm] at hg; cases hg)]; exact h1,h2⟩
 ·intro B' b E sz size ha
  obtain ⟨l,hg,⟨us,t',h1,h2⟩,hrow⟩:=R.grow B' b E sz size ha
  exact ⟨l,hg,⟨us,t',by rw [hother B' (fun h => by rw [h,R.sep n B hm] at hg; cases hg)]; exact h1,h2⟩,hrow⟩
theorem run_setMap {B ck ck' : Nat} {ms ms' : Array MapEntry} (h : w.heap[B]? = some (.map ms ck)) :
  (setObj B (.map ms' ck')).run P w = .ok () {w with heap:=w.heap.setIfInBounds B (.map ms' ck')}:=by
 simp [setObj,Sem.run,h]
theorem l_mapUpd {T et : TypeId} {n : Nat} {s : Str} {x : AV} {m' u : Value} {es : List (Str × AV)} (R : Rel K S w) (hT : mapB P T = some et) (hm : Rep K (.map n) m') (hx : Rep K x u) (hb : S.heap[n]? = some (.map es)) :
  ∃ w',(Instr.mapUpdate T m' (.string ⟨s.toArray⟩) u).run P w = .ok () w' ∧ Rel K {S with heap:=S.heap.set n (.map (mput es s x))} w' ∧ ∀ X,Step K X w K w':=by
 obtain ⟨kt,hu,hk⟩:=mapB_spec hT
 simp only [Rep] at hm
 obtain ⟨B,hmB,rfl⟩:=hm
 obtain ⟨ms,ck,hw,hr⟩:=R.maps n B es hmB hb
 cases hl : mlook es s with
 | some v0 =>
  obtain ⟨j,u0,h1,⟨m,h3,h4⟩,h5⟩:=mput_some hx 0 hr hl
  have hf : (Instr.findKey kt (.string ⟨s.toArray⟩) ms.toList).run P w = .ok (some (j,u0)) w:=by
   simp [Instr.findKey,run_underlying hk,h1]
  have hr' : RepM K (mput es s x) (ms.modify j fun e => {e with key:=.string ⟨s.toArray⟩,val:=u}).toList:=by
   rw [Array.toList_modify]; exact h5
  obtain ⟨R',hst⟩:=R.writeM (ck:=ck) hmB hb hr'
  refine ⟨_,?_,R',hst⟩
  have h3' : ms[j]? = some m:=by simpa using h3
  have hkt : (Instr.keyThatStays (((ms[j]?).map (·.key)).getD (.string ⟨s.toArray⟩)) (.string ⟨s.toArray⟩)).run P w = .ok (.string ⟨s.toArray⟩) w:=by
   simp [Instr.keyThatStays,h3',h4,Instr.sameBits,beq_mk]
  simp only [Instr.mapUpdate,Sem.run_bind,run_underlying hu,Result.andThen_ok,run_getMap hw,run_checkKey' _ hk,hf,hkt,run_setMap hw]
 | none =>
  have hf:=run_findKey_none (P:=P) (w:=w) hk hr hl
  have hr' : RepM K (mput es s x) (ms.push {key:=.string ⟨s.toArray⟩,val:=u,born:=ck}).toList:=by
   rw [Array.toList_push]; exact mput_none hx hr hl
  obtain ⟨R',hst⟩:=R.writeM (ck:=ck + 1) hmB hb hr'
  refine ⟨_,?_,R',hst⟩
  simp only [Instr.mapUpdate,Sem.run_bind,run_underlying hu,Result.andThen_ok,run_getMap hw,run_checkKey' _ hk,hf,run_setMap hw]
theorem new_map (R : Rel K S w) :
  ∃ K',K'.m S.heap.length = some w.heap.size ∧ Rel K' {S with heap:=S.heap ++ [.map []]} {w with heap:=w.heap.push (.map #[] 0)} ∧ Step K (fun n => n < S.heap.length) w K' {w with heap:=w.heap.push (.map #[] 0)}:=by
 have hx : Ext K {K with m:=fun k => if k = S.heap.length then some w.heap.size else K.m k}:=by
  refine ⟨fun k B hk => ?_,fun B l hg => ⟨[],by simpa using hg⟩,fun B b E sz size ha => ⟨E,ha,Nat.le_refl _,fun l l' h1 h2 => ?_⟩,fun _ _ _ h => h⟩
  ·have:=R.dom k B hk
   simp only
   rw [if_neg (by omega)]; exact hk
  ·simp only at h2; rw [h1] at h2; cases h2; simp
 refine ⟨{K with m:=fun k => if k = S.heap.length then some w.heap.size else K.m k},by simp,?_,hx,rfl,rfl,rfl,by simp,?_,?_,?_,fun _ x h => .inl ⟨x,h⟩⟩
 ·refine ⟨?_,?_,?_,?_,?_,?_,?_⟩
  ·intro k B hk
   simp only at hk
   split at hk
   ·simp; omega
   ·have:=R.dom k B hk
    simp; omega
  ·intro k k' B hk hk'
   simp only at hk hk'
   split at hk <;> split at hk'
   ·omega
   ·simp only [Option.some.injEq] at hk; have:=R.lt_m hk'; omega
   ·simp only [Option.some.injEq] at hk'; have:=R.lt_m hk; omega
   ·exact R.inj k k' B hk hk'
  ·intro k B hk
   simp only at hk ⊢
   split at hk
   ·simp only [Option.some.injEq] at hk
    cases hg : K.g B with
    | none => rfl
    | some l => have:=R.lt_g hg; omega
   ·exact R.sep k B hk
  ·intro k B cs hk hb
   simp only at hk
   split at hk
   ·rename_i h
    subst h
    simp at hb
   ·have hlt:=R.lt_m hk
    rw [List.getElem?_append_left (R.dom k B hk)] at hb
    obtain ⟨vs',t',hw,hr'⟩:=R.cells k B cs hk hb
    exact ⟨vs',t',by rw [heap_push,if_neg (by omega)]; exact hw,RepL.ext hx _ _ hr'⟩
  ·intro k B es hk hb
   simp only at hk
   split at hk
   ·rename_i h
    subst h
    simp only [Option.some.injEq] at hk
    subst hk
    simp at hb
    subst hb
    exact ⟨#[],0,by simp,by simp [RepM]⟩
   ·have hlt:=R.lt_m hk
    rw [List.getElem?_append_left (R.dom k B hk)] at hb
    obtain ⟨ms,ck,hw,hr'⟩:=R.maps k B es hk hb
    exact ⟨ms,ck,by rw [heap_push,if_neg (by omega)]; exact hw,hr'.ext hx⟩
  ·intro B l hg
   have hlt:=R.lt_g hg
   obtain ⟨vs',t',hw,ht⟩:=R.rows B l hg
   exact ⟨vs',t',by rw [heap_push,if_neg (by omega)]; exact hw,ht⟩
  ·intro B b E sz size ha
   obtain ⟨l,hg,⟨vs',t',hw,hs⟩,hrow⟩:=R.grow B b E sz size ha
   have hlt:=R.lt_g hg
   exact ⟨l,hg,⟨vs',t',by rw [heap_push,if_neg (by omega)]; exact hw,hs⟩,hrow⟩
 ·intro B hB _ _
  rw [heap_push,if_neg (by omega)]
 ·intro B hB h1 h2
  refine ⟨fun k hk => ?_,h2⟩
  simp only at hk
  split at hk
  ·simp only [Option.some.injEq] at hk; omega
  ·exact h1 k hk
 ·intro k hk h
  simp only
  rw [if_neg (by omega)]; exact h
theorem replicate_flatten_rep {zs : List AV} {us : List Value} (h : RepL K zs us) : ∀ n,RepL K (List.replicate n zs).flatten (List.replicate n us).flatten
 | 0 => by simp [RepL]
 | n + 1 => by
  simp only [List.replicate_succ,List.flatten_cons]
  exact h.append (replicate_flatten_rep h n)
theorem zeros_eq (z : Array Value) (h0 : 0 < z.size) : ∀ n,((Array.range (n * z.size)).map (z[· % z.size]!)).toList = (List.replicate n z.toList).flatten
 | 0 => by simp [show Array.range 0 = #[] from rfl]
 | n + 1 => by
  have ih:=zeros_eq z h0 n
  rw [List.replicate_succ',List.flatten_append,← ih]
  simp only [Array.toList_map,Array.toList_range,List.flatten_cons,List.flatten_nil,List.append_nil]
  rw [Nat.add_mul,Nat.one_mul,List.range_add,List.map_append,List.map_map]
  congr 1
  apply List.ext_getElem
  ·simp
  ·intro i h1 h2
   simp at h1 h2 ⊢
   rw [Nat.mod_eq_of_lt h1]
   simp [h1]
theorem wrap_in {n : Int} (h0 : 0 ≤ n) (h1 : n ≤ 1073741824) : IntKind.i64.wrap n = n:=IntWalk.i64_in n (by omega)
theorem l_mkSlice {T el : TypeId} {i : TypeInfo} {z : Value} {sz by_ : Nat} {zs : List AV} {n : Int} (R : Rel K S w) (hu : P.underlying T = some (.slice el)) (hi : P.info? el = some i) (hz : i.zero = some z)
  (hsz : i.size = sz) (hby : i.bytes = by_) (hzs : z.cells.size = sz) (hr : RepL K zs z.cells.toList) (h0 : 0 < sz) (hn : 0 ≤ n) (hb : n.toNat * by_ ≤ maxRow) (hm : n.toNat ≤ maxRow) :
  ∃ v' K' w',(Instr.makeSlice T (.int .i64 n) (.int .i64 n)).run P w = .ok v' w' ∧ Rep K' (.arr S.heap.length 0 sz n.toNat) v' ∧ Rel K' {S with heap:=S.heap ++ [.cells (List.replicate n.toNat zs).flatten]} w' ∧
   Step K (fun n => n < S.heap.length) w K' w':=by
 unfold maxRow at hb hm
 have hrep : RepL K (List.replicate n.toNat zs).flatten ((Array.range (n.toNat * z.cells.size)).map (z.cells[· % z.cells.size]!)).toList:=by
  rw [zeros_eq _ (by omega)]
  exact replicate_flatten_rep hr _
 obtain ⟨K',hm',R',hst⟩:=new_block (t:=el) R hrep
 refine ⟨.slice (some ⟨w.heap.size,0,none⟩) n.toNat n.toNat,K',_,?_,by simp only [Rep]; exact ⟨_,_,hm',Nat.le_refl _,rfl⟩,R',hst⟩
 have hw:=wrap_in hn (by omega)
 have hbn : (i.bytes : Int) * n ≤ 1073741824:=by
  have h1 : ((n.toNat * by_ : Nat) : Int) ≤ 1073741824:=by omega
  rw [hby,Int.mul_comm]
  rw [Int.natCast_mul,Int.toNat_of_nonneg hn] at h1
  exact h1
 have hz' : ∀ w1 : World,(zeroValue el).run P w1 = .ok z w1:=fun w1 => by simp [zeroValue,typeInfo,hi,hz]
 have hs' : ∀ w1 : World,(sizeOf el).run P w1 = .ok sz w1:=fun w1 => by simp [sizeOf,typeInfo,hi,hsz]
 simp only [Instr.makeSlice,Sem.run_bind,run_underlying hu,Result.andThen_ok,asInt,asIntOf,Sem.run_pure,typeInfo,run_program,hi,hw]
 simp only [Bool.or_eq_true,decide_eq_true_eq,Sem.run_ite,Sem.run_bind,run_askRoom,Result.andThen_ok,hs']
 rw [if_neg (by omega)]
 simp only [Sem.run_pure,Result.andThen_ok]
 by_cases hn0 : n.toNat = 0
 ·rw [if_pos (by rw [hn0]; simp)]
  simp [newRow,hn0,show Array.range 0 = #[] from rfl]
 ·have hne : ¬ (n.toNat * sz = 0):=by
   intro h
   rcases Nat.mul_eq_zero.1 h with h | h <;> omega
  rw [if_neg hne]
  simp [newRow,hz',hzs]
end Go.Proofs.YtmeakjgbjldkdaaGreat.Ai
namespace Go.Proofs.YtmeakjgbjldkdaaGreat.Ai
open Go
variable {P : Program} {K : Ghost} {S S' : St} {w : World} {e : Slots} {a : Act} {v : AV}
def Keeps (b0 : Nat) (S S' : St) : Prop:=S.heap.length ≤ S'.heap.length ∧ (∀ k,k ≤ b0 → Inner k S → Inner k S') ∧ (Inner S.heap.length S → Inner S'.heap.length S')
def CallPost (K : Ghost) (S : St) (w : World) (r : Res) (S' : St) (e : Ending) (w' : World) : Prop:=
 ∃ K',Rel K' S' w' ∧ Step K (fun n => n < S.heap.length) w K' w' ∧ Keeps S.heap.length S S' ∧
  match r with
  | .ret v => ∃ u,e = .returned u ∧ Rep K' v u
  | .panic v => ∃ u,e = .panicked [{v:=u,recovered:=false}] ∧ Rep K' v u
def CallSim (P : Program) (cl : CallFn) : Prop:=
 ∀ f vs S r S',cl f vs S = some (r,S') → ∀ K w us,Rel K S w → Inner S.heap.length S → RepT K vs us →
  ((callFunc f us.toArray).run P w = .ok (.enter f us.toArray) w ∧ Calls P f us.toArray w (CallPost K S w r S')) ∨
  ∃ u w',(callFunc f us.toArray).run P w = .ok (.value u) w' ∧ CallPost K S w r S' (.returned u) w'
def appB (P : Program) (t tx : TypeId) (sz by_ : Nat) : Bool:=
 match P.underlying t,P.underlying tx with
 | some (.slice e),some (.slice _) => match P.info? e with
  | some i => i.size == sz && i.bytes == by_ && match i.zero with
   | some z => z.cells.size == sz
   | none => false
  | none => false
 | _,_ => false
def mkSliceB (P : Program) (t : TypeId) (sz by_ : Nat) (zs : List AV) : Bool:=
 match P.underlying t with
 | some (.slice e) => match P.info? e with
  | some i => i.size == sz && i.bytes == by_ && match i.zero with
   | some z => z.cells.size == sz && repBL zs z.cells.toList
   | none => false
  | none => false
 | _ => false
def chkL (P : Program) (op : Op) (l : LOp) : Bool:=
 match op,l with
 | .store T x y,.store k x' y' => (match P.info? T with | some i => i.size == k | none => false) && opdB x' x && opdB y' y
 | .box _ x,.box x' => opdB x' x
 | .makeMap _ none,.mkMap => true
 | .makeSlice T l c,.mkSlice sz by_ zs l' c' => mkSliceB P T sz by_ zs && decide (0 < sz) && opdB l' l && opdB c' c
 | .buildSlice T n ps,.mkArr sz xs => zsliceB P T sz && seqB 0 ps.toList xs && xs.length == n && decide (n * sz ≤ 16777216) && decide (0 < sz) && decide (0 < n)
 | .mapUpdate T m k x,.mapUpd m' k' x' => (mapB P T).isSome && opdB m' m && opdB k' k && opdB x' x
 | .call c,.append sz by_ x' y' => match c.callee with
  | .builtin .append => (match c.args.toList,c.argTypes.toList with
   | [x,y],[t,tx] => appB P t tx sz by_ && opdB x' x && opdB y' y
   | _,_ => false)
  | _ => false
 | .call c,.call f args => match c.callee with
  | .value g => opdB f g && opdsB args c.args.toList
  | _ => false
 | .panic x,.panic x' => opdB x' x
 | _,_ => false
mutual
theorem below_mono {m n : Nat} (h : m ≤ n) : ∀ (a : AV),below m a = true → below n a = true
 | .ptr _ _,hb => by simp only [below,decide_eq_true_eq] at hb ⊢; omega
 | .arr _ _ _ _,hb => by simp only [below,decide_eq_true_eq] at hb ⊢; omega
 | .map _,hb => by simp only [below,decide_eq_true_eq] at hb ⊢; omega
 | .func _ a b,hb => by
  simp only [below,Bool.and_eq_true] at hb ⊢
  exact ⟨belowL_mono h a hb.1,belowL_mono h b hb.2⟩
 | .iface _ v,hb => by simp only [below] at hb ⊢; exact below_mono h v hb
 | .agg cs,hb => by simp only [below] at hb ⊢; exact belowL_mono h cs hb
 | .tup cs,hb => by simp only [below] at hb ⊢; exact belowL_mono h cs hb
 | .bool _,_ => rfl
 | .int _ _,_ => rfl
 | .str _,_ => rfl
 | .nilp,_ => rfl
 | .ref cs,hb => by simp only [below] at hb ⊢; exact belowL_mono h cs hb
 | .list _ _ _,_ => rfl
 | .nilm,_ => rfl
 | .nilf,_ => rfl
 | .nili,_ => rfl
 | .undef,_ => rfl
theorem belowL_mono {m n : Nat} (h : m ≤ n) : ∀ (a : List AV),belowL m a = true → belowL n a = true
 | [],_ => rfl
 | a :: as,hb => by
  simp only [belowL,Bool.and_eq_true] at hb ⊢
  exact ⟨below_mono h a hb.1,belowL_mono h as hb.2⟩
end
theorem belowL_append (n : Nat) : ∀ (a b : List AV),belowL n (a ++ b) = (belowL n a && belowL n b)
 | [],b => by simp [belowL]
 | a :: as,b => by simp only [List.cons_append,belowL,belowL_append n as b,Bool.and_assoc]
theorem belowL_take (n : Nat) : ∀ (k : Nat) (a : List AV),belowL n a = true → belowL n (a.take k) = true
 | 0,_,_ => by simp [belowL]
 | k + 1,[],_ => by simp [belowL]
 | k + 1,a :: as,h => by
  simp only [belowL,Bool.and_eq_true] at h
  simp only [List.take_succ_cons,belowL,Bool.and_eq_true]
  exact ⟨h.1,belowL_take n k as h.2⟩
theorem belowL_drop (n : Nat) : ∀ (k : Nat) (a : List AV),belowL n a = true → belowL n (a.drop k) = true
 | 0,_,h => by simpa using h
 | k + 1,[],_ => by simp [belowL]
 | k + 1,a :: as,h => by
  simp only [belowL,Bool.and_eq_true] at h
  simpa using belowL_drop n k as h.2
theorem below_cells (n : Nat) (a : AV) (h : below n a = true) : belowL n a.cells = true:=by
 cases a <;> simp_all [AV.cells,below,belowL]
mutual
theorem Rep.below (R : Rel K S w) : ∀ (a : AV) (v : Value),Rep K a v → Ai.below S.heap.length a = true
 | .ptr n _,v,r => by
  simp only [Rep] at r
  obtain ⟨B,hm,_⟩:=r
  simp only [Ai.below,decide_eq_true_eq]
  exact R.dom n B hm
 | .arr n _ _ _,v,r => by
  simp only [Rep] at r
  obtain ⟨B,_,hm,_⟩:=r
  simp only [Ai.below,decide_eq_true_eq]
  exact R.dom n B hm
 | .map n,v,r => by
  simp only [Rep] at r
  obtain ⟨B,hm,_⟩:=r
  simp only [Ai.below,decide_eq_true_eq]
  exact R.dom n B hm
 | .func _ a b,v,r => by
  simp only [Rep] at r
  obtain ⟨us,vs,_,h1,h2⟩:=r
  simp only [Ai.below,Bool.and_eq_true]
  exact ⟨RepT.below R a us h1,RepT.below R b vs h2⟩
 | .iface _ x,v,r => by
  simp only [Rep] at r
  obtain ⟨u,_,h⟩:=r
  simp only [Ai.below]
  exact Rep.below R x u h
 | .agg cs,v,r => by
  simp only [Rep] at r
  obtain ⟨vs,_,h⟩:=r
  simp only [Ai.below]
  exact RepL.below R cs vs h
 | .tup cs,v,r => by
  simp only [Rep] at r
  obtain ⟨vs,_,h⟩:=r
  simp only [Ai.below]
  exact RepT.below R cs vs h
 | .bool _,_,_ => rfl
 | .int _ _,_,_ => rfl
 | .str _,_,_ => rfl
 | .nilp,_,_ => rfl
 | .ref cs,v,r => by
  simp only [Rep] at r
  obtain ⟨_,_,vs,_,_,h⟩:=r
  simp only [Ai.below]
  exact RepL.below R cs vs h
 | .list _ _ _,_,_ => rfl
 | .nilm,_,_ => rfl
 | .nilf,_,_ => rfl
 | .nili,_,_ => rfl
 | .undef,_,_ => rfl
theorem RepL.below (R : Rel K S w) : ∀ (a : List AV) (v : List Value),RepL K a v → belowL S.heap.length a = true
 | [],_,_ => rfl
 | a :: as,v,r => by
  simp only [RepL] at r
  obtain ⟨u,us,_,_,h1,h2⟩:=r
  simp only [belowL,Bool.and_eq_true]
  exact ⟨Rep.below R a u h1,RepL.below R as us h2⟩
theorem RepT.below (R : Rel K S w) : ∀ (a : List AV) (v : List Value),RepT K a v → belowL S.heap.length a = true
 | [],_,_ => rfl
 | a :: as,v,r => by
  simp only [RepT] at r
  obtain ⟨u,us,_,h1,h2⟩:=r
  simp only [belowL,Bool.and_eq_true]
  exact ⟨Rep.below R a u h1,RepT.below R as us h2⟩
end
theorem belowB_mono {m n : Nat} (h : m ≤ n) (b : Blk) (hb : belowB m b = true) : belowB n b = true:=by
 cases b with
 | cells cs => exact belowL_mono h cs hb
 | map es =>
  simp only [belowB,List.all_eq_true] at hb ⊢
  exact fun x hx => below_mono h _ (hb x hx)
theorem keeps_refl (b0 : Nat) (S : St) : Keeps b0 S S:=⟨Nat.le_refl _,fun _ _ h => h,fun h => h⟩
theorem keeps_push {b0 : Nat} (h : b0 ≤ S.heap.length) {b : Blk} (hb : belowB (S.heap.length + 1) b = true) : Keeps b0 S {S with heap:=S.heap ++ [b]}:=by
 refine ⟨by simp,fun k hk hI n blk hn hb => hI n blk hn ?_,fun hI n blk hn hbl => ?_⟩
 ·rwa [List.getElem?_append_left (by omega)] at hb
 ·simp only [List.length_append,List.length_cons,List.length_nil,Nat.zero_add] at hn ⊢
  by_cases hnl : n < S.heap.length
  ·simp only at hbl
   rw [List.getElem?_append_left hnl] at hbl
   exact belowB_mono (by omega) _ (hI n blk hnl hbl)
  ·have : n = S.heap.length:=by omega
   subst this
   simp at hbl
   subst hbl
   exact hb
theorem keeps_rows {b0 : Nat} (h : S'.heap = S.heap) : Keeps b0 S S':=
 ⟨by rw [h]; exact Nat.le_refl _,fun k _ hI n b hn hb => hI n b hn (by rwa [h] at hb),fun hI => by
  rw [h]
  exact fun n b hn hb => hI n b hn (by rwa [h] at hb)⟩
theorem Keeps.trans {b0 : Nat} {S1 S2 S3 : St} (h : Keeps b0 S1 S2) (h' : Keeps b0 S2 S3) : Keeps b0 S1 S3:=
 ⟨Nat.le_trans h.1 h'.1,fun k hk hI => h'.2.1 k hk (h.2.1 k hk hI),fun hI => h'.2.2 (h.2.2 hI)⟩
theorem Keeps.mono {b0 b1 : Nat} {S1 S2 : St} (h : Keeps b0 S1 S2) (hb : b1 ≤ b0) : Keeps b1 S1 S2:=⟨h.1,fun k hk => h.2.1 k (by omega),h.2.2⟩
theorem inner_store {n off k : Nat} {cs : List AV} {x : AV} (hb : S.heap[n]? = some (.cells cs)) (hx : n < k → below k x = true) (hI : Inner k S) :
  Inner k {S with heap:=S.heap.set n (.cells (overlay cs off x.cells))}:=by
 intro m blk hm hbm
 have hn:=(List.getElem?_eq_some_iff.1 hb).1
 by_cases hmn : m = n
 ·subst hmn
  simp only [List.getElem?_set_self hn,Option.some.injEq] at hbm
  subst hbm
  have hc:=hI m _ hm hb
  simp only [belowB] at hc ⊢
  unfold overlay
  rw [belowL_append,belowL_append,belowL_take k off cs hc,below_cells k x (hx hm),belowL_drop k _ cs hc]
  rfl
 ·simp only at hbm
  rw [List.getElem?_set_ne (fun h => hmn h.symm)] at hbm
  exact hI m blk hm hbm
theorem keeps_store {b0 n off : Nat} {cs : List AV} {x : AV} (hb : S.heap[n]? = some (.cells cs)) (h : b0 ≤ n ∨ below (n + 1) x = true) (hl : below S.heap.length x = true) :
  Keeps b0 S {S with heap:=S.heap.set n (.cells (overlay cs off x.cells))}:=by
 refine ⟨by simp,fun k hk hI => inner_store hb (fun hnk => ?_) hI,fun hI => ?_⟩
 ·rcases h with h | h
  ·omega
  ·exact below_mono (by omega) x h
 ·have:=inner_store (off:=off) (x:=x) hb (fun _ => hl) hI
  simpa using this
theorem all_mput {p : AV → Bool} {s : Str} {x : AV} (hx : p x = true) : ∀ (es : List (Str × AV)),es.all (fun z => p z.2) = true → (mput es s x).all (fun z => p z.2) = true
 | [],_ => by simp [mput,hx]
 | (k,a) :: es,h => by
  simp only [List.all_cons,Bool.and_eq_true] at h
  simp only [mput]
  split
  ·simp only [List.all_cons,Bool.and_eq_true]
   exact ⟨hx,h.2⟩
  ·simp only [List.all_cons,Bool.and_eq_true]
   exact ⟨h.1,all_mput hx es h.2⟩
theorem inner_map {n k : Nat} {es : List (Str × AV)} {s : Str} {x : AV} (hb : S.heap[n]? = some (.map es)) (hx : n < k → below k x = true) (hI : Inner k S) :
  Inner k {S with heap:=S.heap.set n (.map (mput es s x))}:=by
 intro m blk hm hbm
 have hn:=(List.getElem?_eq_some_iff.1 hb).1
 by_cases hmn : m = n
 ·subst hmn
  simp only [List.getElem?_set_self hn,Option.some.injEq] at hbm
  subst hbm
  have hc:=hI m _ hm hb
  simp only [belowB] at hc ⊢
  exact all_mput (p:=below k) (hx hm) es hc
 ·simp only at hbm
  rw [List.getElem?_set_ne (fun h => hmn h.symm)] at hbm
  exact hI m blk hm hbm
theorem keeps_map {b0 n : Nat} {es : List (Str × AV)} {s : Str} {x : AV} (hb : S.heap[n]? = some (.map es)) (h : b0 ≤ n ∨ below (n + 1) x = true) (hl : below S.heap.length x = true) :
  Keeps b0 S {S with heap:=S.heap.set n (.map (mput es s x))}:=by
 refine ⟨by simp,fun k hk hI => inner_map hb (fun hnk => ?_) hI,fun hI => ?_⟩
 ·rcases h with h | h
  ·omega
  ·exact below_mono (by omega) x h
 ·have:=inner_map (s:=s) (x:=x) hb (fun _ => hl) hI
  simpa using this
theorem vals_length : ∀ {xs : List Opd} {vs : List AV},vals xs e = some vs → vs.length = xs.length
 | [],vs,h => by simp only [vals,Option.some.injEq] at h; subst h; rfl
 | x :: xs,vs,h => by
  simp only [vals] at h
  cases hx : x.val e with
  | none => simp [hx] at h
  | some u =>
   cases hxs : vals xs e with
   | none => simp [hx,hxs] at h
   | some us =>
    simp only [hx,hxs,Option.some.injEq] at h
    subst h
    simp [vals_length hxs]
theorem lwp {b0 : Nat} {cl : CallFn} {o : Oper} {l : LOp} {r : Res} {next : Act → World → Prop} {Q : Exit → Act → World → Prop} (hc : chkL P o.op l = true) (hcl : CallSim P cl) (R : Rel K S w) (hsc : Inner S.heap.length S) (E : EnvRep K e a.tmps) (hb0 : b0 ≤ S.heap.length)
  (hv : lval b0 cl l e S = some (r,S'))
  (hnext : ∀ v v' K' w',r = .ret v → Rep K' v v' → Rel K' S' w' → Step K (fun n => n < S.heap.length) w K' w' → Keeps b0 S S' → next (a.put o.dst v') w')
  (hpanic : ∀ v v' K' w',r = .panic v → Rep K' v v' → Rel K' S' w' → Step K (fun n => n < S.heap.length) w K' w' → Keeps b0 S S' → Q (.panic [{v:=v',recovered:=false}]) a w') :
  o.wp P a w next Q:=by
 obtain ⟨dst,op,type,pos,after,guard⟩:=o
 simp only at hc hnext
 unfold Oper.wp
 unfold chkL at hc
 split at hc
 ·
  rename_i T x y k x' y'
  simp only [Bool.and_eq_true] at hc
  obtain ⟨⟨h1,h2⟩,h3⟩:=hc
  split at h1
  ·rename_i i hi
   simp only [beq_iff_eq] at h1
   simp only [lval] at hv
   split at hv
   ·rename_i n off u hx hy
    split at hv
    ·rename_i cs hb
     split at hv
     ·rename_i hcond
      obtain ⟨g1,g2,g3,g4⟩:=hcond
      simp only [Option.some.injEq,Prod.mk.injEq] at hv
      obtain ⟨rfl,rfl⟩:=hv
      obtain ⟨w',hrun,R',hst⟩:=l_store (P:=P) R hi h1 (opd_spec E h2 hx) (opd_spec E h3 hy) hb g1 g2 g3 (fun n => n < S.heap.length)
      have hrun' : (execOp a.eval {dst:=dst,op:=.store T x y,type:=type,pos:=pos,after:=after,guard:=guard}).run P w = .ok .skip w':=by
       simp [execOp,hrun]
      rw [hrun']
      exact hnext .undef Go.undef K w' rfl (by simp [Rep,Go.undef]) R' hst (keeps_store hb g4 (Rep.below R _ _ (opd_spec E h3 hy)))
     ·simp at hv
    ·simp at hv
   ·simp at hv
  ·simp at h1
 ·
  rename_i T x x'
  simp only [lval] at hv
  split at hv
  ·rename_i u hx
   split at hv
   ·rename_i hok
    simp only [Option.some.injEq,Prod.mk.injEq] at hv
    obtain ⟨rfl,rfl⟩:=hv
    obtain ⟨K',hm,R',hst⟩:=new_block (t:=T) R ((opd_spec E hc hx).cells hok)
    have hrun' : (execOp a.eval {dst:=dst,op:=.box T x,type:=type,pos:=pos,after:=after,guard:=guard}).run P w = .ok (.value (.pointer (some ⟨w.heap.size,0,none⟩))) {w with heap:=w.heap.push (.cells (a.eval x).cells T)}:=by
     simp [execOp,Instr.box,newVar,newRow]
    rw [hrun']
    exact hnext _ _ K' _ rfl (by simp only [Rep]; exact ⟨_,hm,rfl⟩) R' hst (keeps_push hb0 (belowL_mono (Nat.le_succ _) _ (RepL.below R _ _ ((opd_spec E hc hx).cells hok))))
   ·simp at hv
  ·simp at hv
 ·
  rename_i T
  simp only [lval,Option.some.injEq,Prod.mk.injEq] at hv
  obtain ⟨rfl,rfl⟩:=hv
  obtain ⟨K',hm,R',hst⟩:=new_map R
  have hrun' : (execOp a.eval {dst:=dst,op:=.makeMap T none,type:=type,pos:=pos,after:=after,guard:=guard}).run P w = .ok (.value (.map (some w.heap.size))) {w with heap:=w.heap.push (.map #[] 0)}:=by
   simp [execOp,Instr.makeMap]
  rw [hrun']
  exact hnext _ _ K' _ rfl (by simp only [Rep]; exact ⟨_,hm,rfl⟩) R' hst (keeps_push hb0 rfl)
 ·
  rename_i T lo co sz by_ zs l' c'
  simp only [Bool.and_eq_true,decide_eq_true_eq] at hc
  obtain ⟨⟨⟨h1,h2⟩,h3⟩,h4⟩:=hc
  unfold mkSliceB at h1
  split at h1
  ·rename_i el hu
   split at h1
   ·rename_i i hi
    simp only [Bool.and_eq_true,beq_iff_eq] at h1
    obtain ⟨⟨hsz,hby⟩,h1⟩:=h1
    split at h1
    ·rename_i z hz
     simp only [Bool.and_eq_true,beq_iff_eq] at h1
     simp only [lval] at hv
     split at hv
     ·rename_i n m hl hm
      split at hv
      ·rename_i hcond
       obtain ⟨rfl,g1,g2,g3,g4⟩:=hcond
       simp only [Option.some.injEq,Prod.mk.injEq] at hv
       obtain ⟨rfl,rfl⟩:=hv
       have r1:=opd_spec E h3 hl
       have r2:=opd_spec E h4 hm
       simp only [Rep] at r1 r2
       obtain ⟨v',K',w',hrun,hr,R',hst⟩:=l_mkSlice (P:=P) R hu hi hz hsz hby h1.1 (repBL_spec K _ _ h1.2) h2 g1 g2 g3
       have hrun' : (execOp a.eval {dst:=dst,op:=.makeSlice T lo co,type:=type,pos:=pos,after:=after,guard:=guard}).run P w = .ok (.value v') w':=by
        simp [execOp,r1,r2,hrun]
       rw [hrun']
       exact hnext _ _ K' w' rfl hr R' hst (keeps_push hb0 (belowL_mono (Nat.le_succ _) _ (RepL.below R _ _ (replicate_flatten_rep (repBL_spec K _ _ h1.2) _))))
      ·simp at hv
     ·simp at hv
    ·simp at h1
   ·simp at h1
  ·simp at h1
 ·
  rename_i T n ps sz xs
  simp only [Bool.and_eq_true,beq_iff_eq,decide_eq_true_eq] at hc
  obtain ⟨⟨⟨⟨⟨h1,h2⟩,h3⟩,h4⟩,h5⟩,h6⟩:=hc
  obtain ⟨el,ti,z,hu,hi,hsz,hz,hzs⟩:=zsliceB_spec h1
  simp only [lval] at hv
  split at hv
  ·rename_i vs hvs
   split at hv
   ·rename_i cs hcs
    simp only [Option.some.injEq,Prod.mk.injEq] at hv
    obtain ⟨rfl,rfl⟩:=hv
    have hvl : vs.length = n:=by rw [← h3]; exact vals_length hvs
    have hmul : n * sz ≠ 0:=by
     intro h
     rcases Nat.mul_eq_zero.1 h with h | h <;> omega
    obtain ⟨cells,hf,new,hnew,hrep⟩:=seq_fill E (sz:=sz) 0 ((Array.range (n * sz)).map (z.cells[· % z.cells.size]!)) [] h2 hvs hcs (by simp) (by simp) (by simp [hvl])
    have hnew' : cells.toList = new:=by simpa using hnew
    obtain ⟨K',hm,R',hst⟩:=new_block (t:=el) R (vs:=cells) (by rw [hnew']; exact hrep)
    have hrun' : (execOp a.eval {dst:=dst,op:=.buildSlice T n ps,type:=type,pos:=pos,after:=after,guard:=guard}).run P w = .ok (.value (.slice (some ⟨w.heap.size,0,none⟩) n n)) {w with heap:=w.heap.push (.cells cells el)}:=by
     have hf' : Instr.fill (fun i => some (i * ti.size,ti.size)) ((Array.range (n * ti.size)).map (z.cells[· % z.cells.size]!)) (ps.map fun (i,x) => (i,a.eval x)).toList = some cells:=by
      rw [hsz]; simpa using hf
     have hb' : ¬ (16777216 < n * ti.size):=by rw [hsz]; omega
     have hm' : ¬ (n * ti.size = 0):=by rw [hsz]; exact hmul
     have : (Instr.buildSlice T n (ps.map fun (i,x) => (i,a.eval x))).run P w = .ok (.slice (some ⟨w.heap.size,0,none⟩) n n) {w with heap:=w.heap.push (.cells cells el)}:=by
      simp only [Instr.buildSlice,Sem.run_bind,run_underlying hu,Result.andThen_ok,run_sizeOf hi,gt_iff_lt,Sem.run_ite]
      rw [if_neg (by simpa using hb')]
      simp only [Sem.run_pure,Result.andThen_ok]
      rw [if_neg hm']
      simp only [run_zeroValue hi hz,Result.andThen_ok]
      rw [hf']
      simp [newRow]
     simp [execOp,this]
    rw [hrun']
    refine hnext _ _ K' _ rfl ?_ R' hst (keeps_push hb0 (belowL_mono (Nat.le_succ _) _ (RepL.below R _ _ hrep)))
    simp only [Rep]
    exact ⟨_,_,hm,Nat.le_refl _,by rw [hvl]⟩
   ·simp at hv
  ·simp at hv
 ·
  rename_i T m k x m' k' x'
  simp only [Bool.and_eq_true] at hc
  obtain ⟨⟨⟨h1,h2⟩,h3⟩,h4⟩:=hc
  obtain ⟨et,hT⟩:=Option.isSome_iff_exists.1 h1
  simp only [lval] at hv
  split at hv
  ·rename_i n s u hm hk hx
   split at hv
   ·rename_i es hb
    split at hv
    ·rename_i hcond
     simp only [Option.some.injEq,Prod.mk.injEq] at hv
     obtain ⟨rfl,rfl⟩:=hv
     have hks:=opd_spec E h3 hk
     simp only [Rep] at hks
     obtain ⟨w',hrun,R',hst⟩:=l_mapUpd (P:=P) (s:=s) R hT (opd_spec E h2 hm) (opd_spec E h4 hx) hb
     have hrun' : (execOp a.eval {dst:=dst,op:=.mapUpdate T m k x,type:=type,pos:=pos,after:=after,guard:=guard}).run P w = .ok .skip w':=by
      simp [execOp,hks,hrun]
     rw [hrun']
     exact hnext .undef Go.undef K w' rfl (by simp [Rep,Go.undef]) R' (hst _) (keeps_map hb hcond (Rep.below R _ _ (opd_spec E h4 hx)))
    ·simp at hv
   ·simp at hv
  ·simp at hv
 ·
  rename_i c sz by_ x' y'
  split at hc
  ·rename_i hcal
   split at hc
   ·rename_i x y t tx hargs hts
    simp only [Bool.and_eq_true] at hc
    obtain ⟨⟨h1,h2⟩,h3⟩:=hc
    unfold appB at h1
    split at h1
    ·rename_i el e' hu hux
     split at h1
     ·rename_i i hi
      simp only [Bool.and_eq_true,beq_iff_eq] at h1
      obtain ⟨⟨hsz,hby⟩,h1⟩:=h1
      split at h1
      ·rename_i z hz
       simp only [beq_iff_eq] at h1
       simp only [lval] at hv
       split at hv
       ·rename_i u1 u2 hx hy
        split at hv
        ·rename_i v1 S1 happ
         simp only [Option.some.injEq,Prod.mk.injEq] at hv
         obtain ⟨rfl,rfl⟩:=hv
         obtain ⟨v',K',w',hrun,hr,R',hh,hst⟩:=l_append (P:=P) (ty:=type) R hu hi hz hsz h1 hby hux (opd_spec E h2 hx) (opd_spec E h3 hy) happ
         have hargs' : c.args = #[x,y]:=by apply Array.ext'; simpa using hargs
         have hts' : c.argTypes = #[t,tx]:=by apply Array.ext'; simpa using hts
         have hrun' : (execOp a.eval {dst:=dst,op:=.call c,type:=type,pos:=pos,after:=after,guard:=guard}).run P w = .ok (.value v') w':=by
          simp [execOp,resolve,hcal,hargs',hts',invoke,builtin,hrun]
         rw [hrun']
         exact hnext _ _ K' w' rfl hr R' (hst _) (keeps_rows hh)
        ·simp at hv
       ·simp at hv
      ·simp at h1
     ·simp at h1
    ·simp at h1
   ·simp at hc
  ·simp at hc
 ·
  rename_i c f args
  split at hc
  ·rename_i g hcal
   simp only [Bool.and_eq_true] at hc
   obtain ⟨h1,h2⟩:=hc
   simp only [lval] at hv
   split at hv
   ·rename_i fn first cap vs hf hvs
    have hrf:=opd_spec E h1 hf
    simp only [Rep] at hrf
    obtain ⟨us1,us2,hfv,hr1,hr2⟩:=hrf
    have hra:=opds_spec E h2 hvs
    have hargs : (us1.toArray ++ (c.args.map a.eval) ++ us2.toArray) = (us1 ++ c.args.toList.map a.eval ++ us2).toArray:=by
     apply Array.ext'; simp
    have hT : RepT K (first ++ vs ++ cap) (us1 ++ c.args.toList.map a.eval ++ us2):=(hr1.append hra).append hr2
    have hexec : (execOp a.eval {dst:=dst,op:=.call c,type:=type,pos:=pos,after:=after,guard:=guard}).run P w = (callFunc fn (us1 ++ c.args.toList.map a.eval ++ us2).toArray).run P w:=by
     rw [← hargs]
     simp [execOp,resolve,hcal,Deferred.ofValue,hfv,invoke]
    rw [hexec]
    rcases hcl fn _ S r S' hv K w _ R hsc hT with ⟨hrun,hcalls⟩ | ⟨u,w',hrun,K',R',hst,hk,hpost⟩
    ·rw [hrun]
     refine Calls.mono hcalls fun en w' hp => ?_
     obtain ⟨K',R',hst,hk,hpost⟩:=hp
     have hk' : Keeps b0 S S':=hk.mono hb0
     cases r with
     | ret v =>
      obtain ⟨u,rfl,hr⟩:=hpost
      exact hnext v u K' w' rfl hr R' hst hk'
     | panic v =>
      obtain ⟨u,rfl,hr⟩:=hpost
      exact hpanic v u K' w' rfl hr R' hst hk'
    ·rw [hrun]
     have hk' : Keeps b0 S S':=hk.mono hb0
     cases r with
     | ret v =>
      obtain ⟨u',hu,hr⟩:=hpost
      cases hu
      exact hnext v u K' w' rfl hr R' hst hk'
     | panic v =>
      obtain ⟨u',hu,hr⟩:=hpost
      cases hu
   ·simp at hv
  ·simp at hc
 ·
  rename_i x x'
  simp only [lval] at hv
  split at hv
  ·rename_i t u hx
   simp only [Option.some.injEq,Prod.mk.injEq] at hv
   obtain ⟨rfl,rfl⟩:=hv
   have hr:=opd_spec E hc hx
   have hr':=hr
   simp only [Rep] at hr'
   obtain ⟨u',hu,_⟩:=hr'
   have hrun' : (execOp a.eval {dst:=dst,op:=.panic x,type:=type,pos:=pos,after:=after,guard:=guard}).run P w = .halt (.panic (a.eval x)) w:=by
    simp [execOp,hu,Instr.panic]
   rw [hrun']
   exact hpanic _ _ K w rfl hr R (Step.refl _ _ _) (keeps_refl _ _)
  ·simp at hv
 ·simp at hc
end Go.Proofs.YtmeakjgbjldkdaaGreat.Ai
namespace Go.Proofs.YtmeakjgbjldkdaaGreat.Ai
open Go
variable {P : Program} {K : Ghost} {S S' : St} {w : World} {a : Act} {v : AV}
def guardB (ops : Array Oper) : Option (Nat × Bool) → Option (Nat × Bool) → Bool
 | none,none => true
 | some (j,b),some (s,b') => (ops[j]?).bind (·.dst) == some s && b == b'
 | _,_ => false
def chkItem (P : Program) (ops : Array Oper) (nt : Nat) (it : Item) : Bool:=
 match ops[it.ix]? with
 | some o => o.dst == it.dst && (match it.dst with | some d => decide (d < nt) | none => true) && guardB ops o.guard it.guard &&
  match it.op with
  | .q q => chkQ P o.op q
  | .l l _ => chkL P o.op l
 | none => false
def Item.makes (base : Nat) (it : Item) (n : Nat) : Prop:=
 match it.op with
 | .q q => q.makes base n
 | .l _ _ => False
theorem wanted_sim {ops : Array Oper} {o : Oper} {g : Option (Nat × Bool)} {ρ : Slots} {b : Bool} (hg : guardB ops o.guard g = true) (E : EnvRep K ρ a.tmps) (hw : wanted g ρ = some b) :
  Region.wanted o (yielded ops a.tmps) = b:=by
 unfold guardB at hg
 unfold Region.wanted
 split at hg
 ·rename_i h1
  rw [h1]
  simpa [wanted] using hw
 ·rename_i j want s want' h1
  simp only [Bool.and_eq_true,beq_iff_eq] at hg
  obtain ⟨h2,rfl⟩:=hg
  rw [h1]
  simp only [wanted] at hw
  have key : ∀ (u : AV),ρ s = some u → a.tmps[s]? = some (a.tmps.getD s Go.undef) ∧ Rep K u (a.tmps.getD s Go.undef):=by
   intro u hu
   have:=E s u hu
   refine ⟨?_,this.2⟩
   rw [Array.getD_eq_getD_getElem?,Array.getElem?_eq_getElem this.1]
   simp
  split at hw
  ·rename_i b' hs
   obtain ⟨k1,k2⟩:=key _ hs
   simp only [Rep] at k2
   simp only [Option.some.injEq] at hw
   subst hw
   simp only [yielded,h2,Option.bind_some,k1,k2]
   cases b' <;> cases want <;> rfl
  ·rename_i hs
   obtain ⟨k1,k2⟩:=key _ hs
   simp only [Rep] at k2
   simp only [Option.some.injEq] at hw
   subst hw
   simp only [yielded,h2,Option.bind_some,k1,k2]
   cases want <;> rfl
  ·simp at hw
 ·simp at hg
theorem istep {b0 base nt : Nat} {cl : CallFn} {ops : Array Oper} {it : Item} {e e' : Env} {r : Option AV} {Kont : Act → World → Prop} {Q : Exit → Act → World → Prop} (hc : chkItem P ops nt it = true) (hcl : CallSim P cl)
  (R : Rel K S w) (hsc : Inner S.heap.length S) (E : EnvRep K (eget e) a.tmps) (hnt : nt ≤ a.tmps.size) (hb0 : b0 ≤ S.heap.length) (hal : ∀ n,it.makes base n → K.m n = none) (hs : step b0 cl base it e S = some (r,e',S'))
  (hk : ∀ a' w' K',r = none → Rel K' S' w' → EnvRep K' (eget e') a'.tmps → a'.tmps.size = a.tmps.size → a'.defers = a.defers → Step K (fun n => n < S.heap.length ∧ ¬ it.makes base n) w K' w' → Keeps b0 S S' → Kont a' w')
  (hp : ∀ v u w' K',r = some v → Rep K' v u → Rel K' S' w' → Step K (fun n => n < S.heap.length ∧ ¬ it.makes base n) w K' w' → Keeps b0 S S' → Q (.panic [{v:=u,recovered:=false}]) a w') :
  wpOp P ops Q it.ix Kont a w:=by
 unfold chkItem at hc
 split at hc
 ·rename_i o ho
  simp only [Bool.and_eq_true,beq_iff_eq] at hc
  obtain ⟨⟨⟨h1,h2⟩,h3⟩,h4⟩:=hc
  have hd : ∀ t,it.dst = some t → t < a.tmps.size:=fun t ht => by
   rw [ht] at h2
   simp only [decide_eq_true_eq] at h2
   omega
  have hsz : ∀ u,(a.put it.dst u).tmps.size = a.tmps.size:=fun u => by cases it.dst <;> simp [Act.put]
  have hdf : ∀ u,(a.put it.dst u).defers = a.defers:=fun u => by cases it.dst <;> simp [Act.put]
  unfold wpOp
  simp only [ho]
  unfold step at hs
  split at hs
  ·simp at hs
  ·
   rename_i hw
   simp only [Option.some.injEq,Prod.mk.injEq] at hs
   obtain ⟨rfl,rfl,rfl⟩:=hs
   rw [wanted_sim h3 E hw]
   simp only [Bool.false_eq_true,if_false]
   rw [h1]
   exact hk _ w K rfl R (E.put (by simp [Rep,Go.undef]) it.dst hd) (hsz _) (hdf _) (Step.refl _ _ _) (keeps_refl _ _)
  ·rename_i hw
   rw [wanted_sim h3 E hw]
   simp only [if_true]
   left
   split at hs
   ·rename_i q hq
    rw [hq] at h4
    split at hs
    ·rename_i v hv
     simp only [Option.some.injEq,Prod.mk.injEq] at hs
     obtain ⟨rfl,rfl,rfl⟩:=hs
     obtain ⟨v',K',w',hrun,hr,R',hst⟩:=qsim h4 R E hv (fun n hn => hal n (by unfold Item.makes; rw [hq]; exact hn))
     unfold Oper.wp
     rw [hrun]
     show Kont (a.put o.dst v') w'
     rw [h1]
     refine hk _ w' K' rfl R' ((E.ext hst.ext).put hr it.dst hd) (hsz _) (hdf _) (hst.mono ?_) (keeps_refl _ _)
     rintro n ⟨_,hn⟩ hm
     exact hn (by unfold Item.makes; rw [hq]; exact hm)
    ·simp at hs
   ·rename_i l re hl
    rw [hl] at h4
    split at hs
    ·rename_i v S1 hv
     simp only [Option.some.injEq,Prod.mk.injEq] at hs
     obtain ⟨rfl,rfl,rfl⟩:=hs
     refine lwp h4 hcl R hsc E hb0 hv ?_ ?_
     ·intro v1 v' K' w' hr hrep R' hst hkp
      cases hr
      rw [h1]
      exact hk _ w' K' rfl R' ((E.ext hst.ext).put hrep it.dst hd) (hsz _) (hdf _) (hst.mono (fun n hn => hn.1)) hkp
     ·intro v1 v' K' w' hr
      cases hr
    ·rename_i v S1 hv
     simp only [Option.some.injEq,Prod.mk.injEq] at hs
     obtain ⟨rfl,rfl,rfl⟩:=hs
     refine lwp h4 hcl R hsc E hb0 hv ?_ ?_
     ·intro v1 v' K' w' hr
      cases hr
     ·intro v1 v' K' w' hr hrep R' hst hkp
      cases hr
      exact hp _ v' w' K' rfl hrep R' (hst.mono (fun n hn => hn.1)) hkp
    ·simp at hs
 ·simp at hc
def Item.alloc? (it : Item) : Option Nat:=
 match it.op with
 | .q (.alloc j _) => some j
 | _ => none
theorem makes_iff {it : Item} {base n : Nat} : it.makes base n ↔ ∃ j,it.alloc? = some j ∧ n = base + j:=by
 unfold Item.makes Item.alloc?
 split
 ·rename_i q hq
  rw [hq]
  cases q <;> simp [QOp.makes]
 ·rename_i l re hl
  rw [hl]
  simp
def nodupB : List Nat → Bool
 | [] => true
 | x :: xs => !xs.contains x && nodupB xs
theorem nodupB_spec : ∀ {l : List Nat},nodupB l = true → l.Nodup
 | [],_ => List.nodup_nil
 | x :: xs,h => by
  simp only [nodupB,Bool.and_eq_true,Bool.not_eq_true',List.contains_eq_mem] at h
  exact List.nodup_cons.2 ⟨by simpa using h.1,nodupB_spec h.2⟩
structure Pend (K : Ghost) (base : Nat) (S : St) (items : List Item) : Prop where
 none : ∀ it ∈ items,∀ n,it.makes base n → K.m n = none
 lt : ∀ it ∈ items,∀ n,it.makes base n → n < S.heap.length
 nodup : (items.filterMap Item.alloc?).Nodup
theorem Pend.next {K' : Ghost} {base : Nat} {it : Item} {rest : List Item} (h : Pend K base S (it :: rest)) {w' : World} (hst : Step K (fun n => n < S.heap.length ∧ ¬ it.makes base n) w K' w') (hl : S.heap.length ≤ S'.heap.length) : Pend K' base S' rest:=by
 refine ⟨fun it' hi n hn => ?_,fun it' hi n hn => Nat.lt_of_lt_of_le (h.lt it' (List.mem_cons_of_mem _ hi) n hn) hl,?_⟩
 ·refine hst.back n ⟨h.lt it' (List.mem_cons_of_mem _ hi) n hn,fun hm => ?_⟩ (h.none it' (List.mem_cons_of_mem _ hi) n hn)
  obtain ⟨j,hj,rfl⟩:=makes_iff.1 hm
  obtain ⟨j',hj',heq⟩:=makes_iff.1 hn
  have : j = j':=by omega
  subst this
  have hnd:=h.nodup
  rw [List.filterMap_cons,hj] at hnd
  exact (List.nodup_cons.1 hnd).1 (List.mem_filterMap.2 ⟨it',hi,hj'⟩)
 ·have hnd:=h.nodup
  rw [List.filterMap_cons] at hnd
  split at hnd
  ·exact hnd
  ·exact (List.nodup_cons.1 hnd).2
theorem run_plain {b0 base nt : Nat} {cl : CallFn} {ops : Array Oper} {Q : Exit → Act → World → Prop} {N : Nat} (hcl : CallSim P cl) : ∀ (items prev : List Item) (K : Ghost) (S : St) (w : World) (a : Act) (e e' : Env) (r : Option AV) (S' : St),
  (∀ it ∈ items,chkItem P ops nt it = true) → Rel K S w → Inner S.heap.length S → EnvRep K (eget e) a.tmps → nt ≤ a.tmps.size → b0 ≤ S.heap.length → N ≤ S.heap.length → Pend K base S items → N ≤ base →
  run b0 cl base prev items e S = some (r,e',S') →
  (∀ a' w' K',r = none → Rel K' S' w' → EnvRep K' (eget e') a'.tmps → a'.tmps.size = a.tmps.size → a'.defers = a.defers → Step K (fun n => n < N) w K' w' → Keeps b0 S S' → Q .normal a' w') →
  (∀ v u a' w' K',r = some v → Rep K' v u → Rel K' S' w' → a'.defers = a.defers → Step K (fun n => n < N) w K' w' → Keeps b0 S S' → Q (.panic [{v:=u,recovered:=false}]) a' w') →
  wpOps P ops Q (items.map (·.ix)) a w
 | [],prev,K,S,w,a,e,e',r,S',_,R,_,E,_,_,_,_,_,hrun,hk,_ => by
  simp only [run,Option.some.injEq,Prod.mk.injEq] at hrun
  obtain ⟨rfl,rfl,rfl⟩:=hrun
  exact hk a w K rfl R E rfl rfl (Step.refl _ _ _) (keeps_refl _ _)
 | it :: rest,prev,K,S,w,a,e,e',r,S',hc,R,hsc,E,hnt,hb0,hN,hpd,hNb,hrun,hk,hp => by
  rw [List.map_cons,wpOps_cons]
  simp only [run] at hrun
  have hmk : ∀ n,n < N → n < S.heap.length ∧ ¬ it.makes base n:=fun n hn => ⟨by omega,fun hm => by
   obtain ⟨j,_,rfl⟩:=makes_iff.1 hm
   omega⟩
  split at hrun
  ·simp at hrun
  ·rename_i v e1 S1 hs
   simp only [Option.some.injEq,Prod.mk.injEq] at hrun
   obtain ⟨rfl,rfl,rfl⟩:=hrun
   refine istep (hc it (by simp)) hcl R hsc E hnt hb0 (hpd.none it (by simp)) hs ?_ ?_
   ·intro a' w' K' h
    cases h
   ·intro v' u w' K' hv hr R' hst hkp
    exact hp v' u a w' K' hv hr R' rfl (hst.mono hmk) hkp
  ·rename_i e1 S1 hs
   split at hrun
   ·refine istep (hc it (by simp)) hcl R hsc E hnt hb0 (hpd.none it (by simp)) hs ?_ ?_
    ·intro a1 w1 K1 _ R1 E1 hsz hdf hst hkp
     have hkl:=hkp.1
     refine run_plain hcl rest (it :: prev) K1 S1 w1 a1 e1 e' r S' (fun i hi => hc i (List.mem_cons_of_mem _ hi)) R1 (hkp.2.2 hsc) E1 (by omega) (by omega) (by omega) (hpd.next hst hkl) hNb hrun ?_ ?_
     ·intro a' w' K' hr R' E' hsz' hdf' hst' hkp'
      exact hk a' w' K' hr R' E' (by omega) (hdf'.trans hdf) ((hst.mono hmk).trans hst' (fun _ h => h)) (hkp.trans hkp')
     ·intro v u a' w' K' hr hrep R' hdf' hst' hkp'
      exact hp v u a' w' K' hr hrep R' (hdf'.trans hdf) ((hst.mono hmk).trans hst' (fun _ h => h)) (hkp.trans hkp')
    ·intro v u w' K' h
     cases h
   ·simp at hrun
end Go.Proofs.YtmeakjgbjldkdaaGreat.Ai
namespace Go.Proofs.YtmeakjgbjldkdaaGreat.Ai
open Go
def Opd.reads : Opd → List Nat
 | .tmp t => [t]
 | .const _ => []
def optReads : Option Opd → List Nat
 | some x => x.reads
 | none => []
def partReads : List (Nat × Nat × Opd) → List Nat
 | [] => []
 | (_,_,x) :: ps => x.reads ++ partReads ps
def listReads : List Opd → List Nat
 | [] => []
 | x :: xs => x.reads ++ listReads xs
def QOp.reads : QOp → List Nat
 | .mov x | .load _ x | .nilCheck x | .unot x | .uneg x | .conv _ x | .convS x | .mkIface _ x | .fieldAddr _ x | .field _ _ x | .tassert _ _ x | .extract x _ | .len x | .lenS x => x.reads
 | .pick c a b => c.reads ++ (a.reads ++ b.reads)
 | .alloc _ _ => []
 | .build _ ps => partReads ps
 | .mkList _ xs => listReads xs
 | .bin _ _ x y | .min2 x y | .indexAddr _ x y | .index x y | .lookup _ _ x y => x.reads ++ y.reads
 | .mkFunc _ a b => listReads a ++ listReads b
 | .slice _ x l h | .sliceS x l h => x.reads ++ (optReads l ++ optReads h)
def LOp.reads : LOp → List Nat
 | .store _ x y | .mkSlice _ _ _ x y | .append _ _ x y => x.reads ++ y.reads
 | .box x | .panic x => x.reads
 | .append1 _ _ x y z u d _ _ => x.reads ++ (y.reads ++ (z.reads ++ (u.reads ++ [d])))
 | .mkMap => []
 | .mkArr _ xs => listReads xs
 | .mapUpd x y z => x.reads ++ (y.reads ++ z.reads)
 | .call f xs => f.reads ++ listReads xs
def IOp.reads : IOp → List Nat
 | .q o => o.reads
 | .l o _ => o.reads
def guardReads : Option (Nat × Bool) → List Nat
 | none => []
 | some (s,_) => [s]
def Item.reads (it : Item) : List Nat:=guardReads it.guard ++ it.op.reads
def QOp.free : QOp → Bool
 | .alloc _ _ | .load _ _ | .lookup _ _ _ _ => false
 | _ => true
section congr
variable {ρ ρ' : Slots}
theorem val_congr {x : Opd} (h : ∀ t ∈ x.reads,ρ t = ρ' t) : x.val ρ = x.val ρ':=by
 cases x with
 | tmp t => exact h t (by simp [Opd.reads])
 | const v => rfl
theorem optIx_congr {x : Option Opd} (h : ∀ t ∈ optReads x,ρ t = ρ' t) : optIx x ρ = optIx x ρ':=by
 cases x with
 | none => rfl
 | some x => simp only [optIx]; rw [val_congr (x:=x) h]
theorem vals_congr : ∀ {xs : List Opd},(∀ t ∈ listReads xs,ρ t = ρ' t) → vals xs ρ = vals xs ρ'
 | [],_ => rfl
 | x :: xs,h => by
  simp only [vals]
  rw [val_congr (x:=x) (fun t ht => h t (by simp [listReads,ht])),vals_congr (xs:=xs) (fun t ht => h t (by simp [listReads,ht]))]
theorem fillIn_congr : ∀ {ps : List (Nat × Nat × Opd)} {cs : List AV},(∀ t ∈ partReads ps,ρ t = ρ' t) → fillIn ρ ps cs = fillIn ρ' ps cs
 | [],_,_ => rfl
 | (off,sz,x) :: ps,cs,h => by
  simp only [fillIn]
  rw [val_congr (x:=x) (fun t ht => h t (by simp [partReads,ht]))]
  split
  ·split
   ·exact fillIn_congr (fun t ht => h t (by simp [partReads,ht]))
   ·rfl
  ·rfl
theorem qval_congr {q : QOp} {H : List Blk} {base : Nat} (h : ∀ t ∈ q.reads,ρ t = ρ' t) : qval q ρ H base = qval q ρ' H base:=by
 cases q <;> simp only [QOp.reads,List.mem_append] at h <;> simp only [qval]
 case pick c x y => rw [val_congr (x:=c) (fun t ht => h t (.inl ht)),val_congr (x:=x) (fun t ht => h t (.inr (.inl ht))),val_congr (x:=y) (fun t ht => h t (.inr (.inr ht)))]
 case build zs ps => rw [fillIn_congr h]
 case mkList sz xs => rw [vals_congr h]
 case mkFunc f x y => rw [vals_congr (xs:=x) (fun t ht => h t (.inl ht)),vals_congr (xs:=y) (fun t ht => h t (.inr ht))]
 case slice sz x l hh => rw [val_congr (x:=x) (fun t ht => h t (.inl ht)),optIx_congr (x:=l) (fun t ht => h t (.inr (.inl ht))),optIx_congr (x:=hh) (fun t ht => h t (.inr (.inr ht)))]
 case sliceS x l hh => rw [val_congr (x:=x) (fun t ht => h t (.inl ht)),optIx_congr (x:=l) (fun t ht => h t (.inr (.inl ht))),optIx_congr (x:=hh) (fun t ht => h t (.inr (.inr ht)))]
 case bin tk op x y => rw [val_congr (x:=x) (fun t ht => h t (.inl ht)),val_congr (x:=y) (fun t ht => h t (.inr ht))]
 case min2 x y => rw [val_congr (x:=x) (fun t ht => h t (.inl ht)),val_congr (x:=y) (fun t ht => h t (.inr ht))]
 case indexAddr sz x y => rw [val_congr (x:=x) (fun t ht => h t (.inl ht)),val_congr (x:=y) (fun t ht => h t (.inr ht))]
 case index x y => rw [val_congr (x:=x) (fun t ht => h t (.inl ht)),val_congr (x:=y) (fun t ht => h t (.inr ht))]
 case lookup zero ok x y => rw [val_congr (x:=x) (fun t ht => h t (.inl ht)),val_congr (x:=y) (fun t ht => h t (.inr ht))]
 all_goals rw [val_congr h]
theorem qval_free {q : QOp} {H H' : List Blk} {base : Nat} (h : q.free = true) : qval q ρ H base = qval q ρ H' base:=by
 cases q <;> simp [QOp.free] at h <;> rfl
theorem lval_congr {l : LOp} {b0 : Nat} {cl : CallFn} {S : St} (h : ∀ t ∈ l.reads,ρ t = ρ' t) : lval b0 cl l ρ S = lval b0 cl l ρ' S:=by
 cases l <;> simp only [LOp.reads,List.mem_append] at h <;> simp only [lval]
 case store k x y => rw [val_congr (x:=x) (fun t ht => h t (.inl ht)),val_congr (x:=y) (fun t ht => h t (.inr ht))]
 case mkSlice sz by_ zs x y => rw [val_congr (x:=x) (fun t ht => h t (.inl ht)),val_congr (x:=y) (fun t ht => h t (.inr ht))]
 case append sz by_ x y => rw [val_congr (x:=x) (fun t ht => h t (.inl ht)),val_congr (x:=y) (fun t ht => h t (.inr ht))]
 case append1 sz by_ x y z u d _ _ => rw [val_congr (x:=x) (fun t ht => h t (.inl ht)),val_congr (x:=y) (fun t ht => h t (.inr (.inl ht))),val_congr (x:=z) (fun t ht => h t (.inr (.inr (.inl ht)))),val_congr (x:=u) (fun t ht => h t (.inr (.inr (.inr (.inl ht))))),h d (.inr (.inr (.inr (.inr (by simp)))))]
 case mkArr sz xs => rw [vals_congr h]
 case mapUpd x y z => rw [val_congr (x:=x) (fun t ht => h t (.inl ht)),val_congr (x:=y) (fun t ht => h t (.inr (.inl ht))),val_congr (x:=z) (fun t ht => h t (.inr (.inr ht)))]
 case call f xs => rw [val_congr (x:=f) (fun t ht => h t (.inl ht)),vals_congr (xs:=xs) (fun t ht => h t (.inr ht))]
 case box x => rw [val_congr h]
 case panic x => rw [val_congr h]
theorem wanted_congr {g : Option (Nat × Bool)} (h : ∀ t ∈ guardReads g,ρ t = ρ' t) : wanted g ρ = wanted g ρ':=by
 cases g with
 | none => rfl
 | some g =>
  obtain ⟨s,b⟩:=g
  simp only [wanted]
  rw [h s (by simp [guardReads])]
end congr
variable {b0 base : Nat} {cl : CallFn}
theorem step_congr {it : Item} {e e1 : Env} {S : St} (h : ∀ t ∈ it.reads,eget e t = eget e1 t) {r : Option AV} {e' : Env} {S' : St} (hs : step b0 cl base it e S = some (r,e',S')) :
  (∃ v,r = some v ∧ step b0 cl base it e1 S = some (r,e1,S')) ∨ ∃ v,r = none ∧ e' = eput e it.dst v ∧ step b0 cl base it e1 S = some (none,eput e1 it.dst v,S'):=by
 have hw:=wanted_congr (g:=it.guard) (ρ:=eget e) (ρ':=eget e1) (fun t ht => h t (by simp [Item.reads,ht]))
 unfold step at hs ⊢
 rw [← hw]
 split at hs
 ·simp at hs
 ·simp only [Option.some.injEq,Prod.mk.injEq] at hs
  obtain ⟨rfl,rfl,rfl⟩:=hs
  exact .inr ⟨_,rfl,rfl,rfl⟩
 ·split at hs
  ·rename_i q hq
   have hqv:=qval_congr (q:=q) (H:=S.heap) (base:=base) (ρ:=eget e) (ρ':=eget e1) (fun t ht => h t (by simp [Item.reads,hq,IOp.reads,ht]))
   rw [← hqv]
   split at hs
   ·simp only [Option.some.injEq,Prod.mk.injEq] at hs
    obtain ⟨rfl,rfl,rfl⟩:=hs
    exact .inr ⟨_,rfl,rfl,rfl⟩
   ·simp at hs
  ·rename_i l re hl
   have hlv:=lval_congr (l:=l) (b0:=b0) (cl:=cl) (S:=S) (ρ:=eget e) (ρ':=eget e1) (fun t ht => h t (by simp [Item.reads,hl,IOp.reads,ht]))
   rw [← hlv]
   split at hs
   ·simp only [Option.some.injEq,Prod.mk.injEq] at hs
    obtain ⟨rfl,rfl,rfl⟩:=hs
    exact .inr ⟨_,rfl,rfl,rfl⟩
   ·simp only [Option.some.injEq,Prod.mk.injEq] at hs
    obtain ⟨rfl,rfl,rfl⟩:=hs
    exact .inl ⟨_,rfl,rfl⟩
   ·simp at hs
theorem eget_put {e : Env} {d : Option Nat} {v : AV} {t : Nat} (h : d ≠ some t) : eget (eput e d v) t = eget e t:=by
 cases d with
 | none => rfl
 | some d =>
  simp only [eput,eget]
  rw [if_neg (fun hh => h (by rw [hh]))]
theorem eget_put_self {e : Env} {d : Nat} {v : AV} : eget (eput e (some d) v) d = some v:=by simp [eput,eget]
theorem eput_congr {e e1 : Env} (h : eget e = eget e1) (d : Option Nat) (v : AV) : eget (eput e d v) = eget (eput e1 d v):=by
 cases d with
 | none => exact h
 | some d => funext t; simp only [eput,eget]; rw [h]
theorem eput_comm (e : Env) {d d' : Option Nat} (v v' : AV) (h : ∀ t,d = some t → d' ≠ some t) : eget (eput (eput e d v) d' v') = eget (eput (eput e d' v') d v):=by
 cases d with
 | none => rfl
 | some d =>
  cases d' with
  | none => rfl
  | some d' =>
   funext t
   simp only [eput,eget]
   by_cases h1 : d' = t
   ·subst h1
    have : d ≠ d':=fun hh => h d rfl (by rw [hh])
    simp [this]
   ·simp [h1]
def Item.isQ (it : Item) : Bool:=
 match it.op with
 | .q _ => true
 | .l _ _ => false
def kval (it : Item) (ρ : Slots) (H : List Blk) (base : Nat) : Option AV:=
 match wanted it.guard ρ with
 | none => none
 | some false => some .undef
 | some true => match it.op with
  | .q o => qval o ρ H base
  | .l _ _ => none
theorem step_quiet {it : Item} {e : Env} {S : St} (h : it.isQ = true) : step b0 cl base it e S = (kval it (eget e) S.heap base).map fun v => (none,eput e it.dst v,S):=by
 unfold Item.isQ at h
 split at h
 ·rename_i o ho
  unfold step kval
  simp only [ho]
  cases wanted it.guard (eget e) with
  | none => rfl
  | some b =>
   cases b
   ·rfl
   ·simp only
    cases qval o (eget e) S.heap base <;> rfl
 ·simp at h
theorem kval_congr {it : Item} {ρ ρ' : Slots} {H : List Blk} (h : ∀ t ∈ it.reads,ρ t = ρ' t) : kval it ρ H base = kval it ρ' H base:=by
 unfold kval
 rw [wanted_congr (g:=it.guard) (fun t ht => h t (by simp [Item.reads,ht]))]
 split
 ·rfl
 ·rfl
 ·split
  ·rename_i o ho
   exact qval_congr (fun t ht => h t (by simp [Item.reads,ho,IOp.reads,ht]))
  ·rfl
def Item.free (it : Item) : Bool:=
 match it.op with
 | .q o => o.free
 | .l _ _ => false
theorem kval_free {it : Item} {ρ : Slots} {H H' : List Blk} (h : it.free = true) : kval it ρ H base = kval it ρ H' base:=by
 unfold kval Item.free at *
 split
 ·rfl
 ·rfl
 ·split at h
  ·exact qval_free h
  ·simp at h
def qrun (H : List Blk) (base : Nat) : List Item → Env → Option Env
 | [],e => some e
 | k :: A,e => match kval k (eget e) H base with
  | some v => qrun H base A (eput e k.dst v)
  | none => none
theorem recheck_nil (prev : List Item) (e : Env) (H : List Blk) : recheck prev [] e H base = true:=by
 unfold recheck
 rw [List.all_eq_true]
 intro x _
 simp
theorem reOf_quiet {it : Item} (h : it.isQ = true) : reOf it.op = []:=by
 unfold Item.isQ at h
 split at h
 ·rename_i o ho; rw [ho]; rfl
 ·simp at h
theorem run_quiet : ∀ (A L prev : List Item) (e : Env) (S : St),(∀ k ∈ A,k.isQ = true) →
  run b0 cl base prev (A ++ L) e S = match qrun S.heap base A e with
   | some eA => run b0 cl base (A.reverse ++ prev) L eA S
   | none => none
 | [],L,prev,e,S,_ => by simp [qrun]
 | k :: A,L,prev,e,S,h => by
  have hk:=h k (by simp)
  simp only [List.cons_append,run,step_quiet hk,qrun,reOf_quiet hk]
  cases kval k (eget e) S.heap base with
  | none => rfl
  | some v =>
   simp only [Option.map_some,recheck_nil,if_true]
   rw [run_quiet A L (k :: prev) _ S (fun x hx => h x (by simp [hx]))]
   simp
theorem qrun_congr {H : List Blk} : ∀ (A : List Item) {e e1 eA : Env},eget e = eget e1 → qrun H base A e = some eA → ∃ eB,qrun H base A e1 = some eB ∧ eget eA = eget eB
 | [],e,e1,eA,h,hq => by
  simp only [qrun,Option.some.injEq] at hq
  subst hq
  exact ⟨e1,rfl,h⟩
 | k :: A,e,e1,eA,h,hq => by
  simp only [qrun] at hq ⊢
  rw [← h]
  split at hq
  ·rename_i v hv
   exact qrun_congr A (eput_congr h _ _) hq
  ·simp at hq
def Stab (H H' : List Blk) (base : Nat) : List Item → Env → Prop
 | [],_ => True
 | k :: A,e => kval k (eget e) H' base = kval k (eget e) H base ∧ ∀ v,kval k (eget e) H base = some v → Stab H H' base A (eput e k.dst v)
def disj (d : Option Nat) (l : List Nat) : Bool:=
 match d with
 | some d => !l.contains d
 | none => true
theorem disj_spec {d : Option Nat} {l : List Nat} (h : disj d l = true) : ∀ t ∈ l,d ≠ some t:=by
 intro t ht hd
 subst hd
 simp only [disj,Bool.not_eq_true',List.contains_eq_mem,decide_eq_false_iff_not] at h
 exact h ht
def neDst : Option Nat → Option Nat → Bool
 | some a,some b => a != b
 | _,_ => true
theorem neDst_spec {a b : Option Nat} (h : neDst a b = true) : ∀ t,a = some t → b ≠ some t:=by
 rintro t rfl hb
 subst hb
 simp [neDst] at h
def indepB (k x : Item) : Bool:=disj x.dst k.reads && disj k.dst x.reads && neDst k.dst x.dst
theorem qrun_shift {H H' : List Blk} {x : Item} {v : AV} : ∀ (A : List Item) {e eA : Env},(∀ k ∈ A,indepB k x = true) → Stab H H' base A e → qrun H base A e = some eA →
  ∃ eB,qrun H' base A (eput e x.dst v) = some eB ∧ eget eB = eget (eput eA x.dst v)
 | [],e,eA,_,_,hq => by
  simp only [qrun,Option.some.injEq] at hq
  subst hq
  exact ⟨_,rfl,rfl⟩
 | k :: A,e,eA,hi,hs,hq => by
  have hk:=hi k (by simp)
  simp only [indepB,Bool.and_eq_true] at hk
  obtain ⟨⟨h1,h2⟩,h3⟩:=hk
  simp only [qrun] at hq ⊢
  obtain ⟨hs1,hs2⟩:=hs
  have hkv : kval k (eget (eput e x.dst v)) H' base = kval k (eget e) H base:=by
   rw [kval_congr (ρ':=eget e) (fun t ht => eget_put (disj_spec h1 t ht)),hs1]
  rw [hkv]
  split at hq
  ·rename_i u hu
   obtain ⟨eB,hB,hBe⟩:=qrun_shift A (fun k hk => hi k (by simp [hk])) (hs2 u hu) hq
   obtain ⟨eC,hC,hCe⟩:=qrun_congr A (eput_comm e u v (neDst_spec h3)) hB
   exact ⟨eC,hC,hCe.symm.trans hBe⟩
  ·simp at hq
theorem qrun_keeps {H : List Blk} : ∀ (A : List Item) {e eA : Env} {t : Nat},(∀ k ∈ A,k.dst ≠ some t) → qrun H base A e = some eA → eget eA t = eget e t
 | [],e,eA,t,_,hq => by
  simp only [qrun,Option.some.injEq] at hq
  subst hq
  rfl
 | k :: A,e,eA,t,h,hq => by
  simp only [qrun] at hq
  split at hq
  ·rw [qrun_keeps A (fun k hk => h k (by simp [hk])) hq,eget_put (h k (by simp))]
  ·simp at hq
def flagB (k x : Item) : Bool:=k.free || (disj x.dst k.reads && neDst k.dst x.dst)
def selfB (k : Item) : Bool:=k.free || disj k.dst k.reads
theorem stab_of {H H' : List Blk} {re : List Nat} {x : Item} {v : AV} : ∀ (A : List Item) {e eA : Env},(∀ k ∈ A,k.isQ = true) → (∀ k ∈ A,k.free = true ∨ k.ix ∈ re) → List.Pairwise (fun k y => flagB k y = true) A → (∀ k ∈ A,flagB k x = true) →
  (∀ k ∈ A,selfB k = true) → qrun H base A e = some eA → (∀ k ∈ A,recheck [k] re (eput eA x.dst v) H' base = true) → Stab H H' base A e
 | [],_,_,_,_,_,_,_,_,_ => trivial
 | k :: A,e,eA,hq,hf,hpw,hx,hself,hrun,hre => by
  simp only [qrun] at hrun
  obtain ⟨hp1,hp2⟩:=List.pairwise_cons.1 hpw
  split at hrun
  ·rename_i u hu
   refine ⟨?_,fun v' hv' => ?_⟩
   ·rcases hf k (by simp) with hfree | hin
    ·exact kval_free hfree
    ·by_cases hfr : k.free = true
     ·exact kval_free hfr
     ·have hr:=hre k (by simp)
      have hfx:=hx k (by simp)
      have hsf:=hself k (by simp)
      have hfr' : k.free = false:=by simpa using hfr
      simp only [flagB,selfB,hfr',Bool.false_or,Bool.and_eq_true] at hfx hsf
      have hdst : ∀ y ∈ A,disj y.dst k.reads = true ∧ neDst k.dst y.dst = true:=fun y hy => by
       have:=hp1 y hy
       simpa [flagB,hfr] using this
      have hag : ∀ t ∈ k.reads,eget (eput eA x.dst v) t = eget e t:=fun t ht => by
       rw [eget_put (disj_spec hfx.1 t ht),qrun_keeps A (fun y hy => disj_spec (hdst y hy).1 t ht) hrun,eget_put (disj_spec hsf t ht)]
      have hko : ∃ o,k.op = .q o:=by
       have:=hq k (by simp)
       unfold Item.isQ at this
       split at this
       ·exact ⟨_,by assumption⟩
       ·simp at this
      obtain ⟨o,ho⟩:=hko
      unfold recheck at hr
      simp only [List.all_cons,List.all_nil,Bool.and_true,ho,Bool.or_eq_true,Bool.not_eq_true',List.contains_eq_mem,decide_eq_false_iff_not,hin,not_true_eq_false,false_or] at hr
      split at hr
      ·rename_i o' d ho' hd
       cases ho'
       have hw : wanted k.guard (eget (eput eA x.dst v)) = wanted k.guard (eget e):=wanted_congr (fun t ht => hag t (by simp [Item.reads,ht]))
       split at hr
       ·rename_i hwt
        rw [hw] at hwt
        split at hr
        ·rename_i p q' hp hq'
         have hpq:=eq_of_beq _ _ hr
         subst hpq
         have hget : eget (eput eA x.dst v) d = some u:=by
          rw [hd] at hfx
          rw [eget_put (fun h => neDst_spec hfx.2 d rfl h),qrun_keeps A (fun y hy => fun h => neDst_spec (hdst y hy).2 d hd h) hrun,hd,eget_put_self]
         rw [hget] at hq'
         simp only [Option.some.injEq] at hq'
         subst hq'
         rw [qval_congr (ρ':=eget e) (fun t ht => hag t (by simp [Item.reads,ho,IOp.reads,ht]))] at hp
         rw [hu]
         unfold kval
         rw [hwt]
         simp only [ho]
         exact hp
        ·simp at hr
       ·rename_i hwt
        rw [hw] at hwt
        unfold kval
        rw [hwt]
       ·simp at hr
      ·simp at hr
   ·rw [hu] at hv'
    cases hv'
    exact stab_of A (fun y hy => hq y (by simp [hy])) (fun y hy => hf y (by simp [hy])) hp2 (fun y hy => hx y (by simp [hy])) (fun y hy => hself y (by simp [hy])) hrun (fun y hy => hre y (by simp [hy]))
  ·simp at hrun
theorem recheck_sub {prev prev' : List Item} {re : List Nat} {e e1 : Env} {H : List Blk} (hs : ∀ k ∈ prev',k ∈ prev) (he : eget e = eget e1) (h : recheck prev re e H base = true) : recheck prev' re e1 H base = true:=by
 unfold recheck at *
 rw [List.all_eq_true] at *
 intro k hk
 have:=h k (hs k hk)
 rw [← he]
 exact this
theorem run_sub : ∀ (L prev prev' : List Item) {e e1 : Env} {S : St} {r : Option AV} {e' : Env} {S' : St},(∀ k ∈ prev',k ∈ prev) → eget e = eget e1 → run b0 cl base prev L e S = some (r,e',S') →
  ∃ e1',run b0 cl base prev' L e1 S = some (r,e1',S') ∧ eget e' = eget e1'
 | [],prev,prev',e,e1,S,r,e',S',_,he,h => by
  simp only [run,Option.some.injEq,Prod.mk.injEq] at h
  obtain ⟨rfl,rfl,rfl⟩:=h
  exact ⟨e1,rfl,he⟩
 | it :: L,prev,prev',e,e1,S,r,e',S',hs,he,h => by
  simp only [run] at h ⊢
  split at h
  ·simp at h
  ·rename_i v e2 S2 hst
   simp only [Option.some.injEq,Prod.mk.injEq] at h
   obtain ⟨rfl,rfl,rfl⟩:=h
   rcases step_congr (e1:=e1) (fun t _ => by rw [he]) hst with ⟨v',hv',h1⟩ | ⟨v',hv',_⟩
   ·have h2 : e2 = e:=by
     rcases step_congr (e1:=e) (fun t _ => rfl) hst with ⟨_,_,h3⟩ | ⟨_,h3,_⟩
     ·rw [hst] at h3
      simp only [Option.some.injEq,Prod.mk.injEq] at h3
      exact h3.2.1
     ·cases h3
    rw [h1]
    exact ⟨e1,rfl,by rw [h2]; exact he⟩
   ·cases hv'
  ·rename_i e2 S2 hst
   split at h
   ·rename_i hre
    rcases step_congr (e1:=e1) (fun t _ => by rw [he]) hst with ⟨v',hv',_⟩ | ⟨v',_,h1,h2⟩
    ·cases hv'
    ·rw [h2]
     simp only
     have hee : eget e2 = eget (eput e1 it.dst v'):=by rw [h1]; exact eput_congr he _ _
     rw [if_pos (recheck_sub hs hee hre)]
     exact run_sub L (it :: prev) (it :: prev') (fun k hk => by
      rcases List.mem_cons.1 hk with rfl | hk
      ·simp
      ·exact List.mem_cons_of_mem _ (hs k hk)) hee h
   ·simp at h
theorem pull {A B : List Item} {x : Item} {e : Env} {S : St} {r : Option AV} {e' : Env} {S' : St} (hA : ∀ k ∈ A,k.isQ = true ∧ indepB k x = true ∧ (x.isQ = true ∨ k.free = true ∨ k.ix ∈ reOf x.op))
  (hpw : List.Pairwise (fun k y => flagB k y = true) A) (hx : ∀ k ∈ A,flagB k x = true) (hself : ∀ k ∈ A,selfB k = true)
  (h : run b0 cl base [] (A ++ x :: B) e S = some (r,e',S')) :
  (∃ v,r = some v ∧ step b0 cl base x e S = some (some v,e,S')) ∨
   ∃ e1 S1,step b0 cl base x e S = some (none,e1,S1) ∧ ∃ e2,run b0 cl base [] (A ++ B) e1 S1 = some (r,e2,S') ∧ eget e' = eget e2:=by
 rw [run_quiet A _ _ _ _ (fun k hk => (hA k hk).1)] at h
 split at h
 ·rename_i eA hqA
  simp only [run] at h
  have hag : ∀ t ∈ x.reads,eget eA t = eget e t:=fun t ht => qrun_keeps A (fun k hk => by
   have:=(hA k hk).2.1
   simp only [indepB,Bool.and_eq_true] at this
   exact disj_spec this.1.2 t ht) hqA
  split at h
  ·simp at h
  ·rename_i v e2 S2 hst
   simp only [Option.some.injEq,Prod.mk.injEq] at h
   obtain ⟨rfl,rfl,rfl⟩:=h
   rcases step_congr (e1:=e) hag hst with ⟨v',hv',h1⟩ | ⟨v',hv',_⟩
   ·exact .inl ⟨v,rfl,h1⟩
   ·cases hv'
  ·rename_i e2 S2 hst
   split at h
   ·rename_i hre
    rcases step_congr (e1:=e) hag hst with ⟨v',hv',_⟩ | ⟨v',_,h1,h2⟩
    ·cases hv'
    ·right
     refine ⟨_,_,h2,?_⟩
     have hstab : Stab S.heap S2.heap base A e:=by
      by_cases hxq : x.isQ = true
      ·have hS : S2 = S:=by
        rw [step_quiet hxq] at hst
        simp only [Option.map_eq_some_iff,Prod.mk.injEq] at hst
        obtain ⟨_,_,_,_,rfl⟩:=hst
        rfl
       subst hS
       have : ∀ (A : List Item) (e : Env),Stab S2.heap S2.heap base A e:=fun A => by
        induction A with
        | nil => intro e; trivial
        | cons k A ih => intro e; exact ⟨rfl,fun v _ => ih _⟩
       exact this A e
      ·refine stab_of A (fun k hk => (hA k hk).1) (fun k hk => (hA k hk).2.2.resolve_left hxq) hpw hx hself hqA (v:=v') (fun k hk => ?_)
       rw [← h1]
       exact recheck_sub (fun k' hk' => by simp at hk'; subst hk'; simp [hk]) rfl hre
     obtain ⟨eB,hB,hBe⟩:=qrun_shift (x:=x) (v:=v') A (fun k hk => (hA k hk).2.1) hstab hqA
     rw [run_quiet A _ _ _ _ (fun k hk => (hA k hk).1),hB]
     exact run_sub B _ _ (fun k hk => by simp at hk ⊢; exact .inr hk) (by rw [h1]; exact hBe.symm) h
   ·simp at h
 ·simp at h
end Go.Proofs.YtmeakjgbjldkdaaGreat.Ai
namespace Go.Proofs.YtmeakjgbjldkdaaGreat.Ai
open Go
def orEdges (tab : List Nat) : List Edge → Nat
 | [] => 0
 | e :: es => if Region.binds .any e then (2 ^ e.on ||| tab.getD e.on 0) ||| orEdges tab es else orEdges tab es
def befTab (ops : Array Oper) : List Nat:=ops.foldl (init:=[]) fun tab o => tab ++ [orEdges tab o.after.toList]
def okBef (ops : Array Oper) (tab : List Nat) : Bool:=
 (List.range ops.size).all fun i => match ops[i]? with
  | some o => tab.getD i 0 == orEdges tab o.after.toList && o.after.toList.all fun e => !Region.binds .any e || decide (e.on < i)
  | none => true
def Down (ops : Array Oper) (listed : Array Bool) : Prop:=
 ∀ i o e,ops[i]? = some o → listed.getD i false = true → e ∈ o.after.toList → Region.binds .any e = true → listed.getD e.on false = true
theorem orEdges_spec {tab : List Nat} {k : Nat} : ∀ {es : List Edge},(orEdges tab es).testBit k = true → ∃ e ∈ es,Region.binds .any e = true ∧ (k = e.on ∨ (tab.getD e.on 0).testBit k = true)
 | [],h => by simp [orEdges] at h
 | e :: es,h => by
  simp only [orEdges] at h
  split at h
  ·rename_i hb
   rw [Nat.testBit_or,Nat.testBit_or,Bool.or_eq_true,Bool.or_eq_true] at h
   rcases h with (h | h) | h
   ·rw [Nat.testBit_two_pow] at h
    exact ⟨e,by simp,hb,.inl (by simpa using h : e.on = k).symm⟩
   ·exact ⟨e,by simp,hb,.inr h⟩
   ·obtain ⟨e',h1,h2⟩:=orEdges_spec h
    exact ⟨e',by simp [h1],h2⟩
  ·obtain ⟨e',h1,h2⟩:=orEdges_spec h
   exact ⟨e',by simp [h1],h2⟩
theorem bef_spec {ops : Array Oper} {tab : List Nat} {listed : Array Bool} (hok : okBef ops tab = true) (hd : Down ops listed) : ∀ (i : Nat) (o : Oper),ops[i]? = some o →
  (∀ e ∈ o.after.toList,Region.binds .any e = true → listed.getD e.on false = true) → ∀ k,(tab.getD i 0).testBit k = true → listed.getD k false = true:=by
 intro i
 induction i using Nat.strongRecOn with
 | _ i ih =>
  intro o ho hp k hk
  have hi:=(Array.getElem?_eq_some_iff.1 ho).1
  unfold okBef at hok
  rw [List.all_eq_true] at hok
  have h1:=hok i (List.mem_range.2 hi)
  simp only [ho,Bool.and_eq_true,beq_iff_eq,List.all_eq_true,Bool.or_eq_true,Bool.not_eq_true',decide_eq_true_eq] at h1
  rw [h1.1] at hk
  obtain ⟨e,he,hb,hke⟩:=orEdges_spec hk
  rcases hke with rfl | hke
  ·exact hp e he hb
  ·have hlt : e.on < i:=(h1.2 e he).resolve_left (by simp [hb])
   have hl:=hp e he hb
   cases ho' : ops[e.on]? with
   | none =>
    rw [Array.getElem?_eq_none_iff] at ho'
    omega
   | some o' => exact ih e.on hlt o' ho' (fun e' he' hb' => hd e.on o' e' ho' hl he' hb') k hke
def pairB (tab : List Nat) (k x : Item) : Bool:=
 ((tab.getD x.ix 0).testBit k.ix || (k.isQ && indepB k x && (x.isQ || k.free || (reOf x.op).contains k.ix))) && flagB k x
def canonB (tab : List Nat) : List Item → Bool
 | [] => true
 | k :: L => L.all (pairB tab k) && selfB k && canonB tab L
theorem canonB_spec {tab : List Nat} : ∀ {L : List Item},canonB tab L = true → List.Pairwise (fun k x => pairB tab k x = true) L ∧ ∀ k ∈ L,selfB k = true
 | [],_ => ⟨List.Pairwise.nil,by simp⟩
 | k :: L,h => by
  simp only [canonB,Bool.and_eq_true,List.all_eq_true] at h
  obtain ⟨h1,h2⟩:=canonB_spec h.2
  refine ⟨List.pairwise_cons.2 ⟨h.1.1,h1⟩,fun x hx => ?_⟩
  rcases List.mem_cons.1 hx with rfl | hx
  ·exact h.1.2
  ·exact h2 x hx
def linFrom (md : Region.Mode) (ops : Array Oper) (done : List Nat) : List Nat → Bool
 | [] => true
 | i :: M => (match ops[i]? with
  | some o => o.after.toList.all fun e => !Region.binds md e || done.contains e.on
  | none => false) && linFrom md ops (i :: done) M
def linB (md : Region.Mode) (ops : Array Oper) (M : List Nat) : Bool:=linFrom md ops [] M && (List.range ops.size).all M.contains
theorem lin_ready {md : Region.Mode} {ops : Array Oper} {listed : Array Bool} (hs : listed.size = ops.size) : ∀ (M done : List Nat),linFrom md ops done M = true → (∀ j ∈ done,listed.getD j false = true) →
  (∃ i ∈ M,listed.getD i true = false) → ∃ i,i ∈ Region.ready md ops listed
 | [],_,_,_,⟨i,hi,_⟩ => by cases hi
 | j :: M,done,h,hd,⟨i,hi,hli⟩ => by
  simp only [linFrom,Bool.and_eq_true] at h
  obtain ⟨h1,h2⟩:=h
  split at h1
  ·rename_i o ho
   have hj:=(Array.getElem?_eq_some_iff.1 ho).1
   by_cases hlj : listed.getD j false = true
   ·refine lin_ready hs M (j :: done) h2 (fun x hx => ?_) ?_
    ·rcases List.mem_cons.1 hx with rfl | hx
     ·exact hlj
     ·exact hd x hx
    ·rcases List.mem_cons.1 hi with rfl | hi
     ·exfalso
      have : listed.getD i true = listed.getD i false:=by simp [Array.getD,hs,hj]
      rw [this,hlj] at hli
      cases hli
     ·exact ⟨i,hi,hli⟩
   ·refine ⟨j,mem_ready.2 ⟨?_,o,ho,fun e he hb => ?_⟩⟩
    ·have : listed.getD j true = listed.getD j false:=by simp [Array.getD,hs,hj]
     rw [this]
     simpa using hlj
    ·rw [List.all_eq_true] at h1
     have:=h1 e (by simpa using he)
     simp only [hb,Bool.not_true,Bool.false_or,List.contains_eq_mem,decide_eq_true_eq] at this
     exact hd _ this
  ·simp at h1
variable {P : Program}
theorem Pend.pull {K K' : Ghost} {S S' : St} {w w' : World} {base : Nat} {A B : List Item} {x : Item} (h : Pend K base S (A ++ x :: B)) (hst : Step K (fun n => n < S.heap.length ∧ ¬ x.makes base n) w K' w') (hl : S.heap.length ≤ S'.heap.length) : Pend K' base S' (A ++ B):=by
 have hperm : (A ++ x :: B).Perm (x :: (A ++ B)):=List.perm_middle
 have h' : Pend K base S (x :: (A ++ B)):=⟨fun it hi => h.none it (hperm.mem_iff.2 hi),fun it hi => h.lt it (hperm.mem_iff.2 hi),(hperm.filterMap _).nodup_iff.1 h.nodup⟩
 exact h'.next hst hl
theorem run_draw {b0 base nt : Nat} {cl : CallFn} {ops : Array Oper} {Q : Exit → Act → World → Prop} {N : Nat} {md : Region.Mode} {tab M : List Nat} (hcl : CallSim P cl) (hmd : ∀ e,Region.binds .any e = true → Region.binds md e = true)
  (hok : okBef ops tab = true) (hM : linB md ops M = true) : ∀ (m : Nat) (L : List Item) (listed : Array Bool) (K : Ghost) (S : St) (w : World) (a : Act) (e e' : Env) (r : Option AV) (S' : St),L.length = m →
  listed.size = ops.size → Down ops listed → (∀ i,listed.getD i true = false ↔ i ∈ L.map (·.ix)) → (L.map (·.ix)).Nodup →
  List.Pairwise (fun k x => pairB tab k x = true) L → (∀ k ∈ L,selfB k = true) →
  (∀ it ∈ L,chkItem P ops nt it = true) → Rel K S w → Inner S.heap.length S → EnvRep K (eget e) a.tmps → nt ≤ a.tmps.size → b0 ≤ S.heap.length → N ≤ S.heap.length → Pend K base S L → N ≤ base →
  run b0 cl base [] L e S = some (r,e',S') →
  (∀ a' w' K',r = none → Rel K' S' w' → EnvRep K' (eget e') a'.tmps → a'.tmps.size = a.tmps.size → a'.defers = a.defers → Step K (fun n => n < N) w K' w' → Keeps b0 S S' → Q .normal a' w') →
  (∀ v u a' w' K',r = some v → Rep K' v u → Rel K' S' w' → a'.defers = a.defers → Step K (fun n => n < N) w K' w' → Keeps b0 S S' → Q (.panic [{v:=u,recovered:=false}]) a' w') →
  wpAny P md ops Q m listed a w:=by
 intro m
 induction m with
 | zero =>
  intro L listed K S w a e e' r S' hL hls hd hun hnd hpw hself hc R hsc E hnt hb0 hN hpd hNb hrun hk hp
  have : L = []:=List.length_eq_zero_iff.1 hL
  subst this
  simp only [run,Option.some.injEq,Prod.mk.injEq] at hrun
  obtain ⟨rfl,rfl,rfl⟩:=hrun
  refine ⟨?_,hk a w K rfl R E rfl rfl (Step.refl _ _ _) (keeps_refl _ _)⟩
  rw [List.eq_nil_iff_forall_not_mem]
  intro i hi
  have:=(hun i).1 (mem_ready.1 hi).1
  simp at this
 | succ m ih =>
  intro L listed K S w a e e' r S' hL hls hd hun hnd hpw hself hc R hsc E hnt hb0 hN hpd hNb hrun hk hp
  refine ⟨fun hr => ?_,fun i hi => ?_⟩
  ·exfalso
   simp only [linB,Bool.and_eq_true,List.all_eq_true] at hM
   have hne : L ≠ []:=by rintro rfl; simp at hL
   obtain ⟨x,hx⟩:=List.exists_mem_of_ne_nil L hne
   have hxl:=(hun x.ix).2 (List.mem_map.2 ⟨x,hx,rfl⟩)
   have hxc:=hc x hx
   have hxi : x.ix < ops.size:=by
    unfold chkItem at hxc
    split at hxc
    ·rename_i o ho
     exact (Array.getElem?_eq_some_iff.1 ho).1
    ·simp at hxc
   have hxM:=hM.2 x.ix (List.mem_range.2 hxi)
   obtain ⟨j,hj⟩:=lin_ready hls M [] hM.1 (by simp) ⟨x.ix,by simpa using hxM,hxl⟩
   rw [hr] at hj
   cases hj
  ·obtain ⟨hil,o,ho,hpre⟩:=mem_ready.1 hi
   obtain ⟨x,hx,hxi⟩:=List.mem_map.1 ((hun i).1 hil)
   subst hxi
   obtain ⟨A,B,rfl⟩:=List.append_of_mem hx
   have hpre' : ∀ e ∈ o.after.toList,Region.binds .any e = true → listed.getD e.on false = true:=fun e he hb => hpre e (by simpa using he) (hmd e hb)
   have hbef:=bef_spec hok hd x.ix o ho hpre'
   have hpwA:=(List.pairwise_append.1 hpw)
   have hAx : ∀ k ∈ A,pairB tab k x = true:=fun k hk => hpwA.2.2 k hk x (by simp)
   have hkl : ∀ k ∈ A,(tab.getD x.ix 0).testBit k.ix = false:=fun k hk => by
    cases hb : (tab.getD x.ix 0).testBit k.ix with
    | false => rfl
    | true =>
     have h1:=hbef k.ix hb
     have h2:=(hun k.ix).2 (List.mem_map.2 ⟨k,by simp [hk],rfl⟩)
     have hk2 : k.ix < listed.size:=by
      rcases Nat.lt_or_ge k.ix listed.size with h | h
      ·exact h
      ·simp [Array.getD,Nat.not_lt.2 h] at h1
     have : listed.getD k.ix true = listed.getD k.ix false:=by simp [Array.getD,hk2]
     rw [this,h1] at h2
     cases h2
   have hpull:=pull (A:=A) (B:=B) (x:=x) (e:=e) (S:=S) (r:=r) (e':=e') (S':=S') (b0:=b0) (cl:=cl) (base:=base) (fun k hk => by
     have:=hAx k hk
     simp only [pairB,hkl k hk,Bool.false_or,Bool.and_eq_true,Bool.or_eq_true,List.contains_eq_mem,decide_eq_true_eq] at this
     exact ⟨this.1.1.1,this.1.1.2,by rcases this.1.2 with (h | h) | h <;> simp [h]⟩)
    (hpwA.1.imp (fun {k y} h => by simp only [pairB,Bool.and_eq_true] at h; exact h.2))
    (fun k hk => by have:=hAx k hk; simp only [pairB,Bool.and_eq_true] at this; exact this.2) (fun k hk => hself k (by simp [hk])) hrun
   have hmk : ∀ n,n < N → n < S.heap.length ∧ ¬ x.makes base n:=fun n hn => ⟨by omega,fun hm => by
    obtain ⟨j,_,rfl⟩:=makes_iff.1 hm
    omega⟩
   rcases hpull with ⟨v,hv,hst⟩ | ⟨e1,S1,hst,e2,hrun2,he2⟩
   ·refine istep (hc x hx) hcl R hsc E hnt hb0 (hpd.none x hx) hst ?_ ?_
    ·intro a' w' K' h
     cases h
    ·intro v' u w' K' hv' hr R' hstp hkp
     cases hv'
     exact hp v u a w' K' hv hr R' rfl (hstp.mono hmk) hkp
   ·refine istep (hc x hx) hcl R hsc E hnt hb0 (hpd.none x hx) hst ?_ ?_
    ·intro a1 w1 K1 _ R1 E1 hsz hdf hstp hkp
     have hnd' : ((A ++ B).map (·.ix)).Nodup ∧ x.ix ∉ (A ++ B).map (·.ix):=by
      rw [List.map_append,List.map_cons] at hnd
      have h1:=(List.perm_middle.nodup_iff).1 hnd
      rw [List.nodup_cons] at h1
      rw [List.map_append]
      exact ⟨h1.2,h1.1⟩
     have hxs : x.ix < listed.size:=by rw [hls]; exact (Array.getElem?_eq_some_iff.1 ho).1
     refine ih (A ++ B) (listed.setIfInBounds x.ix true) K1 S1 w1 a1 e1 e2 r S' ?_ ?_ ?_ ?_ hnd'.1 ?_ ?_ ?_ R1 (hkp.2.2 hsc) E1 (by omega) ?_ ?_ ?_ hNb hrun2 ?_ ?_
     ·simp at hL ⊢; omega
     ·simpa using hls
     ·intro j oj ej hoj hlj hej hbj
      by_cases hjx : x.ix = j
      ·subst hjx
       rw [ho] at hoj
       cases hoj
       exact getD_set_true (hpre' ej hej hbj)
      ·rw [getD_set_ne false hjx] at hlj
       exact getD_set_true (hd j oj ej hoj hlj hej hbj)
     ·intro j
      by_cases hjx : x.ix = j
      ·subst hjx
       have : (listed.setIfInBounds x.ix true).getD x.ix true = true:=by simp [Array.getD,hxs]
       rw [this]
       simp only [Bool.true_eq_false,false_iff]
       exact hnd'.2
      ·rw [getD_set_ne true hjx,hun j]
       simp only [List.map_append,List.map_cons,List.mem_append,List.mem_cons]
       constructor
       ·rintro (h | h | h)
        ·exact .inl h
        ·exact absurd h.symm hjx
        ·exact .inr h
       ·rintro (h | h)
        ·exact .inl h
        ·exact .inr (.inr h)
     ·exact List.pairwise_append.2 ⟨hpwA.1,(List.pairwise_cons.1 hpwA.2.1).2,fun k hk y hy => hpwA.2.2 k hk y (by simp [hy])⟩
     ·exact fun k hk => hself k (by
       rcases List.mem_append.1 hk with h | h
       ·simp [h]
       ·simp [h])
     ·exact fun k hk => hc k (by
       rcases List.mem_append.1 hk with h | h
       ·simp [h]
       ·simp [h])
     ·have:=hkp.1; omega
     ·have:=hkp.1; omega
     ·exact hpd.pull hstp hkp.1
     ·intro a' w' K' hr R' E' hsz' hdf' hst' hkp'
      exact hk a' w' K' hr R' (by rw [he2]; exact E') (by omega) (hdf'.trans hdf) ((hstp.mono hmk).trans hst' (fun _ h => h)) (hkp.trans hkp')
     ·intro v u a' w' K' hr hrep R' hdf' hst' hkp'
      exact hp v u a' w' K' hr hrep R' (hdf'.trans hdf) ((hstp.mono hmk).trans hst' (fun _ h => h)) (hkp.trans hkp')
    ·intro v u w' K' h
     cases h
end Go.Proofs.YtmeakjgbjldkdaaGreat.Ai
