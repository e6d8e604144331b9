/- A part of what is proved: Ap1, Ap2, Ap3, Ap4, Ap5, Ai14. No condition. -/
import Derived.Test.YtmeakjgbjldkdaaGreatY3
set_option maxRecDepth 100000
set_option maxHeartbeats 16000000
namespace Go.Proofs.YtmeakjgbjldkdaaGreat.Ai
open Go
variable {P : Program} {K : Ghost} {S : St} {w : World} {v : AV}
theorem setCell_push (w : World) (vs : Array Value) (t : TypeId) (o : Nat) (v : Value) :
  ({w with heap:=w.heap.push (.cells vs t (0,0))} : World).setCell ⟨w.heap.size,o,none⟩ v = {w with heap:=w.heap.push (.cells (vs.setIfInBounds o v) t (0,0))}:=by
 simp only [World.setCell]
 congr 1
 apply Array.ext
 ·simp
 ·intro k h1 h2
  simp only [Array.size_modify,Array.size_push] at h1
  rw [Array.getElem_modify]
  by_cases hk : w.heap.size = k
  ·subst hk
   simp
  ·rw [if_neg hk]
   rw [Array.getElem_push_lt (by omega),Array.getElem_push_lt (by omega)]
theorem setCells_push : ∀ (vs : List Value) (o : Nat) (w : World) (cur : Array Value) (t : TypeId),o + vs.length ≤ cur.size →
  ∃ cur' : Array Value,({w with heap:=w.heap.push (.cells cur t (0,0))} : World).setCells w.heap.size o vs = {w with heap:=w.heap.push (.cells cur' t (0,0))} ∧
   cur'.toList = cur.toList.take o ++ vs ++ cur.toList.drop (o + vs.length) ∧ cur'.size = cur.size:=by
 intro vs o w cur t hle
 have hb : ({w with heap:=w.heap.push (.cells cur t (0,0))} : World).heap[w.heap.size]? = some (.cells cur t (0,0)):=by simp
 obtain ⟨cur',_,h1,h2⟩:=Wr.setCells (t:=t) vs o _ cur hb hle
 have key : ∀ (vs : List Value) (o : Nat) (cur : Array Value),∃ c : Array Value,({w with heap:=w.heap.push (.cells cur t (0,0))} : World).setCells w.heap.size o vs = {w with heap:=w.heap.push (.cells c t (0,0))}:=by
  intro vs
  induction vs with
  | nil => intro o cur; exact ⟨cur,rfl⟩
  | cons v vs ih =>
   intro o cur
   simp only [World.setCells]
   rw [setCell_push]
   exact ih (o + 1) _
 obtain ⟨c,hc⟩:=key vs o cur
 obtain ⟨cur2,hW,h3,h4⟩:=Wr.setCells (t:=t) vs o _ cur hb hle
 have h5:=hW.block
 rw [hc] at h5
 simp only [Array.getElem?_push_size,Option.some.injEq,Obj.cells.injEq,and_true] at h5
 subst h5
 exact ⟨c,hc,h3,h4⟩
theorem l_append1 {t tx el e' ty : TypeId} {i : TypeInfo} {z : Value} {s0 sz by_ : Nat} {tag tagb : Tag} {rows rowsb : List (List AV)} {rc : List AV} {news2 : List Value} {x' y' : Value} {S' : St} (R : Rel K S w) (ht : P.underlying t = some (.slice el)) (hi : P.info? el = some i) (hz : i.zero = some z)
  (hsz : i.size = sz) (hzs : z.cells.size = sz) (hby : i.bytes = by_) (htx : P.underlying tx = some (.slice e')) (hx : Rep K (.list s0 tag rows) x') (hy : Rep K (.list sz tagb rowsb) y') (hyl : rowsb.length = 1)
  (hrc : RepL K rc news2) (hcl : rc.length = sz ∧ closedL rc = true) (hv : aappend sz by_ (.list s0 tag rows) (.list sz .full [rc]) S = some (v,S')) :
  ∃ (B o cap' : Nat) (K' : Ghost) (w' : World) (cur : Array Value) (tt : TypeId),(Builtin.append_ #[t,tx] ty #[x',y']).run P w = .ok (.slice (some ⟨B,o,none⟩) (rows.length + 1) cap') w' ∧
   w'.heap[B]? = some (.cells cur tt (0,0)) ∧ o + rows.length * sz + sz ≤ cur.size ∧ K'.g B ≠ none ∧
   Rep K' v (.slice (some ⟨B,o,none⟩) (rows.length + 1) cap') ∧ Rel K' S' (w'.setCells B (o + rows.length * sz) news2) ∧ S'.heap = S.heap ∧ ∀ X,Step K X w K' (w'.setCells B (o + rows.length * sz) news2):=by
 have hn2 : news2.length = sz:=by rw [hrc.length]; exact hcl.1
 unfold aappend at hv
 simp only [List.cons_ne_nil,if_false,List.length_cons,List.length_nil,Nat.zero_add] at hv
 split at hv
 ·rename_i hcond
  obtain ⟨-,hs0,hb1,hb2,hszp⟩:=hcond
  unfold maxRow at hb1 hb2
  obtain ⟨news,hs,hrn⟩:=src_of (size:=i.size) R htx hy (.inr (by omega))
  rw [hyl] at hs
  have hnl:=hs.newsLen
  rw [hsz,Nat.one_mul] at hnl
  have hx':=hx
  simp only [Rep] at hx'
  obtain ⟨base,cap,rfl,hlc,hall,hr⟩:=hx'
  have hall' : ∀ r ∈ rows ++ [rc],r.length = sz ∧ closedL r = true:=by
   intro r hr'
   rcases List.mem_append.1 hr' with h | h
   ·rcases hs0 with h' | h'
    ·subst h'; cases h
    ·rw [← h']; exact hall r h
   ·rw [List.mem_singleton] at h; subst h; exact hcl
  obtain ⟨olds,hold,hro,holdl⟩ : ∃ olds,(∀ w1 : World,(∀ k,w1.heap[k]? = w.heap[k]?) → (Builtin.firstCells i.size rows.length (.slice base rows.length cap)).run P w1 = .ok olds.toArray w1) ∧ RepLL K rows olds ∧ olds.length = rows.length * sz:=by
   rcases hr with ⟨rfl,rfl,rfl⟩ | ⟨B,o,vs,rfl,hf,hrl,_⟩
   ·exact ⟨[],fun w1 _ => by simpa using run_firstCells_none w1 i.size 0 0 0,by simp [RepLL],by simp⟩
   ·have hl:=(RepLL.flat.1 hrl).length
    have hfl : rows.flatten.length = rows.length * sz:=by
     rcases hs0 with h' | h'
     ·subst h'; simp
     ·rw [flatten_length rows (fun r hr' => (hall r hr').1),h']
    refine ⟨vs,fun w1 hw1 => ?_,hrl,by omega⟩
    refine run_firstCells_some w1 i.size rows.length ⟨B,o,none⟩ rows.length cap vs (by rw [hsz]; omega) (fun j u hj => ?_)
    rw [add_none]
    have:=R.fix_cell hf j u hj
    rw [World.cell?_of_block (w:=w) (hw1 B)]
    exact this
  have hcat : RepL K (rows ++ [rc]).flatten (olds ++ news2):=by
   rw [List.flatten_append]
   refine (RepLL.flat.1 hro).append ?_
   simpa using hrc
  have newrow : ∀ (b E : Nat) (S1 : St),S1.heap = S.heap → (∀ (b r : Nat),S.rows[b]? = some r → ∃ r' : Nat,S1.rows[b]? = some r' ∧ r ≤ r') → S1.rows[b]? = some E → cap < rows.length + 1 →
    ∃ (B o cap' : Nat) (K' : Ghost) (w' : World) (cur : Array Value) (tt : TypeId),(Builtin.append_ #[t,tx] ty #[.slice base rows.length cap,y']).run P w = .ok (.slice (some ⟨B,o,none⟩) (rows.length + 1) cap') w' ∧
     w'.heap[B]? = some (.cells cur tt (0,0)) ∧ o + rows.length * sz + sz ≤ cur.size ∧ K'.g B ≠ none ∧
     Rep K' (.list sz (.row b E) (rows ++ [rc])) (.slice (some ⟨B,o,none⟩) (rows.length + 1) cap') ∧ Rel K' S1 (w'.setCells B (o + rows.length * sz) news2) ∧ S1.heap = S.heap ∧ ∀ X,Step K X w K' (w'.setCells B (o + rows.length * sz) news2):=by
   intro b E S1 h1 h2 h3 hcap
   have hrun:=run_append_grow_src w t tx ty el i z ht hi hz base rows.length cap olds (hold w.drew (fun _ => rfl)) y' 1 news hs hcap (by omega) (by
    have h4:=next_cap_le (rows.length + 1) cap hcap
    have h5 : Builtin.nextslicecap (rows.length + 1) cap * i.bytes ≤ (4 * (rows.length + 1) + 4096) * i.bytes:=Nat.mul_le_mul_right _ h4
    have h6 : (4 * (rows.length + 1) + 4096) * i.bytes ≤ (4100 * (rows.length + 1)) * i.bytes:=Nat.mul_le_mul_right _ (by omega)
    have h7 : (4100 * (rows.length + 1)) * i.bytes = 4100 * ((rows.length + 1) * i.bytes):=by rw [Nat.mul_assoc]
    have h8 : (rows.length + 1) * i.bytes ≤ 1073741824:=by rw [hby]; exact hb1
    omega)
   have hR : Rel K S w.drew:=⟨R.dom,R.inj,R.sep,R.cells,R.maps,R.rows,R.grow⟩
   have hge:=grownCap_ge w (rows.length + 1) cap el
   generalize hgc : grownCap w (rows.length + 1) cap el = gc at hrun hge
   have hcs : ((olds ++ news).toArray ++ Builtin.zeroCells z.cells (gc - (rows.length + 1))).size = gc * sz:=by
    rw [Array.size_append,size_zeroCells,hzs]
    have hm : (rows.length + 1) * sz = rows.length * sz + sz:=by rw [Nat.add_mul,Nat.one_mul]
    have hm2 : gc * sz = (rows.length + 1) * sz + (gc - (rows.length + 1)) * sz:=by
     rw [← Nat.add_mul]; congr 1; omega
    have hl2 : (olds ++ news).toArray.size = rows.length * sz + sz:=by
     simp [holdl,hnl]
    rw [hl2]
    omega
   have hroom : rows.length * sz + sz ≤ gc * sz:=by
    have : (rows.length + 1) * sz ≤ gc * sz:=Nat.mul_le_mul_right _ hge
    rw [Nat.add_mul,Nat.one_mul] at this
    exact this
   obtain ⟨cur',hset,hcl',hcs'⟩:=setCells_push news2 (rows.length * sz) w.drew ((olds ++ news).toArray ++ Builtin.zeroCells z.cells (gc - (rows.length + 1))) el (by rw [hn2,hcs]; exact hroom)
   have hpre : cur'.toList.take (olds ++ news2).length = olds ++ news2:=by
    rw [hcl',Array.toList_append]
    have e1 : List.take (rows.length * sz) ((olds ++ news).toArray.toList ++ (Builtin.zeroCells z.cells (gc - (rows.length + 1))).toList) = olds:=by
     simp only [List.append_assoc]
     rw [← holdl,List.take_left]
    rw [e1,List.take_left]
   obtain ⟨K',hg,ha,hm,R',hst⟩:=Rel.more_new hR h1 h2 cur' el (olds ++ news2) b E sz hpre h3
   have hst0 : ∀ X,Step K X w K w.drew:=fun X => ⟨Ext.refl K,rfl,rfl,rfl,Nat.le_refl _,fun _ _ _ _ => rfl,fun _ _ h1 h2 => ⟨h1,h2⟩,fun _ _ h => h,fun _ x h => .inl ⟨x,h⟩⟩
   have hstx : ∀ X,Step K X w K' _:=fun X => (hst0 X).trans (hst X) (fun _ h => h)
   have hg' : K'.g w.heap.size = some (olds ++ news2):=hg
   have ha' : K'.a w.heap.size = some (b,E,sz,cur'.size):=ha
   have hset' : (w.drew.alloc (.cells ((olds ++ news).toArray ++ Builtin.zeroCells z.cells (gc - (rows.length + 1))) el)).setCells w.heap.size (0 + rows.length * sz) news2 = {w.drew with heap:=w.drew.heap.push (.cells cur' el (0,0))}:=by
    rw [Nat.zero_add]; exact hset
   refine ⟨w.heap.size,0,gc,K',_,_,el,hrun,(show (w.drew.heap.push (.cells ((olds ++ news).toArray ++ Builtin.zeroCells z.cells (gc - (rows.length + 1))) el (0,0)))[w.drew.heap.size]? = _ from Array.getElem?_push_size),by rw [Nat.zero_add,hcs]; exact hroom,by rw [hg']; simp,?_,by rw [hset']; exact R',h1,fun X => by rw [hset']; exact hstx X⟩
   simp only [Rep]
   refine ⟨_,gc,by rw [List.length_append]; rfl,by rw [List.length_append]; exact hge,hall',.inr ⟨w.heap.size,0,olds ++ news2,rfl,⟨olds ++ news2,hg',by rw [List.drop_zero,List.take_of_length_le (Nat.le_refl _)]⟩,?_,?_⟩⟩
   ·rw [RepLL.flat]; exact RepL.ext (hstx (fun _ => False)).ext _ _ hcat
   ·refine ⟨fun x hx => (by cases (show K'.a w.heap.size = _ from ha').symm.trans hx; rfl),⟨_,ha',rfl⟩,fun _ => ?_⟩
    refine ⟨E,_,olds ++ news2,ha',hg',Nat.le_refl _,?_,?_⟩
    ·rw [List.length_append,List.length_append,holdl,hn2,Nat.sub_self]
     simp only [List.length_cons,List.length_nil,Nat.zero_add,Nat.add_mul,Nat.one_mul]
     omega
    ·rw [hcs',hcs]; omega
  split at hv
  ·
   simp only [Option.some.injEq,Prod.mk.injEq] at hv
   obtain ⟨rfl,rfl⟩:=hv
   refine newrow _ _ _ rfl (fun b r hbr => ?_) (by simp) ?_
   ·have:=(List.getElem?_eq_some_iff.1 hbr).1
    exact ⟨r,by simp only; rw [List.getElem?_append_left this]; exact hbr,Nat.le_refl _⟩
   ·rcases hr with ⟨rfl,rfl,rfl⟩ | ⟨B,o,vs,rfl,hf,hrl,ht'⟩
    ·simp
    ·have:=ht'.2; simp only [Ghost.tagIn] at this; omega
  ·
   rename_i b en
   split at hv
   ·rename_i hc2
    obtain ⟨hs0',hSr⟩:=hc2
    simp only [Option.some.injEq,Prod.mk.injEq] at hv
    obtain ⟨rfl,rfl⟩:=hv
    have hb:=(List.getElem?_eq_some_iff.1 hSr).1
    by_cases hroom : rows.length + 1 ≤ cap
    ·rcases hr with ⟨rfl,rfl,rfl⟩ | ⟨B,o,vs,rfl,hf,hrl,ht'⟩
     ·simp at hroom
     ·subst hs0'
      have hlt : rows.length < cap:=by omega
      obtain ⟨E,size,l,ha,hg,hle,hll,hsize⟩:=ht'.2.2 hlt
      obtain ⟨l1,hg1,⟨us,t',hw,hus⟩,r,hr',hEr⟩:=R.grow B b E s0 size ha
      rw [hSr] at hr'
      cases hr'
      have hEe : E = en:=by omega
      subst hEe
      rw [Nat.sub_self,Nat.zero_mul,Nat.add_zero] at hll
      have hmul : (rows.length + 1) * s0 = rows.length * s0 + s0:=by rw [Nat.add_mul,Nat.one_mul]
      have hcapm : (rows.length + 1) * s0 ≤ cap * s0:=Nat.mul_le_mul_right _ hroom
      obtain ⟨cur0,hW0,hl0,hsz0⟩:=Wr.setCells (B:=B) (t:=t') news (o + rows.length * s0) w us hw (by omega)
      obtain ⟨cur',hW1,hl1',hsz'⟩:=Wr.setCells (B:=B) (t:=t') news2 (o + rows.length * s0) _ cur0 hW0.block (by omega)
      have hW : Wr w ((w.setCells B (o + rows.length * s0) news).setCells B (o + rows.length * s0) news2) B cur' t':=
       ⟨hW1.os.trans hW0.os,hW1.tape.trans hW0.tape,hW1.output.trans hW0.output,hW1.size.trans hW0.size,hW1.block,fun k hk => (hW1.other k hk).trans (hW0.other k hk)⟩
      have hrun:=run_append_room_src w t tx ty el i ht hi B o rows.length cap y' 1 news hs hroom (fun j hj => by rw [cells_at hw]; simp; rw [hsz]; omega) (fun j hj => free_at hw _)
      rw [hsz] at hrun
      obtain ⟨us2,t2,hw2,ht2⟩:=R.rows B l hg
      rw [hw] at hw2
      simp only [Option.some.injEq,Obj.cells.injEq] at hw2
      obtain ⟨rfl,rfl,_⟩:=hw2
      obtain ⟨K',hg',ha',R',hst⟩:=R.more (n:=1) (new:=news2) hg ha hSr (by omega) hW (by
       rw [hl1',hl0,← hll]
       have hlen : (us.toList.take l.length).length = l.length:=by
        rw [ht2]
       have e1 : List.take l.length (us.toList.take l.length ++ news ++ us.toList.drop (l.length + news.length)) = l:=by
        rw [List.append_assoc,List.take_append_of_le_length (by rw [hlen]; exact Nat.le_refl _),List.take_of_length_le (by rw [hlen]; exact Nat.le_refl _),ht2]
       rw [e1,List.take_append_of_le_length (by rw [List.length_append]; omega),List.take_of_length_le (by rw [List.length_append]; omega)]) (by omega)
      refine ⟨B,o,cap,K',_,cur0,t',hrun,hW0.block,by omega,by rw [hg']; simp,?_,R',rfl,hst⟩
      have hext:=(hst (fun _ => False)).ext
      simp only [Rep]
      refine ⟨_,cap,by rw [List.length_append]; rfl,by rw [List.length_append]; exact hroom,hall',.inr ⟨B,o,olds ++ news2,rfl,?_,?_,?_⟩⟩
      ·obtain ⟨l0,hg0,hl0⟩:=hf
       rw [hg] at hg0
       cases hg0
       refine ⟨l ++ news2,hg',?_⟩
       have hvl : vs.length = rows.length * s0:=by
        rw [(RepLL.flat.1 hrl).length,flatten_length rows (fun r hr' => (hall r hr').1)]
       have hvo : vs = olds:=by
        have h1:=hold w (fun _ => rfl)
        have h2:=run_firstCells_some (P:=P) w i.size rows.length ⟨B,o,none⟩ rows.length cap vs (by rw [hsz]; exact hvl) (fun j u hj => by rw [add_none]; exact R.fix_cell ⟨l,hg,hl0⟩ j u hj)
        rw [h1] at h2
        simp only [Result.ok.injEq,and_true] at h2
        have:=congrArg Array.toList h2
        simpa using this.symm
       rw [← hvo,List.drop_append_of_le_length (by omega),List.length_append]
       have hdl : (l.drop o).length = vs.length:=by simp; omega
       rw [List.take_append,← hdl,List.take_of_length_le (by omega)]
       have : l.drop o = vs:=by
        rw [← hl0,List.take_of_length_le (by omega)]
       rw [this]
       congr 1
       rw [List.take_of_length_le (by omega)]
      ·rw [RepLL.flat]; exact RepL.ext hext _ _ hcat
      ·refine ⟨fun x hx => by rw [ha'] at hx; cases hx; rfl,⟨_,ha',rfl⟩,fun hlt2 => ?_⟩
       refine ⟨E + 1,size,l ++ news2,ha',hg',by omega,?_,hsize⟩
       rw [List.length_append,List.length_append,hll,hn2,Nat.sub_self]
       simp only [List.length_cons,List.length_nil,Nat.zero_add,hmul]
       omega
    ·refine newrow _ _ _ rfl (fun b' r hbr => ?_) (by simp only; rw [List.getElem?_set_self hb]) (by omega)
     by_cases hbb : b' = b
     ·subst hbb
      rw [hSr] at hbr
      cases hbr
      exact ⟨_,by simp only; rw [List.getElem?_set_self hb],by omega⟩
     ·exact ⟨r,by simp only; rw [List.getElem?_set_ne (fun h => hbb h.symm)]; exact hbr,Nat.le_refl _⟩
   ·simp at hv
  ·simp at hv
  ·simp at hv
 ·simp at hv
end Go.Proofs.YtmeakjgbjldkdaaGreat.Ai
namespace Go.Proofs.YtmeakjgbjldkdaaGreat.Ai
open Go
variable {P : Program} {K : Ghost} {S : St} {w : World} {v : AV}
def lateItem (it : Item) : Bool:=
 it.guard == none && match it.op with
 | .q (.mov _) | .q (.nilCheck _) | .q (.fieldAddr _ _) => true
 | .l (.store _ _ _) _ => it.dst == none
 | _ => false
theorem pure_run {q : QOp} {o : Oper} {e : Slots} {a : Act} {H : List Blk} {base : Nat} (hq : (match q with | .mov _ | .nilCheck _ | .fieldAddr _ _ => true | _ => false) = true) (hc : chkQ P o.op q = true) (E : EnvRep K e a.tmps) (hv : qval q e H base = some v) :
  ∃ u,Rep K v u ∧ ∀ w : World,(execOp a.eval o).run P w = .ok (.value u) w:=by
 obtain ⟨dst,op,type,pos,after,guard⟩:=o
 simp only at hc
 cases q <;> simp only [Bool.false_eq_true] at hq
 case mov x =>
  cases op <;> simp only [chkQ,Bool.false_eq_true] at hc
  ·simp only [qval] at hv
   exact ⟨_,opd_spec E hc hv,fun w => by simp [execOp]⟩
  ·simp only [qval] at hv
   exact ⟨_,opd_spec E hc hv,fun w => by simp [execOp]⟩
 case nilCheck x =>
  cases op <;> simp only [chkQ,Bool.false_eq_true] at hc
  simp only [qval] at hv
  split at hv
  ·rename_i n o hx
   have hr:=opd_spec E hc hx
   simp only [Option.some.injEq] at hv
   subst hv
   have hr':=hr
   simp only [Rep] at hr'
   obtain ⟨B,_,hb⟩:=hr'
   exact ⟨_,hb ▸ hr,fun w => by simp [execOp,hb]⟩
  ·rename_i cs hx
   have hr:=opd_spec E hc hx
   simp only [Option.some.injEq] at hv
   subst hv
   have hr':=hr
   simp only [Rep] at hr'
   obtain ⟨B,o,vs,hb,_⟩:=hr'
   exact ⟨_,hb ▸ hr,fun w => by simp [execOp,hb]⟩
  ·simp at hv
 case fieldAddr off x =>
  cases op <;> simp only [chkQ,Bool.false_eq_true] at hc
  rename_i T y f
  split at hc
  ·rename_i fd hs
   simp only [Bool.and_eq_true,beq_iff_eq] at hc
   obtain ⟨⟨h1,h2⟩,h3⟩:=hc
   split at h2
   ·rename_i i hi
    have key : ∀ B o,a.eval y = .pointer (some ⟨B,o,none⟩) → ∀ w : World,(execOp a.eval {dst:=dst,op:=.fieldAddr T y f,type:=type,pos:=pos,after:=after,guard:=guard}).run P w = .ok (.value (.pointer (some ⟨B,o + off,none⟩))) w:=by
     intro B o hy w
     obtain ⟨fs,hu,hfd⟩:=structAt_spec hs
     have hz : i.size ≠ 0:=by simpa using h2
     simp only [execOp,hy,Instr.fieldAt,Sem.run_bind,run_underlying hu,Result.andThen_ok,hfd,Instr.sureAddr,Sem.run_pure,fieldPlace,run_sizeOf hi]
     rw [if_neg hz]
     simp [add_none,h1]
    simp only [qval] at hv
    split at hv
    ·rename_i n o hx
     have hr:=opd_spec E h3 hx
     obtain ⟨v',g1,g2⟩:=q_fieldAddr (P:=P) (w:=(default : World)) hs h1 hi (by simpa using h2) hr hv
     have hr':=hr
     simp only [Rep] at hr'
     obtain ⟨B,_,hb⟩:=hr'
     have hk:=key B o hb default
     simp only [execOp,Sem.run_bind,g1,Result.andThen_ok,Sem.run_pure,Result.ok.injEq,Next.value.injEq,and_true] at hk
     exact ⟨_,hk ▸ g2,key B o hb⟩
    ·rename_i cs hx
     have hr:=opd_spec E h3 hx
     obtain ⟨v',g1,g2⟩:=q_fieldAddr (P:=P) (w:=(default : World)) hs h1 hi (by simpa using h2) hr hv
     have hr':=hr
     simp only [Rep] at hr'
     obtain ⟨B,o,vs,hb,_⟩:=hr'
     have hk:=key B o hb default
     simp only [execOp,Sem.run_bind,g1,Result.andThen_ok,Sem.run_pure,Result.ok.injEq,Next.value.injEq,and_true] at hk
     exact ⟨_,hk ▸ g2,key B o hb⟩
    ·simp at hv
   ·simp at h2
  ·simp at hc
theorem setCell_comm {w : World} {B o B2 o2 : Nat} {v v2 : Value} (h : B ≠ B2) : (w.setCell ⟨B,o,none⟩ v).setCell ⟨B2,o2,none⟩ v2 = (w.setCell ⟨B2,o2,none⟩ v2).setCell ⟨B,o,none⟩ v:=by
 simp only [World.setCell]
 congr 1
 apply Array.ext
 ·simp
 ·intro k h1 h2
  simp only [Array.getElem_modify]
  by_cases hk : B2 = k
  ·subst hk
   simp [h]
  ·by_cases hk2 : B = k
   ·subst hk2; simp [hk]
   ·simp [hk,hk2]
theorem setCells_comm1 {B B2 o2 : Nat} {v2 : Value} (h : B ≠ B2) : ∀ (vs : List Value) (o : Nat) (w : World),(w.setCells B o vs).setCell ⟨B2,o2,none⟩ v2 = (w.setCell ⟨B2,o2,none⟩ v2).setCells B o vs
 | [],_,_ => rfl
 | v :: vs,o,w => by
  simp only [World.setCells]
  rw [setCells_comm1 h vs (o + 1),setCell_comm h]
theorem setCells_comm {B B2 : Nat} (h : B ≠ B2) (o : Nat) (vs : List Value) : ∀ (us : List Value) (o2 : Nat) (w : World),(w.setCells B o vs).setCells B2 o2 us = (w.setCells B2 o2 us).setCells B o vs
 | [],_,_ => rfl
 | u :: us,o2,w => by
  simp only [World.setCells]
  rw [setCells_comm1 h,setCells_comm h o vs us]
theorem EnvRep.other {e : Env} {a : Act} (E : EnvRep K (eget e) a.tmps) {d : Nat} {u : Value} (h : eget e d = none) : EnvRep K (eget e) (a.put (some d) u).tmps:=by
 intro t v hv
 obtain ⟨h1,h2⟩:=E t v hv
 have hne : d ≠ t:=fun hd => by rw [hd,hv] at h; cases h
 simp only [Act.put]
 refine ⟨by simpa using h1,?_⟩
 rw [Array.getD_eq_getD_getElem?,Array.getElem?_setIfInBounds_ne hne,← Array.getD_eq_getD_getElem?]
 exact h2
theorem late_step {b0 base nt N : Nat} {cl : CallFn} {ops : Array Oper} {it : Item} {a : Act} {e e' : Env} {r : Option AV} {S' : St} {B o : Nat} {vs : List Value} {cur : Array Value} {tt : TypeId} (hl : lateItem it = true) (hc : chkItem P ops nt it = true)
  (R : Rel K S (w.setCells B o vs)) (hW : w.heap[B]? = some (.cells cur tt (0,0))) (hroom : o + vs.length ≤ cur.size) (hg : K.g B ≠ none) (E : EnvRep K (eget e) a.tmps) (hnt : nt ≤ a.tmps.size) (hs : step b0 cl base it e S = some (r,e',S')) :
  r = none ∧ ∃ u w1,(∀ (Kont : Act → World → Prop) Q,Kont (a.put it.dst u) w1 → wpOp P ops Q it.ix Kont a w) ∧ Rel K S' (w1.setCells B o vs) ∧ EnvRep K (eget e') (a.put it.dst u).tmps ∧ w1.heap[B]? = some (.cells cur tt (0,0)) ∧
   Step K (fun n => n < N) (w.setCells B o vs) K (w1.setCells B o vs) ∧ Keeps b0 S S':=by
 unfold chkItem at hc
 split at hc
 ·rename_i oo ho
  simp only [Bool.and_eq_true,beq_iff_eq] at hc
  obtain ⟨⟨⟨h1,h2⟩,h3⟩,h4⟩:=hc
  have hd : ∀ t,it.dst = some t → t < a.tmps.size:=fun t ht => by
   rw [ht] at h2
   simp only [decide_eq_true_eq] at h2
   omega
  simp only [lateItem,Bool.and_eq_true,beq_iff_eq] at hl
  obtain ⟨hgd,hl⟩:=hl
  have hwant : Region.wanted oo (yielded ops a.tmps) = true:=wanted_sim h3 E (by rw [hgd]; rfl)
  have hw0 : wanted it.guard (eget e) = some true:=by rw [hgd]; rfl
  unfold step at hs
  rw [hw0] at hs
  simp only at hs
  have fin : ∀ (u : Value) (w1 : World) (nx : Next),(execOp a.eval oo).run P w = .ok nx w1 → (nx = .value u ∨ (nx = .skip ∧ u = Go.undef)) → ∀ (Kont : Act → World → Prop) Q,Kont (a.put it.dst u) w1 → wpOp P ops Q it.ix Kont a w:=by
   intro u w1 nx hrun hnx Kont Q hk
   unfold wpOp
   simp only [ho,hwant,if_true]
   left
   unfold Oper.wp
   rw [hrun]
   rcases hnx with rfl | ⟨rfl,rfl⟩
   ·rw [Oper.upon_value,h1]; exact hk
   ·rw [Oper.upon_skip,h1]; exact hk
  split at hs
  ·rename_i q hq
   rw [hq] at h4 hl
   simp only at h4
   split at hs
   ·rename_i v hv
    simp only [Option.some.injEq,Prod.mk.injEq] at hs
    obtain ⟨rfl,rfl,rfl⟩:=hs
    obtain ⟨u,hr,hrun⟩:=pure_run (q:=q) (by
     cases q <;> first | rfl | simp at hl) h4 E hv
    exact ⟨rfl,u,w,fin u w _ (hrun w) (.inl rfl),R,E.put hr it.dst hd,hW,Step.refl _ _ _,keeps_refl _ _⟩
   ·simp at hs
  ·rename_i l re hlop
   rw [hlop] at h4 hl
   simp only at h4
   cases l <;> simp only [Bool.false_eq_true,beq_iff_eq] at hl
   rename_i k x' y'
   split at hs
   ·rename_i v S1 hv
    simp only [Option.some.injEq,Prod.mk.injEq] at hs
    obtain ⟨rfl,rfl,rfl⟩:=hs
    obtain ⟨odst,op,type,pos,after,guard⟩:=oo
    simp only at h4
    cases op <;> simp only [chkL,Bool.false_eq_true,Bool.and_eq_true] at h4
    rename_i T x y
    obtain ⟨⟨g1,g2⟩,g3⟩:=h4
    split at g1
    ·rename_i i hi
     simp only [beq_iff_eq] at g1
     simp only [lval] at hv
     split at hv
     ·rename_i n off u hx hy
      split at hv
      ·rename_i cs hb
       split at hv
       ·rename_i hcond
        obtain ⟨c1,c2,c3,c4⟩:=hcond
        simp only [Option.some.injEq,Prod.mk.injEq,Res.ret.injEq] at hv
        obtain ⟨rfl,rfl⟩:=hv
        have hp:=opd_spec E g2 hx
        have hxr:=opd_spec E g3 hy
        obtain ⟨w',hrun,R',hst⟩:=l_store (P:=P) R hi g1 hp hxr hb c1 c2 c3 (fun n => n < N)
        have hp':=hp
        simp only [Rep] at hp'
        obtain ⟨B2,hm,hpv⟩:=hp'
        have hBB : B ≠ B2:=by
         rintro rfl
         exact hg (R.sep n B hm)
        obtain ⟨us,t2,hw2,hr2⟩:=R.cells n B2 cs hm hb
        obtain ⟨cur1,hW1,_,_⟩:=Wr.setCells (B:=B) (t:=tt) vs o w cur hW hroom
        have hw2' : w.heap[B2]? = some (.cells us t2 (0,0)):=by rw [← hW1.other B2 (fun h => hBB h.symm)]; exact hw2
        have hcc:=hxr.cells c2
        have hcl:=hcc.length
        have hrl:=hr2.length
        simp only [Array.length_toList] at hcl hrl
        have runAt : ∀ (w2 : World),w2.heap[B2]? = some (.cells us t2 (0,0)) → (Instr.storeAt T (a.eval x) (a.eval y)).run P w2 = .ok () (w2.setCells B2 off (a.eval y).cells.toList):=by
         intro w2 hh
         have h:=run_storeCells_cells (P:=P) B2 off (a.eval y).cells.toList 0 w2 (fun j hj => by rw [Nat.add_zero,cells_at hh]; simp at hj ⊢; omega) (fun j hj => free_at hh _) (fun u hu => hcc.oneCell u hu)
         simp only [Nat.add_zero] at h
         simp only [hpv,Instr.storeAt,Instr.sureAddr,Sem.run_bind,Sem.run_pure,Result.andThen_ok,storeVar,run_sizeOf hi]
         rw [if_neg (by omega)]
         simpa using h
        have hw'e : w' = (w.setCells B2 off (a.eval y).cells.toList).setCells B o vs:=by
         have h3:=runAt _ hw2
         rw [hrun] at h3
         simp only [Result.ok.injEq,true_and] at h3
         rw [h3,setCells_comm hBB]
        subst hw'e
        obtain ⟨cur2,hWb,_,_⟩:=Wr.setCells (B:=B2) (t:=t2) (a.eval y).cells.toList off w us hw2' (by simp; omega)
        refine ⟨rfl,Go.undef,w.setCells B2 off (a.eval y).cells.toList,fin Go.undef _ .skip ?_ (.inr ⟨rfl,rfl⟩),R',?_,?_,hst,keeps_store hb c4 (Rep.below R _ _ (opd_spec E g3 hy))⟩
        ·simp [execOp,runAt w hw2']
        ·exact E.put (by simp [Rep,Go.undef]) it.dst hd
        ·rw [hWb.other B hBB]; exact hW
       ·simp at hv
      ·simp at hv
     ·simp at hv
    ·simp at g1
   ·rename_i v S1 hv
    exfalso
    simp only [lval] at hv
    split at hv
    ·split at hv
     ·split at hv
      ·simp at hv
      ·simp at hv
     ·simp at hv
    ·simp at hv
   ·simp at hs
 ·simp at hc
end Go.Proofs.YtmeakjgbjldkdaaGreat.Ai
namespace Go.Proofs.YtmeakjgbjldkdaaGreat.Ai
open Go
variable {P : Program}
theorem unl_set {l : Array Bool} {j : Nat} (hj : j < l.size) (i : Nat) : (l.setIfInBounds j true).getD i true = false ↔ i ≠ j ∧ l.getD i true = false:=by
 by_cases h : j = i
 ·subst h
  simp [Array.getD,hj]
 ·rw [getD_set_ne true h]
  constructor
  ·exact fun hh => ⟨fun e => h e.symm,hh⟩
  ·exact fun hh => hh.2
theorem down_set {ops : Array Oper} {listed : Array Bool} {j : Nat} {o : Oper} (hd : Down ops listed) (ho : ops[j]? = some o) (hp : ∀ e ∈ o.after.toList,Region.binds .any e = true → listed.getD e.on false = true) : Down ops (listed.setIfInBounds j true):=by
 intro i oj ej hoj hlj hej hbj
 by_cases hjx : j = i
 ·subst hjx
  rw [ho] at hoj
  cases hoj
  exact getD_set_true (hp ej hej hbj)
 ·rw [getD_set_ne false hjx] at hlj
  exact getD_set_true (hd i oj ej hoj hlj hej hbj)
theorem late_none {b0 base : Nat} {cl : CallFn} : ∀ {R prev : List Item} {e e' : Env} {S S' : St} {r : Option AV},(∀ it ∈ R,lateItem it = true) → run b0 cl base prev R e S = some (r,e',S') → r = none
 | [],prev,e,e',S,S',r,_,h => by
  simp only [run,Option.some.injEq,Prod.mk.injEq] at h
  exact h.1.symm
 | it :: R,prev,e,e',S,S',r,hl,h => by
  simp only [run] at h
  split at h
  ·simp at h
  ·rename_i v e1 S1 hs
   exfalso
   have hit:=hl it (by simp)
   simp only [lateItem,Bool.and_eq_true,beq_iff_eq] at hit
   unfold step at hs
   split at hs
   ·simp at hs
   ·simp at hs
   ·split at hs
    ·split at hs <;> simp at hs
    ·rename_i l re hlop
     rw [hlop] at hit
     cases l <;> simp only [Bool.false_eq_true,and_false] at hit
     simp only [lval] at hs
     split at hs
     ·simp at hs
     ·rename_i v1 S2 hv
      split at hv
      ·split at hv
       ·split at hv <;> simp at hv
       ·simp at hv
      ·simp at hv
     ·simp at hs
  ·split at h
   ·exact late_none (fun x hx => hl x (List.mem_cons_of_mem _ hx)) h
   ·simp at h
theorem late_pend {K : Ghost} {base : Nat} {S : St} {R : List Item} (hl : ∀ it ∈ R,lateItem it = true) : Pend K base S R:=by
 have hno : ∀ it ∈ R,it.alloc? = none:=by
  intro it hi
  have hit:=hl it hi
  simp only [lateItem,Bool.and_eq_true] at hit
  unfold Item.alloc?
  split
  ·rename_i hop; rw [hop] at hit; simp at hit
  ·rfl
 refine ⟨fun it hi n hn => ?_,fun it hi n hn => ?_,?_⟩
 ·obtain ⟨j,hj,_⟩:=makes_iff.1 hn
  rw [hno it hi] at hj; cases hj
 ·obtain ⟨j,hj,_⟩:=makes_iff.1 hn
  rw [hno it hi] at hj; cases hj
 ·have : R.filterMap Item.alloc? = []:=by
   rw [List.filterMap_eq_nil_iff]; exact hno
  rw [this]; exact List.nodup_nil
theorem late_run {b0 base nt N : Nat} {cl : CallFn} {ops : Array Oper} {Q : Exit → Act → World → Prop} {md : Region.Mode} {tab M : List Nat} (hcl : CallSim P cl) (hmd : ∀ e,Region.binds .any e = true → Region.binds md e = true)
  (hok : okBef ops tab = true) (hM : linB md ops M = true) {j9 j10 d9 B o : Nat} {vs : List Value} {tt : TypeId} {Ev : Act → Prop} {dsts : Nat → Prop}
  (hj : j9 ≠ j10) (hj9 : j9 < ops.size) (hj10 : j10 < ops.size) (h910 : (tab.getD j10 0).testBit j9 = true) (hEv : ∀ a' d u,Ev a' → dsts d → Ev (a'.put (some d) u)) (hd9 : dsts d9) (hd9nt : d9 < nt)
  (h9 : ∀ a' w',Ev a' → ∀ (Kont : Act → World → Prop) Q,Kont (a'.put (some d9) (.pointer (some ⟨B,o,none⟩))) w' → wpOp P ops Q j9 Kont a' w')
  (h10 : ∀ a' w' cur,Ev a' → a'.tmps.getD d9 Go.undef = .pointer (some ⟨B,o,none⟩) → w'.heap[B]? = some (.cells cur tt (0,0)) → o + vs.length ≤ cur.size → ∀ (Kont : Act → World → Prop) Q,Kont a' (w'.setCells B o vs) → wpOp P ops Q j10 Kont a' w') :
  ∀ (m : Nat) (R : List Item) (f9 : Bool) (listed : Array Bool) (K : Ghost) (S : St) (w : World) (a : Act) (e e' : Env) (r : Option AV) (S' : St) (cur : Array Value),m = R.length + (if f9 = true then 1 else 2) → listed.size = ops.size → Down ops listed →
  (∀ i,listed.getD i true = false ↔ i ∈ R.map (·.ix) ∨ (i = j9 ∧ f9 = false) ∨ i = j10) → (R.map (·.ix)).Nodup → j9 ∉ R.map (·.ix) → j10 ∉ R.map (·.ix) →
  List.Pairwise (fun k x => pairB tab k x = true) R → List.Pairwise (fun k x => (tab.getD x.ix 0).testBit k.ix = true) R → (∀ k ∈ R,selfB k = true) → (∀ it ∈ R,chkItem P ops nt it = true) → (∀ it ∈ R,lateItem it = true) → (∀ it ∈ R,∀ d,it.dst = some d → dsts d ∧ d ≠ d9) →
  Rel K S (w.setCells B o vs) → Inner S.heap.length S → EnvRep K (eget e) a.tmps → eget e d9 = none → nt ≤ a.tmps.size → b0 ≤ S.heap.length → N ≤ S.heap.length → N ≤ base → K.g B ≠ none → w.heap[B]? = some (.cells cur tt (0,0)) → o + vs.length ≤ cur.size → Ev a →
  (f9 = true → a.tmps.getD d9 Go.undef = .pointer (some ⟨B,o,none⟩)) → run b0 cl base [] R e S = some (r,e',S') →
  (∀ a' w' K',Rel K' S' w' → EnvRep K' (eget e') a'.tmps → a'.tmps.size = a.tmps.size → a'.defers = a.defers → Step K (fun n => n < N) (w.setCells B o vs) K' w' → Keeps b0 S S' → Q .normal a' w') →
  wpAny P md ops Q m listed a w:=by
 intro m
 induction m with
 | zero =>
  intro R f9 listed K S w a e e' r S' cur hm
  split at hm <;> omega
 | succ m ih =>
  intro R f9 listed K S w a e e' r S' cur hm hls hd hun hnd hn9 hn10 hpw hch hself hc hlate hdst Rl hsc E he9 hnt hb0 hN hNb hg hW hroom hev hp9 hrun hk
  refine ⟨fun hr => ?_,fun i hi => ?_⟩
  ·exfalso
   simp only [linB,Bool.and_eq_true,List.all_eq_true] at hM
   have hMj:=hM.2 j10 (List.mem_range.2 hj10)
   obtain ⟨j,hjj⟩:=lin_ready hls M [] hM.1 (by simp) ⟨j10,by simpa using hMj,(hun j10).2 (.inr (.inr rfl))⟩
   rw [hr] at hjj
   cases hjj
  ·obtain ⟨hil,oo,ho,hpre⟩:=mem_ready.1 hi
   have hpre' : ∀ e ∈ oo.after.toList,Region.binds .any e = true → listed.getD e.on false = true:=fun e he hb => hpre e (by simpa using he) (hmd e hb)
   have hbef:=bef_spec hok hd i oo ho hpre'
   have hix : i < listed.size:=by rw [hls]; exact (Array.getElem?_eq_some_iff.1 ho).1
   have hno : ∀ k,(tab.getD i 0).testBit k = true → listed.getD k true = true:=fun k hk => by
    have h1:=hbef k hk
    have hk2 : k < listed.size:=by
     rcases Nat.lt_or_ge k listed.size with h | h
     ·exact h
     ·simp [Array.getD,Nat.not_lt.2 h] at h1
    have : listed.getD k true = listed.getD k false:=by simp [Array.getD,hk2]
    rw [this,h1]
   have hdn:=down_set hd ho hpre'
   rcases (hun i).1 hil with hiR | ⟨rfl,hf9⟩ | rfl
   ·obtain ⟨x,hx,rfl⟩:=List.mem_map.1 hiR
    obtain ⟨A,Bk,rfl⟩:=List.append_of_mem hx
    have hA : A = []:=by
     cases A with
     | nil => rfl
     | cons k A =>
      exfalso
      have hb:=(List.pairwise_append.1 hch).2.2 k (by simp) x (by simp)
      have h1:=hno k.ix hb
      have h2:=(hun k.ix).2 (.inl (by simp))
      rw [h1] at h2
      cases h2
    subst hA
    simp only [List.nil_append] at *
    simp only [run] at hrun
    have hs : ∃ o1 e1 S1,step b0 cl base x e S = some (o1,e1,S1):=by
     split at hrun
     ·simp at hrun
     ·rename_i h; exact ⟨_,_,_,h⟩
     ·rename_i h; exact ⟨_,_,_,h⟩
    obtain ⟨o1,e1,S1,hs⟩:=hs
    obtain ⟨rfl,u,w1,hwp,R1,E1,hW1,hst1,hkp1⟩:=late_step (N:=N) (hlate x (by simp)) (hc x (by simp)) Rl hW hroom hg E hnt hs
    rw [hs] at hrun
    simp only at hrun
    split at hrun
    ·obtain ⟨e2,hrun2,he2⟩:=run_sub Bk [x] [] (fun k hk => by simp at hk) rfl hrun
     refine hwp _ _ ?_
     have he9' : eget e1 d9 = none:=by
      rcases step_congr (e1:=e) (fun t _ => rfl) hs with ⟨_,h,_⟩ | ⟨v',_,h1,_⟩
      ·cases h
      ·rw [h1,eget_put (fun h => (hdst x (by simp) d9 h).2 rfl)]; exact he9
     have hsz : (a.put x.dst u).tmps.size = a.tmps.size:=by cases x.dst <;> simp [Act.put]
     have hdf : (a.put x.dst u).defers = a.defers:=by cases x.dst <;> simp [Act.put]
     have hnd':=hnd
     rw [List.map_cons,List.nodup_cons] at hnd'
     refine ih Bk f9 (listed.setIfInBounds x.ix true) K S1 w1 (a.put x.dst u) e1 e2 r S' cur ?_ (by simpa using hls) hdn ?_ hnd'.2 ?_ ?_ (List.pairwise_cons.1 hpw).2 (List.pairwise_cons.1 hch).2 (fun k hk => hself k (by simp [hk])) (fun k hk => hc k (by simp [hk])) (fun k hk => hlate k (by simp [hk])) (fun k hk => hdst k (by simp [hk]))
      R1 (hkp1.2.2 hsc) E1 he9' (by omega) (by have:=hkp1.1; omega) (by have:=hkp1.1; omega) hNb hg hW1 hroom ?_ ?_ hrun2 ?_
     ·simp only [List.length_cons] at hm; omega
     ·intro j
      rw [unl_set hix,hun j]
      simp only [List.map_cons,List.mem_cons]
      constructor
      ·rintro ⟨h1,(h | h) | h | h⟩
       ·exact absurd h h1
       ·exact .inl h
       ·exact .inr (.inl h)
       ·exact .inr (.inr h)
      ·rintro (h | h | h)
       ·exact ⟨fun hj => hnd'.1 (hj ▸ h),.inl (.inr h)⟩
       ·exact ⟨fun hj => hn9 (by simp [← h.1,hj]),.inr (.inl h)⟩
       ·exact ⟨fun hj => hn10 (by simp [← h,hj]),.inr (.inr h)⟩
     ·intro h; exact hn9 (by simp at h ⊢; exact .inr h)
     ·intro h; exact hn10 (by simp at h ⊢; exact .inr h)
     ·cases hxd : x.dst with
      | none => exact hev
      | some d => exact hEv a d u hev (hdst x (by simp) d hxd).1
     ·intro hf
      rw [← hp9 hf]
      cases hxd : x.dst with
      | none => rfl
      | some d =>
       have hne:=(hdst x (by simp) d hxd).2
       simp only [Act.put]
       rw [Array.getD_eq_getD_getElem?,Array.getElem?_setIfInBounds_ne hne,← Array.getD_eq_getD_getElem?]
     ·intro a' w' K' R' E' hsz' hdf' hst' hkp'
      exact hk a' w' K' R' (by rw [he2]; exact E') (by omega) (hdf'.trans hdf) (hst1.trans hst' (fun _ h => h)) (hkp1.trans hkp')
    ·simp at hrun
   ·
    refine h9 a w hev _ _ ?_
    have hsz : (a.put (some d9) (.pointer (some ⟨B,o,none⟩))).tmps.size = a.tmps.size:=by simp [Act.put]
    refine ih R true (listed.setIfInBounds i true) K S w _ e e' r S' cur ?_ (by simpa using hls) hdn ?_ hnd hn9 hn10 hpw hch hself hc hlate hdst Rl hsc (E.other he9) he9 (by omega) hb0 hN hNb hg hW hroom (hEv a d9 _ hev hd9) ?_ hrun ?_
    ·subst hf9
     simp only [Bool.false_eq_true,if_false] at hm
     simp only [if_true]
     omega
    ·intro j
     rw [unl_set hix,hun j]
     constructor
     ·rintro ⟨h1,h | h | h⟩
      ·exact .inl h
      ·exact absurd h.1 h1
      ·exact .inr (.inr h)
     ·rintro (h | h | h)
      ·exact ⟨fun hj => hn9 (hj ▸ h),.inl h⟩
      ·simp at h
      ·exact ⟨fun h' => hj (by rw [← h',h]),.inr (.inr h)⟩
    ·intro _
     simp only [Act.put]
     rw [Array.getD_eq_getD_getElem?,Array.getElem?_setIfInBounds_self_of_lt (by omega)]
     rfl
    ·intro a' w' K' R' E' hsz' hdf' hst' hkp'
     exact hk a' w' K' R' E' (by omega) hdf' hst' hkp'
   ·
    have hf9 : f9 = true:=by
     cases f9 with
     | true => rfl
     | false =>
      exfalso
      have h1:=hno j9 h910
      have h2:=(hun j9).2 (.inr (.inl ⟨rfl,rfl⟩))
      rw [h1] at h2
      cases h2
    subst hf9
    refine h10 a w cur hev (hp9 rfl) hW hroom _ _ ?_
    have hrn:=late_none hlate hrun
    refine run_draw (N:=N) hcl hmd hok hM m R (listed.setIfInBounds i true) K S _ a e e' r S' (by simp only [if_true] at hm; omega) (by simpa using hls) hdn ?_ hnd hpw hself hc Rl hsc E hnt hb0 hN (late_pend hlate) hNb hrun ?_ ?_
    ·intro j
     rw [unl_set hix,hun j]
     constructor
     ·rintro ⟨h1,h | h | h⟩
      ·exact h
      ·simp at h
      ·exact absurd h h1
     ·intro h
      exact ⟨fun hj => hn10 (hj ▸ h),.inl h⟩
    ·intro a' w' K' _ R' E' hsz' hdf' hst' hkp'
     exact hk a' w' K' R' E' hsz' hdf' hst' hkp'
    ·intro v u a' w' K' hr
     rw [hrn] at hr
     cases hr
end Go.Proofs.YtmeakjgbjldkdaaGreat.Ai
namespace Go.Proofs.YtmeakjgbjldkdaaGreat.Ai
open Go
variable {P : Program}
def app1B (P : Program) (ops : Array Oper) (nt : Nat) (x : Item) (d8 : Nat) (sz by_ : Nat) (a y i z : Opd) (d j9 j10 : Nat) : Bool:=
 x.dst == some d8 && x.guard == none && decide (d8 < nt) && decide (d < nt) && d != d8 && !i.reads.contains d8 && !z.reads.contains d8 && !i.reads.contains d && !z.reads.contains d && decide (0 < sz) &&
 (match ops[x.ix]? with
 | some o => o.dst == some d8 && guardB ops o.guard none && (match o.op with
  | .call c => (match c.callee with
   | .builtin .append => (match c.args.toList,c.argTypes.toList with
    | [x',y'],[t,tx] => appB P t tx sz by_ && opdB a x' && opdB y y'
    | _,_ => false)
   | _ => false)
  | _ => false)
 | none => false) &&
 (match ops[j9]? with
 | some o => o.dst == some d && guardB ops o.guard none && (match o.op with
  | .indexAddr T (.tmp t) i' => t == d8 && sliceB P T sz && opdB i i'
  | _ => false)
 | none => false) &&
 (match ops[j10]? with
 | some o => o.dst == none && guardB ops o.guard none && (match o.op with
  | .store T (.tmp t) z' => t == d && (match P.info? T with | some ti => ti.size == sz | none => false) && opdB z z'
  | _ => false)
 | none => false)
theorem closed_cells {v : AV} (h : closed1 v = true) : closedL v.cells = true:=by
 cases v <;> first | exact h | (simp only [AV.cells,closedL,Bool.and_true]; exact h)
theorem eval_put {a : Act} {d : Nat} {u : Value} {x : Opd} {y : Operand} (h : opdB x y = true) (hd : d ∉ x.reads) : (a.put (some d) u).eval y = a.eval y:=by
 cases y with
 | tmp t =>
  cases x with
  | tmp t' =>
   simp only [opdB,beq_iff_eq] at h
   subst h
   have hne : d ≠ t':=fun hh => hd (by simp [Opd.reads,hh])
   simp only [Act.put,Act.eval]
   rw [Array.getD_eq_getD_getElem?,Array.getElem?_setIfInBounds_ne hne,← Array.getD_eq_getD_getElem?]
  | const v => simp [opdB] at h
 | _ => rfl
theorem wpOp_of {ops : Array Oper} {Q : Exit → Act → World → Prop} {j : Nat} {o : Oper} {Kont : Act → World → Prop} {a : Act} {w : World} (ho : ops[j]? = some o) (hg : guardB ops o.guard none = true) (h : o.wp P a w Kont Q) : wpOp P ops Q j Kont a w:=by
 unfold wpOp
 simp only [ho]
 have : Region.wanted o (yielded ops a.tmps) = true:=by
  unfold guardB at hg
  split at hg
  ·rename_i h1 _; simp [Region.wanted,h1]
  ·rename_i h2; simp at h2
  ·simp at hg
 rw [this]
 simp only [if_true]
 exact .inl h
theorem app1_sim {b0 base nt : Nat} {cl : CallFn} {ops : Array Oper} {x : Item} {d8 sz by_ : Nat} {ax yx ix zx : Opd} {d j9 j10 : Nat} {re : List Nat} (hc : app1B P ops nt x d8 sz by_ ax yx ix zx d j9 j10 = true) (hop : x.op = .l (.append1 sz by_ ax yx ix zx d j9 j10) re)
  {K : Ghost} {S S' : St} {w : World} {a : Act} {e e' : Env} {r : Option AV} (R : Rel K S w) (E : EnvRep K (eget e) a.tmps) (hnt : nt ≤ a.tmps.size) (hs : step b0 cl base x e S = some (r,e',S')) :
  r = none ∧ eget e' d = none ∧ ∃ (B o : Nat) (u : Value) (vs : List Value) (K' : Ghost) (w' : World) (cur : Array Value) (tt : TypeId) (Ev : Act → Prop),
   (∀ (Kont : Act → World → Prop) Q,Kont (a.put (some d8) u) w' → wpOp P ops Q x.ix Kont a w) ∧ Ev (a.put (some d8) u) ∧
   (∀ a' t v,Ev a' → t ≠ d8 ∧ t ∉ ix.reads ∧ t ∉ zx.reads → Ev (a'.put (some t) v)) ∧
   (∀ a' w',Ev a' → ∀ (Kont : Act → World → Prop) Q,Kont (a'.put (some d) (.pointer (some ⟨B,o,none⟩))) w' → wpOp P ops Q j9 Kont a' w') ∧
   (∀ a' w' cur,Ev a' → a'.tmps.getD d Go.undef = .pointer (some ⟨B,o,none⟩) → w'.heap[B]? = some (.cells cur tt (0,0)) → o + vs.length ≤ cur.size → ∀ (Kont : Act → World → Prop) Q,Kont a' (w'.setCells B o vs) → wpOp P ops Q j10 Kont a' w') ∧
   w'.heap[B]? = some (.cells cur tt (0,0)) ∧ o + vs.length ≤ cur.size ∧ K'.g B ≠ none ∧ Rel K' S' (w'.setCells B o vs) ∧ EnvRep K' (eget e') (a.put (some d8) u).tmps ∧ S'.heap = S.heap ∧ ∀ X,Step K X w K' (w'.setCells B o vs):=by
 unfold app1B at hc
 simp only [Bool.and_eq_true,beq_iff_eq,decide_eq_true_eq,bne_iff_ne,ne_eq,Bool.not_eq_true',List.contains_eq_mem,decide_eq_false_iff_not] at hc
 obtain ⟨⟨⟨⟨⟨⟨⟨⟨⟨⟨⟨⟨hd8,hgd⟩,hd8nt⟩,hdnt⟩,hdd8⟩,hi8⟩,hz8⟩,hid⟩,hzd⟩,hszp⟩,hx8⟩,hx9⟩,hx10⟩:=hc
 unfold step at hs
 rw [hgd,hop] at hs
 simp only [wanted,lval] at hs
 split at hs
 ·rename_i v1 S1 hlv
  split at hlv
  ·rename_i s0 tag rows szb tagb rowsb n v ha hy hi hz
   split at hlv
   ·rename_i hcond
    obtain ⟨hn,rfl,hyl,hvl,hcl,hok,hed⟩:=hcond
    split at hlv
    ·rename_i v2 S2 happ
     simp only [Option.some.injEq,Prod.mk.injEq,Res.ret.injEq] at hlv hs
     obtain ⟨rfl,rfl⟩:=hlv
     obtain ⟨rfl,rfl,rfl⟩:=hs
     split at hx8
     ·rename_i o8 ho8
      simp only [Bool.and_eq_true,beq_iff_eq] at hx8
      obtain ⟨⟨hdst8,hg8⟩,hx8⟩:=hx8
      obtain ⟨odst,op,type,pos,after,guard⟩:=o8
      simp only at hdst8 hg8 hx8
      split at hx8
      ·rename_i c
       split at hx8
       ·rename_i hcal
        split at hx8
        ·rename_i x' y' t tx hargs hts
         simp only [Bool.and_eq_true] at hx8
         obtain ⟨⟨h1,h2⟩,h3⟩:=hx8
         unfold appB at h1
         split at h1
         ·rename_i el e' hu hux
          split at h1
          ·rename_i i hii
           simp only [Bool.and_eq_true,beq_iff_eq] at h1
           obtain ⟨⟨hsz,hby⟩,h1⟩:=h1
           split at h1
           ·rename_i zv hzv
            simp only [beq_iff_eq] at h1
            split at hx10
            ·rename_i o10 ho10
             simp only [Bool.and_eq_true,beq_iff_eq] at hx10
             obtain ⟨⟨hdst10,hg10⟩,hx10⟩:=hx10
             obtain ⟨odst10,op10,type10,pos10,after10,guard10⟩:=o10
             simp only at hdst10 hg10 hx10
             split at hx10
             ·rename_i T10 t10 z'
              simp only [Bool.and_eq_true,beq_iff_eq] at hx10
              obtain ⟨⟨rfl,hT10⟩,hz'⟩:=hx10
              split at hT10
              ·rename_i ti hti
               simp only [beq_iff_eq] at hT10
               split at hx9
               ·rename_i o9 ho9
                simp only [Bool.and_eq_true,beq_iff_eq] at hx9
                obtain ⟨⟨hdst9,hg9⟩,hx9⟩:=hx9
                obtain ⟨odst9,op9,type9,pos9,after9,guard9⟩:=o9
                simp only at hdst9 hg9 hx9
                split at hx9
                ·rename_i T9 t9 i'
                 simp only [Bool.and_eq_true,beq_iff_eq] at hx9
                 obtain ⟨⟨rfl,hT9⟩,hi'⟩:=hx9
                 have hzr:=opd_spec E hz' hz
                 have hir:=opd_spec E hi' hi
                 simp only [Rep] at hir
                 obtain ⟨B,o,cap',K',w',cur,tt,hrun,hW,hroom,hg,hrep,R',hh,hst⟩:=l_append1 (P:=P) (ty:=type) R hu hii hzv hsz h1 hby hux (opd_spec E h2 ha) (opd_spec E h3 hy) hyl
                  (hzr.cells hok).canon ⟨by simp [canonL,hvl],by rw [closedL_canon]; exact closed_cells hcl⟩ happ
                 have hargs' : c.args = #[x',y']:=by apply Array.ext'; simpa using hargs
                 have hts' : c.argTypes = #[t,tx]:=by apply Array.ext'; simpa using hts
                 have hvs : ((a.eval z').cells.toList).length = szb:=by
                  have:=(hzr.cells hok).length
                  rw [this,hvl]
                 refine ⟨rfl,?_,B,o + rows.length * szb,.slice (some ⟨B,o,none⟩) (rows.length + 1) cap',(a.eval z').cells.toList,K',w',cur,tt,
                  (fun a' => a'.eval (.tmp t9) = .slice (some ⟨B,o,none⟩) (rows.length + 1) cap' ∧ a'.eval i' = .int .i64 n ∧ a'.eval z' = a.eval z'),?_,?_,?_,?_,?_,hW,by omega,hg,R',?_,hh,hst⟩
                 ·rw [eget_put (by rw [hd8]; intro h; exact hdd8 (Option.some.inj h).symm)]
                  exact hed
                 ·intro Kont Q hK
                  refine wpOp_of ho8 hg8 ?_
                  unfold Oper.wp
                  have hrun' : (execOp a.eval {dst:=odst,op:=.call c,type:=type,pos:=pos,after:=after,guard:=guard}).run P w = .ok (.value (.slice (some ⟨B,o,none⟩) (rows.length + 1) cap')) w':=by
                   simp [execOp,resolve,hcal,hargs',hts',invoke,builtin,hrun]
                  rw [hrun',Oper.upon_value]
                  simp only
                  rw [hdst8]
                  exact hK
                 ·refine ⟨?_,?_,?_⟩
                  ·simp only [Act.put,Act.eval]
                   rw [Array.getD_eq_getD_getElem?,Array.getElem?_setIfInBounds_self_of_lt (by omega)]
                   rfl
                  ·rw [eval_put hi' hi8]; exact hir
                  ·rw [eval_put hz' hz8]
                 ·rintro a' t v' ⟨e1,e2,e3⟩ ⟨n1,n2,n3⟩
                  refine ⟨?_,by rw [eval_put hi' n2]; exact e2,by rw [eval_put hz' n3]; exact e3⟩
                  rw [← e1]
                  simp only [Act.put,Act.eval]
                  rw [Array.getD_eq_getD_getElem?,Array.getElem?_setIfInBounds_ne n1,← Array.getD_eq_getD_getElem?]
                 ·rintro a' w1 ⟨e1,e2,e3⟩ Kont Q hK
                  refine wpOp_of ho9 hg9 ?_
                  unfold Oper.wp
                  obtain ⟨el9,ti9,hu9,hi9,hsz9⟩:=sliceB_spec hT9
                  have hrun9 : (execOp a'.eval {dst:=odst9,op:=.indexAddr T9 (.tmp t9) i',type:=type9,pos:=pos9,after:=after9,guard:=guard9}).run P w1 = .ok (.value (.pointer (some ⟨B,o + rows.length * szb,none⟩))) w1:=by
                   have hn0 : n.toNat = rows.length:=by omega
                   simp only [execOp,e1,e2,Instr.indexAt,asIntOf,Sem.run_bind,Sem.run_pure,Result.andThen_ok,run_underlying hu9]
                   simp only [Bool.and_false,Bool.false_eq_true,if_false,Sem.run_ite,Sem.run_bind,run_sizeOf hi9,Result.andThen_ok,Sem.run_pure,hsz9,add_none]
                   rw [if_pos (by omega),hn0]
                   rfl
                  rw [hrun9,Oper.upon_value]
                  simp only
                  rw [hdst9]
                  exact hK
                 ·rintro a' w1 cur1 ⟨e1,e2,e3⟩ hp hW1 hr1 Kont Q hK
                  refine wpOp_of ho10 hg10 ?_
                  unfold Oper.wp
                  have hptr : a'.eval (.tmp t10) = .pointer (some ⟨B,o + rows.length * szb,none⟩):=hp
                  have hrun10 : (execOp a'.eval {dst:=odst10,op:=.store T10 (.tmp t10) z',type:=type10,pos:=pos10,after:=after10,guard:=guard10}).run P w1 = .ok .skip (w1.setCells B (o + rows.length * szb) (a.eval z').cells.toList):=by
                   have h:=run_storeCells_cells (P:=P) B (o + rows.length * szb) (a.eval z').cells.toList 0 w1 (fun j hj => by rw [Nat.add_zero,cells_at hW1]; simp only [Array.length_toList] at hj hr1; simp; omega) (fun j hj => free_at hW1 _) (fun u hu => (hzr.cells hok).oneCell u hu)
                   simp only [Nat.add_zero] at h
                   have hszz : (a.eval z').cells.size = szb:=by simpa using hvs
                   simp only [execOp,hptr,e3,Instr.storeAt,Instr.sureAddr,Sem.run_bind,Sem.run_pure,Result.andThen_ok,storeVar,run_sizeOf hti]
                   rw [if_neg (by omega)]
                   simp [h]
                  rw [hrun10,Oper.upon_skip]
                  simp only
                  rw [hdst10]
                  exact hK
                 ·have:=(E.ext (hst (fun _ => False)).ext).put hrep x.dst (fun t ht => by rw [hd8] at ht; cases ht; omega)
                  rw [hd8] at this ⊢
                  exact this
                ·simp at hx9
               ·simp at hx9
              ·simp at hT10
             ·simp at hx10
            ·simp at hx10
           ·simp at h1
          ·simp at h1
         ·simp at h1
        ·simp at hx8
       ·simp at hx8
      ·simp at hx8
     ·simp at hx8
    ·simp at hlv
   ·simp at hlv
  ·simp at hlv
 ·rename_i v1 S1 hlv
  exfalso
  split at hlv
  ·split at hlv
   ·split at hlv <;> simp at hlv
   ·simp at hlv
  ·simp at hlv
 ·simp at hs
end Go.Proofs.YtmeakjgbjldkdaaGreat.Ai
namespace Go.Proofs.YtmeakjgbjldkdaaGreat.Ai
open Go
variable {P : Program}
theorem run_draw1 {b0 base nt : Nat} {cl : CallFn} {ops : Array Oper} {Q : Exit → Act → World → Prop} {N : Nat} {md : Region.Mode} {tab M : List Nat} (hcl : CallSim P cl) (hmd : ∀ e,Region.binds .any e = true → Region.binds md e = true)
  (hok : okBef ops tab = true) (hM : linB md ops M = true) {x8 : Item} {R0 : List Item} {d8 sz by_ : Nat} {ax yx ix zx : Opd} {d j9 j10 : Nat} {re : List Nat}
  (hc8 : app1B P ops nt x8 d8 sz by_ ax yx ix zx d j9 j10 = true) (hop8 : x8.op = .l (.append1 sz by_ ax yx ix zx d j9 j10) re)
  (hj : j9 ≠ j10) (hj9 : j9 < ops.size) (hj10 : j10 < ops.size) (h910 : (tab.getD j10 0).testBit j9 = true) (h89 : (tab.getD j9 0).testBit x8.ix = true) (h810 : (tab.getD j10 0).testBit x8.ix = true)
  (hcR : ∀ it ∈ R0,chkItem P ops nt it = true) (hlate : ∀ it ∈ R0,lateItem it = true) (hch : List.Pairwise (fun k x => (tab.getD x.ix 0).testBit k.ix = true) R0) (h8R : ∀ it ∈ R0,(tab.getD it.ix 0).testBit x8.ix = true)
  (hdst : ∀ it ∈ R0,∀ t,it.dst = some t → (t ≠ d8 ∧ t ∉ ix.reads ∧ t ∉ zx.reads) ∧ t ≠ d) (hd : d ≠ d8 ∧ d ∉ ix.reads ∧ d ∉ zx.reads) (hdnt : d < nt) :
  ∀ (m : Nat) (L0 : List Item) (listed : Array Bool) (K : Ghost) (S : St) (w : World) (a : Act) (e e' : Env) (r : Option AV) (S' : St),L0.length + (R0.length + 3) = m → (∀ k ∈ L0,(tab.getD x8.ix 0).testBit k.ix = true) →
  listed.size = ops.size → Down ops listed → (∀ i,listed.getD i true = false ↔ i ∈ (L0 ++ x8 :: R0).map (·.ix) ∨ i = j9 ∨ i = j10) → ((L0 ++ x8 :: R0).map (·.ix)).Nodup → j9 ∉ (L0 ++ x8 :: R0).map (·.ix) → j10 ∉ (L0 ++ x8 :: R0).map (·.ix) →
  List.Pairwise (fun k x => pairB tab k x = true) (L0 ++ x8 :: R0) → (∀ k ∈ L0 ++ x8 :: R0,selfB k = true) →
  (∀ it ∈ L0,chkItem P ops nt it = true) → Rel K S w → Inner S.heap.length S → EnvRep K (eget e) a.tmps → nt ≤ a.tmps.size → b0 ≤ S.heap.length → N ≤ S.heap.length → Pend K base S (L0 ++ x8 :: R0) → N ≤ base →
  run b0 cl base [] (L0 ++ x8 :: R0) e S = some (r,e',S') →
  (∀ a' w' K',r = none → Rel K' S' w' → EnvRep K' (eget e') a'.tmps → a'.tmps.size = a.tmps.size → a'.defers = a.defers → Step K (fun n => n < N) w K' w' → Keeps b0 S S' → Q .normal a' w') →
  (∀ v u a' w' K',r = some v → Rep K' v u → Rel K' S' w' → a'.defers = a.defers → Step K (fun n => n < N) w K' w' → Keeps b0 S S' → Q (.panic [{v:=u,recovered:=false}]) a' w') →
  wpAny P md ops Q m listed a w:=by
 intro m
 induction m with
 | zero => intro L0 listed K S w a e e' r S' hL; omega
 | succ m ih =>
  intro L0 listed K S w a e e' r S' hL hb8 hls hd' hun hnd hn9 hn10 hpw hself hc R hsc E hnt hb0 hN hpd hNb hrun hk hp
  refine ⟨fun hr => ?_,fun i hi => ?_⟩
  ·exfalso
   simp only [linB,Bool.and_eq_true,List.all_eq_true] at hM
   have hMj:=hM.2 j10 (List.mem_range.2 hj10)
   obtain ⟨j,hjj⟩:=lin_ready hls M [] hM.1 (by simp) ⟨j10,by simpa using hMj,(hun j10).2 (.inr (.inr rfl))⟩
   rw [hr] at hjj
   cases hjj
  ·obtain ⟨hil,o,ho,hpre⟩:=mem_ready.1 hi
   have hpre' : ∀ e ∈ o.after.toList,Region.binds .any e = true → listed.getD e.on false = true:=fun e he hb => hpre e (by simpa using he) (hmd e hb)
   have hbef:=bef_spec hok hd' i o ho hpre'
   have hix : i < listed.size:=by rw [hls]; exact (Array.getElem?_eq_some_iff.1 ho).1
   have hno : ∀ k,(tab.getD i 0).testBit k = true → listed.getD k true = true:=fun k hk => by
    have h1:=hbef k hk
    have hk2 : k < listed.size:=by
     rcases Nat.lt_or_ge k listed.size with h | h
     ·exact h
     ·simp [Array.getD,Nat.not_lt.2 h] at h1
    have : listed.getD k true = listed.getD k false:=by simp [Array.getD,hk2]
    rw [this,h1]
   have hno8 : (tab.getD i 0).testBit x8.ix = true → False:=fun h => by
    have h1:=hno _ h
    have h2:=(hun x8.ix).2 (.inl (by simp))
    rw [h1] at h2
    cases h2
   have hdn:=down_set hd' ho hpre'
   rcases (hun i).1 hil with hiL | rfl | rfl
   ·obtain ⟨x,hx,hxi⟩:=List.mem_map.1 hiL
    subst hxi
    rcases List.mem_append.1 hx with hx0 | hx1
    ·
     obtain ⟨A,B,rfl⟩:=List.append_of_mem hx0
     have hassoc : (A ++ x :: B) ++ x8 :: R0 = A ++ x :: (B ++ x8 :: R0):=by simp
     rw [hassoc] at hpw hrun hnd hself hpd hun hn9 hn10
     have hpwA:=(List.pairwise_append.1 hpw)
     have hAx : ∀ k ∈ A,pairB tab k x = true:=fun k hk => hpwA.2.2 k hk x (by simp)
     have hkl : ∀ k ∈ A,(tab.getD x.ix 0).testBit k.ix = false:=fun k hk => by
      cases hb : (tab.getD x.ix 0).testBit k.ix with
      | false => rfl
      | true =>
       have h1:=hno k.ix hb
       have h2:=(hun k.ix).2 (.inl (List.mem_map.2 ⟨k,by simp [hk],rfl⟩))
       rw [h1] at h2
       cases h2
     have hpull:=pull (A:=A) (B:=B ++ x8 :: R0) (x:=x) (e:=e) (S:=S) (r:=r) (e':=e') (S':=S') (b0:=b0) (cl:=cl) (base:=base) (fun k hk => by
       have:=hAx k hk
       simp only [pairB,hkl k hk,Bool.false_or,Bool.and_eq_true,Bool.or_eq_true,List.contains_eq_mem,decide_eq_true_eq] at this
       exact ⟨this.1.1.1,this.1.1.2,by rcases this.1.2 with (h | h) | h <;> simp [h]⟩)
      (hpwA.1.imp (fun {k y} h => by simp only [pairB,Bool.and_eq_true] at h; exact h.2))
      (fun k hk => by have:=hAx k hk; simp only [pairB,Bool.and_eq_true] at this; exact this.2) (fun k hk => hself k (by simp [hk])) hrun
     have hmk : ∀ n,n < N → n < S.heap.length ∧ ¬ x.makes base n:=fun n hn => ⟨by omega,fun hm => by
      obtain ⟨j,_,rfl⟩:=makes_iff.1 hm
      omega⟩
     rcases hpull with ⟨v,hv,hst⟩ | ⟨e1,S1,hst,e2,hrun2,he2⟩
     ·refine istep (hc x (by simp)) hcl R hsc E hnt hb0 (hpd.none x (by simp)) hst ?_ ?_
      ·intro a' w' K' h
       cases h
      ·intro v' u w' K' hv' hr R' hstp hkp
       cases hv'
       exact hp v u a w' K' hv hr R' rfl (hstp.mono hmk) hkp
     ·refine istep (hc x (by simp)) hcl R hsc E hnt hb0 (hpd.none x (by simp)) hst ?_ ?_
      ·intro a1 w1 K1 _ R1 E1 hsz hdf hstp hkp
       have hassoc2 : (A ++ B) ++ x8 :: R0 = A ++ (B ++ x8 :: R0):=by simp
       have hnd' : ((A ++ (B ++ x8 :: R0)).map (·.ix)).Nodup ∧ x.ix ∉ (A ++ (B ++ x8 :: R0)).map (·.ix):=by
        rw [List.map_append,List.map_cons] at hnd
        have h1:=(List.perm_middle.nodup_iff).1 hnd
        rw [List.nodup_cons] at h1
        rw [List.map_append]
        exact ⟨h1.2,h1.1⟩
       refine ih (A ++ B) (listed.setIfInBounds x.ix true) K1 S1 w1 a1 e1 e2 r S' ?_ ?_ (by simpa using hls) hdn ?_ (by rw [hassoc2]; exact hnd'.1) ?_ ?_ ?_ ?_ ?_ R1 (hkp.2.2 hsc) E1 (by omega) ?_ ?_ ?_ hNb (by rw [hassoc2]; exact hrun2) ?_ ?_
       ·simp at hL ⊢; omega
       ·intro k hk'
        refine hb8 k ?_
        rcases List.mem_append.1 hk' with h | h
        ·simp [h]
        ·simp [h]
       ·intro j
        rw [unl_set hix,hun j,hassoc2]
        simp only [List.map_append,List.map_cons,List.mem_append,List.mem_cons]
        have hxn:=hnd'.2
        simp only [List.map_append,List.map_cons,List.mem_append,List.mem_cons] at hxn
        constructor
        ·rintro ⟨h1,h | h⟩
         ·rcases h with h | h | h
          ·exact .inl (.inl h)
          ·exact absurd h h1
          ·exact .inl (.inr h)
         ·exact .inr h
        ·rintro (h | h)
         ·refine ⟨fun hj => hxn (hj ▸ h),.inl ?_⟩
          rcases h with h | h
          ·exact .inl h
          ·exact .inr (.inr h)
         ·refine ⟨?_,.inr h⟩
          rintro rfl
          rcases h with h | h
          ·exact hn9 (by simp [← h])
          ·exact hn10 (by simp [← h])
       ·rw [hassoc2]; intro h; refine hn9 ?_; simp only [List.map_append,List.map_cons,List.mem_append,List.mem_cons] at h ⊢; rcases h with h | h | h | h <;> simp only [h,true_or,or_true]
       ·rw [hassoc2]; intro h; refine hn10 ?_; simp only [List.map_append,List.map_cons,List.mem_append,List.mem_cons] at h ⊢; rcases h with h | h | h | h <;> simp only [h,true_or,or_true]
       ·rw [hassoc2]
        exact List.pairwise_append.2 ⟨hpwA.1,(List.pairwise_cons.1 hpwA.2.1).2,fun k hk y hy => hpwA.2.2 k hk y (List.mem_cons_of_mem _ hy)⟩
       ·rw [hassoc2]
        exact fun k hk => hself k (by
         rcases List.mem_append.1 hk with h | h
         ·simp [h]
         ·exact List.mem_append_right _ (List.mem_cons_of_mem _ h))
       ·exact fun k hk => hc k (by
         rcases List.mem_append.1 hk with h | h
         ·simp [h]
         ·simp [h])
       ·have:=hkp.1; omega
       ·have:=hkp.1; omega
       ·rw [hassoc2]; exact hpd.pull hstp hkp.1
       ·intro a' w' K' hr R' E' hsz' hdf' hst' hkp'
        exact hk a' w' K' hr R' (by rw [he2]; exact E') (by omega) (hdf'.trans hdf) ((hstp.mono hmk).trans hst' (fun _ h => h)) (hkp.trans hkp')
       ·intro v u a' w' K' hr hrep R' hdf' hst' hkp'
        exact hp v u a' w' K' hr hrep R' (hdf'.trans hdf) ((hstp.mono hmk).trans hst' (fun _ h => h)) (hkp.trans hkp')
      ·intro v u w' K' h
       cases h
    ·rcases List.mem_cons.1 hx1 with rfl | hxR
     ·
      have hL0 : L0 = []:=by
       cases L0 with
       | nil => rfl
       | cons k L0 =>
        exfalso
        have h1:=hno k.ix (hb8 k (by simp))
        have h2:=(hun k.ix).2 (.inl (by simp))
        rw [h1] at h2
        cases h2
      subst hL0
      simp only [List.nil_append] at hun hnd hn9 hn10 hpw hself hpd hrun
      simp only [run] at hrun
      have hs : ∃ o1 e1 S1,step b0 cl base x e S = some (o1,e1,S1):=by
       split at hrun
       ·simp at hrun
       ·rename_i h; exact ⟨_,_,_,h⟩
       ·rename_i h; exact ⟨_,_,_,h⟩
      obtain ⟨o1,e1,S1,hs⟩:=hs
      obtain ⟨rfl,hed,B,ob,u,vs,K1,w1,cur,tt,Ev,hwp,hev,hEv,g9,g10,hW,hroom,hg,R1,E1,hh,hst1⟩:=app1_sim hc8 hop8 R E hnt hs
      rw [hs] at hrun
      simp only at hrun
      split at hrun
      ·obtain ⟨e2,hrun2,he2⟩:=run_sub R0 [x] [] (fun k hk => by simp at hk) rfl hrun
       refine hwp _ _ ?_
       have hsz : (a.put (some d8) u).tmps.size = a.tmps.size:=by simp [Act.put]
       rw [List.map_cons,List.nodup_cons] at hnd
       have hkr : Keeps b0 S S1:=keeps_rows hh
       refine late_run (N:=N) hcl hmd hok hM (dsts:=fun t => t ≠ d8 ∧ t ∉ ix.reads ∧ t ∉ zx.reads) hj hj9 hj10 h910 (fun a' t v h h2 => hEv a' t v h h2) hd hdnt g9 g10 m R0 false (listed.setIfInBounds x.ix true) K1 S1 w1 _ e1 e2 r S' cur (by simp at hL ⊢; omega) (by simpa using hls) hdn ?_ hnd.2 ?_ ?_
        (List.pairwise_cons.1 hpw).2 hch (fun k hk => hself k (by simp [hk])) hcR hlate hdst R1 (hkr.2.2 hsc) E1 hed (by omega) (by rw [hh]; exact hb0) (by rw [hh]; exact hN) hNb hg hW hroom hev (fun h => by cases h) hrun2 ?_
       ·intro j
        rw [unl_set hix,hun j]
        simp only [List.map_cons,List.mem_cons,and_true]
        constructor
        ·rintro ⟨h1,(h | h) | h | h⟩
         ·exact absurd h h1
         ·exact .inl h
         ·exact .inr (.inl h)
         ·exact .inr (.inr h)
        ·rintro (h | h | h)
         ·exact ⟨fun hj => hnd.1 (hj ▸ h),.inl (.inr h)⟩
         ·exact ⟨fun hj => hn9 (by simp [← h,hj]),.inr (.inl h)⟩
         ·exact ⟨fun hj => hn10 (by simp [← h,hj]),.inr (.inr h)⟩
       ·intro h; exact hn9 (by simp at h ⊢; exact .inr h)
       ·intro h; exact hn10 (by simp at h ⊢; exact .inr h)
       ·intro a' w' K' R' E' hsz' hdf' hst' hkp'
        have hrn:=late_none hlate hrun2
        exact hk a' w' K' hrn R' (by rw [he2]; exact E') (by omega) (hdf'.trans (by simp [Act.put])) ((hst1 _).trans hst' (fun _ h => h)) (hkr.trans hkp')
      ·simp at hrun
     ·exact (hno8 (h8R x hxR)).elim
   ·exact (hno8 h89).elim
   ·exact (hno8 h810).elim
end Go.Proofs.YtmeakjgbjldkdaaGreat.Ai
namespace Go.Proofs.YtmeakjgbjldkdaaGreat.Ai
open Go
variable {P : Program}
def chkRegion (P : Program) (nt : Nat) (allocs : List (List AV)) (items : List Item) (ops : Array Oper) (draw : Bool) : Bool:=
 items.all (chkItem P ops nt) && nodupB (items.filterMap Item.alloc?) && (items.filterMap Item.alloc?).all (fun j => decide (j < allocs.length)) && allocs.all (belowL 0) &&
 if draw then
  let tab:=befTab ops
  okBef ops tab && canonB tab items && nodupB (items.map (·.ix)) && items.length == ops.size && (List.range ops.size).all (items.map (·.ix)).contains &&
   linB .any ops (List.range ops.size) && (!Region.departs ops || (linB .text ops (List.range ops.size) && linB .gc ops (Region.linearise .gc ops 0)))
 else items.map (·.ix) == List.range ops.size
def splitA : List Item → Option (List Item × Item × List Item)
 | [] => none
 | it :: l => match it.op with
  | .l (.append1 ..) _ => some ([],it,l)
  | _ => (splitA l).map fun p => (it :: p.1,p.2.1,p.2.2)
theorem splitA_spec : ∀ {l L0 : List Item} {x : Item} {R : List Item},splitA l = some (L0,x,R) → l = L0 ++ x :: R
 | [],L0,x,R,h => by simp [splitA] at h
 | it :: l,L0,x,R,h => by
  simp only [splitA] at h
  split at h
  ·simp only [Option.some.injEq,Prod.mk.injEq] at h
   obtain ⟨rfl,rfl,rfl⟩:=h
   rfl
  ·simp only [Option.map_eq_some_iff,Prod.mk.injEq] at h
   obtain ⟨p,hp,rfl,rfl,rfl⟩:=h
   rw [splitA_spec (L0:=p.1) (x:=p.2.1) (R:=p.2.2) hp]
   rfl
def chainB (tab : List Nat) : List Item → Bool
 | [] => true
 | k :: L => L.all (fun x => (tab.getD x.ix 0).testBit k.ix) && chainB tab L
theorem chainB_spec {tab : List Nat} : ∀ {L : List Item},chainB tab L = true → List.Pairwise (fun k x => (tab.getD x.ix 0).testBit k.ix = true) L
 | [],_ => List.Pairwise.nil
 | k :: L,h => by
  simp only [chainB,Bool.and_eq_true,List.all_eq_true] at h
  exact List.pairwise_cons.2 ⟨h.1,chainB_spec h.2⟩
def dstB (d8 d : Nat) (i z : Opd) (it : Item) : Bool:=
 match it.dst with
 | some t => t != d8 && !i.reads.contains t && !z.reads.contains t && t != d
 | none => true
def chkRegionA (P : Program) (nt : Nat) (allocs : List (List AV)) (items : List Item) (ops : Array Oper) (draw : Bool) : Bool:=
 draw && match splitA items with
 | some (L0,x,R) => match x.op,x.dst with
  | .l (.append1 sz by_ a y i z d j9 j10) _,some d8 =>
   let tab:=befTab ops
   app1B P ops nt x d8 sz by_ a y i z d j9 j10 && L0.all (chkItem P ops nt) && R.all (chkItem P ops nt) && R.all lateItem && R.all (dstB d8 d i z) &&
   nodupB (items.filterMap Item.alloc?) && (items.filterMap Item.alloc?).all (fun j => decide (j < allocs.length)) && allocs.all (belowL 0) &&
   okBef ops tab && canonB tab items && nodupB (items.map (·.ix)) && !(items.map (·.ix)).contains j9 && !(items.map (·.ix)).contains j10 && j9 != j10 && decide (j9 < ops.size) && decide (j10 < ops.size) && items.length + 2 == ops.size &&
   (List.range ops.size).all (fun k => (items.map (·.ix)).contains k || k == j9 || k == j10) && items.all (fun it => decide (it.ix < ops.size)) &&
   (tab.getD j10 0).testBit j9 && (tab.getD j9 0).testBit x.ix && (tab.getD j10 0).testBit x.ix && L0.all (fun k => (tab.getD x.ix 0).testBit k.ix) && R.all (fun k => (tab.getD k.ix 0).testBit x.ix) && chainB tab R &&
   linB .any ops (List.range ops.size) && (!Region.departs ops || (linB .text ops (List.range ops.size) && linB .gc ops (Region.linearise .gc ops 0)))
  | _,_ => false
 | none => false
def chkC (P : Program) (nt : Nat) : IC → Code → Bool
 | .skip,.skip => true
 | .region allocs items _,.region _ ops draw => chkRegion P nt allocs items ops draw || chkRegionA P nt allocs items ops draw
 | .seq a b,.seq x y => chkC P nt a x && chkC P nt b y
 | .cond c a b,.cond c' x y => opdB c c' && chkC P nt a x && chkC P nt b y
 | .block id b,.block id' c => id == id' && chkC P nt b c
 | .loop _ b,.loop c => chkC P nt b c
 | .exit id,.exit id' => id == id'
 | .ret,.ret => true
 | .stuck,_ => true
 | _,_ => false
def Exr (K : Ghost) : Ex → Exit → Prop
 | .normal,.normal => True
 | .exit id,.exit id' => id = id'
 | .ret,.ret => True
 | .panic v,.panic c => ∃ u,c = [{v:=u,recovered:=false}] ∧ Rep K v u
 | _,_ => False
def notPanic : Ex → Prop
 | .panic _ => False
 | _ => True
def Sim (P : Program) (b0 _nt : Nat) (K : Ghost) (S : St) (w : World) (a : Act) (c : Code) (r : Ex × Env × St) : Prop:=
 ∀ Q : Exit → Act → World → Prop,(∀ a' w' K' en,Rel K' r.2.2 w' → (notPanic r.1 → EnvRep K' (eget r.2.1) a'.tmps) → a'.defers = a.defers → (notPanic r.1 → a'.tmps.size = a.tmps.size) →
  Step K (fun n => n < S.heap.length) w K' w' → Keeps b0 S r.2.2 → Exr K' r.1 en → Q en a' w') → c.wp P Q a w
theorem keep_sub : ∀ {l : List Nat} {e : Env} {t : Nat} {v : AV},eget (keep l e) t = some v → eget e t = some v
 | [],e,t,v,h => by simp [keep,eget] at h
 | x :: l,e,t,v,h => by
  simp only [keep,List.filterMap_cons] at h
  cases hx : eget e x with
  | none =>
   simp only [hx,Option.map_none] at h
   exact keep_sub (l:=l) h
  | some u =>
   simp only [hx,Option.map_some,eget] at h
   split at h
   ·rename_i hxt
    subst hxt
    simp only [Option.some.injEq] at h
    rw [hx,h]
   ·exact keep_sub (l:=l) h
theorem EnvRep.keep {K : Ghost} {e : Env} {tmps : Array Value} (h : EnvRep K (eget e) tmps) (l : List Nat) : EnvRep K (eget (Ai.keep l e)) tmps:=
 fun t v hv => h t v (keep_sub hv)
theorem Rel.drew {K : Ghost} {S : St} {w : World} (R : Rel K S w) : Rel K S w.drew:=⟨R.dom,R.inj,R.sep,R.cells,R.maps,R.rows,R.grow⟩
theorem Step.drew (K : Ghost) (X : Nat → Prop) (w : World) : Step K X w K w.drew:=⟨Ext.refl K,rfl,rfl,rfl,Nat.le_refl _,fun _ _ _ _ => rfl,fun _ _ h1 h2 => ⟨h1,h2⟩,fun _ _ h => h,fun _ x h => .inl ⟨x,h⟩⟩
theorem Rel.reserve {K : Ghost} {S : St} {w : World} (R : Rel K S w) (bs : List Blk) : Rel K {S with heap:=S.heap ++ bs} w:=by
 refine ⟨?_,R.inj,R.sep,?_,?_,R.rows,R.grow⟩
 ·intro n B hm
  have:=R.dom n B hm
  simp; omega
 ·intro n B cs hm hb
  have:=R.dom n B hm
  simp only at hb
  rw [List.getElem?_append_left this] at hb
  exact R.cells n B cs hm hb
 ·intro n B es hm hb
  have:=R.dom n B hm
  simp only at hb
  rw [List.getElem?_append_left this] at hb
  exact R.maps n B es hm hb
theorem keeps_reserve {b0 : Nat} {S : St} (h : b0 ≤ S.heap.length) {bs : List Blk} (hb : ∀ b ∈ bs,belowB 0 b = true) : Keeps b0 S {S with heap:=S.heap ++ bs}:=by
 refine ⟨by simp,fun k hk hI n blk hn hbl => hI n blk hn ?_,fun hI n blk hn hbl => ?_⟩
 ·simp only at hbl
  rwa [List.getElem?_append_left (by omega)] at hbl
 ·simp only at hbl hn
  by_cases hnl : n < S.heap.length
  ·rw [List.getElem?_append_left hnl] at hbl
   exact belowB_mono (by simp) _ (hI n blk hnl hbl)
  ·rw [List.getElem?_append_right (by omega)] at hbl
   exact belowB_mono (Nat.zero_le _) _ (hb blk (List.mem_of_getElem? hbl))
theorem region_sim {b0 nt n id : Nat} {cl : CallFn} {allocs : List (List AV)} {items : List Item} {kp : List Nat} {ops : Array Oper} {draw : Bool} {K : Ghost} {S : St} {w : World} {a : Act} {e : Env} {r : Ex × Env × St}
  (hcl : CallSim P cl) (hc : chkRegion P nt allocs items ops draw = true) (R : Rel K S w) (hsc : Inner S.heap.length S) (E : EnvRep K (eget e) a.tmps) (hnt : nt ≤ a.tmps.size) (hb0 : b0 ≤ S.heap.length)
  (hx : exec b0 cl n (.region allocs items kp) e S = some r) : Sim P b0 nt K S w a (.region id ops draw) r:=by
 intro Q hQ
 simp only [chkRegion,Bool.and_eq_true,List.all_eq_true,decide_eq_true_eq] at hc
 obtain ⟨⟨⟨⟨h1,h2⟩,h3⟩,h4⟩,h5⟩:=hc
 have R1:=R.reserve (allocs.map Blk.cells)
 have hkr : Keeps b0 S {S with heap:=S.heap ++ allocs.map Blk.cells}:=keeps_reserve hb0 (fun b hb => by
  obtain ⟨cs,hcs,rfl⟩:=List.mem_map.1 hb
  exact h4 cs hcs)
 have hpd : Pend K S.heap.length {S with heap:=S.heap ++ allocs.map Blk.cells} items:=by
  refine ⟨fun it hi m hm => ?_,fun it hi m hm => ?_,nodupB_spec h2⟩
  ·obtain ⟨j,hj,rfl⟩:=makes_iff.1 hm
   exact R.none_ge (by omega)
  ·obtain ⟨j,hj,rfl⟩:=makes_iff.1 hm
   have:=h3 j (List.mem_filterMap.2 ⟨it,hi,hj⟩)
   simp; omega
 obtain ⟨rr,e1,S1,hrun,hnorm,hpan⟩ : ∃ rr e1 S1,run b0 cl S.heap.length [] items e {S with heap:=S.heap ++ allocs.map Blk.cells} = some (rr,e1,S1) ∧ (rr = none → r = (.normal,keep kp e1,S1)) ∧ (∀ v,rr = some v → r = (.panic v,e1,S1)):=by
  simp only [exec] at hx
  split at hx
  ·rename_i e1 S1 hrun
   simp only [Option.some.injEq] at hx
   exact ⟨none,e1,S1,hrun,fun _ => hx.symm,fun v h => by cases h⟩
  ·rename_i v e1 S1 hrun
   simp only [Option.some.injEq] at hx
   exact ⟨some v,e1,S1,hrun,(fun h => by cases h),fun v' h => by cases h; exact hx.symm⟩
  ·simp at hx
 have hk : ∀ (w0 : World),Step K (fun n => n < S.heap.length) w K w0 → ∀ a' w' K',rr = none → Rel K' S1 w' → EnvRep K' (eget e1) a'.tmps → a'.tmps.size = a.tmps.size → a'.defers = a.defers → Step K (fun n => n < S.heap.length) w0 K' w' → Keeps b0 {S with heap:=S.heap ++ allocs.map Blk.cells} S1 → Q .normal a' w':=by
  intro w0 hw0 a' w' K' hr R' E' hsz hdf hst hkp
  have:=hnorm hr
  subst this
  exact hQ a' w' K' .normal R' (fun _ => E'.keep kp) hdf (fun _ => hsz) (hw0.trans hst (fun _ h => h)) (hkr.trans hkp) trivial
 have hp : ∀ (w0 : World),Step K (fun n => n < S.heap.length) w K w0 → ∀ v u a' w' K',rr = some v → Rep K' v u → Rel K' S1 w' → a'.defers = a.defers → Step K (fun n => n < S.heap.length) w0 K' w' → Keeps b0 {S with heap:=S.heap ++ allocs.map Blk.cells} S1 → Q (.panic [{v:=u,recovered:=false}]) a' w':=by
  intro w0 hw0 v u a' w' K' hr hrep R' hdf hst hkp
  have:=hpan v hr
  subst this
  exact hQ a' w' K' (.panic [{v:=u,recovered:=false}]) R' (fun h => by cases h) hdf (fun h => by cases h) (hw0.trans hst (fun _ h => h)) (hkr.trans hkp) ⟨u,rfl,hrep⟩
 cases draw with
 | false =>
  simp only [Bool.false_eq_true,if_false,beq_iff_eq] at h5
  refine wp_region ?_
  rw [← h5]
  exact run_plain (N:=S.heap.length) hcl items [] K _ w a e e1 rr S1 h1 R1 (hkr.2.2 hsc) E hnt (by simp; omega) (by simp) hpd (Nat.le_refl _) hrun (hk w (Step.refl _ _ _)) (hp w (Step.refl _ _ _))
 | true =>
  simp only [if_true,Bool.and_eq_true,beq_iff_eq,List.all_eq_true,Bool.or_eq_true,Bool.not_eq_true'] at h5
  obtain ⟨⟨⟨⟨⟨⟨g1,g2⟩,g3⟩,g4⟩,g5⟩,g6⟩,g7⟩:=h5
  obtain ⟨c1,c2⟩:=canonB_spec g2
  refine wp_region_draw fun t => ?_
  have key : ∀ (md : Region.Mode) (M : List Nat) (t' : Nat),(∀ e,Region.binds .any e = true → Region.binds md e = true) → linB md ops M = true →
    wpOps P ops Q (Region.linearise md ops t') a {w with drawn:=w.drawn + 1}:=by
   intro md M t' hmd hM
   refine wpAny_sound ops.size t' _ a _ ?_
   refine run_draw (N:=S.heap.length) hcl hmd g1 hM ops.size items _ K _ w.drew a e e1 rr S1 g4 (by simp) ?_ ?_ (nodupB_spec g3) c1 c2 h1 R1.drew (hkr.2.2 hsc) E hnt (by simp; omega) (by simp) hpd (Nat.le_refl _) hrun (hk _ (Step.drew _ _ _)) (hp _ (Step.drew _ _ _))
   ·intro i o ed _ hl
    exfalso
    simp only [Array.getD_eq_getD_getElem?,Array.getElem?_replicate] at hl
    split at hl <;> simp at hl
   ·intro i
    constructor
    ·intro hl
     simp only [Array.getD_eq_getD_getElem?,Array.getElem?_replicate] at hl
     split at hl
     ·rename_i hlt
      have:=g5 i (List.mem_range.2 hlt)
      simpa using this
     ·simp at hl
    ·intro hi
     obtain ⟨x,hx,rfl⟩:=List.mem_map.1 hi
     have hxc:=h1 x hx
     unfold chkItem at hxc
     split at hxc
     ·rename_i o ho
      have hlt:=(Array.getElem?_eq_some_iff.1 ho).1
      simp only [Array.getD_eq_getD_getElem?,Array.getElem?_replicate]
      rw [if_pos hlt]
      rfl
     ·simp at hxc
  unfold Region.schedule
  split
  ·exact key .any _ t (fun _ h => h) g6
  ·rename_i hnd
   simp only [Bool.or_eq_true,Bool.not_eq_true',not_or,Bool.not_eq_false] at hnd
   rcases g7 with g7 | ⟨g7,g8⟩
   ·rw [g7] at hnd; exact absurd hnd.2 (by simp)
   ·split
    ·refine key .text _ _ (fun e h => ?_) g7
     cases hg : e.ground <;> simp [Region.binds,hg] at h ⊢
    ·refine key .gc _ _ (fun e h => ?_) g8
     cases hg : e.ground <;> simp [Region.binds,hg] at h ⊢
theorem region_simA {b0 nt n id : Nat} {cl : CallFn} {allocs : List (List AV)} {items : List Item} {kp : List Nat} {ops : Array Oper} {draw : Bool} {K : Ghost} {S : St} {w : World} {a : Act} {e : Env} {r : Ex × Env × St}
  (hcl : CallSim P cl) (hc : chkRegionA P nt allocs items ops draw = true) (R : Rel K S w) (hsc : Inner S.heap.length S) (E : EnvRep K (eget e) a.tmps) (hnt : nt ≤ a.tmps.size) (hb0 : b0 ≤ S.heap.length)
  (hx : exec b0 cl n (.region allocs items kp) e S = some r) : Sim P b0 nt K S w a (.region id ops draw) r:=by
 intro Q hQ
 unfold chkRegionA at hc
 rw [Bool.and_eq_true] at hc
 obtain ⟨rfl,hc⟩:=hc
 split at hc
 ·rename_i L0 x R0 hsp
  split at hc
  ·rename_i sz by_ ax yx ix zx d j9 j10 re d8 hop8 hd8
   simp only [Bool.and_eq_true,beq_iff_eq,decide_eq_true_eq,bne_iff_ne,ne_eq,Bool.not_eq_true',List.contains_eq_mem,decide_eq_false_iff_not,List.all_eq_true,Bool.or_eq_true] at hc
   obtain ⟨⟨⟨⟨⟨⟨⟨⟨⟨⟨⟨⟨⟨⟨⟨⟨⟨⟨⟨⟨⟨⟨⟨⟨⟨⟨hc8,h1⟩,h1R⟩,hlate⟩,hdB⟩,h2⟩,h3⟩,h4⟩,g1⟩,g2⟩,g3⟩,hn9⟩,hn10⟩,hj⟩,hj9⟩,hj10⟩,g4⟩,g5⟩,gix⟩,h910⟩,h89⟩,h810⟩,hb8⟩,h8R⟩,hch⟩,g6⟩,g7⟩:=hc
   obtain rfl:=splitA_spec hsp
   have R1:=R.reserve (allocs.map Blk.cells)
   have hkr : Keeps b0 S {S with heap:=S.heap ++ allocs.map Blk.cells}:=keeps_reserve hb0 (fun b hb => by
    obtain ⟨cs,hcs,rfl⟩:=List.mem_map.1 hb
    exact h4 cs hcs)
   have hpd : Pend K S.heap.length {S with heap:=S.heap ++ allocs.map Blk.cells} (L0 ++ x :: R0):=by
    refine ⟨fun it hi m hm => ?_,fun it hi m hm => ?_,nodupB_spec h2⟩
    ·obtain ⟨j,hj,rfl⟩:=makes_iff.1 hm
     exact R.none_ge (by omega)
    ·obtain ⟨j,hj,rfl⟩:=makes_iff.1 hm
     have:=h3 j (List.mem_filterMap.2 ⟨it,hi,hj⟩)
     simp; omega
   obtain ⟨rr,e1,S1,hrun,hnorm,hpan⟩ : ∃ rr e1 S1,run b0 cl S.heap.length [] (L0 ++ x :: R0) e {S with heap:=S.heap ++ allocs.map Blk.cells} = some (rr,e1,S1) ∧ (rr = none → r = (.normal,keep kp e1,S1)) ∧ (∀ v,rr = some v → r = (.panic v,e1,S1)):=by
    simp only [exec] at hx
    split at hx
    ·rename_i e1 S1 hrun
     simp only [Option.some.injEq] at hx
     exact ⟨none,e1,S1,hrun,fun _ => hx.symm,fun v h => by cases h⟩
    ·rename_i v e1 S1 hrun
     simp only [Option.some.injEq] at hx
     exact ⟨some v,e1,S1,hrun,(fun h => by cases h),fun v' h => by cases h; exact hx.symm⟩
    ·simp at hx
   have hk : ∀ (w0 : World),Step K (fun n => n < S.heap.length) w K w0 → ∀ a' w' K',rr = none → Rel K' S1 w' → EnvRep K' (eget e1) a'.tmps → a'.tmps.size = a.tmps.size → a'.defers = a.defers → Step K (fun n => n < S.heap.length) w0 K' w' → Keeps b0 {S with heap:=S.heap ++ allocs.map Blk.cells} S1 → Q .normal a' w':=by
    intro w0 hw0 a' w' K' hr R' E' hsz hdf hst hkp
    have:=hnorm hr
    subst this
    exact hQ a' w' K' .normal R' (fun _ => E'.keep kp) hdf (fun _ => hsz) (hw0.trans hst (fun _ h => h)) (hkr.trans hkp) trivial
   have hp : ∀ (w0 : World),Step K (fun n => n < S.heap.length) w K w0 → ∀ v u a' w' K',rr = some v → Rep K' v u → Rel K' S1 w' → a'.defers = a.defers → Step K (fun n => n < S.heap.length) w0 K' w' → Keeps b0 {S with heap:=S.heap ++ allocs.map Blk.cells} S1 → Q (.panic [{v:=u,recovered:=false}]) a' w':=by
    intro w0 hw0 v u a' w' K' hr hrep R' hdf hst hkp
    have:=hpan v hr
    subst this
    exact hQ a' w' K' (.panic [{v:=u,recovered:=false}]) R' (fun h => by cases h) hdf (fun h => by cases h) (hw0.trans hst (fun _ h => h)) (hkr.trans hkp) ⟨u,rfl,hrep⟩
   obtain ⟨c1,c2⟩:=canonB_spec g2
   have hdst : ∀ it ∈ R0,∀ t,it.dst = some t → (t ≠ d8 ∧ t ∉ ix.reads ∧ t ∉ zx.reads) ∧ t ≠ d:=by
    intro it hi t ht
    have:=hdB it hi
    simp only [dstB,ht,Bool.and_eq_true,bne_iff_ne,ne_eq,Bool.not_eq_true',List.contains_eq_mem,decide_eq_false_iff_not] at this
    exact ⟨⟨this.1.1.1,this.1.1.2,this.1.2⟩,this.2⟩
   have hd : (d ≠ d8 ∧ d ∉ ix.reads ∧ d ∉ zx.reads) ∧ d < nt:=by
    have h:=hc8
    unfold app1B at h
    simp only [Bool.and_eq_true,beq_iff_eq,decide_eq_true_eq,bne_iff_ne,ne_eq,Bool.not_eq_true',List.contains_eq_mem,decide_eq_false_iff_not] at h
    obtain ⟨⟨⟨⟨⟨⟨⟨⟨⟨⟨⟨⟨_,_⟩,_⟩,e1⟩,e2⟩,_⟩,_⟩,e3⟩,e4⟩,_⟩,_⟩,_⟩,_⟩:=h
    exact ⟨⟨e2,e3,e4⟩,e1⟩
   refine wp_region_draw fun t => ?_
   have key : ∀ (md : Region.Mode) (M : List Nat) (t' : Nat),(∀ e,Region.binds .any e = true → Region.binds md e = true) → linB md ops M = true →
     wpOps P ops Q (Region.linearise md ops t') a {w with drawn:=w.drawn + 1}:=by
    intro md M t' hmd hM
    refine wpAny_sound ops.size t' _ a _ ?_
    refine run_draw1 (N:=S.heap.length) hcl hmd g1 hM hc8 hop8 hj hj9 hj10 h910 h89 h810 h1R hlate (chainB_spec hch) h8R hdst hd.1 hd.2 ops.size L0 _ K _ w.drew a e e1 rr S1 (by simp at g4; omega) hb8 (by simp) ?_ ?_ (nodupB_spec g3) hn9 hn10 c1 c2 h1 R1.drew (hkr.2.2 hsc) E hnt (by simp; omega) (by simp) hpd (Nat.le_refl _) hrun (hk _ (Step.drew _ _ _)) (hp _ (Step.drew _ _ _))
    ·intro i o ed _ hl
     exfalso
     simp only [Array.getD_eq_getD_getElem?,Array.getElem?_replicate] at hl
     split at hl <;> simp at hl
    ·intro i
     constructor
     ·intro hl
      simp only [Array.getD_eq_getD_getElem?,Array.getElem?_replicate] at hl
      split at hl
      ·rename_i hlt
       have:=g5 i (List.mem_range.2 hlt)
       rcases this with (h | h) | h
       ·exact .inl h
       ·exact .inr (.inl h)
       ·exact .inr (.inr h)
      ·simp at hl
     ·intro hi
      have hlt : i < ops.size:=by
       rcases hi with hi | rfl | rfl
       ·obtain ⟨y,hy,rfl⟩:=List.mem_map.1 hi
        exact gix y hy
       ·exact hj9
       ·exact hj10
      simp only [Array.getD_eq_getD_getElem?,Array.getElem?_replicate]
      rw [if_pos hlt]
      rfl
   unfold Region.schedule
   split
   ·exact key .any _ t (fun _ h => h) g6
   ·rename_i hnd
    simp only [Bool.or_eq_true,Bool.not_eq_true',not_or,Bool.not_eq_false] at hnd
    rcases g7 with g7 | ⟨g7,g8⟩
    ·rw [g7] at hnd; exact absurd hnd.2 (by simp)
    ·split
     ·refine key .text _ _ (fun e h => ?_) g7
      cases hg : e.ground <;> simp [Region.binds,hg] at h ⊢
     ·refine key .gc _ _ (fun e h => ?_) g8
      cases hg : e.ground <;> simp [Region.binds,hg] at h ⊢
  ·simp at hc
 ·simp at hc
theorem wp_loop_n {c : Code} {Q : Exit → Act → World → Prop} (J : Nat → Act → World → Prop) (h0 : ∀ a w,¬ J 0 a w) (round : ∀ n a w,J (n + 1) a w → c.wp P (Exit.then (fun a' w' => J n a' w') Q) a w) {n : Nat} {a : Act} {w : World} (h : J n a w) :
  (Code.loop c).wp P Q a w:=by
 intro b k cs
 have key : ∀ n a w,J n a w → ∃ e a' w',Q e a' w' ∧ Arrives P (lone (b.at a (.code c :: .inLoop c :: k)) cs w) b k cs e a' w':=by
  intro n
  induction n with
  | zero => intro a w h; exact absurd h (h0 a w)
  | succ n ih =>
   intro a w hI
   obtain ⟨e,a₁,w₁,hq,harr⟩:=round n a w hI b (.inLoop c :: k) cs
   cases e with
   | normal =>
    obtain ⟨e₂,a₂,w₂,hq₂,harr₂⟩:=ih a₁ w₁ hq
    exact ⟨e₂,a₂,w₂,hq₂,.of_steps (Steps.trans harr (.one step_inLoop)) harr₂⟩
   | exit id => exact ⟨_,a₁,w₁,hq,.pass (x:=.inLoop c) rfl (fun _ _ => .inl (by simp)) harr⟩
   | goto l => exact ⟨_,a₁,w₁,hq,.pass (x:=.inLoop c) rfl (fun _ _ => .inl (by simp)) harr⟩
   | ret => exact ⟨_,a₁,w₁,hq,.pass (x:=.inLoop c) rfl (fun _ _ => .inl (by simp)) harr⟩
   | panic ch => exact ⟨_,a₁,w₁,hq,.pass (x:=.inLoop c) rfl (fun _ _ => .inl (by simp)) harr⟩
   | outgrown => exact ⟨_,a₁,w₁,hq,.pass (x:=.inLoop c) rfl (fun _ _ => .inl (by simp)) harr⟩
 obtain ⟨e,a',w',hq,harr⟩:=key n a w h
 exact ⟨e,a',w',hq,.of_steps (.one step_loop) harr⟩
theorem csim {b0 nt n : Nat} {cl : CallFn} (hcl : CallSim P cl) : ∀ (ic : IC) (c : Code) (K : Ghost) (S : St) (w : World) (a : Act) (e : Env) (r : Ex × Env × St),chkC P nt ic c = true → Rel K S w → Inner S.heap.length S → EnvRep K (eget e) a.tmps → nt ≤ a.tmps.size → b0 ≤ S.heap.length →
  exec b0 cl n ic e S = some r → Sim P b0 nt K S w a c r
 | .skip,c,K,S,w,a,e,r,hc,R,_,E,_,_,hx => by
  cases c <;> simp [chkC] at hc
  intro Q hQ
  simp only [exec,Option.some.injEq] at hx
  subst hx
  exact wp_skip (hQ a w K .normal R (fun _ => E) rfl (fun _ => rfl) (Step.refl _ _ _) (keeps_refl _ _) trivial)
 | .exit id,c,K,S,w,a,e,r,hc,R,_,E,_,_,hx => by
  cases c <;> simp [chkC] at hc
  subst hc
  intro Q hQ
  simp only [exec,Option.some.injEq] at hx
  subst hx
  exact wp_exit (hQ a w K (.exit id) R (fun _ => E) rfl (fun _ => rfl) (Step.refl _ _ _) (keeps_refl _ _) rfl)
 | .stuck,c,K,S,w,a,e,r,hc,R,_,E,_,_,hx => by simp [exec] at hx
 | .ret,c,K,S,w,a,e,r,hc,R,_,E,_,_,hx => by
  cases c <;> simp [chkC] at hc
  intro Q hQ
  simp only [exec,Option.some.injEq] at hx
  subst hx
  exact wp_ret (hQ a w K .ret R (fun _ => E) rfl (fun _ => rfl) (Step.refl _ _ _) (keeps_refl _ _) trivial)
 | .region allocs items kp,c,K,S,w,a,e,r,hc,R,hsc,E,hnt,hb0,hx => by
  cases c <;> simp only [chkC,Bool.false_eq_true,Bool.or_eq_true] at hc
  rcases hc with hc | hc
  ·exact region_sim hcl hc R hsc E hnt hb0 hx
  ·exact region_simA hcl hc R hsc E hnt hb0 hx
 | .cond x i j,c,K,S,w,a,e,r,hc,R,hsc,E,hnt,hb0,hx => by
  cases c <;> simp only [chkC,Bool.false_eq_true,Bool.and_eq_true] at hc
  obtain ⟨⟨h1,h2⟩,h3⟩:=hc
  intro Q hQ
  simp only [exec] at hx
  split at hx
  ·rename_i hv
   have hr:=opd_spec E h1 hv
   simp only [Rep] at hr
   exact wp_cond_true hr (csim hcl i _ K S w a e r h2 R hsc E hnt hb0 hx Q hQ)
  ·rename_i hv
   have hr:=opd_spec E h1 hv
   simp only [Rep] at hr
   exact wp_cond_false hr (csim hcl j _ K S w a e r h3 R hsc E hnt hb0 hx Q hQ)
  ·simp at hx
 | .seq i j,c,K,S,w,a,e,r,hc,R,hsc,E,hnt,hb0,hx => by
  cases c <;> simp only [chkC,Bool.false_eq_true,Bool.and_eq_true] at hc
  obtain ⟨h1,h2⟩:=hc
  intro Q hQ
  simp only [exec] at hx
  refine wp_seq ?_
  split at hx
  ·rename_i e1 S1 h
   refine csim hcl i _ K S w a e _ h1 R hsc E hnt hb0 h _ ?_
   intro a1 w1 K1 en R1 E1 hdf hsz hst hkp hex
   cases en <;> simp only [Exr] at hex
   have hsz':=hsz trivial
   refine csim hcl j _ K1 S1 w1 a1 e1 r h2 R1 (hkp.2.2 hsc) (E1 trivial) (by omega) (by have:=hkp.1; simp at this; omega) hx Q ?_
   intro a2 w2 K2 en R2 E2 hdf2 hsz2 hst2 hkp2 hex2
   exact hQ a2 w2 K2 en R2 E2 (hdf2.trans hdf) (fun h => by rw [hsz2 h,hsz']) (hst.trans hst2 (fun m hm => Nat.lt_of_lt_of_le hm hkp.1)) (hkp.trans hkp2) hex2
  ·rename_i hne
   refine csim hcl i _ K S w a e r h1 R hsc E hnt hb0 hx _ ?_
   intro a1 w1 K1 en R1 E1 hdf hsz hst hkp hex
   have hnn : r.1 ≠ .normal:=by
    intro h
    obtain ⟨ex,e1,S1⟩:=r
    simp only at h
    subst h
    exact hne e1 S1 hx
   cases en with
   | normal =>
    exfalso
    cases hr : r.1 <;> rw [hr] at hex <;> simp only [Exr] at hex
    exact hnn hr
   | _ => exact hQ a1 w1 K1 _ R1 E1 hdf hsz hst hkp hex
 | .block id i,c,K,S,w,a,e,r,hc,R,hsc,E,hnt,hb0,hx => by
  cases c <;> simp only [chkC,Bool.false_eq_true,Bool.and_eq_true,beq_iff_eq] at hc
  obtain ⟨rfl,h2⟩:=hc
  intro Q hQ
  simp only [exec] at hx
  refine wp_block ?_
  split at hx
  ·rename_i id' e1 S1 h
   refine csim hcl i _ K S w a e _ h2 R hsc E hnt hb0 h _ ?_
   intro a1 w1 K1 en R1 E1 hdf hsz hst hkp hex
   cases en <;> simp only [Exr] at hex
   subst hex
   simp only [Exit.inBlock]
   split at hx
   ·rename_i hid
    simp only [Option.some.injEq] at hx
    subst hx
    rw [if_pos hid]
    exact hQ a1 w1 K1 .normal R1 (fun _ => E1 trivial) hdf (fun _ => hsz trivial) hst hkp trivial
   ·rename_i hid
    simp only [Option.some.injEq] at hx
    subst hx
    rw [if_neg hid]
    exact hQ a1 w1 K1 _ R1 (fun _ => E1 trivial) hdf (fun _ => hsz trivial) hst hkp rfl
  ·rename_i hne
   refine csim hcl i _ K S w a e r h2 R hsc E hnt hb0 hx _ ?_
   intro a1 w1 K1 en R1 E1 hdf hsz hst hkp hex
   cases en with
   | exit id' =>
    exfalso
    cases hr : r.1 <;> rw [hr] at hex <;> simp only [Exr] at hex
    obtain ⟨ex,e1,S1⟩:=r
    simp only at hr
    subst hr
    exact hne _ e1 S1 hx
   | _ => exact hQ a1 w1 K1 _ R1 E1 hdf hsz hst hkp hex
 | .loop kp i,c,K,S,w,a,e,r,hc,R,hsc,E,hnt,hb0,hx => by
  cases c <;> simp only [chkC,Bool.false_eq_true] at hc
  rename_i c
  intro Q hQ
  simp only [exec] at hx
  refine wp_loop_n (P:=P) (n:=n) (fun m a1 w1 => ∃ K1 S1 e1,Rel K1 S1 w1 ∧ EnvRep K1 (eget e1) a1.tmps ∧ a1.tmps.size = a.tmps.size ∧ a1.defers = a.defers ∧ Step K (fun n => n < S.heap.length) w K1 w1 ∧ Keeps b0 S S1 ∧ iter (exec b0 cl n i) kp m e1 S1 = some r) ?_ ?_ ⟨K,S,e,R,E,rfl,rfl,Step.refl _ _ _,keeps_refl _ _,hx⟩
  ·rintro a1 w1 ⟨K1,S1,e1,_,_,_,_,_,_,h⟩
   simp [iter] at h
  ·rintro m a1 w1 ⟨K1,S1,e1,R1,E1,hsz1,hdf1,hst1,hkp1,h⟩
   simp only [iter] at h
   have hb1 : b0 ≤ S1.heap.length:=by have:=hkp1.1; omega
   split at h
   ·rename_i e2 S2 hb
    refine csim hcl i c K1 S1 w1 a1 _ _ hc R1 (hkp1.2.2 hsc) (E1.keep kp) (by omega) hb1 hb _ ?_
    intro a2 w2 K2 en R2 E2 hdf hsz hst hkp hex
    cases en <;> simp only [Exr] at hex
    exact ⟨K2,S2,e2,R2,E2 trivial,(hsz trivial).trans hsz1,hdf.trans hdf1,hst1.trans hst (fun m hm => Nat.lt_of_lt_of_le hm hkp1.1),hkp1.trans hkp,h⟩
   ·rename_i hne
    refine csim hcl i c K1 S1 w1 a1 _ r hc R1 (hkp1.2.2 hsc) (E1.keep kp) (by omega) hb1 h _ ?_
    intro a2 w2 K2 en R2 E2 hdf hsz hst hkp hex
    have hnn : r.1 ≠ .normal:=by
     intro hr
     obtain ⟨ex,e2,S2⟩:=r
     simp only at hr
     subst hr
     exact hne e2 S2 h
    cases en with
    | normal =>
     exfalso
     cases hr : r.1 <;> rw [hr] at hex <;> simp only [Exr] at hex
     exact hnn hr
    | _ => exact hQ a2 w2 K2 _ R2 E2 (hdf.trans hdf1) (fun h => (hsz h).trans hsz1) (hst1.trans hst (fun m hm => Nat.lt_of_lt_of_le hm hkp1.1)) (hkp1.trans hkp) hex
end Go.Proofs.YtmeakjgbjldkdaaGreat.Ai
