/- A part of what is proved: Fro, SrtK, SlqK, ExU, Slq, ClnQ, SrtE, EnvE, C11r, C16r. No condition. -/
import Derived.Test.YtmeakjgbjldkdaaGreatY16
set_option maxRecDepth 100000
set_option maxHeartbeats 16000000
namespace Go.Proofs.YtmeakjgbjldkdaaGreat.Ai
open Go
theorem tag_cl {K K' : Ghost} (hg : ∀ B l,K.g B = some l → K'.g B = some l ∧ K'.a B = K.a B) {sz : Nat} {tag : Tag} {len cap B o : Nat} {o' : Nat} {vs : List Value} (hf : K.fix B o' vs) (h : K.tagOk sz tag len cap B o) : K'.tagOk sz tag len cap B o:=by
 obtain ⟨l0,hf0,-⟩:=hf
 obtain ⟨g1,a1⟩:=hg B l0 hf0
 refine ⟨fun x hx => h.1 x (by rw [← a1]; exact hx),?_⟩
 replace h:=h.2
 cases tag with
 | full => exact h
 | still =>
  show K'.a B = none
  rw [a1]
  exact h
 | dead => trivial
 | row b e =>
  obtain ⟨⟨x,h1,h2⟩,h3⟩:=h
  refine ⟨⟨x,by rw [a1]; exact h1,h2⟩,fun hlt => ?_⟩
  obtain ⟨E,size,l,e1,e2,rest⟩:=h3 hlt
  rw [hf0] at e2
  simp only [Option.some.injEq] at e2
  subst e2
  exact ⟨E,size,_,by rw [a1]; exact e1,g1,rest⟩
mutual
theorem Rep.closed {K K' : Ghost} (hg : ∀ B l,K.g B = some l → K'.g B = some l ∧ K'.a B = K.a B) : ∀ (a : AV) (v : Value),Rep K a v → closed1 a = true → Rep K' a v
 | .bool _,_,r,_ => by simpa only [Rep] using r
 | .int _ _,_,r,_ => by simpa only [Rep] using r
 | .str _,_,r,_ => by simpa only [Rep] using r
 | .nilp,_,r,_ => by simpa only [Rep] using r
 | .nilm,_,r,_ => by simpa only [Rep] using r
 | .nilf,_,r,_ => by simpa only [Rep] using r
 | .nili,_,r,_ => by simpa only [Rep] using r
 | .undef,_,r,_ => by simpa only [Rep] using r
 | .ptr n off,v,r,hb => by simp [closed1] at hb
 | .map n,v,r,hb => by simp [closed1] at hb
 | .arr n off sz len,v,r,hb => by simp [closed1] at hb
 | .func f a b,v,r,hb => by
  simp only [Rep] at r ⊢
  simp only [closed1,Bool.and_eq_true] at hb
  obtain ⟨us,vs,hv,h1,h2⟩:=r
  exact ⟨us,vs,hv,RepT.closed hg a us h1 hb.1,RepT.closed hg b vs h2 hb.2⟩
 | .ref cs,v,r,hb => by
  simp only [Rep] at r ⊢
  simp only [closed1] at hb
  obtain ⟨B,o,vs,hv,hf,hr⟩:=r
  exact ⟨B,o,vs,hv,fix_g (fun B l h => (hg B l h).1) hf,RepL.closed hg cs vs hr hb⟩
 | .list sz tag rows,v,r,_ => by
  simp only [Rep] at r ⊢
  obtain ⟨base,cap,hv,hc,hs,hr⟩:=r
  refine ⟨base,cap,hv,hc,hs,hr.imp id ?_⟩
  rintro ⟨B,o,vs,hb,hf,hr,ht⟩
  exact ⟨B,o,vs,hb,fix_g (fun B l h => (hg B l h).1) hf,RepLL.closed hg rows vs hr (fun r hr' => (hs r hr').2),tag_cl hg hf ht⟩
 | .iface t x,v,r,hb => by
  simp only [Rep] at r ⊢
  simp only [closed1] at hb
  obtain ⟨u,hv,h1⟩:=r
  exact ⟨u,hv,Rep.closed hg x u h1 hb⟩
 | .agg cs,v,r,hb => by
  simp only [Rep] at r ⊢
  simp only [closed1] at hb
  obtain ⟨vs,hv,h1⟩:=r
  exact ⟨vs,hv,RepL.closed hg cs vs h1 hb⟩
 | .tup cs,v,r,hb => by
  simp only [Rep] at r ⊢
  simp only [closed1] at hb
  obtain ⟨vs,hv,h1⟩:=r
  exact ⟨vs,hv,RepT.closed hg cs vs h1 hb⟩
theorem RepL.closed {K K' : Ghost} (hg : ∀ B l,K.g B = some l → K'.g B = some l ∧ K'.a B = K.a B) : ∀ (a : List AV) (v : List Value),RepL K a v → closedL a = true → RepL K' a v
 | [],_,r,_ => by simpa only [RepL] using r
 | a :: ts,v,r,hb => by
  simp only [RepL] at r ⊢
  simp only [closedL,Bool.and_eq_true] at hb
  obtain ⟨u,us,hv,h1,h2,h3⟩:=r
  exact ⟨u,us,hv,h1,Rep.closed hg a u h2 hb.1,RepL.closed hg ts us h3 hb.2⟩
theorem RepT.closed {K K' : Ghost} (hg : ∀ B l,K.g B = some l → K'.g B = some l ∧ K'.a B = K.a B) : ∀ (a : List AV) (v : List Value),RepT K a v → closedL a = true → RepT K' a v
 | [],_,r,_ => by simpa only [RepT] using r
 | a :: ts,v,r,hb => by
  simp only [RepT] at r ⊢
  simp only [closedL,Bool.and_eq_true] at hb
  obtain ⟨u,us,hv,h2,h3⟩:=r
  exact ⟨u,us,hv,Rep.closed hg a u h2 hb.1,RepT.closed hg ts us h3 hb.2⟩
theorem RepLL.closed {K K' : Ghost} (hg : ∀ B l,K.g B = some l → K'.g B = some l ∧ K'.a B = K.a B) : ∀ (a : List (List AV)) (v : List Value),RepLL K a v → (∀ r ∈ a,closedL r = true) → RepLL K' a v
 | [],_,r,_ => by simpa only [RepLL] using r
 | a :: ts,v,r,hb => by
  simp only [RepLL] at r ⊢
  obtain ⟨u,us,hv,h2,h3⟩:=r
  exact ⟨u,us,hv,RepL.closed hg a u h2 (hb a (by simp)),RepLL.closed hg ts us h3 (fun r hr => hb r (by simp [hr]))⟩
end
mutual
def nest1 (bad : Nat → Bool) : AV → Bool
 | .ptr .. | .arr .. | .map _ | .ref _ => false
 | .func _ a b => nestL bad a && nestL bad b
 | .list sz _ rows => !bad sz && nestLL bad rows
 | .iface _ v => nest1 bad v
 | .agg cs => nestL bad cs
 | .tup cs => nestL bad cs
 | _ => true
def nestL (bad : Nat → Bool) : List AV → Bool
 | [] => true
 | v :: vs => nest1 bad v && nestL bad vs
def nestLL (bad : Nat → Bool) : List (List AV) → Bool
 | [] => true
 | v :: vs => nestL bad v && nestLL bad vs
end
def Nst (bad : Nat → Bool) (K K' : Ghost) : Prop:=∀ B l,K.g B = some l → (K'.g B = some l ∧ K'.a B = K.a B) ∨ ∃ x,K.a B = some x ∧ bad x.2.2.1 = true
theorem nst_tag {bad : Nat → Bool} {K K' : Ghost} (hc : Nst bad K K') {sz : Nat} {tag : Tag} {len cap B o : Nat} {o' : Nat} {vs : List Value} (hf : K.fix B o' vs) (hb : bad sz = false) (h : K.tagOk sz tag len cap B o) : K'.fix B o' vs ∧ K'.tagOk sz tag len cap B o:=by
 obtain ⟨l0,hf0,hf1⟩:=hf
 rcases hc B l0 hf0 with ⟨g1,a1⟩ | ⟨x,h1,h2⟩
 ·refine ⟨⟨l0,g1,hf1⟩,fun x hx => h.1 x (by rw [← a1]; exact hx),?_⟩
  replace h:=h.2
  cases tag with
  | full => exact h
  | still =>
   show K'.a B = none
   rw [a1]
   exact h
  | dead => trivial
  | row b e =>
   obtain ⟨⟨x,h1,h2⟩,h3⟩:=h
   refine ⟨⟨x,by rw [a1]; exact h1,h2⟩,fun hlt => ?_⟩
   obtain ⟨E,size,l,e1,e2,rest⟩:=h3 hlt
   rw [hf0] at e2
   simp only [Option.some.injEq] at e2
   subst e2
   exact ⟨E,size,_,by rw [a1]; exact e1,g1,rest⟩
 ·rw [h.1 x h1,hb] at h2
  cases h2
mutual
theorem Rep.nest {bad : Nat → Bool} {K K' : Ghost} (hc : Nst bad K K') : ∀ (a : AV) (v : Value),Rep K a v → nest1 bad a = true → Rep K' a v
 | .bool _,_,r,_ => by simpa only [Rep] using r
 | .int _ _,_,r,_ => by simpa only [Rep] using r
 | .str _,_,r,_ => by simpa only [Rep] using r
 | .nilp,_,r,_ => by simpa only [Rep] using r
 | .nilm,_,r,_ => by simpa only [Rep] using r
 | .nilf,_,r,_ => by simpa only [Rep] using r
 | .nili,_,r,_ => by simpa only [Rep] using r
 | .undef,_,r,_ => by simpa only [Rep] using r
 | .ptr _ _,_,_,hb => by simp [nest1] at hb
 | .map _,_,_,hb => by simp [nest1] at hb
 | .arr _ _ _ _,_,_,hb => by simp [nest1] at hb
 | .ref _,_,_,hb => by simp [nest1] at hb
 | .func f a b,v,r,hb => by
  simp only [Rep] at r ⊢
  simp only [nest1,Bool.and_eq_true] at hb
  obtain ⟨us,vs,hv,h1,h2⟩:=r
  exact ⟨us,vs,hv,RepT.nest hc a us h1 hb.1,RepT.nest hc b vs h2 hb.2⟩
 | .list sz tag rows,v,r,hb => by
  simp only [Rep] at r ⊢
  simp only [nest1,Bool.and_eq_true,Bool.not_eq_true'] at hb
  obtain ⟨base,cap,hv,hcap,hs,hr⟩:=r
  refine ⟨base,cap,hv,hcap,hs,hr.imp id ?_⟩
  rintro ⟨B,o,vs,hb',hf,hr,ht⟩
  obtain ⟨hf2,ht2⟩:=nst_tag hc hf hb.1 ht
  exact ⟨B,o,vs,hb',hf2,RepLL.nest hc rows vs hr hb.2,ht2⟩
 | .iface t x,v,r,hb => by
  simp only [Rep] at r ⊢
  simp only [nest1] at hb
  obtain ⟨u,hv,h1⟩:=r
  exact ⟨u,hv,Rep.nest hc x u h1 hb⟩
 | .agg cs,v,r,hb => by
  simp only [Rep] at r ⊢
  simp only [nest1] at hb
  obtain ⟨vs,hv,h1⟩:=r
  exact ⟨vs,hv,RepL.nest hc cs vs h1 hb⟩
 | .tup cs,v,r,hb => by
  simp only [Rep] at r ⊢
  simp only [nest1] at hb
  obtain ⟨vs,hv,h1⟩:=r
  exact ⟨vs,hv,RepT.nest hc cs vs h1 hb⟩
theorem RepL.nest {bad : Nat → Bool} {K K' : Ghost} (hc : Nst bad K K') : ∀ (a : List AV) (v : List Value),RepL K a v → nestL bad a = true → RepL K' a v
 | [],_,r,_ => by simpa only [RepL] using r
 | a :: xs,v,r,hb => by
  simp only [RepL] at r ⊢
  simp only [nestL,Bool.and_eq_true] at hb
  obtain ⟨u,us,hv,h1,h2,h3⟩:=r
  exact ⟨u,us,hv,h1,Rep.nest hc a u h2 hb.1,RepL.nest hc xs us h3 hb.2⟩
theorem RepT.nest {bad : Nat → Bool} {K K' : Ghost} (hc : Nst bad K K') : ∀ (a : List AV) (v : List Value),RepT K a v → nestL bad a = true → RepT K' a v
 | [],_,r,_ => by simpa only [RepT] using r
 | a :: xs,v,r,hb => by
  simp only [RepT] at r ⊢
  simp only [nestL,Bool.and_eq_true] at hb
  obtain ⟨u,us,hv,h2,h3⟩:=r
  exact ⟨u,us,hv,Rep.nest hc a u h2 hb.1,RepT.nest hc xs us h3 hb.2⟩
theorem RepLL.nest {bad : Nat → Bool} {K K' : Ghost} (hc : Nst bad K K') : ∀ (a : List (List AV)) (v : List Value),RepLL K a v → nestLL bad a = true → RepLL K' a v
 | [],_,r,_ => by simpa only [RepLL] using r
 | a :: xs,v,r,hb => by
  simp only [RepLL] at r ⊢
  simp only [nestLL,Bool.and_eq_true] at hb
  obtain ⟨u,us,hv,h2,h3⟩:=r
  exact ⟨u,us,hv,RepL.nest hc a u h2 hb.1,RepLL.nest hc xs us h3 hb.2⟩
end
def intsM (es : List (Str × AV)) : Bool:=es.all fun x => match x.2 with
 | .int _ _ => true
 | _ => false
theorem repM_ints {K K' : Ghost} : ∀ {es : List (Str × AV)} {ms : List MapEntry},intsM es = true → RepM K es ms → RepM K' es ms
 | [],_,_,h => by simpa only [RepM] using h
 | (k,a) :: es,ms,hb,h => by
  simp only [RepM] at h ⊢
  simp only [intsM,List.all_cons,Bool.and_eq_true] at hb
  obtain ⟨x,ms',h1,h2,h3,h4⟩:=h
  refine ⟨x,ms',h1,h2,?_,repM_ints hb.2 h4⟩
  cases a <;> first | (simp at hb; done) | simpa only [Rep] using h3
end Go.Proofs.YtmeakjgbjldkdaaGreat.Ai
namespace Go.Proofs.YtmeakjgbjldkdaaGreat.Ai
open Go
variable {P : Program}
end Go.Proofs.YtmeakjgbjldkdaaGreat.Ai
namespace Go.Proofs.YtmeakjgbjldkdaaGreat.Ai
open Go
variable {P : Program}
def outS (K : Ghost) (bx Bx n Bt m Bm : Nat) : Ghost:={K with m:=fun k => if k = bx then some Bx else if k = n then some Bt else if k = m then some Bm else none}
theorem outS_m {K : Ghost} {bx Bx n Bt m Bm : Nat} (h1 : K.m bx = some Bx) (h2 : K.m n = some Bt) (h3 : K.m m = some Bm) {k B : Nat} (h : (outS K bx Bx n Bt m Bm).m k = some B) : K.m k = some B ∧ (k = bx ∨ k = n ∨ k = m):=by
 simp only [outS] at h
 split at h
 ·rename_i e; subst e; exact ⟨h1.trans h,.inl rfl⟩
 ·split at h
  ·rename_i e; subst e; exact ⟨h2.trans h,.inr (.inl rfl)⟩
  ·split at h
   ·rename_i e; subst e; exact ⟨h3.trans h,.inr (.inr rfl)⟩
   ·cases h
theorem outS_bx {K : Ghost} {bx Bx n Bt m Bm : Nat} : (outS K bx Bx n Bt m Bm).m bx = some Bx:=by simp [outS]
theorem outS_n {K : Ghost} {bx Bx n Bt m Bm : Nat} (h1 : K.m bx = some Bx) (h2 : K.m n = some Bt) : (outS K bx Bx n Bt m Bm).m n = some Bt:=by
 simp only [outS]
 split
 ·rename_i e; subst e; rw [h2] at h1; exact h1.symm
 ·simp
theorem outS_mm {K : Ghost} {bx Bx n Bt m Bm : Nat} (h1 : K.m bx = some Bx) (h2 : K.m n = some Bt) (h3 : K.m m = some Bm) : (outS K bx Bx n Bt m Bm).m m = some Bm:=by
 simp only [outS]
 split
 ·rename_i e; subst e; rw [h3] at h1; exact h1.symm
 ·split
  ·rename_i e; subst e; rw [h3] at h2; exact h2.symm
  ·simp
theorem repL_tab {K K' : Ghost} (hg : ∀ B l,K.g B = some l → K'.g B = some l ∧ K'.a B = K.a B) {m Bm : Nat} (hm : K.m m = some Bm) (hm' : K'.m m = some Bm) : ∀ {cs : List AV} {vs : List Value},(∀ x ∈ cs,closed1 x = true ∨ x = .map m) → RepL K cs vs → RepL K' cs vs:=by
 intro cs
 induction cs with
 | nil => intro vs _ h; simpa only [RepL] using h
 | cons c cs ih =>
  intro vs hc h
  simp only [RepL] at h ⊢
  obtain ⟨v,vs',h1,h2,h3,h4⟩:=h
  refine ⟨v,vs',h1,h2,?_,ih (fun x hx => hc x (List.mem_cons_of_mem _ hx)) h4⟩
  rcases hc c List.mem_cons_self with h5 | rfl
  ·exact Rep.closed hg c v h3 h5
  ·simp only [Rep] at h3 ⊢
   obtain ⟨B,h6,h7⟩:=h3
   rw [hm] at h6
   simp only [Option.some.injEq] at h6
   subst h6
   exact ⟨Bm,hm',h7⟩
theorem rel_outS {K : Ghost} {S : St} {w : World} (R : Rel K S w) {bx Bx n Bt m Bm : Nat} {cs : List AV} {es : List (Str × AV)} (h1 : K.m bx = some Bx) (h2 : K.m n = some Bt) (h3 : K.m m = some Bm)
  (hb : S.heap[bx]? = some (.cells [.ptr n 0])) (hc : S.heap[n]? = some (.cells cs)) (hM : S.heap[m]? = some (.map es)) (hes : intsM es = true) (ht : ∀ x ∈ cs,closed1 x = true ∨ x = .map m) :
  Rel (outS K bx Bx n Bt m Bm) S w:=by
 have hm:=@outS_m K bx Bx n Bt m Bm h1 h2 h3
 refine ⟨fun k B h => R.dom k B (hm h).1,fun k k' B h h' => R.inj k k' B (hm h).1 (hm h').1,fun k B h => R.sep k B (hm h).1,fun k B cs' h hcs => ?_,fun k B es' h hes' => ?_,R.rows,R.grow⟩
 ·obtain ⟨hk,hk'⟩:=hm h
  obtain ⟨vs,t,e1,e2⟩:=R.cells k B cs' hk hcs
  refine ⟨vs,t,e1,?_⟩
  rcases hk' with rfl | rfl | rfl
  ·rw [hb] at hcs
   simp only [Option.some.injEq,Blk.cells.injEq] at hcs
   subst hcs
   simp only [RepL,Rep] at e2 ⊢
   obtain ⟨v,vs',e3,e4,⟨B',e5,e6⟩,e7⟩:=e2
   rw [h2] at e5
   simp only [Option.some.injEq] at e5
   subst e5
   exact ⟨v,vs',e3,e4,⟨Bt,outS_n h1 h2,e6⟩,e7⟩
  ·rw [hc] at hcs
   simp only [Option.some.injEq,Blk.cells.injEq] at hcs
   subst hcs
   exact repL_tab (K:=K) (K':=outS K bx Bx k Bt m Bm) (fun B l hB => ⟨hB,rfl⟩) h3 (outS_mm h1 h2 h3) ht e2
  ·rw [hM] at hcs
   simp at hcs
 ·obtain ⟨hk,hk'⟩:=hm h
  obtain ⟨ms,ck,e1,e2⟩:=R.maps k B es' hk hes'
  refine ⟨ms,ck,e1,?_⟩
  rcases hk' with rfl | rfl | rfl
  ·rw [hb] at hes'
   simp at hes'
  ·rw [hc] at hes'
   simp at hes'
  ·rw [hM] at hes'
   simp only [Option.some.injEq,Blk.map.injEq] at hes'
   subst hes'
   exact repM_ints hes e2
def backS (K K1 : Ghost) : Ghost:={K1 with m:=K.m}
theorem ext_back {K K1 : Ghost} {bx Bx n Bt m Bm : Nat} (hx : Ext (outS K bx Bx n Bt m Bm) K1) : Ext K (backS K K1):=⟨fun _ _ h => h,hx.g,hx.a,hx.n⟩
theorem step_back {K K1 : Ghost} {w w1 : World} {bx Bx n Bt m Bm : Nat} {X Y : Nat → Prop} (h1 : K.m bx = some Bx) (h2 : K.m n = some Bt) (h3 : K.m m = some Bm) (hst : Step (outS K bx Bx n Bt m Bm) X w K1 w1) : Step K Y w (backS K K1) w1:=by
 have hm:=@outS_m K bx Bx n Bt m Bm h1 h2 h3
 refine ⟨ext_back hst.ext,hst.os,hst.tape,hst.output,hst.size,fun B hB e1 e2 => ?_,fun B hB e1 e2 => ⟨e1,?_⟩,fun _ _ h => h,fun B x h => hst.born B x h⟩
 ·exact hst.frame B hB (fun k hk => e1 k (hm hk).1) e2
 ·exact (hst.fresh B hB (fun k hk => e1 k (hm hk).1) e2).2
theorem sep_back {K K1 : Ghost} {S S1 : St} {w w1 : World} {bx Bx n Bt m Bm : Nat} {X : Nat → Prop} (R : Rel K S w) (R1 : Rel K1 S1 w1) (h1 : K.m bx = some Bx) (h2 : K.m n = some Bt) (h3 : K.m m = some Bm) (hst : Step (outS K bx Bx n Bt m Bm) X w K1 w1) {k B : Nat} (hk : K.m k = some B) : K1.g B = none:=by
 by_cases he : k = bx ∨ k = n ∨ k = m
 ·rcases he with rfl | rfl | rfl
  ·rw [h1] at hk; cases hk; exact R1.sep k _ (hst.ext.m k _ outS_bx)
  ·rw [h2] at hk; cases hk; exact R1.sep k _ (hst.ext.m k _ (outS_n h1 h2))
  ·rw [h3] at hk; cases hk; exact R1.sep k _ (hst.ext.m k _ (outS_mm h1 h2 h3))
 ·refine (hst.fresh B (m_lt R hk) (fun k' hk' => ?_) (R.sep k B hk)).2
  obtain ⟨e1,e2⟩:=outS_m h1 h2 h3 hk'
  exact he (R.inj k' k B e1 hk ▸ e2)
theorem frame_back {K K1 : Ghost} {S : St} {w w1 : World} {bx Bx n Bt m Bm : Nat} {X : Nat → Prop} (R : Rel K S w) (h1 : K.m bx = some Bx) (h2 : K.m n = some Bt) (h3 : K.m m = some Bm) (hst : Step (outS K bx Bx n Bt m Bm) X w K1 w1) {k B : Nat} (hk : K.m k = some B) (he : ¬(k = bx ∨ k = n ∨ k = m)) : w1.heap[B]? = w.heap[B]?:=by
 refine hst.frame B (m_lt R hk) (fun k' hk' => ?_) (R.sep k B hk)
 obtain ⟨e1,e2⟩:=outS_m h1 h2 h3 hk'
 exact he (R.inj k' k B e1 hk ▸ e2)
end Go.Proofs.YtmeakjgbjldkdaaGreat.Ai
namespace Go.Proofs.YtmeakjgbjldkdaaGreat.Ai
open Go
open Classical in
noncomputable def exU (cl : CallFn) (c : IC) (e : Env) (S : St) : Option (Ex × Env × St):=
 if h : ∃ r n,exec S.heap.length cl n c e S = some r then some (Classical.choose h) else none
theorem exU_some {cl : CallFn} {c : IC} {e : Env} {S : St} {r : Ex × Env × St} (h : exU cl c e S = some r) : ∃ n,exec S.heap.length cl n c e S = some r:=by
 unfold exU at h
 split at h
 ·rename_i hx
  simp only [Option.some.injEq] at h
  subst h
  exact Classical.choose_spec hx
 ·simp at h
theorem exU_of {cl cl' : CallFn} (hc : CLe cl cl') {c : IC} {e : Env} {S : St} {n : Nat} {r : Ex × Env × St} (h : exec S.heap.length cl n c e S = some r) : exU cl' c e S = some r:=by
 have h1 : ∃ r n,exec S.heap.length cl' n c e S = some r:=⟨r,n,exec_mono hc (Nat.le_refl n) c e S _ h⟩
 unfold exU
 rw [dif_pos h1]
 obtain ⟨m,hm⟩:=Classical.choose_spec h1
 have e1:=exec_mono hc (Nat.le_max_left n m) c e S _ h
 have e2:=exec_mono (fun _ _ _ _ h => h) (Nat.le_max_right n m) c e S _ hm
 rw [e1] at e2
 exact e2.symm
theorem exU_mono {cl cl' : CallFn} (hc : CLe cl cl') (c : IC) (e : Env) (S : St) : Le (exU cl c e S) (exU cl' c e S):=fun r h => by
 obtain ⟨n,hn⟩:=exU_some h
 exact exU_of hc hn
end Go.Proofs.YtmeakjgbjldkdaaGreat.Ai
namespace Go.Proofs.YtmeakjgbjldkdaaGreat.Ai
open Go Go.Sort Go.Proofs.YtmeakjgbjldkdaaGreat.Slo
open Classical in
noncomputable def enU (cl : CallFn) (fn : IFn) (vs : List AV) (S : St) : Option (Res × St):=if h : ∃ r n,enter cl n fn vs S = some r then some (Classical.choose h) else none
theorem enU_some {cl : CallFn} {fn : IFn} {vs : List AV} {S : St} {r : Res × St} (h : enU cl fn vs S = some r) : ∃ n,enter cl n fn vs S = some r:=by
 unfold enU at h
 split at h
 ·rename_i hx
  simp only [Option.some.injEq] at h
  subst h
  exact Classical.choose_spec hx
 ·simp at h
theorem enU_of {cl cl' : CallFn} (hc : CLe cl cl') {fn : IFn} {vs : List AV} {S : St} {n : Nat} {r : Res × St} (h : enter cl n fn vs S = some r) : enU cl' fn vs S = some r:=by
 have h1 : ∃ r n,enter cl' n fn vs S = some r:=⟨r,n,enter_mono hc (Nat.le_refl n) fn vs S _ h⟩
 unfold enU
 rw [dif_pos h1]
 obtain ⟨m,hm⟩:=Classical.choose_spec h1
 have e1:=enter_mono hc (Nat.le_max_left n m) fn vs S _ h
 have e2:=enter_mono (fun _ _ _ _ h => h) (Nat.le_max_right n m) fn vs S _ hm
 rw [e1] at e2
 exact e2.symm
def slotList (l : List Str) : AV:=.list 1 .still ((dedB (sortB l)).map fun s => [.str s])
noncomputable def slotsEnd (S S1 : St) (n : Nat) (cs : List AV) (z : Option (Res × St)) : AV → Option (Res × St)
 | .list 1 (.row b _) rows => match strsOf rows with
  | some l => if S.rows.length ≤ b ∧ 0 < l.length ∧ l.length ≤ 1000000 ∧ awT l b (canonL (overlay cs 6 [.nilp])) = true then
    some (.ret (.tup []),⟨S.heap.set n (.cells (overlay (canonL cs) 6 [slotList l])),S1.rows⟩) else none
  | none => none
 | .list 0 .full [] => z
 | _ => none
open Classical in
noncomputable def slotsQ : CallFn → List AV → St → Option (Res × St):=fun cl vs S => match vs with
 | [.ptr bx 0] => match S.heap[bx]? with
  | some (.cells [.ptr n 0]) => match S.heap[n]? with
   | some (.cells cs) => match (cs[1]? : Option AV) with
    | some (.map m) => match S.heap[m]? with
     | some (.map es) => if intsM es = true ∧ 6 < cs.length ∧ ∀ x ∈ cs,closed1 x = true ∨ x = .map m then
       match exU cl pre59 (args0 [.ptr bx 0]) S with
       | some (.normal,e1,S1) => match S1.heap[n]? with
        | some (.cells cs1) => if eget e1 0 = some (.ptr bx 0) ∧ S1.heap[bx]? = some (.cells [.ptr n 0]) ∧ S1.heap[m]? = some (.map es) ∧ overlay cs1 6 [.nilp] = overlay cs 6 [.nilp] then
          match (cs1[6]? : Option AV) with
          | some v => slotsEnd S S1 n cs (enU cl i59 [.ptr bx 0] S) v
          | none => none
         else none
        | _ => none
       | _ => none
      else none
     | _ => none
    | _ => none
   | _ => none
  | _ => none
 | _ => none
theorem canonL_len (cs : List AV) : (canonL cs).length = cs.length:=List.length_map _
theorem canonL_over (cs : List AV) (k : Nat) (x : AV) : canonL (overlay cs k [x]) = overlay (canonL cs) k [canon1 x]:=by
 simp only [canonL,overlay,List.map_append,List.map_take,List.map_drop,List.map_cons,List.map_nil,List.length_cons,List.length_nil]
theorem below_canon (k : Nat) (x : AV) : below k (canon1 x) = below k x:=by
 unfold canon1
 split <;> simp [below]
theorem belowL_mem {k : Nat} : ∀ {cs : List AV},belowL k cs = true ↔ ∀ x ∈ cs,below k x = true
 | [] => by simp [belowL]
 | c :: cs => by simp only [belowL,Bool.and_eq_true,List.forall_mem_cons,belowL_mem (cs:=cs)]
theorem keeps_cells {b0 n : Nat} {S : St} {cs cs' : List AV} {rw' : List Nat} (hb : S.heap[n]? = some (.cells cs)) (h : ∀ k,belowL k cs = true → belowL k cs' = true) : Keeps b0 S ⟨S.heap.set n (.cells cs'),rw'⟩:=by
 have key : ∀ k,Inner k S → Inner k ⟨S.heap.set n (.cells cs'),rw'⟩:=by
  intro k hI i b hi hb'
  simp only at hb'
  by_cases e : i = n
  ·subst e
   rw [List.getElem?_set_self (List.getElem?_eq_some_iff.1 hb).1] at hb'
   cases hb'
   exact h k (hI i _ hi hb)
  ·rw [List.getElem?_set_ne (Ne.symm e)] at hb'
   exact hI i b hi hb'
 refine ⟨by simp,fun k _ hI => key k hI,fun hI => ?_⟩
 have:=key _ hI
 simpa using this
theorem below_slots (l : List Str) {k : Nat} {cs : List AV} (h : belowL k cs = true) : belowL k (overlay (canonL cs) 6 [slotList l]) = true:=by
 rw [belowL_mem] at h ⊢
 intro x hx
 simp only [overlay,List.mem_append,List.mem_singleton] at hx
 have hc : ∀ y ∈ canonL cs,below k y = true:=by
  intro y hy
  obtain ⟨z,hz,rfl⟩:=List.mem_map.1 hy
  rw [below_canon]
  exact h z hz
 rcases hx with (hx | rfl) | hx
 ·exact hc x (List.mem_of_mem_take hx)
 ·rfl
 ·exact hc x (List.mem_of_mem_drop hx)
theorem slotsEnd_mono {S S1 : St} {n : Nat} {cs : List AV} {z z' : Option (Res × St)} (hz : ∀ r,z = some r → z' = some r) {v : AV} {r : Res × St} (h : slotsEnd S S1 n cs z v = some r) : slotsEnd S S1 n cs z' v = some r:=by
 unfold slotsEnd at h ⊢
 split at h
 ·exact h
 ·exact hz r h
 ·simp at h
theorem slotsQ_mono : PrimMono slotsQ:=by
 intro c c' hc vs S a h
 unfold slotsQ at h ⊢
 split at h
 ·rename_i bx
  split at h
  ·rename_i n hb
   split at h
   ·rename_i cs hcs
    split at h
    ·rename_i m hm
     split at h
     ·rename_i es hes
      split at h
      ·rename_i hif
       simp only [if_pos hif]
       split at h
       ·rename_i e1 S1 hx
        rw [exU_mono hc _ _ _ _ hx]
        try simp only
        split at h
        ·rename_i cs1 hcs1
         try simp only [hcs1]
         split at h
         ·rename_i hif2
          rw [if_pos hif2]
          split at h
          ·rename_i v hv
           try simp only
           refine slotsEnd_mono (fun r hr => ?_) h
           obtain ⟨k,hk⟩:=enU_some hr
           exact enU_of hc hk
          ·simp at h
         ·simp at h
        ·simp at h
       ·simp at h
      ·simp at h
     ·simp at h
    ·simp at h
   ·simp at h
  ·simp at h
 ·simp at h
theorem slotsQ_sim (c59 : chkFn Tryz.prog Tryz.f59 i59 = true) : PrimSim Tryz.prog 59 slotsQ:=by
 intro cl hcl vs S r S' hp K w us R hI ha
 unfold slotsQ at hp
 split at hp
 case h_2 => simp at hp
 rename_i bx
 simp only at hp
 split at hp
 case h_2 => simp at hp
 rename_i n hb
 split at hp
 case h_2 => simp at hp
 rename_i cs hcs
 split at hp
 case h_2 => simp at hp
 rename_i m hcm
 split at hp
 case h_2 => simp at hp
 rename_i es hes
 split at hp
 case isFalse => simp at hp
 rename_i hif
 obtain ⟨hint,hcl6',htab⟩:=hif
 split at hp
 case h_2 => simp at hp
 rename_i e1 S1 hex
 split at hp
 case h_2 => simp at hp
 rename_i cs1 hcs1
 split at hp
 case isFalse => simp at hp
 rename_i hif2
 obtain ⟨he0,hb1,hM1,hov⟩:=hif2
 split at hp
 case h_2 => simp at hp
 rename_i v hv6
 obtain ⟨nf,hex⟩:=exU_some hex
 have ha0:=ha
 simp only [RepT,Rep] at ha
 obtain ⟨u0,us1,rfl,⟨Bx,hBx,rfl⟩,rfl⟩:=ha
 obtain ⟨xs0,tx0,hx0w,hxr0⟩:=R.cells bx Bx _ hBx hb
 obtain ⟨ux0,-,-,hux0⟩:=hxr0.get 0 _ rfl
 simp only [Rep] at hux0
 obtain ⟨Bt,hBt,-⟩:=hux0
 obtain ⟨vt0,tt0,hvt0,hvr0⟩:=R.cells n Bt cs hBt hcs
 obtain ⟨um,-,-,hum⟩:=hvr0.get 1 _ hcm
 simp only [Rep] at hum
 obtain ⟨Bm,hBm,-⟩:=hum
 have Ro:=rel_outS R hBx hBt hBm hb hcs hes hint htab
 unfold slotsEnd at hp
 split at hp
 ·rename_i b en rows
  split at hp
  case h_2 => simp at hp
  rename_i l hl
  split at hp
  case isFalse => simp at hp
  rename_i hc
  obtain ⟨c3,c5,c4,c6⟩:=hc
  simp only [Option.some.injEq,Prod.mk.injEq] at hp
  obtain ⟨rfl,rfl⟩:=hp
  have hargs : RepT (outS K bx Bx n Bt m Bm) [.ptr bx 0] [.pointer (some ⟨Bx,0,none⟩)]:=by
   simp only [RepT,Rep]
   exact ⟨_,_,rfl,⟨Bx,outS_bx,rfl⟩,rfl⟩
  refine .inl ⟨enter59 _ _,?_⟩
  have hE:=args_rep hargs Tryz.f59.ntmps
  refine calls_of_wp Tryz.func59 body59 (wp_seq ?_)
  have hex':=hex
  generalize hvs : args0 [.ptr bx 0] = env0 at hex hE
  refine csim hcl pre59 head59 (outS K bx Bx n Bt m Bm) S w {tmps:=[Value.pointer (some ⟨Bx,0,none⟩)].toArray ++ Array.replicate (Tryz.f59.ntmps - [Value.pointer (some ⟨Bx,0,none⟩)].toArray.size) Go.undef,defers:=[]} env0 _ cpre Ro hI hE (by rw [Tryz.ntmps59]; simp) (Nat.le_refl _) hex _ ?_
  intro a1 w1 K1 ex R1 E1 hdf hsz hst hkp hexr
  cases ex <;> simp only [Exr] at hexr
  have hx:=ext_back hst.ext
  have st2 : Step K (fun k => k < S.heap.length) w (backS K K1) w1:=step_back hBx hBt hBm hst
  have hmx:=hst.ext.m bx Bx outS_bx
  have hmt:=hst.ext.m n Bt (outS_n hBx hBt)
  have hmm:=hst.ext.m m Bm (outS_mm hBx hBt hBm)
  obtain ⟨-,hv0⟩:=E1 trivial 0 _ he0
  simp only [Rep] at hv0
  obtain ⟨Bx',hmx',hv0⟩:=hv0
  rw [hmx] at hmx'
  simp only [Option.some.injEq] at hmx'
  subst hmx'
  obtain ⟨xs,tx,hxw,hxr⟩:=R1.cells bx Bx _ hmx hb1
  obtain ⟨ux,hx0,-,hxu⟩:=hxr.get 0 _ rfl
  simp only [Rep] at hxu
  obtain ⟨Bt',hmt',rfl⟩:=hxu
  rw [hmt] at hmt'
  simp only [Option.some.injEq] at hmt'
  subst hmt'
  obtain ⟨vt,tt,hvt,hvr⟩:=R1.cells n Bt cs1 hmt hcs1
  have hcl6 : 6 < cs1.length:=(List.getElem?_eq_some_iff.1 hv6).1
  obtain ⟨u6,hv6u,-,hu6⟩:=hvr.get 6 _ hv6
  simp only [Rep] at hu6
  obtain ⟨base,cap,rfl,hcap,hrs,hrow⟩:=hu6
  have hrl : rows.length = l.length:=by
   obtain ⟨q1,q2⟩:=strs_vals (K:=K) hl (vals_strs hl)
   exact q2
  rcases hrow with ⟨-,h0,-⟩ | ⟨Br,o,vr,rfl,hfix,hrep,htag⟩
  ·subst h0; simp at hrl; omega
  obtain ⟨hvreq,-⟩:=strs_vals hl hrep
  obtain ⟨hszk,⟨xa,hxa,hxb⟩,-⟩:=htag
  obtain ⟨lr,hgr,hlr⟩:=hfix
  obtain ⟨ur,tr,hur,hurl⟩:=R1.rows Br lr hgr
  have hnew : w.heap.size ≤ Br:=by
   rcases hst.born Br xa hxa with ⟨⟨b',E,sz,size⟩,hy⟩ | h
   ·exfalso
    obtain ⟨E',h1,-⟩:=hst.ext.a Br b' E sz size hy
    rw [hxa] at h1
    simp only [Option.some.injEq] at h1
    subst h1
    simp only at hxb
    subst hxb
    obtain ⟨_,-,-,r0,hr0,-⟩:=R.grow Br b' E sz size hy
    have:=(List.getElem?_eq_some_iff.1 hr0).1
    omega
   ·exact h
  have hxr' : Bx ≠ Br:=fun e => by
   have:=R1.sep bx Bx hmx
   rw [e,hgr] at this
   cases this
  have htr' : Bt ≠ Br:=fun e => by
   have:=R1.sep n Bt hmt
   rw [e,hgr] at this
   cases this
  have hlrl : o + l.length ≤ lr.length:=by
   have:=congrArg List.length hlr
   rw [hvreq] at this
   simp at this
   omega
  have hlrj : ∀ j,j < l.length → lr[o + j]? = some (.string ⟨(l[j]!).toArray⟩):=by
   intro j hj
   have h1 : ((lr.drop o).take vr.length)[j]? = vr[j]?:=by rw [hlr]
   rw [hvreq] at h1
   rw [List.getElem?_take_of_lt (by simpa using hj),List.getElem?_drop,List.getElem?_map,List.getElem?_eq_getElem hj] at h1
   rw [h1,getElem!_pos l j hj]
   rfl
  have hulen : lr.length ≤ ur.size:=by
   have:=congrArg List.length hurl
   simp at this
   omega
  have hurj : ∀ j,j < lr.length → ur[j]? = lr[j]?:=by
   intro j hj
   have h1 : (ur.toList.take lr.length)[j]? = lr[j]?:=by rw [hurl]
   rw [List.getElem?_take_of_lt hj] at h1
   simpa using h1
  rw [hrl] at hv6u hcap
  refine tail_wp Bx Bt Br o cap l _ a1 w1 ?_ hdf hv0 hxw ?_ hvt ?_ hur ?_ hxr' htr' (by omega) hcap ?_
  ·rw [hsz trivial,Tryz.ntmps59]
   simp
  ·simpa using hx0
  ·simpa using hv6u
  ·intro j hj
   rw [hurj _ (by omega),hlrj j hj]
   simp [encStr,hj]
  intro a' w' hda hos htape hout hsize hother hBt2 hBr2
  have hdd:=dedB_length (sortB l)
  have hsl:=sortB_length l
  have hbn : bx ≠ n:=fun e => by
   subst e
   rw [hb] at hcs
   simp only [Option.some.injEq,Blk.cells.injEq] at hcs
   rw [← hcs] at hcm
   simp at hcm
  have hmn : m ≠ n:=fun e => by
   subst e
   rw [hes] at hcs
   simp at hcs
  have hKt : ∀ k B,K.m k = some B → k ≠ n → B ≠ Bt:=fun k B h h' e => h' (R.inj k n B h (e ▸ hBt))
  have hKr : ∀ k B,K.m k = some B → B ≠ Br:=fun k B h e => by
   have:=m_lt R h
   omega
  have hKg : ∀ B l',K.g B = some l' → B ≠ Br:=fun B l' h e => by
   have:=g_lt R h
   omega
  obtain ⟨K3,hK3⟩ : ∃ K3 : Ghost,K3 = {m:=K.m,g:=fun B => if B = Br then some (putCells encStr o (slotRow l) lr.toArray).toList else K1.g B,a:=fun B => if B = Br then none else K1.a B}:=⟨_,rfl⟩
  have k3m : K3.m = K.m:=by rw [hK3]
  have k3g : K3.g Br = some (putCells encStr o (slotRow l) lr.toArray).toList:=by rw [hK3]; simp
  have k3go : ∀ B,B ≠ Br → K3.g B = K1.g B:=fun B hB => by rw [hK3]; simp [hB]
  have k3a : K3.a Br = none:=by rw [hK3]; simp
  have k3ao : ∀ B,B ≠ Br → K3.a B = K1.a B:=fun B hB => by rw [hK3]; simp [hB]
  clear hK3
  have hnrs : (slotRow l).size = l.length:=by simp [slotRow]; omega
  have hpj : ∀ j,(putCells encStr o (slotRow l) lr.toArray)[j]? = (lr[j]?).map fun x => if o ≤ j ∧ j < o + (slotRow l).size then encStr (slotRow l)[j - o]! else x:=by
   intro j
   simp [putCells]
  have hM : Moved l b Br (backS K K1) K3:=by
   refine moved_z k3m k3go k3ao (fun x hx => ?_) k3a fun o' vs' hf hbad => ?_
   ·change K1.a Br = some x at hx
    rw [hxa] at hx
    simp only [Option.some.injEq] at hx
    subst hx
    exact hxb
   ·obtain ⟨l1,h1,h2⟩:=hf
    change K1.g Br = some l1 at h1
    rw [hgr] at h1
    simp only [Option.some.injEq] at h1
    subst h1
    refine ⟨_,k3g,?_⟩
    rw [← h2]
    rw [List.length_take,List.length_drop]
    apply List.ext_getElem?
    intro j
    have hvj : j < vs'.length → vs'[j]? = lr[o' + j]?:=fun hj => by
     rw [← h2]
     rw [List.getElem?_take_of_lt hj,List.getElem?_drop]
    have hlen2 : vs'.length ≤ lr.length - o':=by
     have:=congrArg List.length h2
     simp at this
     omega
    rw [Nat.min_eq_left hlen2]
    by_cases hj : j < vs'.length
    ·rw [List.getElem?_take_of_lt hj,List.getElem?_take_of_lt hj,List.getElem?_drop,List.getElem?_drop]
     have e1 : (putCells encStr o (slotRow l) lr.toArray).toList[o' + j]? = (putCells encStr o (slotRow l) lr.toArray)[o' + j]?:=by simp
     rw [e1,hpj]
     cases hq : lr[o' + j]? with
     | none => rfl
     | some y =>
      simp only [Option.map_some,Option.some.injEq]
      by_cases hin : o ≤ o' + j ∧ o' + j < o + (slotRow l).size
      ·exfalso
       have h3:=hlrj (o' + j - o) (by omega)
       rw [show o + (o' + j - o) = o' + j by omega,hq] at h3
       simp only [Option.some.injEq] at h3
       have h4 : y ∈ vs':=List.mem_of_getElem? ((hvj hj).trans hq)
       have h5 : l[o' + j - o]! ∈ l:=by
        rw [getElem!_pos l _ (by omega)]
        exact List.getElem_mem _
       exact hbad y h4 _ h5 h3
      ·rw [if_neg hin]
    ·rw [List.getElem?_eq_none (by simp; omega),List.getElem?_eq_none (by simp; omega)]
  have hx3 : Ext K K3:=by
   refine ⟨fun k B h => by rw [k3m]; exact h,fun B l' h => ?_,fun B b' E sz size h => ?_,fun B l' h1 h2 => by rw [k3ao B (hKg B l' h1)]; exact hx.n B l' h1 h2⟩
   ·rw [k3go B (hKg B l' h)]
    exact hx.g B l' h
   ·obtain ⟨l0,hl0,-,-⟩:=R.grow B b' E sz size h
    obtain ⟨E',h1,h2,h3⟩:=hx.a B b' E sz size h
    exact ⟨E',by rw [k3ao B (hKg B l0 hl0)]; exact h1,h2,fun x y hx hy => h3 x y hx (by rw [k3go B (hKg B x hx)] at hy; exact hy)⟩
  have hnv : Rep K3 (slotList l) (.slice (some ⟨Br,o,none⟩) (dedB (sortB l)).length cap):=by
   simp only [Rep,slotList]
   refine ⟨_,cap,by rw [List.length_map],by rw [List.length_map]; omega,?_,.inr ⟨Br,o,(dedB (sortB l)).map fun s => .string ⟨s.toArray⟩,rfl,⟨_,k3g,?_⟩,vals_strs (strsOf_map _),fun x hx => (by rw [k3a] at hx; cases hx),k3a⟩⟩
   ·intro r hr
    obtain ⟨s,-,rfl⟩:=List.mem_map.1 hr
    exact ⟨rfl,rfl⟩
   ·apply List.ext_getElem?
    intro j
    by_cases hj : j < (dedB (sortB l)).length
    ·rw [List.getElem?_take_of_lt (by simpa using hj),List.getElem?_drop]
     have e1 : (putCells encStr o (slotRow l) lr.toArray).toList[o + j]? = (putCells encStr o (slotRow l) lr.toArray)[o + j]?:=by simp
     rw [e1,hpj,List.getElem?_eq_getElem (by omega)]
     simp only [Option.map_some]
     rw [if_pos ⟨by omega,by omega⟩,show o + j - o = j by omega]
     have e2 : (slotRow l)[j]! = (dedB (sortB l))[j]!:=by
      rw [getElem!_pos (slotRow l) j (by omega),getElem!_pos _ j hj]
      simp [slotRow,hj]
     rw [e2,getElem!_pos _ j hj,List.getElem?_map,List.getElem?_eq_getElem hj]
     rfl
    ·rw [List.getElem?_eq_none (by simp; omega),List.getElem?_eq_none (by simp; omega)]
  have hovm : ∀ x ∈ overlay cs 6 [.nilp],closed1 x = true ∨ x = .map m:=by
   intro x hx
   simp only [overlay,List.mem_append,List.mem_singleton] at hx
   rcases hx with (hx | rfl) | hx
   ·exact htab x (List.mem_of_mem_take hx)
   ·exact .inl rfl
   ·exact htab x (List.mem_of_mem_drop hx)
  have R3 : Rel K3 ⟨S.heap.set n (.cells (overlay (canonL cs) 6 [slotList l])),S1.rows⟩ w':=by
   refine ⟨fun k B h => ?_,fun k k' B h h' => ?_,fun k B h => ?_,fun k B cs' h hb' => ?_,fun k B es' h hb' => ?_,fun B l' h => ?_,fun B b' E sz size h => ?_⟩
   ·rw [k3m] at h
    have:=R.dom k B h
    simpa using this
   ·rw [k3m] at h h'
    exact R.inj k k' B h h'
   ·rw [k3m] at h
    rw [k3go B (hKr k B h)]
    exact sep_back R R1 hBx hBt hBm hst h
   ·rw [k3m] at h
    simp only at hb'
    by_cases hk : k = n
    ·subst hk
     rw [hBt] at h
     simp only [Option.some.injEq] at h
     subst h
     rw [List.getElem?_set_self (R.dom k Bt hBt)] at hb'
     simp only [Option.some.injEq,Blk.cells.injEq] at hb'
     subst hb'
     refine ⟨_,_,hBt2,?_⟩
     have h3 : RepL K1 [.nilp] [.pointer none]:=by simp only [RepL,Rep]; exact ⟨_,_,rfl,rfl,rfl,rfl⟩
     have h2:=hvr.overlay (off:=6) h3
     rw [hov] at h2
     have h4:=Moved.repL hM _ _ (repL_tab (K:=K1) (K':=backS K K1) (fun B l hB => ⟨hB,rfl⟩) hmm hBm hovm h2).canon c6
     rw [canonL_over] at h4
     have h5 : RepL K3 [slotList l] [.slice (some ⟨Br,o,none⟩) (dedB (sortB l)).length cap]:=by
      simp only [RepL]
      exact ⟨_,_,rfl,rfl,hnv,rfl⟩
     have h6':=h4.overlay (off:=6) h5
     rw [overlay_two _ _ _ _ (by rw [canonL_len]; exact hcl6')] at h6'
     have hvl6 : 6 < vt.size:=by
      have:=hvr.length
      simp only [Array.length_toList] at this
      omega
     have e2 : (vt.setIfInBounds 6 (.slice (some ⟨Br,o,none⟩) (dedB (sortB l)).length cap)).toList = (vt.toList.take 6 ++ [Value.pointer none] ++ vt.toList.drop (6 + 1)).take 6 ++ [Value.slice (some ⟨Br,o,none⟩) (dedB (sortB l)).length cap] ++ (vt.toList.take 6 ++ [Value.pointer none] ++ vt.toList.drop (6 + 1)).drop (6 + 1):=by
      rw [Array.toList_setIfInBounds,List.set_eq_take_append_cons_drop,if_pos (by simpa using hvl6)]
      simp [List.drop_append,Nat.min_eq_left (Nat.le_of_lt hvl6)]
     rw [e2]
     exact h6'
    ·rw [List.getElem?_set_ne (Ne.symm hk)] at hb'
     by_cases hkb : k = bx
     ·subst hkb
      rw [hb] at hb'
      simp only [Option.some.injEq,Blk.cells.injEq] at hb'
      subst hb'
      rw [hBx] at h
      simp only [Option.some.injEq] at h
      subst h
      refine ⟨xs,tx,by rw [hother Bx (Array.getElem?_eq_some_iff.1 hxw).1 hxr' (hKt k Bx hBx hbn)]; exact hxw,?_⟩
      simp only [RepL,Rep] at hxr ⊢
      obtain ⟨q,qs,q1,q2,⟨B',q3,q4⟩,q5⟩:=hxr
      rw [hmt] at q3
      simp only [Option.some.injEq] at q3
      subst q3
      exact ⟨q,qs,q1,q2,⟨Bt,by rw [k3m]; exact hBt,q4⟩,q5⟩
     ·by_cases hkm : k = m
      ·subst hkm
       rw [hes] at hb'
       simp at hb'
      ·obtain ⟨vs',t',h1,h2⟩:=R.cells k B cs' h hb'
       have hfr:=frame_back R hBx hBt hBm hst h (fun e => e.elim hkb fun e => e.elim hk hkm)
       refine ⟨vs',t',?_,RepL.ext hx3 _ _ h2⟩
       rw [hother B (Nat.lt_of_lt_of_le (m_lt R h) hst.size) (hKr k B h) (hKt k B h hk),hfr]
       exact h1
   ·rw [k3m] at h
    simp only at hb'
    by_cases hk : k = n
    ·subst hk
     rw [List.getElem?_set_self (R.dom k B h)] at hb'
     simp at hb'
    ·rw [List.getElem?_set_ne (Ne.symm hk)] at hb'
     by_cases hkm : k = m
     ·subst hkm
      rw [hes] at hb'
      simp only [Option.some.injEq,Blk.map.injEq] at hb'
      subst hb'
      rw [hBm] at h
      simp only [Option.some.injEq] at h
      subst h
      obtain ⟨ms,ck,h1,h2⟩:=R1.maps k Bm es hmm hM1
      exact ⟨ms,ck,by rw [hother Bm (Array.getElem?_eq_some_iff.1 h1).1 (hKr k Bm hBm) (hKt k Bm hBm hk)]; exact h1,repM_ints hint h2⟩
     ·have hkb : k ≠ bx:=fun e => by
       subst e
       rw [hb] at hb'
       simp at hb'
      obtain ⟨ms,ck,h1,h2⟩:=R.maps k B es' h hb'
      have hfr:=frame_back R hBx hBt hBm hst h (fun e => e.elim hkb fun e => e.elim hk hkm)
      refine ⟨ms,ck,?_,Ext.repM hx3 h2⟩
      rw [hother B (Nat.lt_of_lt_of_le (m_lt R h) hst.size) (hKr k B h) (hKt k B h hk),hfr]
      exact h1
   ·by_cases hB : B = Br
    ·subst hB
     rw [k3g] at h
     simp only [Option.some.injEq] at h
     subst h
     refine ⟨_,_,hBr2,?_⟩
     apply List.ext_getElem?
     intro j
     have el : (putCells encStr o (slotRow l) lr.toArray).toList.length = lr.length:=by simp [putCells]
     by_cases hj : j < lr.length
     ·rw [List.getElem?_take_of_lt (by rw [el]; exact hj)]
      simp only [Array.getElem?_toList,putCells,Array.getElem?_mapIdx,List.getElem?_toArray]
      rw [hurj j hj]
     ·rw [List.getElem?_eq_none (by simp [el]; omega),List.getElem?_eq_none (by rw [el]; omega)]
    ·rw [k3go B hB] at h
     obtain ⟨vs',t',h1,h2⟩:=R1.rows B l' h
     have hBt' : B ≠ Bt:=fun e => by
      have:=R1.sep n Bt hmt
      rw [← e,h] at this
      cases this
     exact ⟨vs',t',by rw [hother B (Array.getElem?_eq_some_iff.1 h1).1 hB hBt']; exact h1,h2⟩
   ·have hB : B ≠ Br:=fun e => by rw [e,k3a] at h; cases h
    rw [k3ao B hB] at h
    obtain ⟨l',h1,⟨vs',t',h2,h3⟩,h4⟩:=R1.grow B b' E sz size h
    have hBt' : B ≠ Bt:=fun e => by
     have:=R1.sep n Bt hmt
     rw [← e,h1] at this
     cases this
    exact ⟨l',by rw [k3go B hB]; exact h1,⟨vs',t',by rw [hother B (Array.getElem?_eq_some_iff.1 h2).1 hB hBt']; exact h2,h3⟩,h4⟩
  have st3 : Step K (fun k => k < S.heap.length) w K3 w':=by
   refine ⟨hx3,hos.trans st2.os,htape.trans st2.tape,hout.trans st2.output,Nat.le_trans st2.size hsize,fun B hB h1 h2 => ?_,fun B hB h1 h2 => ?_,fun k hk h => by rw [k3m]; exact h,fun B x h => ?_⟩
   ·have hsz2:=st2.size
    rw [hother B (by omega) (by omega) (fun e => h1 n (e ▸ hBt))]
    exact st2.frame B hB h1 h2
   ·obtain ⟨h3,h4⟩:=st2.fresh B hB h1 h2
    exact ⟨fun k => by rw [k3m]; exact h1 k,by rw [k3go B (by omega)]; exact h4⟩
   ·have hB : B ≠ Br:=fun e => by rw [e,k3a] at h; cases h
    rw [k3ao B hB] at h
    exact st2.born B x h
  have hk2 : Keeps S.heap.length S ⟨S.heap.set n (.cells (overlay (canonL cs) 6 [slotList l])),S1.rows⟩:=keeps_cells hcs fun k h => below_slots l h
  obtain ⟨u,hu,hr⟩:=results_sim (P:=Tryz.prog) (g:=Tryz.f59) (rs:=[]) (e:=[]) (tmps:=a'.tmps) R3 (fun t v h => by simp [eget] at h) (by kernel_rfl) rfl
  exact ⟨hda,u,hu,K3,R3,st3,hk2,u,rfl,hr⟩
 ·obtain ⟨nf2,hen⟩:=enU_some hp
  exact .inl (enter_sim hcl Tryz.func59 c59 hen R hI ha0)
 ·simp at hp
end Go.Proofs.YtmeakjgbjldkdaaGreat.Ai
namespace Go.Proofs.YtmeakjgbjldkdaaGreat.Ai
open Go
def addR (K : Ghost) (g : Nat) (l : List Value) (b size : Nat) : Ghost:={K with g:=fun B => if B = g then some l else K.g B,a:=fun B => if B = g then some (b,l.length,1,size) else K.a B}
theorem rel_addR {K : Ghost} {S : St} {w w' : World} (R : Rel K S w) (h : RowKit.Below w.heap.size w w') {g : Nat} {l : List Value} {cur : Array Value} {t : TypeId} (hg : w.heap.size ≤ g) (hc : w'.heap[g]? = some (.cells cur t (0,0))) (hl : cur.toList.take l.length = l) :
  Rel (addR K g l S.rows.length cur.size) ⟨S.heap,S.rows ++ [l.length]⟩ w' ∧ ∀ X,Step K X w (addR K g l S.rows.length cur.size) w':=by
 obtain ⟨R',hst⟩:=rel_below R h
 have hne : ∀ B lb,K.g B = some lb → B ≠ g:=fun B lb hB e => by
  have:=g_lt R hB
  omega
 have hnm : ∀ n B,K.m n = some B → B ≠ g:=fun n B hB e => by
  have:=m_lt R hB
  omega
 have hna : ∀ B x,K.a B = some x → B ≠ g:=fun B x hB e => by
  rw [e,a_none R hg] at hB
  cases hB
 have hext : Ext K (addR K g l S.rows.length cur.size):=by
  refine ⟨fun _ _ h => h,fun B lb hB => ⟨[],?_⟩,fun B b E sz size hB => ⟨E,?_,Nat.le_refl _,fun l1 l2 e1 e2 => ?_⟩,fun B lb h1 h2 => ?_⟩
  ·show (if B = g then some l else K.g B) = some (lb ++ [])
   rw [if_neg (hne B lb hB),List.append_nil]
   exact hB
  ·show (if B = g then _ else K.a B) = _
   rw [if_neg (hna B _ hB)]
   exact hB
  ·change (if B = g then some l else K.g B) = some l2 at e2
   rw [if_neg (hne B l1 e1),e1] at e2
   simp only [Option.some.injEq] at e2
   subst e2
   simp
  ·show (if B = g then _ else K.a B) = none
   rw [if_neg (hne B lb h1)]
   exact h2
 refine ⟨⟨R'.dom,R'.inj,fun n B hB => ?_,fun n B cs h1 h2 => ?_,fun n B es h1 h2 => ?_,fun B lb hB => ?_,fun B b E sz size hB => ?_⟩,fun X => ⟨hext,h.os,h.tape,h.output,h.size,fun B hB _ _ => h.block B hB,fun B hB h1 h2 => ⟨h1,?_⟩,fun _ _ h => h,fun B x hx => ?_⟩⟩
 ·show (if B = g then some l else K.g B) = none
  rw [if_neg (hnm n B hB)]
  exact R'.sep n B hB
 ·obtain ⟨vs,t,e1,e2⟩:=R'.cells n B cs h1 h2
  exact ⟨vs,t,e1,e2.ext hext _ _⟩
 ·obtain ⟨vs,t,e1,e2⟩:=R'.maps n B es h1 h2
  exact ⟨vs,t,e1,e2.ext hext⟩
 ·change (if B = g then some l else K.g B) = some lb at hB
  split at hB
  ·rename_i e
   subst e
   simp only [Option.some.injEq] at hB
   subst hB
   exact ⟨cur,t,hc,hl⟩
  ·exact R'.rows B lb hB
 ·change (if B = g then some (S.rows.length,l.length,1,cur.size) else K.a B) = some (b,E,sz,size) at hB
  split at hB
  ·rename_i e
   subst e
   simp only [Option.some.injEq,Prod.mk.injEq] at hB
   obtain ⟨rfl,rfl,rfl,rfl⟩:=hB
   refine ⟨l,?_,⟨cur,t,hc,rfl⟩,l.length,by simp,Nat.le_refl _⟩
   show (if B = B then some l else K.g B) = some l
   rw [if_pos rfl]
  ·rename_i hn
   obtain ⟨l0,e1,e2,r,e3,e4⟩:=R'.grow B b E sz size hB
   refine ⟨l0,?_,e2,r,?_,e4⟩
   ·show (if B = g then some l else K.g B) = some l0
    rw [if_neg hn]
    exact e1
   ·show (S.rows ++ [l.length])[b]? = some r
    rw [List.getElem?_append_left (List.getElem?_eq_some_iff.1 e3).1]
    exact e3
 ·show (if B = g then some l else K.g B) = none
  rw [if_neg (by omega)]
  exact h2
 ·change (if B = g then _ else K.a B) = some x at hx
  split at hx
  ·exact .inr (by omega)
  ·exact .inl ⟨x,hx⟩
def cloneQ : CallFn → List AV → St → Option (Res × St):=fun _ vs S => match vs with
 | [.list _ _ []] => some (.ret (.list 1 .dead []),S)
 | [.list 1 _ (r :: rows)] => match strsOf (r :: rows) with
  | some l => if l.length ≤ 1000000 then some (.ret (.list 1 (.row S.rows.length (r :: rows).length) (r :: rows)),⟨S.heap,S.rows ++ [(r :: rows).length]⟩) else none
  | none => none
 | _ => none
theorem cloneQ_mono : PrimMono cloneQ:=by
 intro c c' hc vs S a h
 exact h
theorem cloneQ_sim : PrimSim Tryz.prog 62 cloneQ:=by
 intro cl hcl vs S r S' hp K w us R hI ha
 unfold cloneQ at hp
 split at hp
 ·rename_i sz tag
  simp only [Option.some.injEq,Prod.mk.injEq] at hp
  obtain ⟨rfl,rfl⟩:=hp
  simp only [RepT,Rep] at ha
  obtain ⟨v1,us1,rfl,⟨base,cap,rfl,hcap,hrw,hb⟩,rfl⟩:=ha
  refine .inl ⟨enter62 _ _,?_⟩
  cases base with
  | none =>
   refine (Tryz.slices_Clone_string_nil 0 cap w).mono ?_
   rintro e w' ⟨rfl,rfl⟩
   refine ⟨K,R,Step.refl K _ _,keeps_refl _ _,_,rfl,?_⟩
   simp only [Rep]
   exact ⟨none,0,rfl,Nat.le_refl _,fun r hr => (by cases hr),.inl ⟨rfl,trivial,rfl⟩⟩
  | some ad =>
   refine (Tryz.slices_Clone_string_zero ad cap w).mono ?_
   rintro e w' ⟨v',rfl,⟨hxl,hown⟩,hnn,hbel⟩
   rcases hown with ⟨rfl,-⟩ | ⟨g,cap',cur,rfl,hge,hgc,hcap',-,hcs,htk⟩
   ·exact absurd rfl hnn
   ·obtain ⟨R',hst⟩:=rel_addG R hbel hge hgc (l:=[]) (by simp)
    refine ⟨_,R',hst _,keeps_refl _ _,_,rfl,?_⟩
    simp only [Rep]
    refine ⟨_,cap',rfl,hcap',fun r hr => by (cases hr),.inr ⟨g,0,[],rfl,⟨[],?_,?_⟩,by simp [RepLL],⟨fun x hx => (by rw [show (addG K g _).a g = K.a g from rfl,a_none R hge] at hx; cases hx),trivial⟩⟩⟩
    ·show (if g = g then some _ else K.g g) = some _
     rw [if_pos rfl]
    ·simp
 ·rename_i tag r0 rows
  split at hp
  ·rename_i l hl
   split at hp
   ·rename_i hsz
    simp only [Option.some.injEq,Prod.mk.injEq] at hp
    obtain ⟨rfl,rfl⟩:=hp
    simp only [RepT,Rep] at ha
    obtain ⟨v1,us1,rfl,⟨base,cap,rfl,hcap,hrw,hb⟩,rfl⟩:=ha
    refine .inl ⟨enter62 _ _,?_⟩
    rcases hb with ⟨rfl,h0,rfl⟩ | ⟨B,o,vs,rfl,hfix,hrep,-⟩
    ·simp at h0
    ·obtain ⟨hvs,hlen⟩:=strs_vals hl hrep
     subst hvs
     have hC:=Tryz.slices_Clone_string B o l.length cap (l.map fun s => (⟨s.toArray⟩ : ByteArray)) w (by rw [List.length_map]; exact Nat.le_refl _) (by omega) (fun j hj => by
      rw [List.length_map] at hj
      refine R.fix_cell hfix j _ ?_
      rw [List.getElem?_map,List.getElem?_eq_getElem hj]
      simp only [Option.map_some,List.getD_eq_getElem?_getD,List.getElem?_map,List.getElem?_eq_getElem hj,Option.getD_some])
     rw [← hlen] at hC
     refine hC.mono ?_
     rintro e w' ⟨v',rfl,⟨hxl,hown⟩,hnn,hbel⟩
     rcases hown with ⟨rfl,-⟩ | ⟨g,cap',cur,rfl,hge,hgc,hcap',hq,hcs,htk⟩
     ·exact absurd rfl hnn
     ·have hx : (List.take (r0 :: rows).length (l.map fun s => (⟨s.toArray⟩ : ByteArray))).map Value.string = l.map fun s => Value.string ⟨s.toArray⟩:=by
       rw [hlen,← List.length_map (f:=fun s : Str => (⟨s.toArray⟩ : ByteArray)),List.take_length,List.map_map]
       rfl
      rw [hx] at htk hxl
      have hll : (l.map fun s => Value.string ⟨s.toArray⟩).length = (r0 :: rows).length:=by rw [List.length_map,hlen]
      obtain ⟨R',hst⟩:=rel_addR R hbel hge hgc (l:=l.map fun s => Value.string ⟨s.toArray⟩) (by rw [hll]; simpa using htk)
      have hg1 : (addR K g (l.map fun s => Value.string ⟨s.toArray⟩) S.rows.length cur.size).g g = some (l.map fun s => Value.string ⟨s.toArray⟩):=by
       show (if g = g then some _ else K.g g) = some _
       rw [if_pos rfl]
      have ha1 : (addR K g (l.map fun s => Value.string ⟨s.toArray⟩) S.rows.length cur.size).a g = some (S.rows.length,(l.map fun s => Value.string ⟨s.toArray⟩).length,1,cur.size):=by
       show (if g = g then some _ else K.a g) = some _
       rw [if_pos rfl]
      rw [hll] at ha1 R'
      refine ⟨_,R',hst _,keeps_refl _ _,_,rfl,?_⟩
      simp only [Rep]
      refine ⟨_,cap',rfl,hcap',hrw,.inr ⟨g,0,_,rfl,⟨_,hg1,?_⟩,vals_strs hl,⟨fun x hx => ?_,⟨_,ha1,rfl⟩,fun _ => ⟨_,_,_,ha1,hg1,Nat.le_refl _,?_,by omega⟩⟩⟩⟩
      ·rw [List.drop_zero,List.take_length]
      ·rw [ha1] at hx
       simp only [Option.some.injEq] at hx
       rw [← hx]
      ·rw [hll]; omega
   ·simp at hp
  ·simp at hp
 ·simp at hp
end Go.Proofs.YtmeakjgbjldkdaaGreat.Ai
namespace Go.Proofs.YtmeakjgbjldkdaaGreat.Ai
open Go
theorem enter60 (us : Array Value) (w : World) : (callFunc 60 us).run Tryz.prog w = .ok (.enter 60 us) w:=by
 have hf:=Tryz.func60
 have hb : Tryz.f60.body.isSome = true:=by kernel_rfl
 have h2 : (Tryz.f60.name != "runtime.NumGoroutine") = true:=by kernel_rfl
 obtain ⟨c,hc⟩:=Option.isSome_iff_exists.1 hb
 have h3 : ¬Tryz.f60.name = "runtime.NumGoroutine":=by simpa using h2
 simp [callFunc,hf,h3,hc]
theorem enter61 (us : Array Value) (w : World) : (callFunc 61 us).run Tryz.prog w = .ok (.enter 61 us) w:=by
 have hf:=Tryz.func61
 have hb : Tryz.f61.body.isSome = true:=by kernel_rfl
 have h2 : (Tryz.f61.name != "runtime.NumGoroutine") = true:=by kernel_rfl
 obtain ⟨c,hc⟩:=Option.isSome_iff_exists.1 hb
 have h3 : ¬Tryz.f61.name = "runtime.NumGoroutine":=by simpa using h2
 simp [callFunc,hf,h3,hc]
def sortE : CallFn → List AV → St → Option (Res × St):=fun _ vs S => match vs with
 | [.list _ _ []] => some (.ret (.tup []),S)
 | _ => none
def compE : CallFn → List AV → St → Option (Res × St):=fun _ vs S => match vs with
 | [.list sz tag []] => some (.ret (.list sz tag []),S)
 | _ => none
theorem sortE_mono : PrimMono sortE:=fun _ _ _ _ _ _ h => h
theorem compE_mono : PrimMono compE:=fun _ _ _ _ _ _ h => h
theorem sortE_sim : PrimSim Tryz.prog 60 sortE:=by
 intro cl hcl vs S r S' hp K w us R hI ha
 unfold sortE at hp
 split at hp
 ·simp only [Option.some.injEq,Prod.mk.injEq] at hp
  obtain ⟨rfl,rfl⟩:=hp
  simp only [RepT,Rep] at ha
  obtain ⟨v1,us1,rfl,⟨base,cap,rfl,-⟩,rfl⟩:=ha
  refine .inl ⟨enter60 _ _,?_⟩
  refine (Tryz.slices_Sort_string_none base cap w).mono ?_
  rintro e w' ⟨rfl,rfl⟩
  refine ⟨K,R,Step.refl K _ _,keeps_refl _ _,_,rfl,?_⟩
  simp only [Rep,RepT]
  exact ⟨[],rfl,rfl⟩
 ·simp at hp
theorem compE_sim : PrimSim Tryz.prog 61 compE:=by
 intro cl hcl vs S r S' hp K w us R hI ha
 unfold compE at hp
 split at hp
 ·simp only [Option.some.injEq,Prod.mk.injEq] at hp
  obtain ⟨rfl,rfl⟩:=hp
  have ha':=ha
  simp only [RepT,Rep] at ha
  obtain ⟨v1,us1,rfl,⟨base,cap,rfl,-⟩,rfl⟩:=ha
  simp only [RepT] at ha'
  obtain ⟨u,us',e1,h1,-⟩:=ha'
  simp only [List.cons.injEq] at e1
  obtain ⟨rfl,-⟩:=e1
  refine .inl ⟨enter61 _ _,?_⟩
  refine (Tryz.slices_Compact_string_empty base cap w).mono ?_
  rintro e w' ⟨rfl,rfl⟩
  exact ⟨K,R,Step.refl K _ _,keeps_refl _ _,_,rfl,h1⟩
 ·simp at hp
end Go.Proofs.YtmeakjgbjldkdaaGreat.Ai
namespace Go.Proofs.YtmeakjgbjldkdaaGreat.Ai
open Go
noncomputable def PrE : Prims:=fun n => match n with
 | 59 => some slotsQ
 | 60 => some sortE
 | 61 => some compE
 | 62 => some cloneQ
 | n => PrC n
theorem prE_mono : Mono PrE:=by
 intro f p hp
 unfold PrE at hp
 split at hp
 ·simp only [Option.some.injEq] at hp; subst hp; exact slotsQ_mono
 ·simp only [Option.some.injEq] at hp; subst hp; exact sortE_mono
 ·simp only [Option.some.injEq] at hp; subst hp; exact compE_mono
 ·simp only [Option.some.injEq] at hp; subst hp; exact cloneQ_mono
 ·exact prC_mono _ _ hp
theorem prE_sim : ∀ f p,PrE f = some p → PrimSim Tryz.prog f p:=by
 intro f p hp
 unfold PrE at hp
 split at hp
 ·simp only [Option.some.injEq] at hp; subst hp; exact slotsQ_sim c59
 ·simp only [Option.some.injEq] at hp; subst hp; exact sortE_sim
 ·simp only [Option.some.injEq] at hp; subst hp; exact compE_sim
 ·simp only [Option.some.injEq] at hp; subst hp; exact cloneQ_sim
 ·exact prC_sim _ _ hp
end Go.Proofs.YtmeakjgbjldkdaaGreat.Ai
namespace Go.Proofs.YtmeakjgbjldkdaaGreat.Ai
open Go
variable {pr : Prims} {F : Nat → Option IFn}
end Go.Proofs.YtmeakjgbjldkdaaGreat.Ai
namespace Go.Proofs.YtmeakjgbjldkdaaGreat.Ai
open Go
variable {pr : Prims} {F : Nat → Option IFn}
end Go.Proofs.YtmeakjgbjldkdaaGreat.Ai
