/- A part of what is proved: SloS, RunP, Env. No condition. -/
import Derived.Test.YtmeakjgbjldkdaaGreatY15
set_option maxRecDepth 100000
set_option maxHeartbeats 16000000
namespace Go.Proofs.YtmeakjgbjldkdaaGreat.Ai
open Go Go.Sort Go.Proofs.YtmeakjgbjldkdaaGreat.Slo
noncomputable def head59 : Code:=sub1 (Tryz.f59.body.getD .skip)
theorem body59 : Tryz.f59.body = some (.seq head59 tail59):=by
 unfold head59 tail59 Tryz.f59
 rfl
theorem cpre : chkC Tryz.prog 50 pre59 head59 = true:=by
 unfold head59
 kernel_rfl
theorem strsOf_map : ∀ l : List Str,strsOf (l.map fun s => [.str s]) = some l
 | [] => rfl
 | s :: l => by simp [strsOf,strsOf_map l]
theorem overlay_two (cs : List AV) (n : Nat) (x y : AV) (h : n < cs.length) : overlay (overlay cs n [x]) n [y] = overlay cs n [y]:=by
 simp [overlay,Nat.min_eq_left (Nat.le_of_lt h),List.drop_append]
theorem slots_sim : PrimSim Tryz.prog 59 slotsP:=by
 intro cl hcl vs S r S' hp K w us R hI ha
 unfold slotsP at hp
 split at hp
 case isFalse => simp at hp
 rename_i hvl
 split at hp
 case h_2 => simp at hp
 rename_i e1 S1 hex
 split at hp
 case h_2 => simp at hp
 rename_i bx he0
 split at hp
 case h_2 => simp at hp
 rename_i n xrest hbx
 split at hp
 case h_2 => simp at hp
 rename_i cs hcs
 split at hp
 case h_2 => simp at hp
 rename_i b en rows h6
 split at hp
 case h_2 => simp at hp
 rename_i l hl
 split at hp
 case isFalse => simp at hp
 rename_i hc
 obtain ⟨c1,c2,c3,c4,c5,c6,c7⟩:=hc
 simp only [Option.some.injEq,Prod.mk.injEq] at hp
 obtain ⟨rfl,rfl⟩:=hp
 refine .inl ⟨enter59 _ _,?_⟩
 have hul:=ha.length
 have hE:=args_rep ha Tryz.f59.ntmps
 refine calls_of_wp Tryz.func59 body59 (wp_seq ?_)
 refine csim hcl pre59 head59 K S w {tmps:=us.toArray ++ Array.replicate (Tryz.f59.ntmps - us.toArray.size) Go.undef,defers:=[]} (args0 vs) _ cpre R hI hE (by rw [Tryz.ntmps59]; simp; omega) (Nat.le_refl _) hex _ ?_
 intro a1 w1 K1 ex R1 E1 hdf hsz hst hkp hexr
 cases ex <;> simp only [Exr] at hexr
 have hI1 : Inner S.heap.length S1:=hkp.2.1 _ (Nat.le_refl _) hI
 have hlen:=hkp.1
 simp only at hlen
 obtain ⟨-,hv0⟩:=E1 trivial 0 _ he0
 simp only [Rep] at hv0
 obtain ⟨Bx,hmx,hv0⟩:=hv0
 obtain ⟨xs,tx,hx,hxr⟩:=R1.cells bx Bx _ hmx hbx
 obtain ⟨ux,hx0,-,hxu⟩:=hxr.get 0 _ rfl
 simp only [Rep] at hxu
 obtain ⟨Bt,hmt,rfl⟩:=hxu
 obtain ⟨vt,tt,hvt,hvr⟩:=R1.cells n Bt cs hmt hcs
 have hcl6 : 6 < cs.length:=(List.getElem?_eq_some_iff.1 h6).1
 obtain ⟨u6,hv6,-,hu6⟩:=hvr.get 6 _ h6
 simp only [Rep] at hu6
 obtain ⟨base,cap,rfl,hcap,hrs,hrow⟩:=hu6
 have hrl : rows.length = l.length:=by
  obtain ⟨q1,q2⟩:=strs_vals (K:=K) hl (vals_strs hl)
  exact q2
 rcases hrow with ⟨-,h0,-⟩ | ⟨Br,o,vr,rfl,hfix,hrep,htag⟩
 ·subst h0; simp at hrl; omega
 obtain ⟨hvreq,-⟩:=strs_vals hl hrep
 obtain ⟨-,⟨xa,hxa,hxb⟩,-⟩:=htag
 obtain ⟨lr,hgr,hlr⟩:=hfix
 obtain ⟨ur,tr,hur,hurl⟩:=R1.rows Br lr hgr
 have hnew : w.heap.size ≤ Br:=by
  rcases hst.born Br xa hxa with ⟨⟨b',E,sz,size⟩,hy⟩ | h
  ·exfalso
   obtain ⟨E',h1,-⟩:=hst.ext.a Br b' E sz size hy
   rw [hxa] at h1
   simp only [Option.some.injEq] at h1
   subst h1
   simp only at hxb
   subst hxb
   obtain ⟨_,-,-,r0,hr0,-⟩:=R.grow Br b' E sz size hy
   have:=(List.getElem?_eq_some_iff.1 hr0).1
   omega
  ·exact h
 have hxr' : Bx ≠ Br:=fun e => by
  have:=R1.sep bx Bx hmx
  rw [e,hgr] at this
  cases this
 have htr' : Bt ≠ Br:=fun e => by
  have:=R1.sep n Bt hmt
  rw [e,hgr] at this
  cases this
 have hlrl : o + l.length ≤ lr.length:=by
  have:=congrArg List.length hlr
  rw [hvreq] at this
  simp at this
  omega
 have hlrj : ∀ j,j < l.length → lr[o + j]? = some (.string ⟨(l[j]!).toArray⟩):=by
  intro j hj
  have h1 : ((lr.drop o).take vr.length)[j]? = vr[j]?:=by rw [hlr]
  rw [hvreq] at h1
  rw [List.getElem?_take_of_lt (by simpa using hj),List.getElem?_drop,List.getElem?_map,List.getElem?_eq_getElem hj] at h1
  rw [h1,getElem!_pos l j hj]
  rfl
 have hulen : lr.length ≤ ur.size:=by
  have:=congrArg List.length hurl
  simp at this
  omega
 have hurj : ∀ j,j < lr.length → ur[j]? = lr[j]?:=by
  intro j hj
  have h1 : (ur.toList.take lr.length)[j]? = lr[j]?:=by rw [hurl]
  rw [List.getElem?_take_of_lt hj] at h1
  simpa using h1
 rw [hrl] at hv6 hcap
 refine tail_wp Bx Bt Br o cap l _ a1 w1 ?_ hdf hv0 hx ?_ hvt ?_ hur ?_ hxr' htr' (by omega) hcap ?_
 ·rw [hsz trivial,Tryz.ntmps59]
  simp
  omega
 ·simpa using hx0
 ·simpa using hv6
 ·intro j hj
  rw [hurj _ (by omega),hlrj j hj]
  simp [encStr,hj]
 intro a' w' hda hos htape hout hsize hother hBt hBr
 have R2:=R1.shut hI1
 have st2:=Step.shut R R1 hst
 have hm2 : ∀ k,k < S.heap.length → (Ai.shut K1 S.heap.length w1).m k = K1.m k:=fun k hk => by simp [Ai.shut,hk]
 have hg2 : (Ai.shut K1 S.heap.length w1).g Br = some lr:=shut_g_old hgr
 have ha2 : (Ai.shut K1 S.heap.length w1).a = K1.a:=rfl
 have hmx2:=(hm2 bx c1).trans hmx
 have hmt2:=(hm2 n c2).trans hmt
 generalize Ai.shut K1 S.heap.length w1 = K2 at R2 st2 hg2 ha2 hmx2 hmt2
 simp only at R2
 have hdd:=dedB_length (sortB l)
 have hsl:=sortB_length l
 obtain ⟨K3,hK3⟩ : ∃ K3 : Ghost,K3 = {m:=K2.m,g:=fun B => if B = Br then some (putCells encStr o (slotRow l) lr.toArray).toList else K2.g B,a:=fun B => if B = Br then none else K2.a B}:=⟨_,rfl⟩
 have k3m : K3.m = K2.m:=by rw [hK3]
 have k3g : K3.g Br = some (putCells encStr o (slotRow l) lr.toArray).toList:=by rw [hK3]; simp
 have k3go : ∀ B,B ≠ Br → K3.g B = K2.g B:=fun B hB => by rw [hK3]; simp [hB]
 have k3a : K3.a Br = none:=by rw [hK3]; simp
 have k3ao : ∀ B,B ≠ Br → K3.a B = K2.a B:=fun B hB => by rw [hK3]; simp [hB]
 clear hK3
 have hnrs : (slotRow l).size = l.length:=by simp [slotRow]; omega
 have hpj : ∀ j,(putCells encStr o (slotRow l) lr.toArray)[j]? = (lr[j]?).map fun x => if o ≤ j ∧ j < o + (slotRow l).size then encStr (slotRow l)[j - o]! else x:=by
  intro j
  simp [putCells]
 have hM : Moved l b Br K2 K3:=by
  refine moved_z k3m k3go k3ao (fun x hx => ?_) k3a fun o' vs' hf hbad => ?_
  ·rw [ha2,hxa] at hx
   simp only [Option.some.injEq] at hx
   subst hx
   exact hxb
  ·obtain ⟨l1,h1,h2⟩:=hf
   rw [hg2] at h1
   simp only [Option.some.injEq] at h1
   subst h1
   refine ⟨_,k3g,?_⟩
   rw [← h2]
   rw [List.length_take,List.length_drop]
   apply List.ext_getElem?
   intro j
   have hvj : j < vs'.length → vs'[j]? = lr[o' + j]?:=fun hj => by
    rw [← h2]
    rw [List.getElem?_take_of_lt hj,List.getElem?_drop]
   have hlen2 : vs'.length ≤ lr.length - o':=by
    have:=congrArg List.length h2
    simp at this
    omega
   rw [Nat.min_eq_left hlen2]
   by_cases hj : j < vs'.length
   ·rw [List.getElem?_take_of_lt hj,List.getElem?_take_of_lt hj,List.getElem?_drop,List.getElem?_drop]
    have e1 : (putCells encStr o (slotRow l) lr.toArray).toList[o' + j]? = (putCells encStr o (slotRow l) lr.toArray)[o' + j]?:=by simp
    rw [e1,hpj]
    cases hq : lr[o' + j]? with
    | none => rfl
    | some y =>
     simp only [Option.map_some,Option.some.injEq]
     by_cases hin : o ≤ o' + j ∧ o' + j < o + (slotRow l).size
     ·exfalso
      have h3:=hlrj (o' + j - o) (by omega)
      rw [show o + (o' + j - o) = o' + j by omega,hq] at h3
      simp only [Option.some.injEq] at h3
      have h4 : y ∈ vs':=List.mem_of_getElem? ((hvj hj).trans hq)
      have h5 : l[o' + j - o]! ∈ l:=by
       rw [getElem!_pos l _ (by omega)]
       exact List.getElem_mem _
      exact hbad y h4 _ h5 h3
     ·rw [if_neg hin]
   ·rw [List.getElem?_eq_none (by simp; omega),List.getElem?_eq_none (by simp; omega)]
 have hg3some : ∀ B,K2.m n = some B → B = Bt:=fun B h => by rw [hmt2] at h; exact (Option.some.inj h).symm
 have htake : (S1.heap.take S.heap.length)[n]? = some (.cells cs):=by rw [List.getElem?_take_of_lt c2]; exact hcs
 have htl : (S1.heap.take S.heap.length).length = S.heap.length:=by simp; omega
 have hBne : ∀ k B,K2.m k = some B → B ≠ Br:=fun k B h e => by
  have:=R2.sep k B h
  rw [e,hg2] at this
  cases this
 have hsame : ∀ B,(∀ k,K2.m k = some B → k ≠ n) → B ≠ Br → B < w1.heap.size → B ≠ Bt → w'.heap[B]? = w1.heap[B]?:=fun B _ h1 h2 h3 => hother B h2 h1 h3
 have hnv : Rep K3 (.list 1 .dead ((dedB (sortB l)).map fun s => [.str s])) (.slice (some ⟨Br,o,none⟩) (dedB (sortB l)).length cap):=by
  simp only [Rep]
  refine ⟨_,cap,by rw [List.length_map],by rw [List.length_map]; omega,?_,.inr ⟨Br,o,(dedB (sortB l)).map fun s => .string ⟨s.toArray⟩,rfl,⟨_,k3g,?_⟩,vals_strs (strsOf_map _),fun x hx => (by rw [k3a] at hx; cases hx),trivial⟩⟩
  ·intro r hr
   obtain ⟨s,-,rfl⟩:=List.mem_map.1 hr
   exact ⟨rfl,rfl⟩
  ·apply List.ext_getElem?
   intro j
   by_cases hj : j < (dedB (sortB l)).length
   ·rw [List.getElem?_take_of_lt (by simpa using hj),List.getElem?_drop]
    have e1 : (putCells encStr o (slotRow l) lr.toArray).toList[o + j]? = (putCells encStr o (slotRow l) lr.toArray)[o + j]?:=by simp
    rw [e1,hpj,List.getElem?_eq_getElem (by omega)]
    simp only [Option.map_some]
    rw [if_pos ⟨by omega,by omega⟩,show o + j - o = j by omega]
    have e2 : (slotRow l)[j]! = (dedB (sortB l))[j]!:=by
     rw [getElem!_pos (slotRow l) j (by omega),getElem!_pos _ j hj]
     simp [slotRow,hj]
    rw [e2,getElem!_pos _ j hj,List.getElem?_map,List.getElem?_eq_getElem hj]
    rfl
   ·rw [List.getElem?_eq_none (by simp; omega),List.getElem?_eq_none (by simp; omega)]
 have R3 : Rel K3 ⟨(S1.heap.take S.heap.length).set n (.cells (overlay cs 6 [.list 1 .dead ((dedB (sortB l)).map fun s => [.str s])])),S1.rows⟩ w':=by
  refine ⟨fun k B h => ?_,fun k k' B h h' => ?_,fun k B h => ?_,fun k B cs' h hb => ?_,fun k B es h hb => ?_,fun B l' h => ?_,fun B b' E sz size h => ?_⟩
  ·rw [k3m] at h
   have:=R2.dom k B h
   simpa using this
  ·rw [k3m] at h h'
   exact R2.inj k k' B h h'
  ·rw [k3m] at h
   rw [k3go B (hBne k B h)]
   exact R2.sep k B h
  ·rw [k3m] at h
   simp only at hb
   by_cases hk : k = n
   ·subst hk
    have:=hg3some B h
    subst this
    rw [List.getElem?_set_self (by rw [htl]; exact c2)] at hb
    simp only [Option.some.injEq,Blk.cells.injEq] at hb
    subst hb
    refine ⟨_,_,hBt,?_⟩
    obtain ⟨vt',tt',h1,h2⟩:=R2.cells k B cs h htake
    rw [hvt] at h1
    simp only [Option.some.injEq,Obj.cells.injEq,and_true] at h1
    obtain ⟨rfl,rfl⟩:=h1
    have h3 : RepL K2 [.nilp] [.pointer none]:=by simp only [RepL,Rep]; exact ⟨_,_,rfl,rfl,rfl,rfl⟩
    have h4:=Moved.repL hM _ _ (h2.overlay (off:=6) h3) c6
    have h5 : RepL K3 [.list 1 .dead ((dedB (sortB l)).map fun s => [.str s])] [.slice (some ⟨Br,o,none⟩) (dedB (sortB l)).length cap]:=by
     simp only [RepL]
     exact ⟨_,_,rfl,rfl,hnv,rfl⟩
    have h6':=h4.overlay (off:=6) h5
    rw [overlay_two _ _ _ _ hcl6] at h6'
    have hvl6 : 6 < vt.size:=by
     have:=h2.length
     simp only [Array.length_toList] at this
     omega
    have e2 : (vt.setIfInBounds 6 (.slice (some ⟨Br,o,none⟩) (dedB (sortB l)).length cap)).toList = (vt.toList.take 6 ++ [Value.pointer none] ++ vt.toList.drop (6 + 1)).take 6 ++ [Value.slice (some ⟨Br,o,none⟩) (dedB (sortB l)).length cap] ++ (vt.toList.take 6 ++ [Value.pointer none] ++ vt.toList.drop (6 + 1)).drop (6 + 1):=by
     rw [Array.toList_setIfInBounds,List.set_eq_take_append_cons_drop,if_pos (by simpa using hvl6)]
     simp [List.drop_append,Nat.min_eq_left (Nat.le_of_lt hvl6)]
    rw [e2]
    exact h6'
   ·rw [List.getElem?_set_ne (Ne.symm hk)] at hb
    obtain ⟨vs',t',h1,h2⟩:=R2.cells k B cs' h hb
    have hBt' : B ≠ Bt:=fun e => hk (R2.inj k n B h (e ▸ hmt2))
    have haw:=awH_spec c7 k _ hb (by simpa using hk)
    exact ⟨vs',t',by rw [hother B (Array.getElem?_eq_some_iff.1 h1).1 (hBne k B h) hBt']; exact h1,Moved.repL hM _ _ h2 haw⟩
  ·rw [k3m] at h
   simp only at hb
   by_cases hk : k = n
   ·subst hk
    rw [List.getElem?_set_self (by rw [htl]; exact c2)] at hb
    simp at hb
   ·rw [List.getElem?_set_ne (Ne.symm hk)] at hb
    obtain ⟨ms,ck,h1,h2⟩:=R2.maps k B es h hb
    have hBt' : B ≠ Bt:=fun e => hk (R2.inj k n B h (e ▸ hmt2))
    have haw:=awH_spec c7 k _ hb (by simpa using hk)
    exact ⟨ms,ck,by rw [hother B (Array.getElem?_eq_some_iff.1 h1).1 (hBne k B h) hBt']; exact h1,hM.repM h2 haw⟩
  ·by_cases hB : B = Br
   ·subst hB
    rw [k3g] at h
    simp only [Option.some.injEq] at h
    subst h
    refine ⟨_,_,hBr,?_⟩
    apply List.ext_getElem?
    intro j
    have el : (putCells encStr o (slotRow l) lr.toArray).toList.length = lr.length:=by simp [putCells]
    by_cases hj : j < lr.length
    ·rw [List.getElem?_take_of_lt (by rw [el]; exact hj)]
     simp only [Array.getElem?_toList,putCells,Array.getElem?_mapIdx,List.getElem?_toArray]
     rw [hurj j hj]
    ·rw [List.getElem?_eq_none (by simp [el]; omega),List.getElem?_eq_none (by rw [el]; omega)]
   ·rw [k3go B hB] at h
    obtain ⟨vs',t',h1,h2⟩:=R2.rows B l' h
    have hBt' : B ≠ Bt:=fun e => by
     have:=R2.sep n Bt hmt2
     rw [← e,h] at this
     cases this
    exact ⟨vs',t',by rw [hother B (Array.getElem?_eq_some_iff.1 h1).1 hB hBt']; exact h1,h2⟩
  ·have hB : B ≠ Br:=fun e => by rw [e,k3a] at h; cases h
   rw [k3ao B hB] at h
   obtain ⟨l',h1,⟨vs',t',h2,h3⟩,h4⟩:=R2.grow B b' E sz size h
   have hBt' : B ≠ Bt:=fun e => by
    have:=R2.sep n Bt hmt2
    rw [← e,h1] at this
    cases this
   exact ⟨l',by rw [k3go B hB]; exact h1,⟨vs',t',by rw [hother B (Array.getElem?_eq_some_iff.1 h2).1 hB hBt']; exact h2,h3⟩,h4⟩
 have hKm : K.m n = some Bt:=by
  cases hkn : K.m n with
  | none =>
   have:=st2.back n c2 hkn
   rw [hmt2] at this
   cases this
  | some B' =>
   have:=st2.ext.m n B' hkn
   rw [hmt2] at this
   exact this.symm
 have hKg : ∀ B l',K.g B = some l' → B ≠ Br:=fun B l' h e => by
  have:=g_lt R h
  omega
 have st3 : Step K (fun k => k < S.heap.length) w K3 w':=by
  refine ⟨⟨fun k B h => by rw [k3m]; exact st2.ext.m k B h,fun B l' h => ?_,fun B b' E sz size h => ?_,fun B l' h1 h2 => by rw [k3ao B (hKg B l' h1)]; exact st2.ext.n B l' h1 h2⟩,hos.trans st2.os,htape.trans st2.tape,hout.trans st2.output,Nat.le_trans st2.size hsize,fun B hB h1 h2 => ?_,fun B hB h1 h2 => ?_,fun k hk h => by rw [k3m]; exact st2.back k hk h,fun B x h => ?_⟩
  ·rw [k3go B (hKg B l' h)]
   exact st2.ext.g B l' h
  ·obtain ⟨l0,hl0,-,-⟩:=R.grow B b' E sz size h
   obtain ⟨E',h1,h2,h3⟩:=st2.ext.a B b' E sz size h
   exact ⟨E',by rw [k3ao B (hKg B l0 hl0)]; exact h1,h2,fun x y hx hy => h3 x y hx (by rw [k3go B (hKg B x hx)] at hy; exact hy)⟩
  ·have hsz2:=st2.size
   rw [hother B (by omega) (by omega) (fun e => h1 n (e ▸ hKm))]
   exact st2.frame B hB h1 h2
  ·obtain ⟨h3,h4⟩:=st2.fresh B hB h1 h2
   exact ⟨fun k => by rw [k3m]; exact h3 k,by rw [k3go B (by omega)]; exact h4⟩
  ·have hB : B ≠ Br:=fun e => by rw [e,k3a] at h; cases h
   rw [k3ao B hB] at h
   exact st2.born B x h
 have hkt : Keeps S.heap.length S ⟨S1.heap.take S.heap.length,S1.rows⟩:=by
  have hin : ∀ k,k ≤ S.heap.length → Inner k S1 → Inner k ⟨S1.heap.take S.heap.length,S1.rows⟩:=by
   intro k hk h m x hm hb
   simp only [List.getElem?_take] at hb
   split at hb
   ·exact h m x hm hb
   ·cases hb
  refine ⟨by simp only [htl]; exact Nat.le_refl _,fun k hk h => hin k hk (hkp.2.1 k hk h),fun h => ?_⟩
  simp only [htl]
  exact hin _ (Nat.le_refl _) hI1
 have hk2 : Keeps S.heap.length ⟨S1.heap.take S.heap.length,S1.rows⟩ ⟨(S1.heap.take S.heap.length).set n (.cells (overlay cs 6 [.list 1 .dead ((dedB (sortB l)).map fun s => [.str s])])),S1.rows⟩:=
  keeps_store (S:=⟨S1.heap.take S.heap.length,S1.rows⟩) (x:=.list 1 .dead ((dedB (sortB l)).map fun s => [.str s])) htake (.inr rfl) rfl
 obtain ⟨u,hu,hr⟩:=results_sim (P:=Tryz.prog) (g:=Tryz.f59) (rs:=[]) (e:=[]) (tmps:=a'.tmps) R3 (fun t v h => by simp [eget] at h) (by kernel_rfl) rfl
 exact ⟨hda,u,hu,K3,R3,st3,keeps_trans' hkt hk2,u,rfl,hr⟩
end Go.Proofs.YtmeakjgbjldkdaaGreat.Ai
namespace Go.Proofs.YtmeakjgbjldkdaaGreat.Ai
open Go
variable {P : Program}
def tagPl : Tag → Bool
 | .row _ _ => false
 | _ => true
mutual
def plain1 : AV → Bool
 | .ptr .. | .arr .. | .map _ | .func .. => false
 | .ref cs => plainL cs
 | .list _ tag rows => tagPl tag && plainLL rows
 | .iface _ v => plain1 v
 | .agg cs => plainL cs
 | .tup cs => plainL cs
 | _ => true
def plainL : List AV → Bool
 | [] => true
 | v :: vs => plain1 v && plainL vs
def plainLL : List (List AV) → Bool
 | [] => true
 | v :: vs => plainL v && plainLL vs
end
theorem fix_g {K K' : Ghost} (hg : ∀ B l,K.g B = some l → K'.g B = some l) {B o : Nat} {vs : List Value} (h : K.fix B o vs) : K'.fix B o vs:=by
 obtain ⟨l,h1,h2⟩:=h
 exact ⟨l,hg B l h1,h2⟩
theorem tag_pl {K K' : Ghost} (_hg : ∀ B l,K.g B = some l → K'.g B = some l) (hn : ∀ B l,K.g B = some l → K'.a B = none) {sz : Nat} {tag : Tag} {len cap B o : Nat} {o' : Nat} {vs : List Value} (hf : K.fix B o' vs) (ht : tagPl tag = true) (h : K.tagOk sz tag len cap B o) : K'.tagOk sz tag len cap B o:=by
 obtain ⟨l0,hf0,-⟩:=hf
 replace h:=h.2
 refine ⟨fun x hx => (by rw [hn B l0 hf0] at hx; cases hx),?_⟩
 cases tag with
 | full => exact h
 | still => exact hn B l0 hf0
 | dead => trivial
 | row b e => simp [tagPl] at ht
mutual
theorem Rep.plain {K K' : Ghost} (hg : ∀ B l,K.g B = some l → K'.g B = some l) (hn : ∀ B l,K.g B = some l → K'.a B = none) : ∀ (a : AV) (v : Value),Rep K a v → plain1 a = true → Rep K' a v
 | .bool _,_,r,_ => by simpa only [Rep] using r
 | .int _ _,_,r,_ => by simpa only [Rep] using r
 | .str _,_,r,_ => by simpa only [Rep] using r
 | .nilp,_,r,_ => by simpa only [Rep] using r
 | .nilm,_,r,_ => by simpa only [Rep] using r
 | .nilf,_,r,_ => by simpa only [Rep] using r
 | .nili,_,r,_ => by simpa only [Rep] using r
 | .undef,_,r,_ => by simpa only [Rep] using r
 | .ptr n off,v,r,hb => by simp [plain1] at hb
 | .map n,v,r,hb => by simp [plain1] at hb
 | .arr n off sz len,v,r,hb => by simp [plain1] at hb
 | .func f a b,v,r,hb => by simp [plain1] at hb
 | .ref cs,v,r,hb => by
  simp only [Rep] at r ⊢
  simp only [plain1] at hb
  obtain ⟨B,o,vs,hv,hf,hr⟩:=r
  exact ⟨B,o,vs,hv,fix_g hg hf,RepL.plain hg hn cs vs hr hb⟩
 | .list sz tag rows,v,r,hb => by
  simp only [Rep] at r ⊢
  simp only [plain1,Bool.and_eq_true] at hb
  obtain ⟨base,cap,hv,hc,hs,hr⟩:=r
  refine ⟨base,cap,hv,hc,hs,hr.imp id ?_⟩
  rintro ⟨B,o,vs,hb',hf,hr,ht⟩
  exact ⟨B,o,vs,hb',fix_g hg hf,RepLL.plain hg hn rows vs hr hb.2,tag_pl hg hn hf hb.1 ht⟩
 | .iface t x,v,r,hb => by
  simp only [Rep] at r ⊢
  simp only [plain1] at hb
  obtain ⟨u,hv,h1⟩:=r
  exact ⟨u,hv,Rep.plain hg hn x u h1 hb⟩
 | .agg cs,v,r,hb => by
  simp only [Rep] at r ⊢
  simp only [plain1] at hb
  obtain ⟨vs,hv,h1⟩:=r
  exact ⟨vs,hv,RepL.plain hg hn cs vs h1 hb⟩
 | .tup cs,v,r,hb => by
  simp only [Rep] at r ⊢
  simp only [plain1] at hb
  obtain ⟨vs,hv,h1⟩:=r
  exact ⟨vs,hv,RepT.plain hg hn cs vs h1 hb⟩
theorem RepL.plain {K K' : Ghost} (hg : ∀ B l,K.g B = some l → K'.g B = some l) (hn : ∀ B l,K.g B = some l → K'.a B = none) : ∀ (a : List AV) (v : List Value),RepL K a v → plainL a = true → RepL K' a v
 | [],_,r,_ => by simpa only [RepL] using r
 | a :: xs,v,r,hb => by
  simp only [RepL] at r ⊢
  simp only [plainL,Bool.and_eq_true] at hb
  obtain ⟨u,us,hv,h1,h2,h3⟩:=r
  exact ⟨u,us,hv,h1,Rep.plain hg hn a u h2 hb.1,RepL.plain hg hn xs us h3 hb.2⟩
theorem RepT.plain {K K' : Ghost} (hg : ∀ B l,K.g B = some l → K'.g B = some l) (hn : ∀ B l,K.g B = some l → K'.a B = none) : ∀ (a : List AV) (v : List Value),RepT K a v → plainL a = true → RepT K' a v
 | [],_,r,_ => by simpa only [RepT] using r
 | a :: xs,v,r,hb => by
  simp only [RepT] at r ⊢
  simp only [plainL,Bool.and_eq_true] at hb
  obtain ⟨u,us,hv,h2,h3⟩:=r
  exact ⟨u,us,hv,Rep.plain hg hn a u h2 hb.1,RepT.plain hg hn xs us h3 hb.2⟩
theorem RepLL.plain {K K' : Ghost} (hg : ∀ B l,K.g B = some l → K'.g B = some l) (hn : ∀ B l,K.g B = some l → K'.a B = none) : ∀ (a : List (List AV)) (v : List Value),RepLL K a v → plainLL a = true → RepLL K' a v
 | [],_,r,_ => by simpa only [RepLL] using r
 | a :: xs,v,r,hb => by
  simp only [RepLL] at r ⊢
  simp only [plainLL,Bool.and_eq_true] at hb
  obtain ⟨u,us,hv,h2,h3⟩:=r
  exact ⟨u,us,hv,RepL.plain hg hn a u h2 hb.1,RepLL.plain hg hn xs us h3 hb.2⟩
end
theorem Ext.repM {K K' : Ghost} (h : Ext K K') : ∀ {es : List (Str × AV)} {l : List MapEntry},RepM K es l → RepM K' es l
 | [],_,r => by simpa only [RepM] using r
 | x :: es,l,r => by
  simp only [RepM] at r ⊢
  obtain ⟨m,ms',h1,h2,h3,h4⟩:=r
  exact ⟨m,ms',h1,h2,Rep.ext h _ _ h3,Ext.repM h h4⟩
def scal : AV → Bool
 | .bool _ | .int .. | .str _ => true
 | _ => false
theorem repT_scal {K K' : Ghost} : ∀ {vs : List AV} {us : List Value},(vs.all scal) = true → RepT K vs us → RepT K' vs us
 | [],us,_,h => by simpa only [RepT] using h
 | v :: vs,us,hs,h => by
  simp only [List.all_cons,Bool.and_eq_true] at hs
  simp only [RepT] at h ⊢
  obtain ⟨u,us',h1,h2,h3⟩:=h
  refine ⟨u,us',h1,?_,repT_scal hs.2 h3⟩
  cases v <;> simp only [scal,Bool.false_eq_true,false_and] at hs <;> simpa only [Rep] using h2
theorem post_run {K : Ghost} {S S' : St} {w w' : World} {v : AV} {e : Ending} (R : Rel K S w) (hp : plain1 v = true) (h : CallPost K0 S0 w (.ret v) S' e w') : CallPost K S w (.ret v) S e w':=by
 obtain ⟨K',R',hst,-,u,rfl,hr⟩:=h
 have hfr : ∀ B,B < w.heap.size → w'.heap[B]? = w.heap[B]?:=fun B hB => hst.frame B hB (fun n h => by simp [K0] at h) rfl
 have hnew : ∀ B l,K'.g B = some l → w.heap.size ≤ B:=by
  intro B l h
  refine Nat.le_of_not_lt fun hB => ?_
  have:=(hst.fresh B hB (fun n h => by simp [K0] at h) rfl).2
  rw [h] at this
  cases this
 have hgl : ∀ B l,K.g B = some l → B < w.heap.size:=by
  intro B l h
  obtain ⟨vs,t,h1,-⟩:=R.rows B l h
  exact (Array.getElem?_eq_some_iff.1 h1).1
 have hml : ∀ n B,K.m n = some B → B < w.heap.size:=by
  intro n B h
  have hn:=R.dom n B h
  obtain ⟨b,hb⟩ : ∃ b,S.heap[n]? = some b:=⟨_,List.getElem?_eq_getElem hn⟩
  cases b with
  | cells cs =>
   obtain ⟨vs,t,h1,-⟩:=R.cells n B cs h hb
   exact (Array.getElem?_eq_some_iff.1 h1).1
  | map es =>
   obtain ⟨vs,t,h1,-⟩:=R.maps n B es h hb
   exact (Array.getElem?_eq_some_iff.1 h1).1
 let K2 : Ghost:=⟨K.m,fun B => match K.g B with | some l => some l | none => if w.heap.size ≤ B then K'.g B else none,K.a⟩
 have g1 : ∀ B l,K.g B = some l → K2.g B = some l:=by
  intro B l h
  show (match K.g B with | some l => some l | none => if w.heap.size ≤ B then K'.g B else none) = some l
  rw [h]
 have g2 : ∀ B l,K'.g B = some l → K2.g B = some l:=by
  intro B l h
  have h1:=hnew B l h
  have h2 : K.g B = none:=by
   cases hk : K.g B with
   | none => rfl
   | some x => have:=hgl B x hk; omega
  show (match K.g B with | some l => some l | none => if w.heap.size ≤ B then K'.g B else none) = some l
  rw [h2]
  simp only
  rw [if_pos h1,h]
 have g3 : ∀ B l,K2.g B = some l → K.g B = some l ∨ (w.heap.size ≤ B ∧ K'.g B = some l):=by
  intro B l h
  change (match K.g B with | some l => some l | none => if w.heap.size ≤ B then K'.g B else none) = some l at h
  cases hk : K.g B with
  | some x => rw [hk] at h; exact .inl h
  | none =>
   rw [hk] at h
   simp only at h
   split at h
   ·rename_i h1
    exact .inr ⟨h1,h⟩
   ·cases h
 have g4 : ∀ B,B < w.heap.size → K.g B = none → K2.g B = none:=by
  intro B hB h
  cases hk : K2.g B with
  | none => rfl
  | some x =>
   rcases g3 B x hk with h1 | ⟨h1,-⟩
   ·rw [h] at h1; cases h1
   ·omega
 have hx : Ext K K2:=⟨fun n B h => h,fun B l h => ⟨[],by rw [g1 B l h,List.append_nil]⟩,fun B b E sz size h => ⟨E,h,Nat.le_refl _,fun l l' h1 h2 => by rw [g1 B l h1] at h2; cases h2; simp⟩,fun _ _ _ h => h⟩
 have hnn : ∀ B l,K'.g B = some l → K2.a B = none:=by
  intro B l h
  have h1:=hnew B l h
  cases ha : K.a B with
  | none => rfl
  | some x =>
   obtain ⟨b,E,sz,size⟩:=x
   obtain ⟨l0,hg0,-⟩:=R.grow B b E sz size ha
   have:=hgl B l0 hg0
   omega
 refine ⟨K2,⟨R.dom,R.inj,fun n B h => g4 B (hml n B h) (R.sep n B h),fun n B cs h hb => ?_,fun n B es h hb => ?_,fun B l h => ?_,fun B b E sz size h => ?_⟩,
  ⟨hx,hst.os,hst.tape,hst.output,hst.size,fun B hB _ _ => hfr B hB,fun B hB h1 h2 => ⟨h1,g4 B hB h2⟩,fun n _ h => h,fun B x h => .inl ⟨x,h⟩⟩,keeps_refl _ _,u,rfl,Rep.plain g2 hnn v u hr hp⟩
 ·obtain ⟨vs,t,h1,h2⟩:=R.cells n B cs h hb
  exact ⟨vs,t,by rw [hfr B (hml n B h)]; exact h1,RepL.ext hx _ _ h2⟩
 ·obtain ⟨ms,ck,h1,h2⟩:=R.maps n B es h hb
  exact ⟨ms,ck,by rw [hfr B (hml n B h)]; exact h1,hx.repM h2⟩
 ·rcases g3 B l h with h1 | ⟨-,h1⟩
  ·obtain ⟨vs,t,h2,h3⟩:=R.rows B l h1
   exact ⟨vs,t,by rw [hfr B (hgl B l h1)]; exact h2,h3⟩
  ·exact R'.rows B l h1
 ·obtain ⟨l,h1,⟨vs,t,h2,h3⟩,h4⟩:=R.grow B b E sz size h
  exact ⟨l,g1 B l h1,⟨vs,t,by rw [hfr B (hgl B l h1)]; exact h2,h3⟩,h4⟩
theorem sim_run {cl : CallFn} (hcs : CallSim P cl) {f : Nat} {vs : List AV} {v : AV} {S' : St} (hx : cl f vs S0 = some (.ret v,S')) (hp : plain1 v = true) (hs : (vs.all scal) = true) {K : Ghost} {S : St} {w : World} {us : List Value} (R : Rel K S w) (ha : RepT K vs us) :
  ((callFunc f us.toArray).run P w = .ok (.enter f us.toArray) w ∧ Calls P f us.toArray w (CallPost K S w (.ret v) S)) ∨
  ∃ u w',(callFunc f us.toArray).run P w = .ok (.value u) w' ∧ CallPost K S w (.ret v) S (.returned u) w':=by
 rcases hcs f vs S0 _ S' hx K0 w us (rel0 w) (fun n b hn _ => by simp [S0] at hn) (repT_scal hs ha) with ⟨h1,h2⟩ | ⟨u,w',h1,h2⟩
 ·exact .inl ⟨h1,h2.mono fun e w' h => post_run R hp h⟩
 ·exact .inr ⟨u,w',h1,post_run R hp h2⟩
end Go.Proofs.YtmeakjgbjldkdaaGreat.Ai
namespace Go.Proofs.YtmeakjgbjldkdaaGreat.Ai
open Go
theorem prB_sim : ∀ f p,PrB f = some p → PrimSim Tryz.prog f p:=by
 intro f p h
 unfold PrB at h
 split at h
 ·simp only [Option.some.injEq] at h; subst h; exact join_sim
 ·simp only [Option.some.injEq] at h; subst h; exact once_sim
 ·simp only [Option.some.injEq] at h; subst h; exact slots_sim
 ·simp only [Option.some.injEq] at h; subst h; exact clone_sim
 ·simp at h
theorem pl_lst (sz : Nat) (rows : List (List AV)) : plain1 (lst sz rows) = plainLL rows:=by
 cases rows with
 | nil => rfl
 | cons r rs => simp only [lst,plain1,tagPl,Bool.true_and]
theorem pl_app : ∀ (a b : List AV),plainL (a ++ b) = (plainL a && plainL b)
 | [],b => by simp [plainL]
 | x :: a,b => by simp only [List.cons_append,plainL,pl_app a b,Bool.and_assoc]
theorem pl_map {α : Type} (f : α → List AV) (h : ∀ x,plainL (f x) = true) : ∀ l : List α,plainLL (l.map f) = true
 | [] => rfl
 | x :: l => by simp only [List.map_cons,plainLL,h,pl_map f h l,Bool.and_self]
mutual
theorem pl_ty : ∀ t : Ty,plainL (tyRow t) = true
 | .mk kind name null elem pred at_ => by simp only [tyRow,plainL,plain1,pl_lst,pl_tys elem,pl_exs pred,Bool.and_self]
theorem pl_tys : ∀ ts : List Ty,plainLL (tyRows ts) = true
 | [] => by simp only [tyRows,plainLL]
 | t :: ts => by simp only [tyRows,plainLL,pl_ty t,pl_tys ts,Bool.and_self]
theorem pl_ex : ∀ t : Xp,plainL (exRow t) = true
 | .mk op name args ty at_ => by simp only [exRow,plainL,plain1,pl_lst,pl_tys ty,pl_exs args,Bool.and_self]
theorem pl_exs : ∀ ts : List Xp,plainLL (exRows ts) = true
 | [] => by simp only [exRows,plainLL]
 | t :: ts => by simp only [exRows,plainLL,pl_ex t,pl_exs ts,Bool.and_self]
end
mutual
theorem pl_sm : ∀ t : Sm,plainL (smRow t) = true
 | .mk kind name ty exs body els at_ => by simp only [smRow,plainL,plain1,pl_lst,pl_tys ty,pl_exs exs,pl_sms body,pl_sms els,Bool.and_self]
theorem pl_sms : ∀ ts : List Sm,plainLL (smRows ts) = true
 | [] => by simp only [smRows,plainLL]
 | t :: ts => by simp only [smRows,plainLL,pl_sm t,pl_sms ts,Bool.and_self]
end
theorem pl_par (p : Par) : plainL (parRow p) = true:=by simp only [parRow,plainL,plain1,pl_app,pl_ty,Bool.and_self]
theorem pl_fld (p : Fld) : plainL (fldRow p) = true:=by simp only [fldRow,plainL,plain1,pl_app,pl_ty,Bool.and_self]
theorem pl_mth (p : Mth) : plainL (mthRow p) = true:=by simp only [mthRow,plainL,plain1,pl_app,pl_ty,pl_lst,pl_sms,pl_map parRow pl_par,Bool.and_self]
theorem pl_ctr (p : Ctr) : plainL (ctrRow p) = true:=by simp only [ctrRow,plainL,plain1,pl_lst,pl_sms,pl_exs,pl_map parRow pl_par,Bool.and_self]
theorem pl_nm (x : Str) : plainL (nmRow x) = true:=rfl
theorem pl_cls (c : Cls) : plainL (clsRow c) = true:=by
 simp only [clsRow,plainL,plain1,pl_lst,pl_exs,pl_map nmRow pl_nm,pl_map fldRow pl_fld,pl_map ctrRow pl_ctr,pl_map mthRow pl_mth,Bool.and_self]
theorem pl_prg (p : Prg) : plainL (prgRow p) = true:=by simp only [prgRow,plainL,pl_lst,pl_sms,pl_map clsRow pl_cls,Bool.and_self]
theorem libS : LibS PrB FA where
 hm:=prB_mono
 f89:=⟨rfl,rfl⟩
 f130:=⟨rfl,rfl⟩
 f131:=⟨rfl,rfl⟩
 f132:=⟨rfl,rfl⟩
 f133:=⟨rfl,rfl⟩
 f190:=⟨rfl,rfl⟩
 f191:=⟨rfl,rfl⟩
 f226:=⟨rfl,rfl⟩
 f243:=⟨rfl,rfl⟩
 f90:=⟨rfl,rfl⟩
 f93:=⟨rfl,rfl⟩
 f95:=⟨rfl,rfl⟩
 f134:=⟨rfl,rfl⟩
 f135:=⟨rfl,rfl⟩
 f136:=⟨rfl,rfl⟩
 f140:=⟨rfl,rfl⟩
 f192:=⟨rfl,rfl⟩
 f193:=⟨rfl,rfl⟩
 f195:=⟨rfl,rfl⟩
 f201:=⟨rfl,rfl⟩
 f227:=⟨rfl,rfl⟩
 f228:=⟨rfl,rfl⟩
 f244:=⟨rfl,rfl⟩
 f245:=⟨rfl,rfl⟩
 f253:=⟨rfl,rfl⟩
 f94:=⟨rfl,rfl⟩
 f141:=⟨rfl,rfl⟩
 f196:=⟨rfl,rfl⟩
 f197:=⟨rfl,rfl⟩
 f137:=⟨rfl,rfl⟩
 f194:=⟨rfl,rfl⟩
 f139:=⟨rfl,rfl⟩
 f138:=⟨rfl,rfl⟩
 f91:=⟨rfl,rfl⟩
 f92:=⟨rfl,rfl⟩
 f51:=⟨rfl,rfl⟩
theorem rd1 (x : Str) : ∃ (p : Prg) (ok : Bool),(ok = true → okPrg p ∧ p.classes.length ≤ 70 ∧ wL wCls p.classes + wSms p.main ≤ 42000000) ∧
  ∃ n S',callN PrB FA n 14 [.str x] S0 = some (.ret (.tup [.agg (prgRow p),.bool ok]),S'):=by
 obtain ⟨⟨p,ok,rw⟩,⟨-,hg⟩,hd⟩:=det_read libS ⟨rfl,rfl⟩ [] [] x
 refine ⟨p,ok,hg,?_⟩
 obtain ⟨n,r,S',h1,rfl⟩:=(hd fun r _ => r = .ret (.tup [.agg (prgRow p),.bool ok])).2 rfl
 exact ⟨n,S',h1⟩
noncomputable def thePrg (x : Str) : Prg:=Classical.choose (rd1 x)
noncomputable def theOk (x : Str) : Bool:=Classical.choose (Classical.choose_spec (rd1 x))
theorem the_spec (x : Str) : (theOk x = true → okPrg (thePrg x) ∧ (thePrg x).classes.length ≤ 70 ∧ wL wCls (thePrg x).classes + wSms (thePrg x).main ≤ 42000000) ∧
  ∃ n S',callN PrB FA n 14 [.str x] S0 = some (.ret (.tup [.agg (prgRow (thePrg x)),.bool (theOk x)]),S'):=Classical.choose_spec (Classical.choose_spec (rd1 x))
noncomputable def readP : CallFn → List AV → St → Option (Res × St):=fun _ vs S => match vs with
 | [.str x] => some (.ret (.tup [.agg (prgRow (thePrg x)),.bool (theOk x)]),S)
 | _ => none
def awakeP : CallFn → List AV → St → Option (Res × St):=fun _ vs S => match vs with
 | [] => some (.ret (.bool true),S)
 | _ => none
noncomputable def PrC : Prims:=fun n => match n with
 | 13 => some awakeP
 | 14 => some readP
 | 54 => some joinP
 | 58 => some onceP
 | 59 => some slotsP
 | 62 => some cloneP
 | _ => none
theorem prC_mono : Mono PrC:=by
 intro f p hp
 unfold PrC at hp
 split at hp
 ·simp only [Option.some.injEq] at hp; subst hp; exact fun _ _ _ _ _ _ h => h
 ·simp only [Option.some.injEq] at hp; subst hp; exact fun _ _ _ _ _ _ h => h
 ·simp only [Option.some.injEq] at hp; subst hp; exact joinP_mono
 ·simp only [Option.some.injEq] at hp; subst hp; exact onceP_mono
 ·simp only [Option.some.injEq] at hp; subst hp; exact slotsP_mono
 ·simp only [Option.some.injEq] at hp; subst hp; exact cloneP_mono
 ·simp at hp
theorem fa_chk : ∀ f fn,FA f = some fn → ∃ g,Tryz.prog.funcs[f]? = some g ∧ chkFn Tryz.prog g fn = true:=by
 intro f fn h
 unfold FA at h
 split at h
 ·simp only [Option.some.injEq] at h; subst h; exact ⟨Tryz.f3,Tryz.func3,c3⟩
 ·simp only [Option.some.injEq] at h; subst h; exact ⟨Tryz.f6,Tryz.func6,c6⟩
 ·simp only [Option.some.injEq] at h; subst h; exact ⟨Tryz.f13,Tryz.func13,c13⟩
 ·simp only [Option.some.injEq] at h; subst h; exact ⟨Tryz.f14,Tryz.func14,c14⟩
 ·simp only [Option.some.injEq] at h; subst h; exact ⟨Tryz.f15,Tryz.func15,c15⟩
 ·simp only [Option.some.injEq] at h; subst h; exact ⟨Tryz.f16,Tryz.func16,c16⟩
 ·simp only [Option.some.injEq] at h; subst h; exact ⟨Tryz.f17,Tryz.func17,c17⟩
 ·simp only [Option.some.injEq] at h; subst h; exact ⟨Tryz.f18,Tryz.func18,c18⟩
 ·simp only [Option.some.injEq] at h; subst h; exact ⟨Tryz.f19,Tryz.func19,c19⟩
 ·simp only [Option.some.injEq] at h; subst h; exact ⟨Tryz.f20,Tryz.func20,c20⟩
 ·simp only [Option.some.injEq] at h; subst h; exact ⟨Tryz.f21,Tryz.func21,c21⟩
 ·simp only [Option.some.injEq] at h; subst h; exact ⟨Tryz.f22,Tryz.func22,c22⟩
 ·simp only [Option.some.injEq] at h; subst h; exact ⟨Tryz.f23,Tryz.func23,c23⟩
 ·simp only [Option.some.injEq] at h; subst h; exact ⟨Tryz.f25,Tryz.func25,c25⟩
 ·simp only [Option.some.injEq] at h; subst h; exact ⟨Tryz.f26,Tryz.func26,c26⟩
 ·simp only [Option.some.injEq] at h; subst h; exact ⟨Tryz.f30,Tryz.func30,c30⟩
 ·simp only [Option.some.injEq] at h; subst h; exact ⟨Tryz.f33,Tryz.func33,c33⟩
 ·simp only [Option.some.injEq] at h; subst h; exact ⟨Tryz.f34,Tryz.func34,c34⟩
 ·simp only [Option.some.injEq] at h; subst h; exact ⟨Tryz.f35,Tryz.func35,c35⟩
 ·simp only [Option.some.injEq] at h; subst h; exact ⟨Tryz.f36,Tryz.func36,c36⟩
 ·simp only [Option.some.injEq] at h; subst h; exact ⟨Tryz.f51,Tryz.func51,c51⟩
 ·simp only [Option.some.injEq] at h; subst h; exact ⟨Tryz.f52,Tryz.func52,c52⟩
 ·simp only [Option.some.injEq] at h; subst h; exact ⟨Tryz.f53,Tryz.func53,c53⟩
 ·simp only [Option.some.injEq] at h; subst h; exact ⟨Tryz.f55,Tryz.func55,c55b⟩
 ·simp only [Option.some.injEq] at h; subst h; exact ⟨Tryz.f56,Tryz.func56,c56⟩
 ·simp only [Option.some.injEq] at h; subst h; exact ⟨Tryz.f57,Tryz.func57,c57⟩
 ·simp only [Option.some.injEq] at h; subst h; exact ⟨Tryz.f59,Tryz.func59,c59⟩
 ·simp only [Option.some.injEq] at h; subst h; exact ⟨Tryz.f60,Tryz.func60,c60⟩
 ·simp only [Option.some.injEq] at h; subst h; exact ⟨Tryz.f61,Tryz.func61,c61⟩
 ·simp only [Option.some.injEq] at h; subst h; exact ⟨Tryz.f64,Tryz.func64,c64⟩
 ·simp only [Option.some.injEq] at h; subst h; exact ⟨Tryz.f65,Tryz.func65,c65⟩
 ·simp only [Option.some.injEq] at h; subst h; exact ⟨Tryz.f66,Tryz.func66,c66⟩
 ·simp only [Option.some.injEq] at h; subst h; exact ⟨Tryz.f68,Tryz.func68,c68⟩
 ·simp only [Option.some.injEq] at h; subst h; exact ⟨Tryz.f69,Tryz.func69,c69⟩
 ·simp only [Option.some.injEq] at h; subst h; exact ⟨Tryz.f89,Tryz.func89,c89⟩
 ·simp only [Option.some.injEq] at h; subst h; exact ⟨Tryz.f90,Tryz.func90,c90⟩
 ·simp only [Option.some.injEq] at h; subst h; exact ⟨Tryz.f91,Tryz.func91,c91⟩
 ·simp only [Option.some.injEq] at h; subst h; exact ⟨Tryz.f92,Tryz.func92,c92⟩
 ·simp only [Option.some.injEq] at h; subst h; exact ⟨Tryz.f93,Tryz.func93,c93⟩
 ·simp only [Option.some.injEq] at h; subst h; exact ⟨Tryz.f94,Tryz.func94,c94⟩
 ·simp only [Option.some.injEq] at h; subst h; exact ⟨Tryz.f95,Tryz.func95,c95⟩
 ·simp only [Option.some.injEq] at h; subst h; exact ⟨Tryz.f96,Tryz.func96,c96⟩
 ·simp only [Option.some.injEq] at h; subst h; exact ⟨Tryz.f97,Tryz.func97,c97⟩
 ·simp only [Option.some.injEq] at h; subst h; exact ⟨Tryz.f100,Tryz.func100,c100⟩
 ·simp only [Option.some.injEq] at h; subst h; exact ⟨Tryz.f101,Tryz.func101,c101⟩
 ·simp only [Option.some.injEq] at h; subst h; exact ⟨Tryz.f102,Tryz.func102,c102⟩
 ·simp only [Option.some.injEq] at h; subst h; exact ⟨Tryz.f103,Tryz.func103,c103⟩
 ·simp only [Option.some.injEq] at h; subst h; exact ⟨Tryz.f104,Tryz.func104,c104⟩
 ·simp only [Option.some.injEq] at h; subst h; exact ⟨Tryz.f105,Tryz.func105,c105⟩
 ·simp only [Option.some.injEq] at h; subst h; exact ⟨Tryz.f106,Tryz.func106,c106⟩
 ·simp only [Option.some.injEq] at h; subst h; exact ⟨Tryz.f109,Tryz.func109,c109⟩
 ·simp only [Option.some.injEq] at h; subst h; exact ⟨Tryz.f110,Tryz.func110,c110⟩
 ·simp only [Option.some.injEq] at h; subst h; exact ⟨Tryz.f111,Tryz.func111,c111⟩
 ·simp only [Option.some.injEq] at h; subst h; exact ⟨Tryz.f127,Tryz.func127,c127⟩
 ·simp only [Option.some.injEq] at h; subst h; exact ⟨Tryz.f130,Tryz.func130,c130⟩
 ·simp only [Option.some.injEq] at h; subst h; exact ⟨Tryz.f131,Tryz.func131,c131⟩
 ·simp only [Option.some.injEq] at h; subst h; exact ⟨Tryz.f132,Tryz.func132,c132⟩
 ·simp only [Option.some.injEq] at h; subst h; exact ⟨Tryz.f133,Tryz.func133,c133⟩
 ·simp only [Option.some.injEq] at h; subst h; exact ⟨Tryz.f134,Tryz.func134,c134⟩
 ·simp only [Option.some.injEq] at h; subst h; exact ⟨Tryz.f135,Tryz.func135,c135⟩
 ·simp only [Option.some.injEq] at h; subst h; exact ⟨Tryz.f136,Tryz.func136,c136⟩
 ·simp only [Option.some.injEq] at h; subst h; exact ⟨Tryz.f137,Tryz.func137,c137⟩
 ·simp only [Option.some.injEq] at h; subst h; exact ⟨Tryz.f138,Tryz.func138,c138⟩
 ·simp only [Option.some.injEq] at h; subst h; exact ⟨Tryz.f139,Tryz.func139,c139⟩
 ·simp only [Option.some.injEq] at h; subst h; exact ⟨Tryz.f140,Tryz.func140,c140⟩
 ·simp only [Option.some.injEq] at h; subst h; exact ⟨Tryz.f141,Tryz.func141,c141⟩
 ·simp only [Option.some.injEq] at h; subst h; exact ⟨Tryz.f142,Tryz.func142,c142⟩
 ·simp only [Option.some.injEq] at h; subst h; exact ⟨Tryz.f143,Tryz.func143,c143⟩
 ·simp only [Option.some.injEq] at h; subst h; exact ⟨Tryz.f144,Tryz.func144,c144⟩
 ·simp only [Option.some.injEq] at h; subst h; exact ⟨Tryz.f145,Tryz.func145,c145⟩
 ·simp only [Option.some.injEq] at h; subst h; exact ⟨Tryz.f146,Tryz.func146,c146⟩
 ·simp only [Option.some.injEq] at h; subst h; exact ⟨Tryz.f149,Tryz.func149,c149⟩
 ·simp only [Option.some.injEq] at h; subst h; exact ⟨Tryz.f150,Tryz.func150,c150⟩
 ·simp only [Option.some.injEq] at h; subst h; exact ⟨Tryz.f151,Tryz.func151,c151⟩
 ·simp only [Option.some.injEq] at h; subst h; exact ⟨Tryz.f156,Tryz.func156,c156⟩
 ·simp only [Option.some.injEq] at h; subst h; exact ⟨Tryz.f165,Tryz.func165,c165⟩
 ·simp only [Option.some.injEq] at h; subst h; exact ⟨Tryz.f166,Tryz.func166,c166⟩
 ·simp only [Option.some.injEq] at h; subst h; exact ⟨Tryz.f190,Tryz.func190,c190⟩
 ·simp only [Option.some.injEq] at h; subst h; exact ⟨Tryz.f191,Tryz.func191,c191⟩
 ·simp only [Option.some.injEq] at h; subst h; exact ⟨Tryz.f192,Tryz.func192,c192⟩
 ·simp only [Option.some.injEq] at h; subst h; exact ⟨Tryz.f193,Tryz.func193,c193⟩
 ·simp only [Option.some.injEq] at h; subst h; exact ⟨Tryz.f194,Tryz.func194,c194⟩
 ·simp only [Option.some.injEq] at h; subst h; exact ⟨Tryz.f195,Tryz.func195,c195⟩
 ·simp only [Option.some.injEq] at h; subst h; exact ⟨Tryz.f196,Tryz.func196,c196⟩
 ·simp only [Option.some.injEq] at h; subst h; exact ⟨Tryz.f197,Tryz.func197,c197⟩
 ·simp only [Option.some.injEq] at h; subst h; exact ⟨Tryz.f198,Tryz.func198,c198⟩
 ·simp only [Option.some.injEq] at h; subst h; exact ⟨Tryz.f199,Tryz.func199,c199⟩
 ·simp only [Option.some.injEq] at h; subst h; exact ⟨Tryz.f200,Tryz.func200,c200⟩
 ·simp only [Option.some.injEq] at h; subst h; exact ⟨Tryz.f201,Tryz.func201,c201⟩
 ·simp only [Option.some.injEq] at h; subst h; exact ⟨Tryz.f204,Tryz.func204,c204⟩
 ·simp only [Option.some.injEq] at h; subst h; exact ⟨Tryz.f226,Tryz.func226,c226⟩
 ·simp only [Option.some.injEq] at h; subst h; exact ⟨Tryz.f227,Tryz.func227,c227⟩
 ·simp only [Option.some.injEq] at h; subst h; exact ⟨Tryz.f228,Tryz.func228,c228⟩
 ·simp only [Option.some.injEq] at h; subst h; exact ⟨Tryz.f229,Tryz.func229,c229⟩
 ·simp only [Option.some.injEq] at h; subst h; exact ⟨Tryz.f243,Tryz.func243,c243⟩
 ·simp only [Option.some.injEq] at h; subst h; exact ⟨Tryz.f244,Tryz.func244,c244⟩
 ·simp only [Option.some.injEq] at h; subst h; exact ⟨Tryz.f245,Tryz.func245,c245⟩
 ·simp only [Option.some.injEq] at h; subst h; exact ⟨Tryz.f253,Tryz.func253,c253⟩
 ·simp at h
theorem read_sim : PrimSim Tryz.prog 14 readP:=by
 intro cl hcl vs S r S' hx K w us R hI ha
 unfold readP at hx
 split at hx
 ·rename_i x
  simp only [Option.some.injEq,Prod.mk.injEq] at hx
  obtain ⟨rfl,rfl⟩:=hx
  obtain ⟨n,S',hn⟩:=(the_spec x).2
  exact sim_run (calls_sim prB_sim (fun f fn _ h => fa_chk f fn h) n) hn (by simp only [plain1,plainL,pl_prg,Bool.and_self]) rfl R ha
 ·simp at hx
theorem awake_sim : PrimSim Tryz.prog 13 awakeP:=by
 intro cl hcl vs S r S' hx K w us R hI ha
 unfold awakeP at hx
 split at hx
 ·simp only [Option.some.injEq,Prod.mk.injEq] at hx
  obtain ⟨rfl,rfl⟩:=hx
  obtain ⟨n,hn⟩:=e_k13
  exact sim_run (calls_sim prB_sim (fun f fn _ h => fa_chk f fn h) n) (f:=13) (vs:=[]) (v:=.bool true) (S':=k13.T) hn rfl rfl R ha
 ·simp at hx
theorem prC_sim : ∀ f p,PrC f = some p → PrimSim Tryz.prog f p:=by
 intro f p h
 unfold PrC at h
 split at h
 ·simp only [Option.some.injEq] at h; subst h; exact awake_sim
 ·simp only [Option.some.injEq] at h; subst h; exact read_sim
 ·simp only [Option.some.injEq] at h; subst h; exact join_sim
 ·simp only [Option.some.injEq] at h; subst h; exact once_sim
 ·simp only [Option.some.injEq] at h; subst h; exact slots_sim
 ·simp only [Option.some.injEq] at h; subst h; exact clone_sim
 ·simp at h
theorem det_run {pr : Prims} {F : Nat → Option IFn} (hp : Mono pr) {n f : Nat} {vs : List AV} {S S' : St} {r : Res} (h : callN pr F n f vs S = some (r,S')) : Det pr F f vs S r S':=by
 have h2 : Wp pr F f vs S fun a b => a = r ∧ b = S':=⟨n,r,S',h,rfl,rfl⟩
 obtain ⟨r',S2,hd,rfl,rfl⟩:=h2.det hp
 exact hd
theorem strs_nm : ∀ l : List Str,strsOf (l.map nmRow) = some l
 | [] => rfl
 | s :: l => by
  show (match strsOf (l.map nmRow) with | some l => some (s :: l) | none => none) = _
  rw [strs_nm l]
theorem sum_len (k : Nat) (hk : 0 < k) : ∀ l : List Str,sumLen k l = (l.map fun x => x.length + k).sum ∧ l.length ≤ (l.map fun x => x.length + k).sum
 | [] => ⟨rfl,Nat.le_refl _⟩
 | s :: l => by
  obtain ⟨h1,h2⟩:=sum_len k hk l
  simp only [sumLen,List.map_cons,List.sum_cons,List.length_cons]
  omega
end Go.Proofs.YtmeakjgbjldkdaaGreat.Ai
