/- The statement's function, on the machine. No condition. -/
import Derived.Test.YtmeakjgbjldkdaaGreatY19
set_option maxRecDepth 100000
set_option maxHeartbeats 16000000
namespace Go.Proofs.YtmeakjgbjldkdaaGreat.Ai
open Go Go.Proofs.YtmeakjgbjldkdaaGreat.Slo
def Res4 (w0 : World) (e : Ending) (w' : World) : Prop:=e = .returned (.bool true) ∧ RowKit.Below w0.heap.size w0 w'
theorem ret4 {K : Ghost} {S : St} {w0 w : World} {a : Act} {e : Env} (R : Rel K S w) (hE : EnvRep K (eget e) a.tmps) (he : eget e 2 = some (.bool true)) (hd : a.defers = []) (hB : RowKit.Below w0.heap.size w0 w) : bodyPost Tryz.prog Tryz.f4 (Res4 w0) .ret a w:=by
 obtain ⟨u,hu,hr⟩:=results_sim (P:=Tryz.prog) (g:=Tryz.f4) (rs:=[.tmp 2]) (e:=e) (vs:=[.bool true]) R hE (by kernel_rfl) (by simp only [rvals,he])
 simp only [packed,Rep] at hr
 subst hr
 exact ⟨hd,_,hu,rfl,hB⟩
theorem below_step {K K' : Ghost} {X : Nat → Prop} {w0 w w' : World} (hB : RowKit.Below w0.heap.size w0 w) (hst : Step K X w K' w') (hn : ∀ B,B < w0.heap.size → (∀ k,K.m k ≠ some B) ∧ K.g B = none) : RowKit.Below w0.heap.size w0 w':=by
 refine ⟨hst.os.trans hB.os,hst.tape.trans hB.tape,hst.output.trans hB.output,Nat.le_trans hB.size hst.size,fun k hk => ?_⟩
 obtain ⟨h1,h2⟩:=hn k hk
 have:=hB.size
 exact (hst.frame k (by omega) h1 h2).trans (hB.block k hk)
theorem rest4_wp {K : Ghost} {H : List Blk} {rw : List Nat} {w0 w : World} {a : Act} {n mb z zb Bt : Nat} {tg tb : Tag} {cs : List Cls} {U : List (List Nat)} (T : TabU H n mb cs z tg zb tb U (.int .u32 1) (.int .i32 0) (.int .u32 0) (slV (sigsF cs))) (hfw : Few cs)
  (R : Rel K ⟨H,rw⟩ w) (hI : Inner H.length ⟨H,rw⟩) (hn : K.m n = some Bt) (hs : a.tmps.size = 133) (hd : a.defers = []) (h3 : a.tmps.getD 3 Go.undef = .pointer (some ⟨Bt,0,none⟩)) (hB : RowKit.Below w0.heap.size w0 w) (hnew : ∀ B,B < w0.heap.size → (∀ k,K.m k ≠ some B) ∧ K.g B = none) :
  rest4C.wp Tryz.prog (bodyPost Tryz.prog Tryz.f4 (Res4 w0)) a w:=by
 obtain ⟨nf,x,e,S',hx,rfl,e',rfl⟩:=wx_rest4 libT (rw:=rw) T hfw
 have hE : EnvRep K (eget [(3,.ptr n 0)]) a.tmps:=by
  intro t v hv
  simp only [eget] at hv
  split at hv
  ·rename_i e3
   subst e3
   simp only [Option.some.injEq] at hv
   subst hv
   refine ⟨by omega,?_⟩
   rw [h3]
   simp only [Rep]
   exact ⟨Bt,hn,rfl⟩
  ·cases hv
 refine csim (calls_sim prE_sim (fun f fn _ h => fa5_chk f fn h) nf) rest4 rest4C K ⟨H,rw⟩ w a _ _ chkR4 R hI hE (by rw [ntmps4,hs]; exact Nat.le_refl _) (Nat.le_refl _) hx _ ?_
 intro a' w' K' en R' E' hdf _ hst _ hex
 cases en <;> simp only [Exr] at hex
 exact ret4 R' (E' trivial) rfl (hdf.trans hd) (below_step hB hst hnew)
theorem spl_none {w w' : World} {Br o : Nat} {us : Array Value} {t : TypeId} (hu : w.heap[Br]? = some (.cells us t (0,0))) (h : Spl w Br o us t 0 w') : ∀ k : Nat,w'.heap[k]? = w.heap[k]?:=by
 intro k
 by_cases hk : k = Br
 ·subst hk
  obtain ⟨us',h1,h2,h3⟩:=h.row
  rw [h1,hu]
  congr 2
  apply Array.ext_getElem?
  intro j
  rw [h3 j,if_neg (by omega)]
 ·exact h.other k hk
theorem tail4_wp {K : Ghost} {H : List Blk} {rw rw0 : List Nat} {w0 w : World} {a : Act} {n mb z zb : Nat} {tg tb : Tag} {cs : List Cls} {U : List (List Nat)} (T : TabU H n mb cs z tg zb tb U (.int .u32 1) (.int .i32 0) (.int .u32 0) (slV (sigsF cs))) (hfw : Few cs) (hcm : sigsF cs ≠ [] → Calm tg ∧ Calm tb)
  (R : Rel K ⟨H,rw⟩ w) (hI : Inner H.length ⟨H,rw⟩) (hs : a.tmps.size = 133) (hd : a.defers = []) (h3 : Rep K (.ptr n 0) (a.tmps.getD 3 Go.undef)) (h5 : Rep K (clV rw0 (slotsF cs)) (a.tmps.getD 5 Go.undef)) (hB : RowKit.Below w0.heap.size w0 w) (hnew : ∀ B,B < w0.heap.size → (∀ k,K.m k ≠ some B) ∧ K.g B = none) :
  tail4.wp Tryz.prog (bodyPost Tryz.prog Tryz.f4 (Res4 w0)) a w:=by
 rw [tail4_eq]
 refine wp_seq ?_
 simp only [Rep] at h3
 obtain ⟨Bt,hBt,h3⟩:=h3
 obtain ⟨vt,tt,hvt,hvr⟩:=R.cells n Bt _ hBt T.at_
 have hvr' : RepL K (tabC cs U z zb mb tg tb 1 0 (slV (sigsF cs))) vt.toList:=hvr
 have hln : (slotsF cs).length ≤ 1000000:=by
  have h1:=putAll_len (sigsF cs) []
  have h2:=sigsF_all hfw T.few
  rw [slotsF]
  simp only [List.length_nil] at h1
  omega
 by_cases hl : slotsF cs = []
 ·
  rw [hl] at h5
  simp only [clV,if_true,Rep,List.length_nil] at h5
  obtain ⟨base,cap,h5,-⟩:=h5
  refine loop4_wp Bt 0 vt tt 0 cap base _ (by omega) (fun h => by omega) (by omega) (Nat.zero_le _) _ a w hs hd h3 h5 hvt ?_
  intro a' w' q1 q2 q3 hw
  have hsame:=spl_none hvt hw
  have hb2 : RowKit.Below w.heap.size w w':=⟨hw.os,hw.tape,hw.output,Nat.le_of_eq hw.size.symm,fun k _ => hsame k⟩
  obtain ⟨R',hst⟩:=rel_below R hb2
  exact rest4_wp T hfw R' hI hBt q1 q2 q3 (below_step hB (hst fun _ => True) hnew) hnew
 ·have hsne : sigsF cs ≠ []:=by
   intro e
   apply hl
   rw [← slotS_eq,e]
   rfl
  obtain ⟨cg,cb⟩:=hcm hsne
  have hmem : ∀ s,s ∈ slotsF cs ↔ s ∈ sigsF cs:=fun s => by rw [← slotS_eq]; exact slotS_mem
  have hpos : 0 < (slotsF cs).length:=List.length_pos_iff.2 hl
  have hslot : slotList (sigsF cs) = .list 1 .still ((slotsF cs).map nmRow):=by
   rw [← slotS_eq]
   rfl
  simp only [clV,if_neg hl] at h5
  generalize slotsF cs = l at *
  simp only [Rep] at h5
  obtain ⟨base,cap,h5,hcap,-,hb⟩:=h5
  rw [List.length_map] at h5 hcap
  rcases hb with ⟨-,h0,-⟩ | ⟨Br,o,vr,rfl,hfix,hrep,htag⟩
  ·exfalso
   have:=congrArg List.length h0
   rw [List.length_map] at this
   simp only [List.length_nil] at this
   omega
  obtain ⟨hvreq,-⟩:=strs_vals (strsOf_map l) hrep
  obtain ⟨-,⟨xa,hxa,hxb⟩,-⟩:=htag
  obtain ⟨lr,hgr,hlr⟩:=hfix
  obtain ⟨us,tu,hus,husl⟩:=R.rows Br lr hgr
  have hlrl : o + l.length ≤ lr.length:=by
   have:=congrArg List.length hlr
   rw [hvreq] at this
   simp at this
   omega
  have hulen : lr.length ≤ us.size:=by
   have:=congrArg List.length husl
   simp at this
   omega
  have hurj : ∀ j,j < lr.length → us[j]? = lr[j]?:=by
   intro j hj
   have h1 : (us.toList.take lr.length)[j]? = lr[j]?:=by rw [husl]
   rw [List.getElem?_take_of_lt hj] at h1
   simpa using h1
  have hlrj : ∀ j,j < l.length → lr[o + j]? = some (.string ⟨(l[j]!).toArray⟩):=by
   intro j hj
   have h1 : ((lr.drop o).take vr.length)[j]? = vr[j]?:=by rw [hlr]
   rw [hvreq] at h1
   rw [List.getElem?_take_of_lt (by simpa using hj),List.getElem?_drop,List.getElem?_map,List.getElem?_eq_getElem hj] at h1
   rw [h1,getElem!_pos l j hj]
   rfl
  refine loop4_wp Br o us tu l.length cap _ _ hln (fun _ => rfl) (by omega) hcap _ a w hs hd h3 h5 hus ?_
  intro a' w' q1 q2 q3 hw
  obtain ⟨us2,hu2,hus2,hup⟩:=hw.row
  have htr' : Bt ≠ Br:=fun e => by
   have:=R.sep n Bt hBt
   rw [e,hgr] at this
   cases this
  obtain ⟨um,hvm1,-,hum⟩:=hvr'.get 1 _ rfl
  simp only [Rep] at hum
  obtain ⟨Bm,hBm,-⟩:=hum
  have hmr' : Bm ≠ Br:=fun e => by
   have:=R.sep mb Bm hBm
   rw [e,hgr] at this
   cases this
  obtain ⟨K1,hK1⟩ : ∃ K1 : Ghost,K1 = {K with m:=fun k => if k = n then some Bt else if k = mb then some Bm else none}:=⟨_,rfl⟩
  have k1n : K1.m n = some Bt:=by rw [hK1]; simp
  have k1b : K1.m mb = some Bm:=by rw [hK1]; simp [Ne.symm T.ne]
  have k1m : ∀ k B,K1.m k = some B → K.m k = some B ∧ ((k = n ∧ B = Bt) ∨ (k = mb ∧ B = Bm)):=by
   intro k B h
   rw [hK1] at h
   simp only at h
   split at h
   ·rename_i e
    subst e
    cases h
    exact ⟨hBt,.inl ⟨rfl,rfl⟩⟩
   ·split at h
    ·rename_i e
     subst e
     cases h
     exact ⟨hBm,.inr ⟨rfl,rfl⟩⟩
    ·cases h
  have k1g : ∀ B,K1.g B = K.g B:=by rw [hK1]; intro B; rfl
  have k1a : ∀ B,K1.a B = K.a B:=by rw [hK1]; intro B; rfl
  clear hK1
  obtain ⟨K3,hK3⟩ : ∃ K3 : Ghost,K3 = {m:=K1.m,g:=fun B => if B = Br then some us2.toList else K1.g B,a:=fun B => if B = Br then none else K1.a B}:=⟨_,rfl⟩
  have k3m : K3.m = K1.m:=by rw [hK3]
  have k3g : K3.g Br = some us2.toList:=by rw [hK3]; simp
  have k3go : ∀ B,B ≠ Br → K3.g B = K1.g B:=fun B hB => by rw [hK3]; simp [hB]
  have k3a : K3.a Br = none:=by rw [hK3]; simp
  have k3ao : ∀ B,B ≠ Br → K3.a B = K1.a B:=fun B hB => by rw [hK3]; simp [hB]
  clear hK3
  have hM : Moved (sigsF cs) rw0.length Br K1 K3:=by
   refine moved_z k3m k3go k3ao (fun x hx => ?_) k3a fun o' vs' hf hbad => ?_
   ·rw [k1a,hxa] at hx
    simp only [Option.some.injEq] at hx
    subst hx
    exact hxb
   ·obtain ⟨l1,h1,h2⟩:=hf
    rw [k1g,hgr] at h1
    simp only [Option.some.injEq] at h1
    subst h1
    refine ⟨_,k3g,?_⟩
    have hlen2 : vs'.length ≤ lr.length - o':=by
     have:=congrArg List.length h2
     simp at this
     omega
    apply List.ext_getElem?
    intro j
    by_cases hj : j < vs'.length
    ·have hvj : vs'[j]? = lr[o' + j]?:=by
      have h7 : ((lr.drop o').take vs'.length)[j]? = vs'[j]?:=by rw [h2]
      rw [List.getElem?_take_of_lt hj,List.getElem?_drop] at h7
      exact h7.symm
     rw [List.getElem?_take_of_lt hj,List.getElem?_drop,hvj]
     have e1 : us2.toList[o' + j]? = us2[o' + j]?:=by simp
     rw [e1,hup (o' + j)]
     by_cases hin : o ≤ o' + j ∧ o' + j < o + l.length
     ·exfalso
      have h3:=hlrj (o' + j - o) (by omega)
      rw [show o + (o' + j - o) = o' + j by omega] at h3
      have h4 : Value.string ⟨(l[o' + j - o]!).toArray⟩ ∈ vs':=List.mem_of_getElem? (hvj.trans h3)
      have h6 : l[o' + j - o]! ∈ l:=by
       rw [getElem!_pos l _ (by omega)]
       exact List.getElem_mem _
      exact hbad _ h4 _ ((hmem _).1 h6) rfl
     ·rw [if_neg hin,hurj _ (by omega)]
    ·rw [List.getElem?_eq_none (by simp; omega),List.getElem?_eq_none (by omega)]
  obtain ⟨u6,hv6,h61,hu6⟩:=hvr'.get 6 _ rfl
  have hn6 : Rep K3 (slV (sigsF cs)) u6:=by
   simp only [slV,if_neg hsne,hslot,Rep] at hu6 ⊢
   obtain ⟨base,cap',e1,e2,e3,e4⟩:=hu6
   refine ⟨base,cap',e1,e2,e3,?_⟩
   rcases e4 with ⟨-,h0,-⟩ | ⟨Bs,os,vs,rfl,hf,hr,ht⟩
   ·exfalso
    have:=congrArg List.length h0
    rw [List.length_map] at this
    simp only [List.length_nil] at this
    omega
   have hst : K.a Bs = none:=ht.2
   have hsr : Bs ≠ Br:=fun e => by rw [e,hxa] at hst; cases hst
   obtain ⟨hvq,-⟩:=strs_vals (strsOf_map l) hr
   obtain ⟨lf,hg,hlf⟩:=hf
   refine .inr ⟨Bs,os,vs,rfl,⟨lf,by rw [k3go Bs hsr,k1g]; exact hg,hlf⟩,?_,⟨fun x hx => ?_,?_⟩⟩
   ·rw [hvq]
    exact vals_strs (strsOf_map l)
   ·rw [k3ao Bs hsr,k1a,hst] at hx
    cases hx
   ·show K3.a Bs = none
    rw [k3ao Bs hsr,k1a]
    exact hst
  have hcells : RepL K3 (tabC cs U z zb mb tg tb 1 0 (slV (sigsF cs))) vt.toList:=by
   have p3 : RepL K [.nilp] [.pointer none]:=by simp only [RepL,Rep]; exact ⟨_,_,rfl,rfl,rfl,rfl⟩
   have p2:=hvr'.overlay (off:=6) p3
   rw [tab_ov] at p2
   have p4 : RepL K1 (tabC cs U z zb mb tg tb 1 0 .nilp) _:=repL_tab (K:=K) (K':=K1) (fun B l' hB => ⟨(k1g B).trans hB,k1a B⟩) hBm k1b (fun x hx => by
    simp only [tabC,List.mem_cons,List.not_mem_nil,or_false] at hx
    rcases hx with rfl | rfl | rfl | rfl | rfl | rfl | rfl
    ·exact .inl rfl
    ·exact .inr rfl
    all_goals exact .inl rfl) p2
   have p5:=Moved.repL hM _ _ p4 (by
    have t1:=aw_calm (z:=z) (b:=rw0.length) cg (aw_clss (sgn_sigs T.okc) T.okc)
    have t2:=aw_calm (z:=zb) cb (aw_ups (sigsF cs) rw0.length U)
    simp only [tabC,awT]
    rw [t1,t2]
    rfl)
   have p6 : RepL K3 [slV (sigsF cs)] [u6]:=by
    simp only [RepL]
    exact ⟨_,_,rfl,by simp only [slV,if_neg hsne,hslot]; rfl,hn6,rfl⟩
   have p7:=p5.overlay (off:=6) p6
   rw [tab_ov] at p7
   have hvl : vt.toList.length = 7:=hvr'.length
   have e2 : (vt.toList.take 6 ++ [Value.pointer none] ++ vt.toList.drop (6 + 1)).take 6 ++ [u6] ++ (vt.toList.take 6 ++ [Value.pointer none] ++ vt.toList.drop (6 + 1)).drop (6 + 1) = vt.toList:=by
    have hd7 : vt.toList.drop 7 = []:=List.drop_eq_nil_of_le (by omega)
    have h66 : vt.toList = vt.toList.take 6 ++ [u6]:=by
     apply List.ext_getElem?
     intro j
     by_cases hj : j < 6
     ·rw [List.getElem?_append_left (by rw [List.length_take]; omega),List.getElem?_take_of_lt hj]
     ·by_cases hj6 : j = 6
      ·subst hj6
       rw [hv6,List.getElem?_append_right (by rw [List.length_take]; omega),List.length_take]
       simp [hvl]
      ·rw [List.getElem?_eq_none (by omega),List.getElem?_eq_none (by simp; omega)]
    rw [hd7]
    simp only [List.append_nil]
    have ht6 : (vt.toList.take 6).length = 6:=by rw [List.length_take]; omega
    rw [List.take_append_of_le_length (by omega),List.take_take,Nat.min_self,List.drop_eq_nil_of_le (by simp; omega),List.append_nil]
    exact h66.symm
   have p8 : RepL K3 (tabC cs U z zb mb tg tb 1 0 (slV (sigsF cs))) (List.take 6 (vt.toList.take 6 ++ [Value.pointer none] ++ vt.toList.drop (6 + 1)) ++ [u6] ++ List.drop (6 + 1) (vt.toList.take 6 ++ [Value.pointer none] ++ vt.toList.drop (6 + 1))):=p7
   rw [e2] at p8
   exact p8
  have R3 : Rel K3 ⟨H,rw⟩ w':=by
   refine ⟨fun k B h => ?_,fun k k' B h h' => ?_,fun k B h => ?_,fun k B cs' h hb' => ?_,fun k B es' h hb' => ?_,fun B l' h => ?_,fun B b' E sz size h => ?_⟩
   ·rw [k3m] at h
    exact R.dom k B (k1m k B h).1
   ·rw [k3m] at h h'
    exact R.inj k k' B (k1m k B h).1 (k1m k' B h').1
   ·rw [k3m] at h
    obtain ⟨e1,e2⟩:=k1m k B h
    have hne : B ≠ Br:=by
     rcases e2 with ⟨-,rfl⟩ | ⟨-,rfl⟩
     ·exact htr'
     ·exact hmr'
    rw [k3go B hne,k1g]
    exact R.sep k B e1
   ·rw [k3m] at h
    obtain ⟨e1,e2⟩:=k1m k B h
    rcases e2 with ⟨rfl,rfl⟩ | ⟨rfl,rfl⟩
    ·have hat : H[k]? = some (.cells (tabC cs U z zb mb tg tb 1 0 (slV (sigsF cs)))):=T.at_
     rw [hat] at hb'
     simp only [Option.some.injEq,Blk.cells.injEq] at hb'
     subst hb'
     exact ⟨vt,tt,(hw.other B htr').trans hvt,hcells⟩
    ·have hmp:=T.mp
     rw [hmp] at hb'
     cases hb'
   ·rw [k3m] at h
    obtain ⟨e1,e2⟩:=k1m k B h
    rcases e2 with ⟨rfl,rfl⟩ | ⟨rfl,rfl⟩
    ·have hat : H[k]? = some (.cells (tabC cs U z zb mb tg tb 1 0 (slV (sigsF cs)))):=T.at_
     rw [hat] at hb'
     cases hb'
    ·have hmp:=T.mp
     rw [hmp] at hb'
     simp only [Option.some.injEq,Blk.map.injEq] at hb'
     subst hb'
     obtain ⟨ms,ck,f1,f2⟩:=R.maps k B _ e1 hmp
     exact ⟨ms,ck,(hw.other B hmr').trans f1,repM_ints (ints_mapF 0 cs) f2⟩
   ·by_cases hB' : B = Br
    ·subst hB'
     rw [k3g] at h
     simp only [Option.some.injEq] at h
     subst h
     exact ⟨us2,tu,hu2,List.take_of_length_le (Nat.le_refl _)⟩
    ·rw [k3go B hB',k1g] at h
     obtain ⟨vs',t',f1,f2⟩:=R.rows B l' h
     exact ⟨vs',t',(hw.other B hB').trans f1,f2⟩
   ·have hB' : B ≠ Br:=fun e => by rw [e,k3a] at h; cases h
    rw [k3ao B hB',k1a] at h
    obtain ⟨l',f1,⟨vs',t',f2,f3⟩,f4⟩:=R.grow B b' E sz size h
    exact ⟨l',by rw [k3go B hB',k1g]; exact f1,⟨vs',t',(hw.other B hB').trans f2,f3⟩,f4⟩
  have hold : ∀ B,B < w0.heap.size → B ≠ Br:=fun B hB' e => by
   have:=(hnew B hB').2
   rw [e,hgr] at this
   cases this
  have hB2 : RowKit.Below w0.heap.size w0 w':=by
   refine ⟨hw.os.trans hB.os,hw.tape.trans hB.tape,hw.output.trans hB.output,by rw [hw.size]; exact hB.size,fun k hk => ?_⟩
   exact (hw.other k (hold k hk)).trans (hB.block k hk)
  refine rest4_wp T hfw R3 hI (by rw [k3m]; exact k1n) q1 q2 q3 hB2 fun B hB' => ?_
  obtain ⟨g1,g2⟩:=hnew B hB'
  refine ⟨fun k h => ?_,?_⟩
  ·rw [k3m] at h
   exact g1 k (k1m k B h).1
  ·rw [k3go B (hold B hB'),k1g]
   exact g2
theorem calls4 (x : Str) (w : World) : Calls Tryz.prog 4 #[.string ⟨x.toArray⟩] w (Res4 w):=by
 obtain ⟨p,ok,hrd⟩:=libT.rd x
 obtain ⟨nf,r,e,S1,hx,hq⟩:=wx_pre4 libT hrd
 have ha : RepT K0 [.str x] [.string ⟨x.toArray⟩]:=by simp only [RepT,Rep]; exact ⟨_,_,rfl,rfl,rfl⟩
 have hE:=args_rep ha Tryz.f4.ntmps
 have hI0 : Inner S0.heap.length S0:=fun n b hn _ => by simp [S0] at hn
 refine calls_of_wp Tryz.func4 body4 ?_
 have hsz : ((#[Value.string ⟨x.toArray⟩] : Array Value) ++ Array.replicate (Tryz.f4.ntmps - (#[Value.string ⟨x.toArray⟩] : Array Value).size) Go.undef).size = 133:=by rw [ntmps4]; simp
 refine csim_tail (calls_sim prE_sim (fun f fn _ h => fa5_chk f fn h) nf) nodes4 codes4 K0 S0 w {tmps:=#[Value.string ⟨x.toArray⟩] ++ Array.replicate (Tryz.f4.ntmps - (#[Value.string ⟨x.toArray⟩] : Array Value).size) Go.undef,defers:=[]} (args0 [.str x]) _ chk4 (rel0 w) hI0 hE (by rw [hsz,ntmps4]; exact Nat.le_refl _) (Nat.le_refl _) hx _ ?_
 intro a1 w1 K1 en R1 E1 hdf hsz1 hst hkp hex
 have hn0 : ∀ B,B < w.heap.size → (∀ k,K0.m k ≠ some B) ∧ K0.g B = none:=fun B _ => ⟨fun k h => (by simp [K0] at h),rfl⟩
 have hB0 : RowKit.Below w.heap.size w w:=⟨rfl,rfl,rfl,Nat.le_refl _,fun _ _ => rfl⟩
 have hB:=below_step hB0 hst hn0
 have hnew : ∀ B,B < w.heap.size → (∀ k,K1.m k ≠ some B) ∧ K1.g B = none:=fun B hB' => hst.fresh B hB' (hn0 B hB').1 (hn0 B hB').2
 rcases hq with ⟨rfl,e',rfl⟩ | ⟨rfl,H,rw,rw0,n,mb,z,zb,tg,tb,cs,U,e',T,hfw,hcm,rfl,rfl⟩
 ·cases en <;> simp only [Exr] at hex
  exact ret4 R1 (E1 trivial) rfl hdf hB
 ·cases en <;> simp only [Exr] at hex
  exact tail4_wp T hfw hcm R1 (hkp.2.2 hI0) ((hsz1 trivial).trans hsz) hdf (E1 trivial 3 _ rfl).2 (E1 trivial 5 _ rfl).2 hB hnew
end Go.Proofs.YtmeakjgbjldkdaaGreat.Ai
