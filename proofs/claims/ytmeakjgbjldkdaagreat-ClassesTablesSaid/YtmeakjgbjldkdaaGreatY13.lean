/- A part of what is proved: C13, C14, C16, C17, C15, C18, L8, C4, C19p, C19, C20, L7. No condition. -/
import Derived.Test.YtmeakjgbjldkdaaGreatY12
import Derived.Test.YtmeakjgbjldkdaaGreatProg
import Derived.KernelRfl
set_option maxRecDepth 100000
set_option maxHeartbeats 16000000
namespace Go.Proofs.YtmeakjgbjldkdaaGreat.Ai
open Go
variable {pr : Prims} {F : Nat → Option IFn}
theorem slice_head {sz i : Nat} {rows : List (List AV)} (h : i < rows.length) : aslice sz (.list sz .dead rows) none (some (i : Int)) = some (.list sz .dead (rows.take i)):=by
 simp [aslice]
 omega
theorem det_params (L : LibE pr F) {H : List Blk} {rw : List Nat} {n mb z : Nat} {tg : Tag} {cs : List Cls} {ab o1 o2 o3 sl : AV} (T : TabM H n mb cs z tg ab o1 o2 o3 sl) (ps : List Par) (hw : wL wPar ps ≤ 42000000) :
  ∃ f : Int × Int,Det pr F 150 [.ptr n 0,lst 8 (ps.map parRow)] ⟨H,rw⟩ (.ret (.agg (fltRow f.1 f.2))) ⟨H,rw⟩:=by
 have hm:=L.hm
 suffices h : Wp pr F 150 [.ptr n 0,lst 8 (ps.map parRow)] ⟨H,rw⟩ fun r S' => ∃ f : Int × Int,r = .ret (.agg (fltRow f.1 f.2)) ∧ S' = ⟨H,rw⟩ by
  obtain ⟨r,S',hd,f,rfl,rfl⟩:=h.det hm
  exact ⟨f,hd⟩
 have hlp:=parRow_len ps
 have hpl:=wL_len wPar (fun p => by simp only [wPar]; omega) ps
 refine at_start hm L.f150.1 L.f150.2 rfl ?_
 refine at_seq hm ?_
 unfold r150_0
 show At pr F H.length (fin _ H.length _) _ _ _ _
 refine at_first hm ?_
 intro H1 hH1 hlen hlt
 refine' stH
 refine at_loop hm (fun mm e S' => ∃ (i : Nat) (J : List Blk),S' = ⟨hp H1 H.length (.cells [.int .i64 0,.int .i64 0]) J,rw⟩ ∧ i ≤ ps.length ∧ mm = ps.length - i ∧ e = [(0,.ptr n 0),(1,lst 8 (ps.map parRow)),(4,.ptr H.length 0),(10,lst 8 (ps.map parRow)),(11,.int .i64 ((ps.map parRow).length : Int)),(12,.int .i64 i)]) ?_ (m:=ps.length) ⟨0,[],rfl,by omega,rfl,rfl⟩
 rintro mm e S' ⟨i,J,rfl,hi,rfl,rfl⟩
 by_cases hi1 : i < ps.length
 ·obtain ⟨p,hpi⟩ : ∃ p,ps[i]? = some p:=⟨_,List.getElem?_eq_getElem hi1⟩
  have hpr : (ps.map parRow)[i]? = some (parRow p):=by rw [List.getElem?_map,hpi]; rfl
  have hmem:=List.mem_of_getElem? hpi
  have hwp:=wL_mem wPar hmem
  have hwt:=wPar_ty p
  obtain ⟨nm1,⟨k1,t1,u1,e1,p1,a1⟩,at1⟩:=p
  simp only at hwt
  have hl5 : lst 8 (ps.map parRow) = .list 8 .dead (ps.map parRow):=lst_of_lt (i:=i) (by omega)
  rw [hl5]
  refine' stH
  refine g_q rfl (slice_head (by omega)) ?_
  rw [← List.map_take]
  have hlt2 : ((ps.take i).map parRow).length = i:=by rw [List.length_map,List.length_take]; omega
  have hlt3 : (ps.take i).length = i:=by rw [List.length_take]; omega
  refine' stH
  refine at_loop hm (fun mm e S' => ∃ (q : Nat) (J' : List Blk),S' = ⟨hp H1 H.length (.cells [.int .i64 0,.int .i64 0]) J',rw⟩ ∧ J'[J.length]? = some (.cells (parRow ⟨nm1,.mk k1 t1 u1 e1 p1 a1,at1⟩)) ∧ q ≤ i ∧ mm = i - q ∧ e = [(0,.ptr n 0),(1,.list 8 .dead (ps.map parRow)),(4,.ptr H.length 0),(6,.ptr (H1.length + J.length) 0),(10,.list 8 .dead (ps.map parRow)),(11,.int .i64 ((ps.map parRow).length : Int)),(12,.int .i64 i),(19,.list 8 .dead ((ps.take i).map parRow)),(20,.int .i64 (((ps.take i).map parRow).length : Int)),(21,.int .i64 q)]) ?_ (m:=i) ⟨0,_,rfl,at_bk0,by omega,rfl,rfl⟩
  rintro mm e S' ⟨q,J',rfl,hM,hq0,rfl,rfl⟩
  by_cases hq1 : q < i
  ·obtain ⟨p',hp'⟩ : ∃ p',(ps.take i)[q]? = some p':=⟨_,List.getElem?_eq_getElem (by rw [List.length_take]; omega)⟩
   have hpr' : ((ps.take i).map parRow)[q]? = some (parRow p'):=by rw [List.getElem?_map,hp']; rfl
   refine' stH
   ·exact fin_first hH1 rfl (row_flt _ _) ⟨(_,_),rfl,rfl⟩
   ·exact ⟨i - (q + 1),by omega,q + 1,_,rfl,at_ext hM,by omega,rfl,rfl⟩
  ·refine' stH
   refine g_call rfl rfl rfl ?_
   refine ⟨_,_,det_known L (wTy (.mk k1 t1 u1 e1 p1 a1) + 1) (.mk k1 t1 u1 e1 p1 a1) (by omega) (by omega) (T.keep (keep_first hH1 _ _)),?_⟩
   refine zrk6 ?_
   refine' stH
   ·exact fin_first hH1 rfl (row_flt (knownF cs (.mk k1 t1 u1 e1 p1 a1)).1 (knownF cs (.mk k1 t1 u1 e1 p1 a1)).2) ⟨(_,_),rfl,rfl⟩
   ·exact ⟨ps.length - (i + 1),by omega,i + 1,_,rfl,by omega,rfl,rfl⟩
 ·refine' stH
  exact fin_first hH1 rfl (row_flt 0 0) ⟨(_,_),rfl,rfl⟩
end Go.Proofs.YtmeakjgbjldkdaaGreat.Ai
namespace Go.Proofs.YtmeakjgbjldkdaaGreat.Ai
open Go
variable {pr : Prims} {F : Nat → Option IFn}
theorem ownM_mem {sig : Str} {x : Mth} : ∀ {ms : List Mth},ownM sig ms = some x → x ∈ ms ∧ sigT x.name x.params = sig:=by
 intro ms
 induction ms with
 | nil => intro h; simp [ownM] at h
 | cons m ms ih =>
  intro h
  simp only [ownM] at h
  split at h
  ·simp only [Option.some.injEq] at h
   subst h
   exact ⟨List.mem_cons_self,by assumption⟩
  ·obtain ⟨h1,h2⟩:=ih h
   exact ⟨List.mem_cons_of_mem _ h1,h2⟩
theorem ownF_get {cs : List Cls} {a : Nat} {sig : Str} {x : Mth} (h : ownF cs a sig = some x) : ∃ c,cs[a]? = some c ∧ x ∈ c.meths ∧ sigT x.name x.params = sig:=by
 unfold ownF at h
 split at h
 ·obtain ⟨h1,h2⟩:=ownM_mem h
  exact ⟨_,by assumption,h1,h2⟩
 ·simp at h
theorem own_base (L : LibE pr F) {cs : List Cls} (hw : wL wCls cs ≤ 42000000) (hok : ∀ c ∈ cs,okCls c) {a : Nat} {sig : Str} {x : Mth} (h : ownF cs a sig = some x) : TxOk pr F 15 [.agg (tyRow x.result)] (.str (baseT x.result)):=by
 obtain ⟨c,hc,hx,-⟩:=ownF_get h
 have hm:=List.mem_of_getElem? hc
 exact tx_base L (mth_bounds hm hx hw).2.2.1 (cls_meths (hok c hm) x hx).2.2.1
def mthOk (cs : List Cls) (U : List (List Nat)) (i k : Nat) (c : Cls) (m : Mth) : Prop:=
 (∀ q m',q < k → c.meths[q]? = some m' → sigT m'.name m'.params ≠ sigT m.name m.params) ∧ (∀ a ∈ U.getD i [],∀ x,ownF cs a (sigT m.name m.params) = some x → baseT x.result = baseT m.result)
theorem upRow_get {U : List (List Nat)} {i : Nat} {l : List Nat} (h : U[i]? = some l) : (U.map upRow)[i]? = some (upRow l):=by rw [List.getElem?_map,h]; rfl
theorem det_method (L : LibE pr F) {H : List Blk} {rw : List Nat} {n mb z zb : Nat} {tg tb : Tag} {cs : List Cls} {U : List (List Nat)} {o1 o2 o3 sl : AV} (T : TabU H n mb cs z tg zb tb U o1 o2 o3 sl) {i k : Nat} {c : Cls} {m : Mth} (hc : cs[i]? = some c) (hk : c.meths[k]? = some m) :
  ∃ (f : Int × Int) (rw' : List Nat),(f.1 = 0 → mthOk cs U i k c m) ∧ Rx rw rw' ∧ Det pr F 151 [.ptr n 0,.int .i64 i,.int .i64 k,.agg (mthRow m)] ⟨H,rw⟩ (.ret (.agg (fltRow f.1 f.2))) ⟨H,rw'⟩:=by
 have hm:=L.hm
 suffices h : Wp pr F 151 [.ptr n 0,.int .i64 i,.int .i64 k,.agg (mthRow m)] ⟨H,rw⟩ fun r S' => ∃ (f : Int × Int) (rw' : List Nat),(f.1 = 0 → mthOk cs U i k c m) ∧ Rx rw rw' ∧ r = .ret (.agg (fltRow f.1 f.2)) ∧ S' = ⟨H,rw'⟩ by
  obtain ⟨r,S',hd,f,rw',h1,h2,rfl,rfl⟩:=h.det hm
  exact ⟨f,rw',h1,h2,hd⟩
 have hi : i < cs.length:=(List.getElem?_eq_some_iff.1 hc).1
 have hkl : k < c.meths.length:=(List.getElem?_eq_some_iff.1 hk).1
 have hcr : (cs.map clsRow)[i]? = some (clsRow c):=by rw [List.getElem?_map,hc]; rfl
 have hz : z = 9:=T.sz (by intro h; rw [h] at hi; simp at hi)
 subst hz
 have hcm:=List.mem_of_getElem? hc
 have hmm:=List.mem_of_getElem? hk
 have hmo:=cls_meths (T.okc c hcm)
 have hlm:=mthRow_len c.meths
 obtain ⟨hb1,hb2,hb3,hb4⟩:=mth_bounds hcm hmm T.wt
 obtain ⟨-,hk2,hk3,-⟩:=hmo m hmm
 have hsg:=tx_sig L hb1 hb2 hk2
 have hbs:=tx_base L hb3 hk3
 have hul:=T.ulen
 obtain ⟨ui,hui⟩ : ∃ ui,U[i]? = some ui:=⟨_,List.getElem?_eq_getElem (by omega)⟩
 have hur:=upRow_get hui
 have hzb : zb = 1:=T.zbs (by intro h; rw [h] at hul; simp at hul; omega)
 subst hzb
 have hgd : U.getD i [] = ui:=by rw [List.getD_eq_getElem?_getD,hui]; rfl
 have hR : Rx rw rw:=Rx.rfl
 have hfew:=T.few
 have hlc : (cs.map clsRow).length = cs.length:=List.length_map _
 have hul2 : (U.map upRow).length = cs.length:=by rw [List.length_map]; exact hul
 unfold mthOk
 rw [hgd]
 obtain ⟨mn,mp,⟨k1,t1,u1,e1,p1,a1⟩,bd,ab,at1⟩:=m
 refine at_start hm L.f151.1 L.f151.2 rfl ?_
 refine at_seq hm ?_
 unfold r151_0
 show At pr F H.length (fin _ H.length _) _ _ _ _
 refine at_first0 hm ?_
 intro H1 hH1 hlen hlt
 have hF:=froz_first hH1 T.at_
 have hFm:=froz_first hH1 T.mp
 refine' stH
 refine in_alloc (q:=H.length) rfl rfl (hp_get hlt) ?_
 refine' stH
 obtain ⟨f1,hd1⟩:=det_params L (T.toTabM.keep (keep_first hH1 (.cells [.int .i64 0,.int .i64 0]) ([.cells (mthRow ⟨mn,mp,.mk k1 t1 u1 e1 p1 a1,bd,ab,at1⟩)] ++ [.cells [.int .i64 0,.int .i64 0]]))) mp hb2 (rw:=rw)
 refine g_call rfl rfl rfl ?_
 refine c_det hd1 ?_
 refine zrk6 ?_
 refine' stH
 ·exact fin_first hH1 rfl (row_flt f1.1 f1.2) ⟨f1,rw,fun h => absurd h (by assumption),Rx.rfl,rfl,rfl⟩
 refine g_call rfl rfl rfl ?_
 refine ⟨_,_,det_known L (wTy (.mk k1 t1 u1 e1 p1 a1) + 1) (.mk k1 t1 u1 e1 p1 a1) (by omega) hb3 (T.toTabM.keep (keep_first hH1 _ _)),?_⟩
 refine zrk6 ?_
 refine' stH
 ·exact fin_first hH1 rfl (row_flt (knownF cs (.mk k1 t1 u1 e1 p1 a1)).1 (knownF cs (.mk k1 t1 u1 e1 p1 a1)).2) ⟨(_,_),rw,fun h => absurd h (by assumption),Rx.rfl,rfl,rfl⟩
 have hl11 : lst 11 (c.meths.map mthRow) = .list 11 .dead (c.meths.map mthRow):=lst_of_lt (i:=k) (by omega)
 rw [hl11]
 refine g_q rfl (slice_head (by omega)) ?_
 rw [← List.map_take]
 have hlt2 : ((c.meths.take k).map mthRow).length = k:=by rw [List.length_map,List.length_take]; omega
 have hlt3 : (c.meths.take k).length = k:=by rw [List.length_take]; omega
 refine' stH
 refine at_loop hm (fun mm e S' => ∃ (q : Nat) (J : List Blk) (rw3 : List Nat),S' = ⟨hp H1 H.length (.cells [.int .i64 0,.int .i64 0]) (.cells (mthRow ⟨mn,mp,.mk k1 t1 u1 e1 p1 a1,bd,ab,at1⟩) :: J),rw3⟩ ∧ q ≤ k ∧ Rx rw rw3 ∧ (∀ q' m',q' < q → c.meths[q']? = some m' → sigT m'.name m'.params ≠ sigT mn mp) ∧ mm = k - q ∧
  e = [(0,.ptr n 0),(1,.int .i64 (i : Int)),(7,.ptr (H1.length + 0) 0),(8,.ptr H.length 0),(11,.str (sigT mn mp)),(48,.list 11 .dead ((c.meths.take k).map mthRow)),(49,.int .i64 (((c.meths.take k).map mthRow).length : Int)),(50,.int .i64 q)]) ?_ (m:=k) ⟨0,_,_,rfl,by omega,hR,fun q' m' h => by omega,rfl,rfl⟩
 clear hR
 rintro mm e S' ⟨q,J,rw3,rfl,hq0,hR,hun,rfl,rfl⟩
 by_cases hq1 : q < k
 ·obtain ⟨m',hm'⟩ : ∃ m',c.meths[q]? = some m':=⟨_,List.getElem?_eq_getElem (by omega)⟩
  have hmm':=List.mem_of_getElem? hm'
  obtain ⟨hb1',hb2',hb3',hb4'⟩:=mth_bounds hcm hmm' T.wt
  obtain ⟨-,hk2',-,-⟩:=hmo m' hmm'
  have hsg':=tx_sig L hb1' hb2' hk2'
  have hpr' : ((c.meths.take k).map mthRow)[q]? = some (mthRow m'):=by rw [List.getElem?_map,List.getElem?_take_of_lt hq1,hm']; rfl
  refine' stH
  ·exact fin_first hH1 rfl (row_flt _ _) ⟨(_,_),_,fun h => by simp at h,hR,rfl,rfl⟩
  ·refine ⟨k - (q + 1),by omega,q + 1,_,_,rfl,by omega,hR,?_,rfl,rfl⟩
   intro q' m2 hq2 hm2
   by_cases e2 : q' = q
   ·subst e2
    rw [hm'] at hm2
    simp only [Option.some.injEq] at hm2
    subst hm2
    assumption
   ·exact hun q' m2 (by omega) hm2
 ·have hqk : q = k:=by omega
  subst hqk
  have hlu : (ixRows ui).length = ui.length:=ixRows_len ui
  obtain ⟨bs,hbsl,hbsu,hui2⟩:=T.ups i ui hui
  have hun2 : ui.length ≤ cs.length:=by rw [hui2]; exact trues_len _ _
  have huin : ∀ a ∈ ui,a < cs.length:=fun a ha => up_lt T.linked ((ups_mem (T.ups i ui hui) T.linked a).1 ha)
  refine' stH
  refine at_loop hm (fun mm e S' => ∃ (p : Nat) (J : List Blk) (rw3 : List Nat),S' = ⟨hp H1 H.length (.cells [.int .i64 0,.int .i64 0]) (.cells (mthRow ⟨mn,mp,.mk k1 t1 u1 e1 p1 a1,bd,ab,at1⟩) :: J),rw3⟩ ∧ p ≤ ui.length ∧ Rx rw rw3 ∧ (∀ a ∈ ui.take p,∀ x,ownF cs a (sigT mn mp) = some x → baseT x.result = baseT (.mk k1 t1 u1 e1 p1 a1)) ∧ mm = ui.length - p ∧
   e = [(0,.ptr n 0),(7,.ptr (H1.length + 0) 0),(8,.ptr H.length 0),(11,.str (sigT mn mp)),(71,lst 1 (ixRows ui)),(72,.int .i64 ((ixRows ui).length : Int)),(73,.int .i64 p)]) ?_ (m:=ui.length) ⟨0,_,_,rfl,by omega,hR,by simp,rfl,rfl⟩
  clear hR
  clear J rw3
  rintro mm e S' ⟨p,J,rw3,rfl,hp0,hR,hres,rfl,rfl⟩
  by_cases hp1 : p < ui.length
  ·obtain ⟨a,ha⟩ : ∃ a,ui[p]? = some a:=⟨_,List.getElem?_eq_getElem hp1⟩
   have har:=ixRows_get ha
   have hal:=huin a (List.mem_of_getElem? ha)
   have hl5 : lst 1 (ixRows ui) = .list 1 .dead (ixRows ui):=lst_of_lt (i:=p) (by omega)
   rw [hl5]
   refine' stH
   obtain ⟨rw5,hR5,hd5⟩:=det_own L (T.keep (keep_first hH1 (.cells [.int .i64 0,.int .i64 0]) (.cells (mthRow ⟨mn,mp,.mk k1 t1 u1 e1 p1 a1,bd,ab,at1⟩) :: J ++ [.cells (mthRow mthZ)]))) hal (sigT mn mp) (rw:=rw3)
   refine g_call rfl rfl rfl ?_
   refine c_det hd5 ?_
   refine zrk6 ?_
   clear hd5
   replace hR:=hR.trans hR5
   cases ho : ownF cs a (sigT mn mp) with
   | none =>
    simp only [Option.getD_none,Option.isSome_none]
    refine' stH
    refine ⟨ui.length - (p + 1),by omega,p + 1,_,_,rfl,by omega,hR,?_,rfl,rfl⟩
    rw [take_snoc ha]
    intro b hb x hx
    rcases List.mem_append.1 hb with h1 | h1
    ·exact hres b h1 x hx
    ·rw [List.mem_singleton.1 h1,ho] at hx
     simp at hx
   | some x =>
    simp only [Option.getD_some,Option.isSome_some]
    have hbx:=own_base L T.wt T.okc ho
    refine' stH
    ·exact fin_first hH1 rfl (row_flt _ _) ⟨(_,_),_,fun h => by simp at h,hR,rfl,rfl⟩
    ·refine ⟨ui.length - (p + 1),by omega,p + 1,_,_,rfl,by omega,hR,?_,rfl,rfl⟩
     rw [take_snoc ha]
     intro b hb y hy
     rcases List.mem_append.1 hb with h1 | h1
     ·exact hres b h1 y hy
     ·rw [List.mem_singleton.1 h1,ho] at hy
      simp only [Option.some.injEq] at hy
      subst hy
      simpa using hq
  ·refine' stH
   refine fin_first hH1 rfl (row_flt 0 0) ⟨(0,0),_,fun _ => ⟨hun,fun a ha => hres a (by rw [show p = ui.length by omega,List.take_length]; exact ha)⟩,hR,rfl,rfl⟩
end Go.Proofs.YtmeakjgbjldkdaaGreat.Ai
namespace Go.Proofs.YtmeakjgbjldkdaaGreat.Ai
open Go
variable {pr : Prims} {F : Nat → Option IFn}
def roadsF (cs : List Cls) (U : List (List Nat)) (s : Str) : List Nat:=match place cs s with
 | none => []
 | some i => match cs[i]? with
  | some c => if c.iface then i :: U.getD i [] else chainF cs s
  | none => []
theorem det_roads (L : LibE pr F) {H : List Blk} {rw : List Nat} {n mb z zb : Nat} {tg tb : Tag} {cs : List Cls} {U : List (List Nat)} {o1 o2 o3 sl : AV} (T : TabU H n mb cs z tg zb tb U o1 o2 o3 sl) (s : Str) :
  ∃ (v : AV) (rw' : List Nat),IsL 1 v (ixRows (roadsF cs U s)) ∧ Rx rw rw' ∧ Det pr F 64 [.ptr n 0,.str s] ⟨H,rw⟩ (.ret v) ⟨H,rw'⟩:=by
 have hm:=L.hm
 suffices h : Wp pr F 64 [.ptr n 0,.str s] ⟨H,rw⟩ fun r S' => ∃ (v : AV) (rw' : List Nat),IsL 1 v (ixRows (roadsF cs U s)) ∧ Rx rw rw' ∧ r = .ret v ∧ S' = ⟨H,rw'⟩ by
  obtain ⟨r,S',hd,v,rw',h1,h2,rfl,rfl⟩:=h.det hm
  exact ⟨v,rw',h1,h2,hd⟩
 have hlt : n < H.length:=(List.getElem?_eq_some_iff.1 T.at_).1
 have hne : n ≠ mb:=by
  intro h
  have:=T.at_
  rw [h,T.mp] at this
  simp at this
 have hFm:=froz_n hne T.mp
 have hfew:=T.few
 have hlm : (cs.map clsRow).length = cs.length:=List.length_map _
 have hul:=T.ulen
 have hul2 : (U.map upRow).length = cs.length:=by rw [List.length_map]; exact hul
 have hzz : cs ≠ [] → z = 9:=T.sz
 have hzb : U ≠ [] → zb = 1:=T.zbs
 have hR : Rx rw rw:=Rx.rfl
 refine at_start_hp hm L.f64.1 L.f64.2 rfl (hp_of T.at_) ?_
 by_cases hcs : cs = []
 ·subst hcs
  refine' stH
  ·simp [place] at hkq
  ·exact fin_ret rfl rfl (hp_take hlt) ⟨_,rw,by rw [roadsF,hkq]; exact IsL.nil,hR,rfl,st_of T.at_⟩
 ·have hz:=hzz hcs
  have hb:=hzb (by intro h; rw [h] at hul; simp only [List.length_nil] at hul; exact hcs (List.length_eq_zero_iff.1 hul.symm))
  subst hz hb
  refine' stH
  ·obtain ⟨uk,huk⟩ : ∃ uk,U[kq]? = some uk:=⟨_,List.getElem?_eq_getElem (by omega)⟩
   have hur:=upRow_get huk
   have hrf : roadsF cs U s = kq :: uk:=by
    unfold roadsF
    rw [hkq]
    simp only [hkc,hq,if_true]
    rw [List.getD_eq_getElem?_getD,huk]
    rfl
   have hlu : (ixRows uk).length = uk.length:=ixRows_len uk
   obtain ⟨bs,hbsl,hbsu,hui2⟩:=T.ups kq uk huk
   have hun2 : uk.length ≤ cs.length:=by rw [hui2]; exact trues_len _ _
   refine' stH
   refine id_append ?_
   refine g_append rfl rfl rfl ?_
   refine ap_todo (rows:=[ixRow kq]) (rowsb:=ixRows uk) (rw0:=rw) (Todo.of_lst (Lst.lit (by simp))) hR isL_lst (by simp only [List.length_cons,List.length_nil,maxRow]; omega) ?_
   intro v3 rw3 hv3 hR3
   refine zrk6 ?_
   refine' stH
   obtain ⟨sz,tag,rfl,h2,-⟩:=hv3.h
   refine fin_ret rfl rfl (hp_take hlt) ⟨_,rw3,?_,hR3,rfl,st_of T.at_⟩
   rw [hrf]
   exact ⟨sz,tag,rfl,h2,fun h => by simp [ixRows] at h⟩
  ·obtain ⟨v,rw2,hv,hR2,hd⟩:=det_chain L (T.keep (keep_n T.at_ [])) s (rw:=rw)
   refine g_call rfl rfl rfl ?_
   refine c_det hd ?_
   refine zrk6 ?_
   refine' stH
   refine fin_ret rfl (hv.isL.below _) (hp_take hlt) ⟨v,rw2,?_,hR2,rfl,st_of T.at_⟩
   have hrf : roadsF cs U s = chainF cs s:=by
    unfold roadsF
    rw [hkq]
    simp only [hkc,hq,Bool.false_eq_true,if_false]
   rw [hrf]
   exact hv.isL
  ·exact fin_ret rfl rfl (hp_take hlt) ⟨_,rw,by rw [roadsF,hkq]; exact IsL.nil,hR,rfl,st_of T.at_⟩
end Go.Proofs.YtmeakjgbjldkdaaGreat.Ai
namespace Go.Proofs.YtmeakjgbjldkdaaGreat.Ai
open Go
variable {pr : Prims} {F : Nat → Option IFn}
def dspF (cs : List Cls) (sig : Str) : List Nat → Option (Nat × Mth)
 | [] => none
 | i :: l => match ownF cs i sig with
  | some m => some (i,m)
  | none => dspF cs sig l
theorem dspF_drop {cs : List Cls} {sig : Str} {l : List Nat} {q i : Nat} (h : l[q]? = some i) : dspF cs sig (l.drop q) = match ownF cs i sig with | some m => some (i,m) | none => dspF cs sig (l.drop (q + 1)):=by
 obtain ⟨hl,he⟩:=List.getElem?_eq_some_iff.1 h
 rw [List.drop_eq_getElem_cons hl,he]
 rfl
def nameAt (cs : List Cls) (i : Nat) : Str:=match cs[i]? with
 | some c => c.name
 | none => []
def dspRow (cs : List Cls) (sig : Str) : Option (Nat × Mth) → List AV
 | some (i,m) => memRow sig (nameAt cs i) m
 | none => memRow [] [] mthZ
def dspRes (cs : List Cls) (sig : Str) (r : Option (Nat × Mth)) : AV:=.tup [.agg (dspRow cs sig r),.bool r.isSome]
def dispF (cs : List Cls) (U : List (List Nat)) (s sig : Str) : Option (Nat × Mth):=dspF cs sig (roadsF cs U s)
theorem roads_lt {cs : List Cls} {U : List (List Nat)} (hl : Linked cs) (hup : ∀ i l,U[i]? = some l → IsUps cs i l) (s : Str) : ∀ i ∈ roadsF cs U s,i < cs.length:=by
 intro i hi
 unfold roadsF at hi
 split at hi
 ·cases hi
 ·rename_i j hj
  obtain ⟨c,hc,-⟩:=place_get hj
  rw [hc] at hi
  simp only at hi
  split at hi
  ·rcases List.mem_cons.1 hi with h | h
   ·rw [h]; exact (List.getElem?_eq_some_iff.1 hc).1
   ·rw [List.getD_eq_getElem?_getD] at h
    cases hl2 : U[j]? with
    | none => rw [hl2] at h; cases h
    | some l =>
     rw [hl2] at h
     exact up_lt hl ((ups_mem (hup j l hl2) hl i).1 h)
  ·exact chain_lt _ _ i hi
theorem roads_len {cs : List Cls} {U : List (List Nat)} (hup : ∀ i l,U[i]? = some l → IsUps cs i l) (s : Str) : (roadsF cs U s).length ≤ cs.length + 1:=by
 unfold roadsF
 cases hp : place cs s with
 | none => simp
 | some j =>
  obtain ⟨c,hc,-⟩:=place_get hp
  simp only [hc]
  split
  ·rw [List.length_cons,List.getD_eq_getElem?_getD]
   cases hl2 : U[j]? with
   | none => simp
   | some l =>
    obtain ⟨bs,hb,-,rfl⟩:=hup j l hl2
    have:=trues_len bs cs.length
    simp only [Option.getD_some]
    omega
  ·exact chain_len _ _
theorem det_dispatch (L : LibE pr F) {H : List Blk} {rw : List Nat} {n mb z zb : Nat} {tg tb : Tag} {cs : List Cls} {U : List (List Nat)} {o1 o2 o3 sl : AV} (T : TabU H n mb cs z tg zb tb U o1 o2 o3 sl) (s sig : Str) :
  ∃ rw',Rx rw rw' ∧ Det pr F 26 [.ptr n 0,.str s,.str sig] ⟨H,rw⟩ (.ret (dspRes cs sig (dispF cs U s sig))) ⟨H,rw'⟩:=by
 have hm:=L.hm
 suffices h : Wp pr F 26 [.ptr n 0,.str s,.str sig] ⟨H,rw⟩ fun r S' => ∃ rw',Rx rw rw' ∧ r = .ret (dspRes cs sig (dispF cs U s sig)) ∧ S' = ⟨H,rw'⟩ by
  obtain ⟨r,S',hd,rw',h1,rfl,rfl⟩:=h.det hm
  exact ⟨rw',h1,hd⟩
 refine at_start hm L.f26.1 L.f26.2 rfl ?_
 refine at_seq hm ?_
 unfold r26_0
 show At pr F H.length (fin _ H.length _) _ _ _ _
 refine at_first hm ?_
 intro H1 hH1 hlen hlt
 have hF:=froz_first hH1 T.at_
 have hfew:=T.few
 have hlc : (cs.map clsRow).length = cs.length:=List.length_map _
 refine' stH
 obtain ⟨v,rw2,hv,hR,hd⟩:=det_roads L (T.keep (keep_first hH1 (.cells (memRow [] [] mthZ)) [])) s (rw:=rw)
 refine g_call rfl rfl rfl ?_
 refine c_det hd ?_
 refine zrk6 ?_
 obtain ⟨zv,tv,rfl,hzv,-⟩:=hv
 clear hd
 unfold dispF
 have hcl : ∀ i ∈ roadsF cs U s,i < cs.length:=roads_lt T.linked T.ups s
 have hcn : (roadsF cs U s).length ≤ cs.length + 1:=roads_len T.ups s
 generalize roadsF cs U s = l at *
 have hll : (ixRows l).length = l.length:=ixRows_len l
 refine' stH
 refine at_loop hm (fun mm e S' => ∃ (q : Nat) (J : List Blk) (rw3 : List Nat),S' = ⟨hp H1 H.length (.cells (memRow [] [] mthZ)) J,rw3⟩ ∧ q ≤ l.length ∧ Rx rw rw3 ∧ dspF cs sig l = dspF cs sig (l.drop q) ∧ mm = l.length - q ∧ e = [(0,.ptr n 0),(2,.str sig),(6,.ptr H.length 0),(14,.list zv tv (ixRows l)),(15,.int .i64 ((ixRows l).length : Int)),(16,.int .i64 q)]) ?_ (m:=l.length) ⟨0,[],_,rfl,by omega,hR,rfl,rfl,rfl⟩
 clear hR
 rintro mm e S' ⟨q,J,rw3,rfl,hq0,hR,hod,rfl,rfl⟩
 by_cases hq1 : q < l.length
 ·obtain ⟨i,hiq⟩ : ∃ i,l[q]? = some i:=⟨_,List.getElem?_eq_getElem hq1⟩
  have hi:=hcl i (List.mem_of_getElem? hiq)
  have hiq2:=ixRows_get hiq
  have hzv1 : zv = 1:=hzv (by intro h; rw [h] at hll; simp only [List.length_nil] at hll; omega)
  subst hzv1
  obtain ⟨c,hc⟩ : ∃ c,cs[i]? = some c:=⟨_,List.getElem?_eq_getElem hi⟩
  have hcr : (cs.map clsRow)[i]? = some (clsRow c):=by rw [List.getElem?_map,hc]; rfl
  have hz : z = 9:=T.sz (by intro h; rw [h] at hi; simp at hi)
  subst hz
  rw [dspF_drop hiq] at hod
  refine' stH
  obtain ⟨rw5,hR5,hd5⟩:=det_own L (T.keep (keep_first hH1 (.cells (memRow [] [] mthZ)) (J ++ [.cells (mthRow mthZ)]))) hi sig (rw:=rw3)
  refine g_call rfl rfl rfl ?_
  refine c_det hd5 ?_
  refine zrk6 ?_
  clear hd5
  have hR6:=hR.trans hR5
  clear hR
  have hR:=hR6
  cases ho : ownF cs i sig with
  | none =>
   rw [ho] at hod
   simp only [Option.getD_none,Option.isSome_none]
   refine' stH
   exact ⟨l.length - (q + 1),by omega,q + 1,_,_,rfl,by omega,hR,hod,rfl,rfl⟩
  | some m =>
   rw [ho] at hod
   simp only [Option.getD_some,Option.isSome_some]
   have hna : nameAt cs i = c.name:=by unfold nameAt; rw [hc]
   obtain ⟨mn,mp,⟨k1,t1,u1,e1,p1,a1⟩,bd,ab,at1⟩:=m
   refine' stH
   exact fin_firstT hH1 rfl rfl (row_mem sig c.name ⟨mn,mp,.mk k1 t1 u1 e1 p1 a1,bd,ab,at1⟩) ⟨_,hR,by rw [hod]; simp only [dspRes,dspRow,hna,Option.isSome_some]; rfl,rfl⟩
 ·refine' stH
  rw [List.drop_eq_nil_of_le (by omega)] at hod
  exact fin_firstT hH1 rfl rfl (row_mem [] [] mthZ) ⟨_,hR,by rw [hod]; rfl,rfl⟩
end Go.Proofs.YtmeakjgbjldkdaaGreat.Ai
namespace Go.Proofs.YtmeakjgbjldkdaaGreat.Ai
open Go
variable {pr : Prims} {F : Nat → Option IFn}
def fldOk (cs : List Cls) (c : Cls) (k : Nat) (f : Fld) : Prop:=(∀ q f',q < k → c.fields[q]? = some f' → f'.name ≠ f.name) ∧ fldF cs f.name (chainF cs c.super) = none
def memOk (cs : List Cls) (U : List (List Nat)) (i : Nat) (c : Cls) : Prop:=(∀ k f,c.fields[k]? = some f → fldOk cs c k f) ∧ (∀ k m,c.meths[k]? = some m → mthOk cs U i k c m)
theorem ctr_bounds {cs : List Cls} {c : Cls} {x : Ctr} (hc : c ∈ cs) (hx : x ∈ c.ctors) (hw : wL wCls cs ≤ 42000000) : wL wPar x.params ≤ 42000000 ∧ c.ctors.length ≤ 42000000:=by
 have h1:=wL_mem wCls hc
 have h2:=wL_mem wCtr hx
 have h3:=wL_len wCtr (fun x => by simp only [wCtr]; omega) c.ctors
 simp only [wCls,wCtr] at h1 h2 h3
 exact ⟨by omega,by omega⟩
theorem det_members (L : LibE pr F) {H : List Blk} {rw : List Nat} {n mb z zb : Nat} {tg tb : Tag} {cs : List Cls} {U : List (List Nat)} {o1 o2 o3 sl : AV} (T : TabU H n mb cs z tg zb tb U o1 o2 o3 sl) {i : Nat} {c : Cls} (hc : cs[i]? = some c) :
  ∃ (f : Int × Int) (rw' : List Nat),(f.1 = 0 → memOk cs U i c) ∧ Rx rw rw' ∧ Det pr F 105 [.ptr n 0,.int .i64 i] ⟨H,rw⟩ (.ret (.agg (fltRow f.1 f.2))) ⟨H,rw'⟩:=by
 have hm:=L.hm
 suffices h : Wp pr F 105 [.ptr n 0,.int .i64 i] ⟨H,rw⟩ fun r S' => ∃ (f : Int × Int) (rw' : List Nat),(f.1 = 0 → memOk cs U i c) ∧ Rx rw rw' ∧ r = .ret (.agg (fltRow f.1 f.2)) ∧ S' = ⟨H,rw'⟩ by
  obtain ⟨r,S',hd,f,rw',h1,h2,rfl,rfl⟩:=h.det hm
  exact ⟨f,rw',h1,h2,hd⟩
 have hi : i < cs.length:=(List.getElem?_eq_some_iff.1 hc).1
 have hcr : (cs.map clsRow)[i]? = some (clsRow c):=by rw [List.getElem?_map,hc]; rfl
 have hz : z = 9:=T.sz (by intro h; rw [h] at hi; simp at hi)
 subst hz
 have hcm:=List.mem_of_getElem? hc
 obtain ⟨hfb,hfb2⟩:=fld_bounds hcm T.wt
 have hlf:=fldRow_len c.fields
 have hlm:=mthRow_len c.meths
 have hlk : (c.ctors.map ctrRow).length = c.ctors.length:=List.length_map _
 have hlc : (cs.map clsRow).length = cs.length:=List.length_map _
 have hfew:=T.few
 obtain ⟨hbc,hbm⟩:=T.big c hcm
 have hR : Rx rw rw:=Rx.rfl
 refine at_start hm L.f105.1 L.f105.2 rfl ?_
 refine at_seq hm ?_
 unfold r105_0
 show At pr F H.length (fin _ H.length _) _ _ _ _
 refine at_first hm ?_
 intro H1 hH1 hlen hlt
 have hF:=froz_first hH1 T.at_
 refine' stH
 refine at_loop hm (fun mm e S' => ∃ (k : Nat) (J : List Blk) (rw3 : List Nat),S' = ⟨hp H1 H.length (.cells [.int .i64 0,.int .i64 0]) J,rw3⟩ ∧ J[0]? = some (.cells (clsRow c)) ∧ k ≤ c.fields.length ∧ Rx rw rw3 ∧ (∀ k' f,k' < k → c.fields[k']? = some f → fldOk cs c k' f) ∧ mm = c.fields.length - k ∧
  e = [(0,.ptr n 0),(1,.int .i64 (i : Int)),(4,.ptr H.length 0),(5,.ptr (H1.length + 0) 0),(28,lst 9 (c.fields.map fldRow)),(29,.int .i64 ((c.fields.map fldRow).length : Int)),(30,.int .i64 k)]) ?_ (m:=c.fields.length) ⟨0,_,_,rfl,rfl,by omega,hR,fun k' f h => by omega,rfl,rfl⟩
 clear hR
 rintro mm e S' ⟨k,J,rw3,rfl,hJ,hk0,hR,hfo,rfl,rfl⟩
 by_cases hk1 : k < c.fields.length
 ·obtain ⟨f,hf⟩ : ∃ f,c.fields[k]? = some f:=⟨_,List.getElem?_eq_getElem hk1⟩
  have hfr : (c.fields.map fldRow)[k]? = some (fldRow f):=by rw [List.getElem?_map,hf]; rfl
  obtain ⟨hfn,hft⟩:=hfb2 f (List.mem_of_getElem? hf)
  have hl9 : lst 9 (c.fields.map fldRow) = .list 9 .dead (c.fields.map fldRow):=lst_of_lt (i:=k) (by omega)
  rw [hl9]
  obtain ⟨fn,⟨k1,t1,u1,e1,p1,a1⟩,ff,at1⟩:=f
  simp only at hfn hft
  refine' stH
  rw [hl9]
  refine g_q rfl (slice_head (by omega)) ?_
  rw [← List.map_take]
  have hlt2 : ((c.fields.take k).map fldRow).length = k:=by rw [List.length_map,List.length_take]; omega
  have hlt3 : (c.fields.take k).length = k:=by rw [List.length_take]; omega
  refine' stH
  refine at_loop hm (fun mm e S' => ∃ (q : Nat) (J' : List Blk),S' = ⟨hp H1 H.length (.cells [.int .i64 0,.int .i64 0]) J',rw3⟩ ∧ J'[0]? = some (.cells (clsRow c)) ∧ J'[J.length]? = some (.cells (fldRow ⟨fn,.mk k1 t1 u1 e1 p1 a1,ff,at1⟩)) ∧ q ≤ k ∧ (∀ q' f',q' < q → c.fields[q']? = some f' → f'.name ≠ fn) ∧ mm = k - q ∧
   e = [(0,.ptr n 0),(1,.int .i64 (i : Int)),(4,.ptr H.length 0),(5,.ptr (H1.length + 0) 0),(7,.ptr (H1.length + J.length) 0),(28,.list 9 .dead (c.fields.map fldRow)),(29,.int .i64 ((c.fields.map fldRow).length : Int)),(30,.int .i64 k),(38,.list 9 .dead ((c.fields.take k).map fldRow)),(39,.int .i64 (((c.fields.take k).map fldRow).length : Int)),(40,.int .i64 q)]) ?_ (m:=k) ⟨0,_,rfl,at_ext hJ,at_bk0,by omega,fun q' f' h => by omega,rfl,rfl⟩
  rintro mm e S' ⟨q,J',rfl,hJ0,hJ1,hq0,hun,rfl,rfl⟩
  by_cases hq1 : q < k
  ·obtain ⟨f',hf'⟩ : ∃ f',c.fields[q]? = some f':=⟨_,List.getElem?_eq_getElem (by omega)⟩
   have hpr' : ((c.fields.take k).map fldRow)[q]? = some (fldRow f'):=by rw [List.getElem?_map,List.getElem?_take_of_lt hq1,hf']; rfl
   refine' stH
   ·exact fin_first hH1 rfl (row_flt _ _) ⟨(_,_),_,fun h => by simp at h,hR,rfl,rfl⟩
   ·refine ⟨k - (q + 1),by omega,q + 1,_,rfl,at_ext hJ0,at_ext hJ1,by omega,?_,rfl,rfl⟩
    intro q' f2 hq2 hf2
    by_cases e2 : q' = q
    ·subst e2
     rw [hf'] at hf2
     simp only [Option.some.injEq] at hf2
     subst hf2
     intro h
     simp_all
    ·exact hun q' f2 (by omega) hf2
  ·have hqk : q = k:=by omega
   subst hqk
   refine' stH
   obtain ⟨rw5,hR5,hd5⟩:=det_field L (T.keep (keep_first hH1 (.cells [.int .i64 0,.int .i64 0]) (J' ++ [.cells (fldRow fldZ)]))) c.super fn (rw:=rw3)
   refine g_call rfl rfl rfl ?_
   refine c_det hd5 ?_
   refine zrk6 ?_
   clear hd5
   have hR6:=hR.trans hR5
   clear hR
   have hR:=hR6
   cases ho : fldF cs fn (chainF cs c.super) with
   | some r =>
    simp only [fldRes,Option.map_some,Option.getD_some,Option.isSome_some]
    refine' stH
    exact fin_first hH1 rfl (row_flt _ _) ⟨(_,_),_,fun h => by simp at h,hR,rfl,rfl⟩
   | none =>
    simp only [fldRes,Option.map_none,Option.getD_none,Option.isSome_none]
    refine' stH
    refine g_call rfl rfl rfl ?_
    refine ⟨_,_,det_known L (wTy (.mk k1 t1 u1 e1 p1 a1) + 1) (.mk k1 t1 u1 e1 p1 a1) (by omega) hft (T.toTabM.keep (keep_first hH1 _ _)),?_⟩
    refine zrk6 ?_
    refine' stH
    ·exact fin_first hH1 rfl (row_flt (knownF cs (.mk k1 t1 u1 e1 p1 a1)).1 (knownF cs (.mk k1 t1 u1 e1 p1 a1)).2) ⟨(_,_),_,fun h => absurd h (by assumption),hR,rfl,rfl⟩
    ·refine ⟨c.fields.length - (q + 1),by omega,q + 1,_,_,rfl,?_,by omega,hR,?_,rfl,rfl⟩
     ·simp only [List.append_assoc]
      exact at_ext hJ0
     ·intro k' f2 hk2 hf2
      by_cases e2 : k' = q
      ·subst e2
       rw [hf] at hf2
       simp only [Option.some.injEq] at hf2
       subst hf2
       exact ⟨hun,ho⟩
      ·exact hfo k' f2 (by omega) hf2
 ·refine' stH
  have hfo' : ∀ k' f,c.fields[k']? = some f → fldOk cs c k' f:=fun k' f hf => hfo k' f (by have:=(List.getElem?_eq_some_iff.1 hf).1; omega) hf
  refine at_loop hm (fun mm e S' => ∃ (k : Nat) (J : List Blk),S' = ⟨hp H1 H.length (.cells [.int .i64 0,.int .i64 0]) J,rw3⟩ ∧ J[0]? = some (.cells (clsRow c)) ∧ k ≤ c.ctors.length ∧ mm = c.ctors.length - k ∧
   e = [(0,.ptr n 0),(1,.int .i64 (i : Int)),(4,.ptr H.length 0),(5,.ptr (H1.length + 0) 0),(77,lst 5 (c.ctors.map ctrRow)),(78,.int .i64 ((c.ctors.map ctrRow).length : Int)),(79,.int .i64 k)]) ?_ (m:=c.ctors.length) ⟨0,_,rfl,hJ,by omega,rfl,rfl⟩
  clear hJ J hfo
  clear hk0 hk1
  rintro mm e S' ⟨k,J,rfl,hJ,hk0,rfl,rfl⟩
  by_cases hk1 : k < c.ctors.length
  ·obtain ⟨x,hx⟩ : ∃ x,c.ctors[k]? = some x:=⟨_,List.getElem?_eq_getElem hk1⟩
   have hxr : (c.ctors.map ctrRow)[k]? = some (ctrRow x):=by rw [List.getElem?_map,hx]; rfl
   obtain ⟨hxp,-⟩:=ctr_bounds hcm (List.mem_of_getElem? hx) T.wt
   have hl9 : lst 5 (c.ctors.map ctrRow) = .list 5 .dead (c.ctors.map ctrRow):=lst_of_lt (i:=k) (by omega)
   rw [hl9]
   refine' stH
   ·exact fin_first hH1 rfl (row_flt _ _) ⟨(_,_),_,fun h => by simp at h,hR,rfl,rfl⟩
   ·obtain ⟨f1,hd1⟩:=det_params L (T.toTabM.keep (keep_first hH1 (.cells [.int .i64 0,.int .i64 0]) (J ++ [.cells (ctrRow x)] ++ [.cells [.int .i64 0,.int .i64 0]]))) x.params hxp (rw:=rw3)
    refine g_call rfl rfl rfl ?_
    refine c_det hd1 ?_
    refine zrk6 ?_
    refine' stH
    ·exact fin_first hH1 rfl (row_flt f1.1 f1.2) ⟨(_,_),_,fun h => absurd h (by assumption),hR,rfl,rfl⟩
    ·refine ⟨c.ctors.length - (k + 1),by omega,k + 1,_,rfl,?_,by omega,rfl,rfl⟩
     simp only [List.append_assoc]
     exact at_ext hJ
  ·refine' stH
   refine at_loop hm (fun mm e S' => ∃ (k : Nat) (J : List Blk) (rw3 : List Nat),S' = ⟨hp H1 H.length (.cells [.int .i64 0,.int .i64 0]) J,rw3⟩ ∧ k ≤ c.meths.length ∧ Rx rw rw3 ∧ (∀ k' m,k' < k → c.meths[k']? = some m → mthOk cs U i k' c m) ∧ mm = c.meths.length - k ∧
    e = [(0,.ptr n 0),(1,.int .i64 (i : Int)),(4,.ptr H.length 0),(99,lst 11 (c.meths.map mthRow)),(100,.int .i64 ((c.meths.map mthRow).length : Int)),(101,.int .i64 k)]) ?_ (m:=c.meths.length) ⟨0,_,_,rfl,by omega,hR,fun k' m h => by omega,rfl,rfl⟩
   clear hJ J
   clear hk0 hk1 hR rw3
   rintro mm e S' ⟨k,J,rw3,rfl,hk0,hR,hmo,rfl,rfl⟩
   by_cases hk1 : k < c.meths.length
   ·obtain ⟨m,hmk⟩ : ∃ m,c.meths[k]? = some m:=⟨_,List.getElem?_eq_getElem hk1⟩
    have hmr : (c.meths.map mthRow)[k]? = some (mthRow m):=by rw [List.getElem?_map,hmk]; rfl
    have hl9 : lst 11 (c.meths.map mthRow) = .list 11 .dead (c.meths.map mthRow):=lst_of_lt (i:=k) (by omega)
    rw [hl9]
    refine' stH
    obtain ⟨f1,rw5,hf1,hR5,hd1⟩:=det_method L (T.keep (keep_first hH1 (.cells [.int .i64 0,.int .i64 0]) (J ++ [.cells (mthRow m)] ++ [.cells [.int .i64 0,.int .i64 0]]))) hc hmk (rw:=rw3)
    refine g_call rfl rfl rfl ?_
    refine c_det hd1 ?_
    refine zrk6 ?_
    refine' stH
    ·exact fin_first hH1 rfl (row_flt f1.1 f1.2) ⟨(_,_),_,fun h => absurd h (by assumption),hR.trans hR5,rfl,rfl⟩
    ·refine ⟨c.meths.length - (k + 1),by omega,k + 1,_,_,rfl,by omega,hR.trans hR5,?_,rfl,rfl⟩
     intro k' m2 hk2 hm2
     by_cases e2 : k' = k
     ·subst e2
      rw [hmk] at hm2
      simp only [Option.some.injEq] at hm2
      subst hm2
      exact hf1 (by assumption)
     ·exact hmo k' m2 (by omega) hm2
   ·refine' stH
    exact fin_first hH1 rfl (row_flt 0 0) ⟨(0,0),_,fun _ => ⟨hfo',fun k' m hm' => hmo k' m (by have:=(List.getElem?_eq_some_iff.1 hm').1; omega) hm'⟩,hR,rfl,rfl⟩
end Go.Proofs.YtmeakjgbjldkdaaGreat.Ai
namespace Go.Proofs.YtmeakjgbjldkdaaGreat.Ai
open Go
variable {pr : Prims} {F : Nat → Option IFn}
def fulOk (cs : List Cls) (U : List (List Nat)) (c : Cls) (a : Nat) : Prop:=∀ d,cs[a]? = some d → d.iface = true → ∀ m ∈ d.meths,∃ r : Nat × Mth,dispF cs U c.name (sigT m.name m.params) = some r ∧ baseT r.2.result = baseT m.result
theorem dspF_own {cs : List Cls} {sig : Str} {i : Nat} {m : Mth} : ∀ {l : List Nat},dspF cs sig l = some (i,m) → ownF cs i sig = some m:=by
 intro l
 induction l with
 | nil => intro h; simp [dspF] at h
 | cons j l ih =>
  intro h
  simp only [dspF] at h
  cases ho : ownF cs j sig with
  | none => rw [ho] at h; exact ih h
  | some x =>
   rw [ho] at h
   simp only [Option.some.injEq,Prod.mk.injEq] at h
   obtain ⟨rfl,rfl⟩:=h
   exact ho
theorem det_fulfils (L : LibE pr F) {H : List Blk} {rw : List Nat} {n mb z zb : Nat} {tg tb : Tag} {cs : List Cls} {U : List (List Nat)} {o1 o2 o3 sl : AV} (T : TabU H n mb cs z tg zb tb U o1 o2 o3 sl) {i : Nat} {c : Cls} (hc : cs[i]? = some c) :
  ∃ (f : Int × Int) (rw' : List Nat),(f.1 = 0 → ∀ a ∈ U.getD i [],fulOk cs U c a) ∧ Rx rw rw' ∧ Det pr F 106 [.ptr n 0,.int .i64 i] ⟨H,rw⟩ (.ret (.agg (fltRow f.1 f.2))) ⟨H,rw'⟩:=by
 have hm:=L.hm
 suffices h : Wp pr F 106 [.ptr n 0,.int .i64 i] ⟨H,rw⟩ fun r S' => ∃ (f : Int × Int) (rw' : List Nat),(f.1 = 0 → ∀ a ∈ U.getD i [],fulOk cs U c a) ∧ Rx rw rw' ∧ r = .ret (.agg (fltRow f.1 f.2)) ∧ S' = ⟨H,rw'⟩ by
  obtain ⟨r,S',hd,f,rw',h1,h2,rfl,rfl⟩:=h.det hm
  exact ⟨f,rw',h1,h2,hd⟩
 have hi : i < cs.length:=(List.getElem?_eq_some_iff.1 hc).1
 have hcr : (cs.map clsRow)[i]? = some (clsRow c):=by rw [List.getElem?_map,hc]; rfl
 have hz : z = 9:=T.sz (by intro h; rw [h] at hi; simp at hi)
 subst hz
 have hul:=T.ulen
 obtain ⟨ui,hui⟩ : ∃ ui,U[i]? = some ui:=⟨_,List.getElem?_eq_getElem (by omega)⟩
 have hur:=upRow_get hui
 have hzb : zb = 1:=T.zbs (by intro h; rw [h] at hul; simp at hul; omega)
 subst hzb
 have hgd : U.getD i [] = ui:=by rw [List.getD_eq_getElem?_getD,hui]; rfl
 rw [hgd]
 have hR : Rx rw rw:=Rx.rfl
 have hfew:=T.few
 have hlc : (cs.map clsRow).length = cs.length:=List.length_map _
 have hul2 : (U.map upRow).length = cs.length:=by rw [List.length_map]; exact hul
 have hlu : (ixRows ui).length = ui.length:=ixRows_len ui
 obtain ⟨bs,hbsl,hbsu,hui2⟩:=T.ups i ui hui
 have hun2 : ui.length ≤ cs.length:=by rw [hui2]; exact trues_len _ _
 have huin : ∀ a ∈ ui,a < cs.length:=fun a ha => up_lt T.linked ((ups_mem (T.ups i ui hui) T.linked a).1 ha)
 refine at_start hm L.f106.1 L.f106.2 rfl ?_
 refine at_seq hm ?_
 unfold r106_0
 show At pr F H.length (fin _ H.length _) _ _ _ _
 refine at_first hm ?_
 intro H1 hH1 hlen hlt
 have hF:=froz_first hH1 T.at_
 refine' stH
 refine at_loop hm (fun mm e S' => ∃ (p : Nat) (J : List Blk) (rw3 : List Nat),S' = ⟨hp H1 H.length (.cells [.int .i64 0,.int .i64 0]) J,rw3⟩ ∧ J[0]? = some (.cells (clsRow c)) ∧ p ≤ ui.length ∧ Rx rw rw3 ∧ (∀ a ∈ ui.take p,fulOk cs U c a) ∧ mm = ui.length - p ∧
  e = [(0,.ptr n 0),(4,.ptr H.length 0),(5,.ptr (H1.length + 0) 0),(25,lst 1 (ixRows ui)),(26,.int .i64 ((ixRows ui).length : Int)),(27,.int .i64 p)]) ?_ (m:=ui.length) ⟨0,_,_,rfl,rfl,by omega,hR,by simp,rfl,rfl⟩
 clear hR
 rintro mm e S' ⟨p,J,rw3,rfl,hJ,hp0,hR,hful,rfl,rfl⟩
 by_cases hp1 : p < ui.length
 ·obtain ⟨a,ha⟩ : ∃ a,ui[p]? = some a:=⟨_,List.getElem?_eq_getElem hp1⟩
  have har:=ixRows_get ha
  have hal:=huin a (List.mem_of_getElem? ha)
  obtain ⟨d,hd⟩ : ∃ d,cs[a]? = some d:=⟨_,List.getElem?_eq_getElem hal⟩
  have hdr : (cs.map clsRow)[a]? = some (clsRow d):=by rw [List.getElem?_map,hd]; rfl
  have hdm:=List.mem_of_getElem? hd
  have hdo:=cls_meths (T.okc d hdm)
  have hlm:=mthRow_len d.meths
  obtain ⟨-,hbm⟩:=T.big d hdm
  have hl5 : lst 1 (ixRows ui) = .list 1 .dead (ixRows ui):=lst_of_lt (i:=p) (by omega)
  rw [hl5]
  refine' stH
  ·refine ⟨ui.length - (p + 1),by omega,p + 1,_,_,rfl,hJ,by omega,hR,?_,rfl,rfl⟩
   rw [take_snoc ha]
   intro b hb
   rcases List.mem_append.1 hb with h1 | h1
   ·exact hful b h1
   ·rw [List.mem_singleton.1 h1]
    intro d' hd' hif
    rw [hd] at hd'
    simp only [Option.some.injEq] at hd'
    subst hd'
    simp_all
  ·refine at_loop hm (fun mm e S' => ∃ (q : Nat) (J : List Blk) (rw3 : List Nat),S' = ⟨hp H1 H.length (.cells [.int .i64 0,.int .i64 0]) J,rw3⟩ ∧ J[0]? = some (.cells (clsRow c)) ∧ q ≤ d.meths.length ∧ Rx rw rw3 ∧ (∀ m ∈ d.meths.take q,∃ r : Nat × Mth,dispF cs U c.name (sigT m.name m.params) = some r ∧ baseT r.2.result = baseT m.result) ∧ mm = d.meths.length - q ∧
    e = [(0,.ptr n 0),(4,.ptr H.length 0),(5,.ptr (H1.length + 0) 0),(25,.list 1 .dead (ixRows ui)),(26,.int .i64 ((ixRows ui).length : Int)),(27,.int .i64 p),(47,lst 11 (d.meths.map mthRow)),(48,.int .i64 ((d.meths.map mthRow).length : Int)),(49,.int .i64 q)]) ?_ (m:=d.meths.length) ⟨0,_,_,rfl,hJ,by omega,hR,by simp,rfl,rfl⟩
   clear hJ J
   clear hR
   clear rw3
   rintro mm e S' ⟨q,J,rw3,rfl,hJ,hq0,hR,hres,rfl,rfl⟩
   by_cases hq1 : q < d.meths.length
   ·obtain ⟨m,hmq⟩ : ∃ m,d.meths[q]? = some m:=⟨_,List.getElem?_eq_getElem hq1⟩
    have hmem:=List.mem_of_getElem? hmq
    have hmr : (d.meths.map mthRow)[q]? = some (mthRow m):=by rw [List.getElem?_map,hmq]; rfl
    obtain ⟨hb1,hb2,hb3,hb4⟩:=mth_bounds hdm hmem T.wt
    obtain ⟨hk1,hk2,hk3,hk4⟩:=hdo m hmem
    have hsg:=tx_sig L hb1 hb2 hk2
    have hbs:=tx_base L hb3 hk3
    have hl11 : lst 11 (d.meths.map mthRow) = .list 11 .dead (d.meths.map mthRow):=lst_of_lt (i:=q) (by omega)
    rw [hl11]
    refine' stH
    obtain ⟨rw5,hR5,hd5⟩:=det_dispatch L (T.keep (keep_first hH1 (.cells [.int .i64 0,.int .i64 0]) (J ++ [.cells (mthRow m)] ++ [.cells (memRow [] [] mthZ)]))) c.name (sigT m.name m.params) (rw:=rwt)
    refine g_call rfl rfl rfl ?_
    refine c_det hd5 ?_
    refine zrk6 ?_
    clear hd5
    have hR6:=hR.trans hR5
    clear hR
    have hR:=hR6
    cases ho : dispF cs U c.name (sigT m.name m.params) with
    | none =>
     simp only [dspRes,dspRow,Option.isSome_none]
     refine' stH
     exact fin_first hH1 rfl (row_flt _ _) ⟨(_,_),_,fun h => by simp at h,hR,rfl,rfl⟩
    | some r =>
     obtain ⟨j,x⟩:=r
     simp only [dspRes,dspRow,Option.isSome_some]
     have hbx:=own_base L T.wt T.okc (dspF_own ho)
     have hrm:=row_mem (sigT m.name m.params) (nameAt cs j) x
     refine' stH
     ·exact fin_first hH1 rfl (row_flt _ _) ⟨(_,_),_,fun h => by simp at h,hR,rfl,rfl⟩
     ·refine ⟨d.meths.length - (q + 1),by omega,q + 1,_,_,rfl,at_ext (at_ext hJ),by omega,hR,?_,rfl,rfl⟩
      rw [take_snoc hmq]
      intro m2 hm2
      rcases List.mem_append.1 hm2 with h1 | h1
      ·exact hres m2 h1
      ·rw [List.mem_singleton.1 h1]
       exact ⟨(j,x),ho,by simpa using hq⟩
   ·refine' stH
    refine ⟨ui.length - (p + 1),by omega,p + 1,_,_,rfl,hJ,by omega,hR,?_,rfl,rfl⟩
    rw [take_snoc ha]
    intro b hb
    rcases List.mem_append.1 hb with h1 | h1
    ·exact hful b h1
    ·rw [List.mem_singleton.1 h1]
     intro d' hd' hif m hm2
     rw [hd] at hd'
     simp only [Option.some.injEq] at hd'
     subst hd'
     exact hres m (by rw [show q = d.meths.length by omega,List.take_length]; exact hm2)
 ·refine' stH
  exact fin_first hH1 rfl (row_flt 0 0) ⟨(0,0),_,fun _ a ha => hful a (by rw [show p = ui.length by omega,List.take_length]; exact ha),hR,rfl,rfl⟩
end Go.Proofs.YtmeakjgbjldkdaaGreat.Ai
namespace Go.Proofs.YtmeakjgbjldkdaaGreat.Ai
open Go
set_option maxRecDepth 100000
set_option maxHeartbeats 16000000
def r55b_2 : IC:=.region [] [Qm 0 17 4,Qq 1 18 (.mkFunc 100 [(.tmp 17)] []),Qm 2 19 4,Qq 3 20 (.mkFunc 101 [(.tmp 19)] []),Qm 4 21 4,Qq 5 22 (.mkFunc 102 [(.tmp 21)] []),Qm 6 23 4,Qq 7 24 (.mkFunc 103 [(.tmp 23)] []),Ql 8 25 (.mkArr 1 [(.tmp 18),(.tmp 20),(.tmp 22),(.tmp 24)]) [],Qn 9 26 25,Qk 10 27 (Qz 0)] [3,4,25,26,27]
noncomputable def i55b : IFn:=⟨1,(.seq r55_0 (.seq r55_1 (.seq (.seq r55b_2 (.block 0 (.loop [3,4,25,26,27] (.seq r55_3 (.seq (.cond (.tmp 28) (.skip) (.exit 0)) (.seq (.block 1 (.seq r55_4 (.seq r55_5 (.seq r55_6 (.cond (.tmp 35) (.seq r55_7 .ret) (.skip)))))) r55_8)))))) (.seq r55_9 (.seq (.seq r55_10 (.block 2 (.loop [3,4,44,45] (.seq r55_11 (.seq (.cond (.tmp 46) (.skip) (.exit 2)) (.seq (.block 3 (.seq r55_12 (.seq r55_13 (.seq r55_14 (.cond (.tmp 53) (.seq r55_15 .ret) (.skip)))))) r55_16)))))) (.seq (.seq r55_17 (.block 4 (.loop [3,4,60,61] (.seq r55_18 (.seq (.cond (.tmp 62) (.skip) (.exit 4)) (.seq (.block 5 (.seq r55_19 (.seq r55_20 (.seq r55_21 (.cond (.tmp 69) (.seq r55_22 .ret) (.skip)))))) r55_23)))))) (.seq r55_24 .ret))))))),[.tmp 2,.cell 3 (some 2)]⟩
theorem c55b : chkFn Tryz.prog Tryz.f55 i55b = true:=by kernel_rfl
end Go.Proofs.YtmeakjgbjldkdaaGreat.Ai
namespace Go.Proofs.YtmeakjgbjldkdaaGreat.Ai
open Go
variable {pr : Prims} {F : Nat → Option IFn}
section
variable {b0 base ix : Nat} {d : Option Nat} {g : Option (Nat × Bool)} {prev items : List Item} {kp : List Nat} {k : List Fr} {e : Env} {Q : Ex → Env → St → Prop} {S : St} {H M : List Blk} {n : Nat} {rw : List Nat} {re : List Nat}
theorem id_mapUpd {m x y : Opd} (h : In pr F b0 Q base prev (⟨ix,d,g,.l (.mapUpd m x y) re⟩ :: items) kp k e S) : In pr F b0 Q base prev (⟨ix,d,g,.l (.mapUpd m x y) re⟩ :: items) kp k e S:=h
theorem g_mapN {m x y : Opd} {es : List (Str × AV)} {s : Str} {v : AV} (hlt : n < H.length) (hw : wanted g (eget e) = some true) (hm : m.val (eget e) = some (.map n)) (hx : x.val (eget e) = some (.str s)) (hy : y.val (eget e) = some v) (hb : below (n + 1) v = true)
  (h : recheck prev re (eput e d .undef) (hp H n (.map (mput es s v)) M) base = true ∧ In pr F b0 Q base (⟨ix,d,g,.l (.mapUpd m x y) re⟩ :: prev) items kp k (eput e d .undef) ⟨hp H n (.map (mput es s v)) M,rw⟩) :
  In pr F b0 Q base prev (⟨ix,d,g,.l (.mapUpd m x y) re⟩ :: items) kp k e ⟨hp H n (.map es) M,rw⟩:=by
 obtain ⟨hr,hk⟩:=h
 refine in_l hw ?_ hr hk
 simp only [lval,hm,hx,hy,hp_get hlt,hb,or_true,if_true,hp_set]
theorem k_n {L : AV → Prop} {zero : AV} {s : Str} {es : List (Str × AV)} (hlt : n < H.length) (h1 : ∀ v,mlook es s = some v → L (.tup [v,.bool true])) (h2 : mlook es s = none → L (.tup [zero,.bool false])) : LkAt zero true (.map n) (.str s) ⟨hp H n (.map es) M,rw⟩ L:=by
 refine ⟨?_⟩
 have e:=hp_get (H:=H) (b:=Blk.map es) (L:=M) hlt
 simp only [e]
 cases hm : mlook es s with
 | some v => exact ⟨_,rfl,h1 v hm⟩
 | none => exact ⟨_,rfl,h2 hm⟩
end
theorem det_names (L : LibD pr F) {H : List Blk} {rw : List Nat} {n mb z : Nat} {tg : Tag} {cs : List Cls} {ab o1 o2 o3 sl : AV} (T : TabB H n cs z tg (.map mb) ab o1 o2 o3 sl) (hmb : H[mb]? = some (.map [])) :
  ∃ (f : Int × Int) (es : List (Str × AV)),(f.1 = 0 → es = mapOf 0 cs ∧ Unlike cs) ∧ Det pr F 101 [.ptr n 0] ⟨H,rw⟩ (.ret (.agg (fltRow f.1 f.2))) ⟨H.set mb (.map es),rw⟩:=by
 have hm:=L.hm
 suffices h : Wp pr F 101 [.ptr n 0] ⟨H,rw⟩ fun r S' => ∃ (f : Int × Int) (es : List (Str × AV)),(f.1 = 0 → es = mapOf 0 cs ∧ Unlike cs) ∧ r = .ret (.agg (fltRow f.1 f.2)) ∧ S' = ⟨hp H mb (.map es) [],rw⟩ by
  obtain ⟨r,S',hd,f,es,hf,rfl,rfl⟩:=h.det hm
  rw [hp_nil] at hd
  exact ⟨f,es,hf,hd⟩
 have hlt : mb < H.length:=(List.getElem?_eq_some_iff.1 hmb).1
 have hne : mb ≠ n:=by
  intro h
  have:=T.at_
  rw [← h,hmb] at this
  simp at this
 have hF:=froz_n hne T.at_
 have hfew:=T.few
 have hlm : (cs.map clsRow).length = cs.length:=List.length_map _
 refine at_start_hp hm L.f101.1 L.f101.2 rfl (hp_of hmb) ?_
 refine' hG
 refine at_loop hm (fun mm e S' => ∃ (i : Nat) (J : List Blk),S' = ⟨hp H mb (.map (mapOf 0 (cs.take i))) (.cells [.int .i64 0,.int .i64 0] :: J),rw⟩ ∧ Unlike (cs.take i) ∧ i ≤ cs.length ∧ mm = cs.length - i ∧ e = [(0,.ptr n 0),(2,.ptr (H.length + 0) 0),(10,.list z tg (cs.map clsRow)),(11,.int .i64 ((cs.map clsRow).length : Int)),(12,.int .i64 i)]) ?_ (m:=cs.length) ⟨0,[],rfl,.nil,by omega,rfl,rfl⟩
 rintro mm e S' ⟨i,J,rfl,hu,hi,rfl,rfl⟩
 by_cases hlt2 : i < cs.length
 ·obtain ⟨c,hc⟩ : ∃ c,cs[i]? = some c:=⟨_,List.getElem?_eq_getElem hlt2⟩
  have hcr : (cs.map clsRow)[i]? = some (clsRow c):=by rw [List.getElem?_map,hc]; rfl
  have hz : z = 9:=T.sz (by intro h; rw [h] at hlt2; simp at hlt2)
  subst hz
  refine' hG
  refine g_lookup rfl rfl rfl ?_
  refine k_n hlt (fun v hv => ?_) (fun hv => ?_)
  ·refine' stH
   exact fin_cell hlt rfl rfl (row_flt _ _).load ((row_flt _ _).below _) ⟨(_,_),_,fun h => absurd h (show (120 : Int) ≠ 0 by decide),rfl,rfl⟩
  ·have hpn : place (cs.take i) c.name = none:=by
    rw [mlook_map0] at hv
    cases hp : place (cs.take i) c.name with
    | none => rfl
    | some q => rw [hp] at hv; simp at hv
   have e1:=mput_new (v:=.int .i64 (i : Int)) hv
   have e2 : mapOf 0 (cs.take (i + 1)) = mput (mapOf 0 (cs.take i)) c.name (.int .i64 (i : Int)):=by
    rw [e1,take_snoc hc,mapOf_append]
    simp only [List.length_take,Nat.min_eq_left hi,Nat.zero_add]
   refine' stH
   refine id_mapUpd ?_
   refine g_mapN hlt rfl rfl rfl rfl rfl ?_
   rw [← e2]
   refine zrk6 ?_
   refine' stH
   exact ⟨cs.length - (i + 1),by omega,i + 1,J ++ [.cells (clsRow c)],rfl,by rw [take_snoc hc]; exact hu.snoc hpn,by omega,rfl,rfl⟩
 ·have hi2 : i = cs.length:=by omega
  refine' stH
  refine fin_cell hlt rfl rfl (row_flt 0 0).load ((row_flt 0 0).below _) ⟨(0,0),_,fun _ => ?_,rfl,rfl⟩
  rw [hi2,List.take_length] at hu ⊢
  exact ⟨rfl,hu⟩
end Go.Proofs.YtmeakjgbjldkdaaGreat.Ai
namespace Go.Proofs.YtmeakjgbjldkdaaGreat.Ai
open Go
variable {pr : Prims} {F : Nat → Option IFn}
structure LibF (pr : Prims) (F : Nat → Option IFn) : Prop extends LibE pr F where
 f55 : Has pr F 55 i55b
section
variable {b0 base ix : Nat} {d : Option Nat} {g : Option (Nat × Bool)} {prev items : List Item} {kp : List Nat} {k : List Fr} {e : Env} {Q : Ex → Env → St → Prop} {S : St} {H M M' : List Blk} {n q : Nat} {b : Blk} {rw : List Nat} {re : List Nat}
theorem g_mkMap (hlt : n < H.length) (hw : wanted g (eget e) = some true) (hM : M ++ [.map []] = M') (hq : M.length = q)
  (h : recheck prev re (eput e d (.map (H.length + q))) (hp H n b M') base = true ∧ In pr F b0 Q base (⟨ix,d,g,.l .mkMap re⟩ :: prev) items kp k (eput e d (.map (H.length + q))) ⟨hp H n b M',rw⟩) :
  In pr F b0 Q base prev (⟨ix,d,g,.l .mkMap re⟩ :: items) kp k e ⟨hp H n b M,rw⟩:=by
 subst hM hq
 refine in_l hw ?_ h.1 h.2
 simp only [lval,hp_len,hp_app hlt]
theorem g_mkArr {sz : Nat} {xs : List Opd} {vs cs : List AV} (hlt : n < H.length) (hw : wanted g (eget e) = some true) (hx : vals xs (eget e) = some vs) (hf : flatOf sz vs = some cs) (hM : M ++ [.cells cs] = M') (hq : M.length = q)
  (h : recheck prev re (eput e d (.arr (H.length + q) 0 sz vs.length)) (hp H n b M') base = true ∧ In pr F b0 Q base (⟨ix,d,g,.l (.mkArr sz xs) re⟩ :: prev) items kp k (eput e d (.arr (H.length + q) 0 sz vs.length)) ⟨hp H n b M',rw⟩) :
  In pr F b0 Q base prev (⟨ix,d,g,.l (.mkArr sz xs) re⟩ :: items) kp k e ⟨hp H n b M,rw⟩:=by
 subst hM hq
 refine in_l hw ?_ h.1 h.2
 simp only [lval,hx,hf,hp_len,hp_app hlt]
end
theorem fin_nil {H H1 M : List Blk} {rw : List Nat} {z : Blk} {vs : List AV} {t u kd : Nat} {e : Env} {Q : Res → St → Prop} (hH : H1 = H ++ [z]) (he : eget e t = some (.ptr H.length 0)) (hu : eget e u = some .nilp) (hv : Row kd vs) (h : Q (.ret (.tup [.nilp,.agg vs])) ⟨H,rw⟩) :
  fin [.tmp u,.cell t (some kd)] H.length Q .ret e ⟨hp H1 H.length (.cells vs) M,rw⟩:=by
 subst hH
 have e2 : rvals [.tmp u,.cell t (some kd)] e (hp (H ++ [z]) H.length (.cells vs) M) = some [.nilp,.agg vs]:=by
  simp only [rvals,he,hu,load_own hv]
 refine fin_tup e2 ?_ take_own h
 have this : Ai.belowL H.length vs = true:=hv.below H.length
 simp only [Ai.belowL,this,Ai.below,Bool.and_self]
theorem fin_tab {H H1 M : List Blk} {rw : List Nat} {z : Blk} {vs : List AV} {t u kd j : Nat} {e : Env} {Q : Res → St → Prop} (hH : H1 = H ++ [z]) (he : eget e t = some (.ptr H.length 0)) (hu : eget e u = some (.ptr (H1.length + j) 0)) (hv : Row kd vs) (h : Q (.ret (.tup [.ptr (H1.length + j) 0,.agg vs])) ⟨hp H1 H.length (.cells vs) M,rw⟩) :
  fin [.tmp u,.cell t (some kd)] H.length Q .ret e ⟨hp H1 H.length (.cells vs) M,rw⟩:=by
 have hl : ¬H1.length + j < H.length:=by subst hH; simp; omega
 have e2 : rvals [.tmp u,.cell t (some kd)] e (hp H1 H.length (.cells vs) M) = some [.ptr (H1.length + j) 0,.agg vs]:=by
  subst hH
  simp only [rvals,he,hu,load_own hv]
 have h5 : Ai.below H.length (.tup [.ptr (H1.length + j) 0,.agg vs]) = false:=by simp [Ai.below,Ai.belowL,hl]
 simp only [fin,e2,packed,leave,h5,freeze,freeze1,List.map_cons,List.map_nil,Bool.false_eq_true,if_false]
 exact h
theorem tab_own {H1 J : List Blk} {n : Nat} {b x : Blk} {es : List (Str × AV)} {z : Nat} {tg : Tag} {cs : List Cls} {ab o1 o2 o3 sl : AV} (hlt : n < H1.length) (hsz : cs ≠ [] → z = 9) (hfew : cs.length ≤ 6000) (hwt : wL wCls cs ≤ 42000000) :
  TabB (hp H1 n b (x :: .map es :: .cells [.list z tg (cs.map clsRow),.map (H1.length + 1),ab,o1,o2,o3,sl] :: J)) (H1.length + 2) cs z tg (.map (H1.length + 1)) ab o1 o2 o3 sl ∧ (hp H1 n b (x :: .map es :: .cells [.list z tg (cs.map clsRow),.map (H1.length + 1),ab,o1,o2,o3,sl] :: J))[H1.length + 1]? = some (.map es):=by
 refine ⟨⟨(hp_own hlt 2).trans rfl,hsz,hfew,fun c hc => ?_⟩,(hp_own hlt 1).trans rfl⟩
 have h1:=wL_mem wCls hc
 have h2:=wL_len wCtr (fun x => by simp only [wCtr]; omega) c.ctors
 have h3:=wL_len wMth (fun x => by simp only [wMth]; omega) c.meths
 simp only [wCls] at h1
 exact ⟨by omega,by omega⟩
def allOk (cs : List Cls) (U : List (List Nat)) : Prop:=∀ i c,cs[i]? = some c → memOk cs U i c ∧ ∀ a ∈ U.getD i [],fulOk cs U c a
section
variable {H1 J : List Blk} {n z : Nat} {b x : Blk} {es : List (Str × AV)} {tg : Tag} {cs : List Cls} {ab o1 o2 o3 sl : AV} {rw : List Nat} {K : AV → St → Prop}
theorem c_few (L : LibF pr F) (hlt : n < H1.length) (hsz : cs ≠ [] → z = 9) (hfew : cs.length ≤ 6000) (hwt : wL wCls cs ≤ 42000000)
  (hk : ∀ f : Int × Int,(f.1 = 0 → Few cs) → K (.agg (fltRow f.1 f.2)) ⟨hp H1 n b (x :: .map es :: .cells [.list z tg (cs.map clsRow),.map (H1.length + 1),ab,o1,o2,o3,sl] :: J),rw⟩) :
  ClAt pr F 100 [.ptr (H1.length + 2) 0] ⟨hp H1 n b (x :: .map es :: .cells [.list z tg (cs.map clsRow),.map (H1.length + 1),ab,o1,o2,o3,sl] :: J),rw⟩ K:=by
 obtain ⟨f,hf,hd⟩:=det_few L.toLibD (rw:=rw) (tab_own (b:=b) (x:=x) (es:=es) (J:=J) (ab:=ab) (o1:=o1) (o2:=o2) (o3:=o3) (sl:=sl) (tg:=tg) hlt hsz hfew hwt).1
 exact ⟨_,_,hd,hk f hf⟩
theorem c_names (L : LibF pr F) (hlt : n < H1.length) (hsz : cs ≠ [] → z = 9) (hfew : cs.length ≤ 6000) (hwt : wL wCls cs ≤ 42000000)
  (hk : ∀ (f : Int × Int) (es' : List (Str × AV)),(f.1 = 0 → es' = mapOf 0 cs ∧ Unlike cs) → K (.agg (fltRow f.1 f.2)) ⟨hp H1 n b (x :: .map es' :: .cells [.list z tg (cs.map clsRow),.map (H1.length + 1),ab,o1,o2,o3,sl] :: J),rw⟩) :
  ClAt pr F 101 [.ptr (H1.length + 2) 0] ⟨hp H1 n b (x :: .map [] :: .cells [.list z tg (cs.map clsRow),.map (H1.length + 1),ab,o1,o2,o3,sl] :: J),rw⟩ K:=by
 have T:=tab_own (b:=b) (x:=x) (es:=[]) (J:=J) (ab:=ab) (o1:=o1) (o2:=o2) (o3:=o3) (sl:=sl) (tg:=tg) hlt hsz hfew hwt
 obtain ⟨f,es',hf,hd⟩:=det_names L.toLibD (rw:=rw) T.1 T.2
 rw [hp_set_own hlt 1] at hd
 exact ⟨_,_,hd,hk f es' hf⟩
theorem tabM_own (hlt : n < H1.length) (hsz : cs ≠ [] → z = 9) (hfew : cs.length ≤ 6000) (hwt : wL wCls cs ≤ 42000000) : TabM (hp H1 n b (x :: .map (mapOf 0 cs) :: .cells [.list z tg (cs.map clsRow),.map (H1.length + 1),ab,o1,o2,o3,sl] :: J)) (H1.length + 2) (H1.length + 1) cs z tg ab o1 o2 o3 sl:=by
 have T:=tab_own (b:=b) (x:=x) (es:=mapOf 0 cs) (J:=J) (ab:=ab) (o1:=o1) (o2:=o2) (o3:=o3) (sl:=sl) (tg:=tg) hlt hsz hfew hwt
 exact {T.1 with mp:=T.2}
theorem c_links (L : LibF pr F) (hlt : n < H1.length) (hsz : cs ≠ [] → z = 9) (hfew : cs.length ≤ 6000) (hwt : wL wCls cs ≤ 42000000) (hbg : ∀ c ∈ cs,c.above.length ≤ 42000000)
  (hk : ∀ f : Int × Int,(f.1 = 0 → Linked cs) → K (.agg (fltRow f.1 f.2)) ⟨hp H1 n b (x :: .map (mapOf 0 cs) :: .cells [.list z tg (cs.map clsRow),.map (H1.length + 1),ab,o1,o2,o3,sl] :: J),rw⟩) :
  ClAt pr F 102 [.ptr (H1.length + 2) 0] ⟨hp H1 n b (x :: .map (mapOf 0 cs) :: .cells [.list z tg (cs.map clsRow),.map (H1.length + 1),ab,o1,o2,o3,sl] :: J),rw⟩ K:=by
 obtain ⟨f,hf,hd⟩:=det_links L.toLibD (rw:=rw) (tabM_own (b:=b) (x:=x) (J:=J) (ab:=ab) (o1:=o1) (o2:=o2) (o3:=o3) (sl:=sl) (tg:=tg) hlt hsz hfew hwt) hbg
 exact ⟨_,_,hd,hk f hf⟩
theorem tabL_own (hlt : n < H1.length) (hsz : cs ≠ [] → z = 9) (hfew : cs.length ≤ 6000) (hwt : wL wCls cs ≤ 42000000) (hun : Unlike cs) (hli : Linked cs) : TabL (hp H1 n b (x :: .map (mapOf 0 cs) :: .cells [.list z tg (cs.map clsRow),.map (H1.length + 1),ab,o1,o2,o3,sl] :: J)) (H1.length + 2) (H1.length + 1) cs z tg ab o1 o2 o3 sl:=
 {tabM_own hlt hsz hfew hwt with linked:=hli,unlike:=hun,wt:=hwt}
theorem c_circle (L : LibF pr F) (hlt : n < H1.length) (hsz : cs ≠ [] → z = 9) (hfew : cs.length ≤ 6000) (hwt : wL wCls cs ≤ 42000000) (hun : Unlike cs) (hli : Linked cs)
  (hk : ∀ (f : Int × Int) (rw' : List Nat),(f.1 = 0 → ∀ i,i < cs.length → ¬Up cs i i) → Rx rw rw' → K (.agg (fltRow f.1 f.2)) ⟨hp H1 n b (x :: .map (mapOf 0 cs) :: .cells [.list z tg (cs.map clsRow),.map (H1.length + 1),ab,o1,o2,o3,sl] :: J),rw'⟩) :
  ClAt pr F 103 [.ptr (H1.length + 2) 0] ⟨hp H1 n b (x :: .map (mapOf 0 cs) :: .cells [.list z tg (cs.map clsRow),.map (H1.length + 1),ab,o1,o2,o3,sl] :: J),rw⟩ K:=by
 obtain ⟨f,rw',hf,hR,hd⟩:=det_circle L.toLibE (rw:=rw) (tabL_own (b:=b) (x:=x) (J:=J) (ab:=ab) (o1:=o1) (o2:=o2) (o3:=o3) (sl:=sl) (tg:=tg) hlt hsz hfew hwt hun hli)
 exact ⟨_,_,hd,hk f rw' hf hR⟩
theorem c_climb (L : LibF pr F) (hlt : n < H1.length) (hsz : cs ≠ [] → z = 9) (hfew : cs.length ≤ 6000) (hwt : wL wCls cs ≤ 42000000) (hun : Unlike cs) (hli : Linked cs) (hok : ∀ c ∈ cs,okCls c) (hac : ∀ i,i < cs.length → ¬Up cs i i)
  (hk : ∀ (U : List (List Nat)) (zb : Nat) (tb : Tag) (rw' : List Nat),Rx rw rw' → (∀ J',TabU (hp H1 n b (x :: .map (mapOf 0 cs) :: .cells [.list z tg (cs.map clsRow),.map (H1.length + 1),.list zb tb (U.map upRow),o1,o2,o3,sl] :: J')) (H1.length + 2) (H1.length + 1) cs z tg zb tb U o1 o2 o3 sl) →
   K (.tup []) ⟨hp H1 n b (x :: .map (mapOf 0 cs) :: .cells [.list z tg (cs.map clsRow),.map (H1.length + 1),.list zb tb (U.map upRow),o1,o2,o3,sl] :: J),rw'⟩) :
  ClAt pr F 104 [.ptr (H1.length + 2) 0] ⟨hp H1 n b (x :: .map (mapOf 0 cs) :: .cells [.list z tg (cs.map clsRow),.map (H1.length + 1),.list 0 .full [],o1,o2,o3,sl] :: J),rw⟩ K:=by
 obtain ⟨U,ab',rw',hl,hu,hab,hR,hd⟩:=det_climb L.toLibE (rw:=rw) (tabL_own (b:=b) (x:=x) (J:=J) (o1:=o1) (o2:=o2) (o3:=o3) (sl:=sl) (tg:=tg) hlt hsz hfew hwt hun hli)
 rw [hp_set_own hlt 2] at hd
 obtain ⟨zb,tb,rfl,hzb,-⟩:=hab
 refine ⟨_,_,hd,hk U zb tb rw' hR fun J' => ?_⟩
 exact {tabL_own (b:=b) (x:=x) (J:=J') (o1:=o1) (o2:=o2) (o3:=o3) (sl:=sl) (tg:=tg) hlt hsz hfew hwt hun hli with okc:=hok,ulen:=hl,ups:=hu,acyc:=hac,zbs:=fun h => hzb (by simpa using h)}
end
end Go.Proofs.YtmeakjgbjldkdaaGreat.Ai
namespace Go.Proofs.YtmeakjgbjldkdaaGreat.Ai
open Go
variable {pr : Prims} {F : Nat → Option IFn}
def NewQ (H : List Blk) (rw : List Nat) (cs : List Cls) (r : Res) (S' : St) : Prop:=
 (∃ (f : Int × Int) (rw' : List Nat),f.1 ≠ 0 ∧ Rx rw rw' ∧ r = .ret (.tup [.nilp,.agg (fltRow f.1 f.2)]) ∧ S' = ⟨H,rw'⟩) ∨
 (∃ (H' : List Blk) (rw' : List Nat) (n mb z zb : Nat) (tg tb : Tag) (U : List (List Nat)),Keep H H' ∧ H.length ≤ n ∧ Rx rw rw' ∧ TabU H' n mb cs z tg zb tb U (.int .u32 0) (.int .i32 0) (.int .u32 0) (.list 0 .full []) ∧ allOk cs U ∧ Few cs ∧ r = .ret (.tup [.ptr n 0,.agg (fltRow 0 0)]) ∧ S' = ⟨H',rw'⟩)
def newQ (q : Nat) (cs : List Cls) : Prop:=(1 ≤ q → Few cs) ∧ (2 ≤ q → Unlike cs) ∧ (3 ≤ q → Linked cs) ∧ (4 ≤ q → ∀ i,i < cs.length → ¬Up cs i i)
theorem wp_new (L : LibF pr F) (p : Prg) (hok : okPrg p) (hwt : wL wCls p.classes ≤ 42000000) (hfew : p.classes.length ≤ 6000) (H : List Blk) (rw : List Nat) : Wp pr F 55 [.agg (prgRow p)] ⟨H,rw⟩ (NewQ H rw p.classes):=by
 have hm:=L.hm
 obtain ⟨cs,mn⟩:=p
 simp only at hwt hfew
 obtain ⟨hokc,-⟩:=hok
 simp only at hokc
 obtain ⟨z,tg,hz,hz2,hz3⟩:=isL_lst (sz:=9) (rows:=cs.map clsRow)
 have hsz : cs ≠ [] → z = 9:=fun h => hz2 (by simpa using h)
 have hlc : (cs.map clsRow).length = cs.length:=List.length_map _
 have hbg : ∀ c ∈ cs,c.above.length ≤ 42000000:=fun c hc => by
  have h1:=wL_mem wCls hc
  have h2:=above_len c
  omega
 refine at_start hm L.f55.1 L.f55.2 rfl ?_
 refine at_seq hm ?_
 unfold r55_0
 show At pr F H.length (fin _ H.length _) _ _ _ _
 refine at_first0 hm ?_
 intro H1 hH1 hlen hlt
 refine' stH
 refine in_alloc (q:=H.length) rfl rfl (hp_get hlt) ?_
 simp only [prgRow,hz]
 refine' stH
 refine g_mkMap (q:=1) (M':=[.cells [.list z tg (cs.map clsRow),lst 7 (smRows mn)],.map []]) hlt rfl rfl rfl ?_
 refine zrk6 ?_
 refine g_q rfl (v:=.agg [.list z tg (cs.map clsRow),.map (H1.length + 1),.list 0 .full [],.int .u32 0,.int .i32 0,.int .u32 0,.list 0 .full []]) rfl ?_
 refine g_box (q:=2) (M':=[.cells [.list z tg (cs.map clsRow),lst 7 (smRows mn)],.map [],.cells [.list z tg (cs.map clsRow),.map (H1.length + 1),.list 0 .full [],.int .u32 0,.int .i32 0,.int .u32 0,.list 0 .full []]]) hlt rfl rfl rfl rfl rfl ?_
 refine zrk6 ?_
 refine' stH
 refine g_mkArr (q:=3) (M':=[.cells [.list z tg (cs.map clsRow),lst 7 (smRows mn)],.map [],.cells [.list z tg (cs.map clsRow),.map (H1.length + 1),.list 0 .full [],.int .u32 0,.int .i32 0,.int .u32 0,.list 0 .full []],.cells [.func 100 [.ptr (H1.length + 2) 0] [],.func 101 [.ptr (H1.length + 2) 0] [],.func 102 [.ptr (H1.length + 2) 0] [],.func 103 [.ptr (H1.length + 2) 0] []]]) hlt rfl rfl rfl rfl rfl ?_
 refine zrk6 ?_
 refine' stH
 refine at_loop hm (fun mm e S' => ∃ (q : Nat) (J : List Blk) (rw' : List Nat),S' = ⟨hp H1 H.length (.cells [.int .i64 0,.int .i64 0]) (.cells [.list z tg (cs.map clsRow),lst 7 (smRows mn)] :: .map (if q < 2 then [] else mapOf 0 cs) :: .cells [.list z tg (cs.map clsRow),.map (H1.length + 1),.list 0 .full [],.int .u32 0,.int .i32 0,.int .u32 0,.list 0 .full []] :: .cells [.func 100 [.ptr (H1.length + 2) 0] [],.func 101 [.ptr (H1.length + 2) 0] [],.func 102 [.ptr (H1.length + 2) 0] [],.func 103 [.ptr (H1.length + 2) 0] []] :: J),rw'⟩ ∧ q ≤ 4 ∧ newQ q cs ∧ Rx rw rw' ∧ mm = 4 - q ∧
  e = [(3,.ptr H.length 0),(4,.ptr (H1.length + 2) 0),(25,.arr (H1.length + 3) 0 1 4),(26,.int .i64 4),(27,.int .i64 q)]) ?_ (m:=4) ⟨0,[],rw,rfl,by omega,⟨fun h => by omega,fun h => by omega,fun h => by omega,fun h => by omega⟩,Rx.rfl,rfl,rfl⟩
 rintro mm e S' ⟨q,J,rw',rfl,hq4,hQ,hR,rfl,rfl⟩
 have hq5 : q = 0 ∨ q = 1 ∨ q = 2 ∨ q = 3 ∨ q = 4:=by omega
 rcases hq5 with rfl | rfl | rfl | rfl | rfl
 ·
  refine' stH
  refine g_callC rfl rfl rfl rfl ?_
  refine c_few L hlt hsz hfew hwt fun f hf => ?_
  refine zrk6 ?_
  refine' stH
  ·exact fin_nil hH1 rfl rfl (row_flt f.1 f.2) (.inl ⟨f,rw',by assumption,hR,rfl,rfl⟩)
  ·exact ⟨3,by omega,1,_,rw',rfl,by omega,⟨fun _ => hf (by assumption),fun h => by omega,fun h => by omega,fun h => by omega⟩,hR,rfl,rfl⟩
 ·
  refine' stH
  refine g_callC rfl rfl rfl rfl ?_
  refine c_names L hlt hsz hfew hwt fun f es' hf => ?_
  refine zrk6 ?_
  refine' stH
  ·exact fin_nil hH1 rfl rfl (row_flt f.1 f.2) (.inl ⟨f,rw',by assumption,hR,rfl,rfl⟩)
  ·obtain ⟨rfl,hu⟩:=hf (by assumption)
   exact ⟨2,by omega,2,_,rw',rfl,by omega,⟨fun _ => hQ.1 (by omega),fun _ => hu,fun h => by omega,fun h => by omega⟩,hR,rfl,rfl⟩
 ·
  refine' stH
  refine g_callC rfl rfl rfl rfl ?_
  refine c_links L hlt hsz hfew hwt hbg fun f hf => ?_
  refine zrk6 ?_
  refine' stH
  ·exact fin_nil hH1 rfl rfl (row_flt f.1 f.2) (.inl ⟨f,rw',by assumption,hR,rfl,rfl⟩)
  ·exact ⟨1,by omega,3,_,rw',rfl,by omega,⟨fun _ => hQ.1 (by omega),fun _ => hQ.2.1 (by omega),fun _ => hf (by assumption),fun h => by omega⟩,hR,rfl,rfl⟩
 ·
  refine' stH
  refine g_callC rfl rfl rfl rfl ?_
  refine c_circle L hlt hsz hfew hwt (hQ.2.1 (by omega)) (hQ.2.2.1 (by omega)) fun f rw2 hf hR2 => ?_
  refine zrk6 ?_
  refine' stH
  ·exact fin_nil hH1 rfl rfl (row_flt f.1 f.2) (.inl ⟨f,rw2,by assumption,hR.trans hR2,rfl,rfl⟩)
  ·exact ⟨0,by omega,4,_,rw2,rfl,by omega,⟨fun _ => hQ.1 (by omega),fun _ => hQ.2.1 (by omega),fun _ => hQ.2.2.1 (by omega),fun _ => hf (by assumption)⟩,hR.trans hR2,rfl,rfl⟩
 ·
  obtain ⟨hfw,hun,hli,hac⟩:=hQ
  replace hfw:=hfw (by omega)
  replace hun:=hun (by omega)
  replace hli:=hli (by omega)
  replace hac:=hac (by omega)
  refine' stH
  refine g_call rfl rfl rfl ?_
  refine c_climb L hlt hsz hfew hwt hun hli hokc hac fun U zb tb rw2 hR2 hT => ?_
  refine zrk6 ?_
  replace hR:=hR.trans hR2
  refine' stH
  refine at_loop hm (fun mm e S' => ∃ (i : Nat) (J : List Blk) (rw' : List Nat),S' = ⟨hp H1 H.length (.cells [.int .i64 0,.int .i64 0]) (.cells [.list z tg (cs.map clsRow),lst 7 (smRows mn)] :: .map (mapOf 0 cs) :: .cells [.list z tg (cs.map clsRow),.map (H1.length + 1),.list zb tb (U.map upRow),.int .u32 0,.int .i32 0,.int .u32 0,.list 0 .full []] :: J),rw'⟩ ∧ i ≤ cs.length ∧ Rx rw rw' ∧ (∀ k c,k < i → cs[k]? = some c → memOk cs U k c) ∧ mm = cs.length - i ∧
   e = [(3,.ptr H.length 0),(4,.ptr (H1.length + 2) 0),(44,.int .i64 ((cs.map clsRow).length : Int)),(45,.int .i64 i)]) ?_ (m:=cs.length) ⟨0,_,_,rfl,by omega,hR,fun k c h => by omega,rfl,rfl⟩
  clear hR hR2
  clear rw2 J
  rintro mm e S' ⟨i,J,rw',rfl,hi,hR,hmem,rfl,rfl⟩
  by_cases hi1 : i < cs.length
  ·obtain ⟨c,hc⟩ : ∃ c,cs[i]? = some c:=⟨_,List.getElem?_eq_getElem hi1⟩
   refine' stH
   obtain ⟨f,rw2,hf,hR2,hd⟩:=det_members L.toLibE (hT (J ++ [.cells [.int .i64 0,.int .i64 0]])) hc (rw:=rw')
   refine g_call rfl rfl rfl ?_
   refine c_det hd ?_
   refine zrk6 ?_
   refine' stH
   ·exact fin_nil hH1 rfl rfl (row_flt f.1 f.2) (.inl ⟨f,rw2,by assumption,hR.trans hR2,rfl,rfl⟩)
   ·refine ⟨cs.length - (i + 1),by omega,i + 1,_,rw2,rfl,by omega,hR.trans hR2,?_,rfl,rfl⟩
    intro k d hk hd2
    by_cases e2 : k = i
    ·subst e2
     rw [hc] at hd2
     simp only [Option.some.injEq] at hd2
     subst hd2
     exact hf (by assumption)
    ·exact hmem k d (by omega) hd2
  ·refine' stH
   have hmem' : ∀ k c,cs[k]? = some c → memOk cs U k c:=fun k c hk => hmem k c (by have:=(List.getElem?_eq_some_iff.1 hk).1; omega) hk
   refine at_loop hm (fun mm e S' => ∃ (i : Nat) (J : List Blk) (rw' : List Nat),S' = ⟨hp H1 H.length (.cells [.int .i64 0,.int .i64 0]) (.cells [.list z tg (cs.map clsRow),lst 7 (smRows mn)] :: .map (mapOf 0 cs) :: .cells [.list z tg (cs.map clsRow),.map (H1.length + 1),.list zb tb (U.map upRow),.int .u32 0,.int .i32 0,.int .u32 0,.list 0 .full []] :: J),rw'⟩ ∧ i ≤ cs.length ∧ Rx rw rw' ∧ (∀ k c,k < i → cs[k]? = some c → ∀ a ∈ U.getD k [],fulOk cs U c a) ∧ mm = cs.length - i ∧
    e = [(3,.ptr H.length 0),(4,.ptr (H1.length + 2) 0),(60,.int .i64 ((cs.map clsRow).length : Int)),(61,.int .i64 i)]) ?_ (m:=cs.length) ⟨0,_,_,rfl,by omega,hR,fun k c h => by omega,rfl,rfl⟩
   clear hR hmem hi1 hi
   clear i rw' J
   rintro mm e S' ⟨i,J,rw',rfl,hi,hR,hful,rfl,rfl⟩
   by_cases hi1 : i < cs.length
   ·obtain ⟨c,hc⟩ : ∃ c,cs[i]? = some c:=⟨_,List.getElem?_eq_getElem hi1⟩
    refine' stH
    obtain ⟨f,rw2,hf,hR2,hd⟩:=det_fulfils L.toLibE (hT (J ++ [.cells [.int .i64 0,.int .i64 0]])) hc (rw:=rw')
    refine g_call rfl rfl rfl ?_
    refine c_det hd ?_
    refine zrk6 ?_
    refine' stH
    ·exact fin_nil hH1 rfl rfl (row_flt f.1 f.2) (.inl ⟨f,rw2,by assumption,hR.trans hR2,rfl,rfl⟩)
    ·refine ⟨cs.length - (i + 1),by omega,i + 1,_,rw2,rfl,by omega,hR.trans hR2,?_,rfl,rfl⟩
     intro k d hk hd2
     by_cases e2 : k = i
     ·subst e2
      rw [hc] at hd2
      simp only [Option.some.injEq] at hd2
      subst hd2
      exact hf (by assumption)
     ·exact hful k d (by omega) hd2
   ·refine' stH
    exact fin_tab hH1 rfl rfl (row_flt 0 0) (.inr ⟨_,rw',_,_,z,zb,tg,tb,U,keep_first hH1 _ _,by omega,hR,hT _,fun k c hk => ⟨hmem' k c hk,hful k c (by have:=(List.getElem?_eq_some_iff.1 hk).1; omega) hk⟩,hfw,rfl,rfl⟩)
end Go.Proofs.YtmeakjgbjldkdaaGreat.Ai
namespace Go.Proofs.YtmeakjgbjldkdaaGreat.Ai
open Go
variable {pr : Prims} {F : Nat → Option IFn}
theorem fin_pair {H H1 M : List Blk} {rw : List Nat} {z b : Blk} {u v : AV} {t w : Nat} {e : Env} {Q : Res → St → Prop} (hH : H1 = H ++ [z]) (he : eget e t = some u) (hw : eget e w = some v) (hb : Ai.belowL H.length [u,v] = true) (h : Q (.ret (.tup [u,v])) ⟨H,rw⟩) :
  fin [.tmp t,.tmp w] H.length Q .ret e ⟨hp H1 H.length b M,rw⟩:=by
 subst hH
 exact fin_tup (by simp only [rvals,he,hw]) hb take_own h
theorem fin_keep {H' : List Blk} {rw : List Nat} {k n0 z : Nat} {tg : Tag} {rows : List (List AV)} {t w : Nat} {e : Env} {Q : Res → St → Prop} (hk : n0 ≤ k) (he : eget e t = some (.ptr k 0)) (hw : eget e w = some (.list z tg rows)) (h : Q (.ret (.tup [.ptr k 0,.list z tg rows])) ⟨H',rw⟩) :
  fin [.tmp t,.tmp w] n0 Q .ret e ⟨H',rw⟩:=by
 have e2 : rvals [.tmp t,.tmp w] e H' = some [.ptr k 0,.list z tg rows]:=by simp only [rvals,he,hw]
 have h5 : Ai.below n0 (.tup [.ptr k 0,.list z tg rows]) = false:=by simp [Ai.below,Ai.belowL]; omega
 simp only [fin,e2,packed,leave,h5,freeze,freeze1,List.map_cons,List.map_nil,Bool.false_eq_true,if_false]
 exact h
def TableQ (H : List Blk) (rw : List Nat) (cs : List Cls) (r : Res) (S' : St) : Prop:=
 (∃ rw',Rx rw rw' ∧ r = .ret (.tup [.nilp,.list 0 .full []]) ∧ S' = ⟨H,rw'⟩) ∨
 (∃ (H' : List Blk) (rw' : List Nat) (n mb z zb : Nat) (tg tb : Tag) (U : List (List Nat)),Keep H H' ∧ H.length ≤ n ∧ Rx rw rw' ∧ cs.length ≤ 70 ∧ TabU H' n mb cs z tg zb tb U (.int .u32 0) (.int .i32 0) (.int .u32 0) (.list 0 .full []) ∧ allOk cs U ∧ Few cs ∧ r = .ret (.tup [.ptr n 0,lst 9 (cs.map clsRow)]) ∧ S' = ⟨H',rw'⟩)
theorem wp_table (L : LibF pr F) {x : Str} {p : Prg} {ok : Bool} (hrd : RdOk pr F x p ok) (H : List Blk) (rw : List Nat) : Wp pr F 19 [.str x] ⟨H,rw⟩ (TableQ H rw p.classes):=by
 have hm:=L.hm
 refine at_start hm L.f19.1 L.f19.2 rfl ?_
 refine' hGO
 unfold r19_1
 show At pr F H.length (fin _ H.length _) _ _ _ _
 refine at_first0 hm ?_
 intro H1 hH1 hlen hlt
 refine' stH
 obtain ⟨hgood,hrd⟩:=hrd
 have hd:=hrd (hp H1 H.length (.cells [.list 0 .full [],.list 0 .full []]) []) rw
 have hR : Rx rw rw:=Rx.rfl
 refine g_call rfl rfl rfl ?_
 refine c_det hd ?_
 clear hd
 refine zrk6 ?_
 refine' stH
 refine in_alloc (q:=H.length) rfl rfl (hp_get hlt) ?_
 refine' stH
 ·exact fin_pair hH1 rfl rfl rfl (.inl ⟨rw,hR,rfl,rfl⟩)
 have hok : ok = true:=by simpa using hq
 obtain ⟨hp1,hp2,hp3⟩:=hgood hok
 obtain ⟨r,S',hd,hN⟩:=(wp_new L p hp1 (by omega) (by omega) (hp H1 H.length (.cells (prgRow p)) [.cells [.int .i64 0,.int .i64 0]]) rw).det hm
 rcases hN with ⟨f,rw2,hf,hR2,rfl,rfl⟩ | ⟨H',rw2,n,mb,z,zb,tg,tb,U,hK,hn,hR2,T,hall,hfw,rfl,rfl⟩
 ·refine g_call rfl rfl rfl ?_
  refine c_det hd ?_
  refine zrk6 ?_
  refine' stH
  exact fin_pair hH1 rfl rfl rfl (.inl ⟨rw2,hR.trans hR2,rfl,rfl⟩)
 ·have hk1 : H'[H1.length]? = some (.cells [.int .i64 0,.int .i64 0]):=hK _ _ ((hp_own hlt 0).trans rfl)
  have hk0 : H'[H.length]? = some (.cells (prgRow p)):=hK _ _ (hp_get hlt)
  have hlt2 : H1.length < H'.length:=(List.getElem?_eq_some_iff.1 hk1).1
  have hF:=froz_n (n:=H1.length) (by omega) hk0
  have hKH : Keep H H':=fun k c hkc => hK k c (froz_first hH1 hkc _ _)
  have hfl : fltRow 0 0 = [.int .i64 0,.int .i64 0]:=rfl
  rw [hp_len] at hn
  refine g_call rfl rfl rfl ?_
  refine c_det hd ?_
  rw [← st_of hk1]
  clear hd
  clear hlt
  have hlt:=hlt2
  refine zrk6 ?_
  refine' stH
  refine in_alloc (q:=H1.length) rfl rfl (hp_get hlt) ?_
  refine' stH
  refine g_store rfl rfl rfl ?_
  refine s_n hlt (by omega) rfl rfl rfl ?_
  refine zrk6 ?_
  refine' stH
  obtain ⟨cs,mn⟩:=p
  obtain ⟨z2,tg2,hz2,-,-⟩:=isL_lst (sz:=9) (rows:=cs.map clsRow)
  rw [hz2]
  refine fin_keep (by omega) rfl rfl (.inr ⟨H',rw2,n,mb,z,zb,tg,tb,U,hKH,by omega,hR.trans hR2,hp2,T,hall,hfw,by rw [hz2],?_⟩)
  exact st_of hk1
end Go.Proofs.YtmeakjgbjldkdaaGreat.Ai
namespace Go.Proofs.YtmeakjgbjldkdaaGreat.Ai
open Go
set_option maxRecDepth 100000
set_option maxHeartbeats 16000000
def F13a : {l : List IC // Tr.fn Tr.TT Tryz.f13 0 [[],[1,2],[1,18],[0],[1,3,4],[1,3,4,6,7],[0]] = l}:=⟨_,by cbv⟩
def r13_0 : IC:=Tr.pk F13a.1 0
def r13_1 : IC:=Tr.pk F13a.1 1
def r13_2 : IC:=Tr.pk F13a.1 2
def r13_3 : IC:=Tr.pk F13a.1 3
def r13_4 : IC:=Tr.pk F13a.1 4
def r13_5 : IC:=Tr.pk F13a.1 5
def r13_6 : IC:=Tr.pk F13a.1 6
noncomputable def i13 : IFn:=⟨0,(.seq r13_0 (.seq r13_1 (.seq (.seq r13_2 (.cond (.tmp 18) (.seq r13_3 .ret) (.skip))) (.seq r13_4 (.seq r13_5 (.seq r13_6 .ret)))))),[.tmp 0]⟩
theorem c13 : chkFn Tryz.prog Tryz.f13 i13 = true:=by kernel_rfl
def F22a : {l : List IC // Tr.fn Tr.TT Tryz.f22 0 [[1],[1],[2]] = l}:=⟨_,by cbv⟩
def r22_0 : IC:=Tr.pk F22a.1 0
def r22_1 : IC:=Tr.pk F22a.1 1
def r22_2 : IC:=Tr.pk F22a.1 2
noncomputable def i22 : IFn:=⟨1,(.seq r22_0 (.seq r22_1 (.seq r22_2 .ret))),[.tmp 2]⟩
theorem c22 : chkFn Tryz.prog Tryz.f22 i22 = true:=by kernel_rfl
def F25a : {l : List IC // Tr.fn Tr.TT Tryz.f25 0 [[0,1],[0,1,5],[0,1,5,12,13,14],[0,1,5,12,13,14,15],[0,1,5,7,12,13,14],[0,1,5,7,8,12,13,14],[0,1,5,8,9,10,12,13,14],[0,1,5,8,9,12,13,14,25],[0,1,5,8,12,13,14],[0,1,5,12,13,14],[0,1,5,12,13,14],[4]] = l}:=⟨_,by cbv⟩
def r25_0 : IC:=Tr.pk F25a.1 0
def r25_1 : IC:=Tr.pk F25a.1 1
def r25_2 : IC:=Tr.pk F25a.1 2
def r25_3 : IC:=Tr.pk F25a.1 3
def r25_4 : IC:=Tr.pk F25a.1 4
def r25_5 : IC:=Tr.pk F25a.1 5
def r25_6 : IC:=Tr.pk F25a.1 6
def r25_7 : IC:=Tr.pk F25a.1 7
def r25_8 : IC:=Tr.pk F25a.1 8
def r25_9 : IC:=Tr.pk F25a.1 9
def r25_10 : IC:=Tr.pk F25a.1 10
def r25_11 : IC:=Tr.pk F25a.1 11
noncomputable def i25 : IFn:=⟨2,(.seq r25_0 (.seq r25_1 (.seq (.seq r25_2 (.block 0 (.loop [0,1,5,12,13,14] (.seq r25_3 (.seq (.cond (.tmp 15) (.skip) (.exit 0)) (.seq (.block 1 (.seq r25_4 (.seq r25_5 (.seq (.seq r25_6 (.seq r25_7 (.cond (.tmp 25) r25_8 (.skip)))) r25_9)))) r25_10)))))) (.seq r25_11 .ret)))),[.tmp 4]⟩
theorem c25 : chkFn Tryz.prog Tryz.f25 i25 = true:=by kernel_rfl
def F35a : {l : List IC // Tr.fn Tr.TT Tryz.f35 0 [[0,1,2],[0,2,7,8],[0,7,8,9,10],[6]] = l}:=⟨_,by cbv⟩
def r35_0 : IC:=Tr.pk F35a.1 0
def r35_1 : IC:=Tr.pk F35a.1 1
def r35_2 : IC:=Tr.pk F35a.1 2
def r35_3 : IC:=Tr.pk F35a.1 3
noncomputable def i35 : IFn:=⟨3,(.seq r35_0 (.seq r35_1 (.seq r35_2 (.seq r35_3 .ret)))),[.tmp 6]⟩
theorem c35 : chkFn Tryz.prog Tryz.f35 i35 = true:=by kernel_rfl
def F59a : {l : List IC // Tr.fn Tr.TT Tryz.f59 0 [[0,8,9,10],[0,8,9,10,11],[0,2,8,9,10],[0,8,9,10,15,16,17],[0,8,9,10,15,16,17,18],[0,4,8,9,10,15,16,17],[0,8,9,10,15,16,17],[0,8,9,10,15,16,17],[0,8,9,10],[0],[]] = l}:=⟨_,by cbv⟩
def r59_0 : IC:=Tr.pk F59a.1 0
def r59_1 : IC:=Tr.pk F59a.1 1
def r59_2 : IC:=Tr.pk F59a.1 2
def r59_3 : IC:=Tr.pk F59a.1 3
def r59_4 : IC:=Tr.pk F59a.1 4
def r59_5 : IC:=Tr.pk F59a.1 5
def r59_6 : IC:=Tr.pk F59a.1 6
def r59_7 : IC:=Tr.pk F59a.1 7
def r59_8 : IC:=Tr.pk F59a.1 8
def r59_9 : IC:=Tr.pk F59a.1 9
def r59_10 : IC:=Tr.pk F59a.1 10
noncomputable def i59 : IFn:=⟨1,(.seq (.seq r59_0 (.block 0 (.loop [0,8,9,10] (.seq r59_1 (.seq (.cond (.tmp 11) (.skip) (.exit 0)) (.seq (.block 1 (.seq r59_2 (.seq r59_3 (.block 2 (.loop [0,8,9,10,15,16,17] (.seq r59_4 (.seq (.cond (.tmp 18) (.skip) (.exit 2)) (.seq (.block 3 (.seq r59_5 r59_6)) r59_7)))))))) r59_8)))))) (.seq r59_9 r59_10)),[]⟩
theorem c59 : chkFn Tryz.prog Tryz.f59 i59 = true:=by kernel_rfl
def F60a : {l : List IC // Tr.fn Tr.TT Tryz.f60 0 [[0,2],[]] = l}:=⟨_,by cbv⟩
def r60_0 : IC:=Tr.pk F60a.1 0
def r60_1 : IC:=Tr.pk F60a.1 1
noncomputable def i60 : IFn:=⟨1,(.seq r60_0 r60_1),[]⟩
theorem c60 : chkFn Tryz.prog Tryz.f60 i60 = true:=by kernel_rfl
def r61_0 : IC:=.region [] [Qk 0 2 (.list 0 .full [])] [0]
def r61_1 : IC:=.region [] [Qm 0 6 0,Qn 1 7 6,Qv 2 8 .lss 7 (Qz 2)] [0,8]
def r61_2 : IC:=.region [] [Qm 0 9 0,Qm 1 2 9] [2]
def r61_3 : IC:=.region [] [Qk 0 3 (Qz 1)] [0,3]
def r61_4 : IC:=.region [] [Qm 0 10 3,Qm 1 11 0,Qn 2 12 11,Qb 3 13 .lss 10 12] [0,3,13]
def r61_5 : IC:=.region [] [Qm 0 16 0,Qm 1 17 3,Qi 2 18 1 16 17,Qd 3 19 18,Qm 4 20 0,Qm 5 21 3,Qv 6 22 .sub 21 (Qz 1),Qi 7 23 1 20 22,Qd 8 24 23,Qb 9 25 .eql 19 24] [0,3,25]
def r61_6 : IC:=.region [] [Qm 0 26 0,Qm 1 27 3,Qq 2 28 (.slice 1 (.tmp 26) (some (.tmp 27)) none),Qm 3 4 28] [0,3,4]
def r61_7 : IC:=.region [] [Qk 0 5 (Qz 1)] [0,3,4,5]
def r61_8 : IC:=.region [] [Qm 0 29 5,Qm 1 30 4,Qn 2 31 30,Qb 3 32 .lss 29 31] [0,3,4,5,32]
def r61_9 : IC:=.region [] [Qm 0 35 4,Qm 1 36 5,Qi 2 37 1 35 36,Qd 3 38 37,Qm 4 39 4,Qm 5 40 5,Qv 6 41 .sub 40 (Qz 1),Qi 7 42 1 39 41,Qd 8 43 42,Qb 9 44 .neq 38 43] [0,3,4,5,44]
def r61_10 : IC:=.region [] [Qm 0 45 0,Qm 1 46 3,Qm 2 47 4,Qm 3 48 5,Qi 4 49 1 47 48,Qd 5 50 49,Qi 6 51 1 45 46,Qs 7 1 51 50 []] [0,3,4,5]
def r61_11 : IC:=.region [] [Qm 0 52 3,Qv 1 53 .add 52 (Qz 1),Qm 2 3 53] [0,3,4,5]
def r61_12 : IC:=.region [] [Qm 0 33 5,Qv 1 34 .add 33 (Qz 1),Qm 2 5 34] [0,3,4,5]
def r61_13 : IC:=.region [] [Qm 0 57 0,Qm 1 58 3,Qq 2 59 (.slice 1 (.tmp 57) none (some (.tmp 58))),Qm 3 2 59] [2]
def r61_14 : IC:=.region [] [Qm 0 14 3,Qv 1 15 .add 14 (Qz 1),Qm 2 3 15] [0,3]
def r61_15 : IC:=.region [] [Qm 0 60 0,Qm 1 2 60] [2]
noncomputable def i61 : IFn:=⟨1,(.seq r61_0 (.seq (.seq r61_1 (.cond (.tmp 8) (.seq r61_2 .ret) (.skip))) (.seq (.seq r61_3 (.block 0 (.loop [0,3] (.seq (.seq r61_4 (.cond (.tmp 13) (.skip) (.exit 0))) (.seq (.block 1 (.seq r61_5 (.cond (.tmp 25) (.seq r61_6 (.seq (.seq r61_7 (.block 2 (.loop [0,3,4,5] (.seq (.seq r61_8 (.cond (.tmp 32) (.skip) (.exit 2))) (.seq (.block 3 (.seq r61_9 (.cond (.tmp 44) (.seq r61_10 r61_11) (.skip)))) r61_12))))) (.seq .stuck (.seq r61_13 .ret)))) (.skip)))) r61_14))))) (.seq r61_15 .ret)))),[.tmp 2]⟩
theorem c61 : chkFn Tryz.prog Tryz.f61 i61 = true:=by kernel_rfl
def F69a : {l : List IC // Tr.fn Tr.TT Tryz.f69 0 [[0,1],[4]] = l}:=⟨_,by cbv⟩
def r69_0 : IC:=Tr.pk F69a.1 0
def r69_1 : IC:=Tr.pk F69a.1 1
noncomputable def i69 : IFn:=⟨2,(.seq r69_0 (.seq r69_1 .ret)),[.tmp 4]⟩
theorem c69 : chkFn Tryz.prog Tryz.f69 i69 = true:=by kernel_rfl
def F109a : {l : List IC // Tr.fn Tr.TT Tryz.f109 0 [[0,1,2,3,8],[0,1,2,3,8,9],[0,1,2,3,8,9,10],[0,1,2,3,8,9,10,23],[],[0,1,2,3,8,9,10,29],[],[0,1,2,3,8,9,10,35],[0,1,2,3,8,9,10],[0,1,2,3,8,9,10],[0,1,2,3,8,9,10,11,12],[0,1,2,3,8,9,10,11,12,50],[0,1,2,3,8,9,10,11],[0,1,2,3,8,9,10,11],[0,1,2,3,8,9,10,11,12],[0,1,2,3,8,9,10,11,68],[0,1,2,3,8,9,10,11,72],[0,1,2,3,8,9,10,11,87],[0,2,3,8,9,13],[0,1,2,3,8,9],[0,1,2,3,10,14,15],[0,1,2,3,9,10,14],[0,1,2,3,9,10,14,16,17],[0,1,2,3,9,14,16,17,18],[0,1,2,3,9,14,16,17,18,113],[0,1,2,3,8,9,14],[0,2,3,8,9,14],[0,1,2,3,8,9],[0,1,2,3,8,9,14],[0,1,3,8,9,14],[0,1,2,3,8,9]] = l}:=⟨_,by cbv⟩
def r109_0 : IC:=Tr.pk F109a.1 0
def r109_1 : IC:=Tr.pk F109a.1 1
def r109_2 : IC:=Tr.pk F109a.1 2
def r109_3 : IC:=Tr.pk F109a.1 3
def r109_4 : IC:=Tr.pk F109a.1 4
def r109_5 : IC:=Tr.pk F109a.1 5
def r109_6 : IC:=Tr.pk F109a.1 6
def r109_7 : IC:=Tr.pk F109a.1 7
def r109_8 : IC:=Tr.pk F109a.1 8
def r109_9 : IC:=Tr.pk F109a.1 9
def r109_10 : IC:=Tr.pk F109a.1 10
def r109_11 : IC:=Tr.pk F109a.1 11
def r109_12 : IC:=Tr.pk F109a.1 12
def r109_13 : IC:=Tr.pk F109a.1 13
def r109_14 : IC:=Tr.pk F109a.1 14
def r109_15 : IC:=Tr.pk F109a.1 15
def r109_16 : IC:=Tr.pk F109a.1 16
def r109_17 : IC:=Tr.pk F109a.1 17
def r109_18 : IC:=Tr.pk F109a.1 18
def r109_19 : IC:=Tr.pk F109a.1 19
def r109_20 : IC:=Tr.pk F109a.1 20
def r109_21 : IC:=Tr.pk F109a.1 21
def r109_22 : IC:=Tr.pk F109a.1 22
def r109_23 : IC:=Tr.pk F109a.1 23
def r109_24 : IC:=Tr.pk F109a.1 24
def r109_25 : IC:=Tr.pk F109a.1 25
def r109_26 : IC:=Tr.pk F109a.1 26
def r109_27 : IC:=Tr.pk F109a.1 27
def r109_28 : IC:=Tr.pk F109a.1 28
def r109_29 : IC:=Tr.pk F109a.1 29
def r109_30 : IC:=Tr.pk F109a.1 30
noncomputable def i109 : IFn:=⟨4,(.seq r109_0 (.seq r109_1 (.block 0 (.loop [0,1,2,3,8,9] (.block 1 (.seq r109_2 (.seq (.seq r109_3 (.cond (.tmp 23) (.seq r109_4 .ret) (.skip))) (.seq (.seq r109_5 (.cond (.tmp 29) (.seq r109_6 .ret) (.skip))) (.seq (.seq r109_7 (.cond (.tmp 35) (.seq r109_8 r109_9) (.skip))) (.seq r109_10 (.seq (.seq r109_11 (.cond (.tmp 50) (.seq r109_12 (.seq r109_13 r109_14)) (.skip))) (.seq (.seq r109_15 (.cond (.tmp 68) (.seq r109_16 (.cond (.tmp 72) .ret (.skip))) (.skip))) (.seq (.seq r109_17 (.cond (.tmp 87) (.seq r109_18 (.seq r109_19 (.exit 1))) (.skip))) (.seq r109_20 (.seq r109_21 (.seq r109_22 (.seq r109_23 (.seq r109_24 (.cond (.tmp 113) (.seq r109_25 (.seq r109_26 r109_27)) (.seq r109_28 (.seq r109_29 r109_30))))))))))))))))))))),[]⟩
theorem c109 : chkFn Tryz.prog Tryz.f109 i109 = true:=by kernel_rfl
def F110a : {l : List IC // Tr.fn Tr.TT Tryz.f110 0 [[0],[2],[2]] = l}:=⟨_,by cbv⟩
def r110_0 : IC:=Tr.pk F110a.1 0
def r110_1 : IC:=Tr.pk F110a.1 1
def r110_2 : IC:=Tr.pk F110a.1 2
noncomputable def i110 : IFn:=⟨1,(.seq r110_0 (.seq (.cond (.const (.bool false)) (.seq r110_1 .ret) (.skip)) (.seq r110_2 .ret))),[.tmp 2]⟩
theorem c110 : chkFn Tryz.prog Tryz.f110 i110 = true:=by kernel_rfl
def F111a : {l : List IC // Tr.fn Tr.TT Tryz.f111 0 [[0,1],[0,1,7,8],[0,1,7,8,9],[0,1,5,7,8],[0,1,5,7,8,16],[4],[0,1,7,8],[4]] = l}:=⟨_,by cbv⟩
def r111_0 : IC:=Tr.pk F111a.1 0
def r111_1 : IC:=Tr.pk F111a.1 1
def r111_2 : IC:=Tr.pk F111a.1 2
def r111_3 : IC:=Tr.pk F111a.1 3
def r111_4 : IC:=Tr.pk F111a.1 4
def r111_5 : IC:=Tr.pk F111a.1 5
def r111_6 : IC:=Tr.pk F111a.1 6
def r111_7 : IC:=Tr.pk F111a.1 7
noncomputable def i111 : IFn:=⟨2,(.seq r111_0 (.seq (.seq r111_1 (.block 0 (.loop [0,1,7,8] (.seq r111_2 (.seq (.cond (.tmp 9) (.skip) (.exit 0)) (.seq (.block 1 (.seq r111_3 (.seq r111_4 (.cond (.tmp 16) (.seq r111_5 .ret) (.skip))))) r111_6)))))) (.seq r111_7 .ret))),[.tmp 4]⟩
theorem c111 : chkFn Tryz.prog Tryz.f111 i111 = true:=by kernel_rfl
def F165a : {l : List IC // Tr.fn Tr.TT Tryz.f165 0 [[0,2],[0,2,4],[0],[0,2],[0,2,8],[0,2],[0,2],[2]] = l}:=⟨_,by cbv⟩
def r165_0 : IC:=Tr.pk F165a.1 0
def r165_1 : IC:=Tr.pk F165a.1 1
def r165_2 : IC:=Tr.pk F165a.1 2
def r165_3 : IC:=Tr.pk F165a.1 3
def r165_4 : IC:=Tr.pk F165a.1 4
def r165_5 : IC:=Tr.pk F165a.1 5
def r165_6 : IC:=Tr.pk F165a.1 6
def r165_7 : IC:=Tr.pk F165a.1 7
noncomputable def i165 : IFn:=⟨1,(.seq r165_0 (.seq (.seq r165_1 (.cond (.tmp 4) (.seq r165_2 r165_3) (.skip))) (.seq (.seq r165_4 (.cond (.tmp 8) (.seq r165_5 r165_6) (.skip))) (.seq r165_7 .ret)))),[.tmp 2]⟩
theorem c165 : chkFn Tryz.prog Tryz.f165 i165 = true:=by kernel_rfl
def F166a : {l : List IC // Tr.fn Tr.TT Tryz.f166 0 [[0,2],[0,2,4],[0],[0,2],[0,2,8],[0,2],[0,2],[0,2,14],[0,2],[0,2],[2]] = l}:=⟨_,by cbv⟩
def r166_0 : IC:=Tr.pk F166a.1 0
def r166_1 : IC:=Tr.pk F166a.1 1
def r166_2 : IC:=Tr.pk F166a.1 2
def r166_3 : IC:=Tr.pk F166a.1 3
def r166_4 : IC:=Tr.pk F166a.1 4
def r166_5 : IC:=Tr.pk F166a.1 5
def r166_6 : IC:=Tr.pk F166a.1 6
def r166_7 : IC:=Tr.pk F166a.1 7
def r166_8 : IC:=Tr.pk F166a.1 8
def r166_9 : IC:=Tr.pk F166a.1 9
def r166_10 : IC:=Tr.pk F166a.1 10
noncomputable def i166 : IFn:=⟨1,(.seq r166_0 (.seq (.seq r166_1 (.cond (.tmp 4) (.seq r166_2 r166_3) (.skip))) (.seq (.seq r166_4 (.cond (.tmp 8) (.seq r166_5 r166_6) (.skip))) (.seq (.seq r166_7 (.cond (.tmp 14) (.seq r166_8 r166_9) (.skip))) (.seq r166_10 .ret))))),[.tmp 2]⟩
theorem c166 : chkFn Tryz.prog Tryz.f166 i166 = true:=by kernel_rfl
def F3a : {l : List IC // Tr.fn Tr.TT Tryz.f3 0 [[0],[0,20],[2],[0,3,4],[0,3,27],[2],[0,3,5],[0,3,5,32],[0,3,5,6],[0,3,5,6,7],[0,3,5,6,7,44],[0,3,5,6,7,61],[2],[0,3,5,6,7],[0,3,5,6,8],[0,3,5,6,8,66],[0,3,5,6,8,9],[0,3,5,6,8,93],[2],[0,3,5,6,8],[0,3,5],[3,10,11],[3,10,11,12],[3,10,11,12,107],[3,10,11,12,13],[3,10,11,12,13,14],[3,10,11,12,14,15,16]] = l}:=⟨_,by cbv⟩
def r3_0 : IC:=Tr.pk F3a.1 0
def r3_1 : IC:=Tr.pk F3a.1 1
def r3_2 : IC:=Tr.pk F3a.1 2
def r3_3 : IC:=Tr.pk F3a.1 3
def r3_4 : IC:=Tr.pk F3a.1 4
def r3_5 : IC:=Tr.pk F3a.1 5
def r3_6 : IC:=Tr.pk F3a.1 6
def r3_7 : IC:=Tr.pk F3a.1 7
def r3_8 : IC:=Tr.pk F3a.1 8
def r3_9 : IC:=Tr.pk F3a.1 9
def r3_10 : IC:=Tr.pk F3a.1 10
def r3_11 : IC:=Tr.pk F3a.1 11
def r3_12 : IC:=Tr.pk F3a.1 12
def r3_13 : IC:=Tr.pk F3a.1 13
def r3_14 : IC:=Tr.pk F3a.1 14
def r3_15 : IC:=Tr.pk F3a.1 15
def r3_16 : IC:=Tr.pk F3a.1 16
def r3_17 : IC:=Tr.pk F3a.1 17
def r3_18 : IC:=Tr.pk F3a.1 18
def r3_19 : IC:=Tr.pk F3a.1 19
def r3_20 : IC:=Tr.pk F3a.1 20
def r3_21 : IC:=Tr.pk F3a.1 21
def r3_22 : IC:=Tr.pk F3a.1 22
def r3_23 : IC:=Tr.pk F3a.1 23
def r3_24 : IC:=Tr.pk F3a.1 24
def r3_25 : IC:=Tr.pk F3a.1 25
def r3_26 : IC:=Tr.pk F3a.1 26
def F3b : {l : List IC // Tr.fn Tr.TT Tryz.f3 27 [[3,10,11,12,15,16,17,18],[3,10,11,12,160],[2],[3,10,11,12],[2]] = l}:=⟨_,by cbv⟩
def r3_27 : IC:=Tr.pk F3b.1 0
def r3_28 : IC:=Tr.pk F3b.1 1
def r3_29 : IC:=Tr.pk F3b.1 2
def r3_30 : IC:=Tr.pk F3b.1 3
def r3_31 : IC:=Tr.pk F3b.1 4
noncomputable def i3 : IFn:=⟨1,(.seq r3_0 (.seq (.seq r3_1 (.cond (.tmp 20) (.seq r3_2 .ret) (.skip))) (.seq r3_3 (.seq (.seq r3_4 (.cond (.tmp 27) (.seq r3_5 .ret) (.skip))) (.seq (.seq r3_6 (.block 0 (.loop [0,3,5] (.seq (.seq r3_7 (.cond (.tmp 32) (.skip) (.exit 0))) (.seq (.block 1 (.seq r3_8 (.seq (.seq r3_9 (.block 2 (.loop [0,3,5,6,7] (.seq (.seq r3_10 (.cond (.tmp 44) (.skip) (.exit 2))) (.seq (.block 3 (.seq r3_11 (.cond (.tmp 61) (.seq r3_12 .ret) (.skip)))) r3_13))))) (.seq r3_14 (.block 4 (.loop [0,3,5,6,8] (.seq (.seq r3_15 (.cond (.tmp 66) (.skip) (.exit 4))) (.seq (.block 5 (.seq r3_16 (.seq r3_17 (.cond (.tmp 93) (.seq r3_18 .ret) (.skip))))) r3_19)))))))) r3_20))))) (.seq r3_21 (.seq (.seq r3_22 (.block 6 (.loop [3,10,11,12] (.seq (.seq r3_23 (.cond (.tmp 107) (.skip) (.exit 6))) (.seq (.block 7 (.seq r3_24 (.seq r3_25 (.seq r3_26 (.seq r3_27 (.seq r3_28 (.cond (.tmp 160) (.seq r3_29 .ret) (.skip)))))))) r3_30))))) (.seq r3_31 .ret)))))))),[.tmp 2]⟩
theorem c3 : chkFn Tryz.prog Tryz.f3 i3 = true:=by kernel_rfl
end Go.Proofs.YtmeakjgbjldkdaaGreat.Ai
