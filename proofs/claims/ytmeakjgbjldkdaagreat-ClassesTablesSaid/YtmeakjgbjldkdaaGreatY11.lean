/- A part of what is proved: C2, Stp4, Stp5, C3, Stp6, C5, L5, L6, Txt, P1, P2, C6, C8. No condition. -/
import Derived.Test.YtmeakjgbjldkdaaGreatY10
import Derived.Test.YtmeakjgbjldkdaaGreatProg
import Derived.KernelRfl
set_option maxRecDepth 100000
set_option maxHeartbeats 16000000
namespace Go.Proofs.YtmeakjgbjldkdaaGreat.Ai
open Go
variable {pr : Prims} {F : Nat → Option IFn}
theorem at_first (hm : Mono pr) {zs : List AV} {items : List Item} {kp : List Nat} {k : List Fr} {e : Env} {H : List Blk} {rw : List Nat} {Q : Ex → Env → St → Prop} {d : Option Nat}
  (h : ∀ H1,H1 = H ++ [Blk.cells zs] → H1.length = H.length + 1 → H.length < H1.length → In pr F H.length Q H.length [⟨0,d,none,.q (.alloc 0 zs)⟩] items kp k (eput e d (.ptr H.length 0)) ⟨hp H1 H.length (.cells zs) [],rw⟩) :
  At pr F H.length Q (.region [zs] (⟨0,d,none,.q (.alloc 0 zs)⟩ :: items) kp) k e ⟨H,rw⟩:=by
 have hlen : (H ++ [Blk.cells zs]).length = H.length + 1:=by simp
 have hlt : H.length < (H ++ [Blk.cells zs]).length:=by omega
 have hget : hp (H ++ [Blk.cells zs]) H.length (.cells zs) [] = H ++ [Blk.cells zs]:=by simp [hp]
 refine at_region hm (H:=hp (H ++ [Blk.cells zs]) H.length (.cells zs) []) (by rw [hget]; rfl) rfl ?_
 exact in_alloc (q:=H.length) rfl rfl (hp_get hlt) (h _ rfl hlen hlt)
theorem fin_first {H H1 M : List Blk} {rw : List Nat} {z : Blk} {vs : List AV} {t kd : Nat} {e : Env} {Q : Res → St → Prop} (hH : H1 = H ++ [z]) (he : eget e t = some (.ptr H.length 0)) (hv : Row kd vs) (h : Q (.ret (.agg vs)) ⟨H,rw⟩) :
  fin [.cell t (some kd)] H.length Q .ret e ⟨hp H1 H.length (.cells vs) M,rw⟩:=by
 subst hH
 have e2 : rvals [.cell t (some kd)] e (hp (H ++ [z]) H.length (.cells vs) M) = some [.agg vs]:=by
  simp only [rvals,he,load_own hv]
 exact fin_ret e2 (hv.below _) take_own h
structure LibD (pr : Prims) (F : Nat → Option IFn) : Prop extends LibC pr F where
 f15 : Has pr F 15 i15
 f17 : Has pr F 17 i17
 f20 : Has pr F 20 i20
 f26 : Has pr F 26 i26
 f30 : Has pr F 30 i30
 f56 : Has pr F 56 i56
 f64 : Has pr F 64 ifn64
 f65 : Has pr F 65 i65
 f66 : Has pr F 66 i66
 f100 : Has pr F 100 i100
 f101 : Has pr F 101 i101
 f102 : Has pr F 102 i102
 f103 : Has pr F 103 i103
 f104 : Has pr F 104 i104
 f105 : Has pr F 105 i105
 f106 : Has pr F 106 i106
 f149 : Has pr F 149 i149
 f150 : Has pr F 150 i150
 f151 : Has pr F 151 i151
def fltRow (c a : Int) : List AV:=[.int .i64 c,.int .i64 a]
theorem row_flt (c a : Int) : Row 2 (fltRow c a):=⟨rfl,rfl,rfl⟩
theorem det_fault (L : LibD pr F) (H : List Blk) (rw : List Nat) (c a : Int) : Det pr F 56 [.int .i64 c,.int .i64 a] ⟨H,rw⟩ (.ret (.agg (fltRow c a))) ⟨H,rw⟩:=by
 have hm:=L.hm
 refine Det.of hm (at_start hm L.f56.1 L.f56.2 rfl ?_)
 refine' hGO
 unfold r56_0
 show At pr F H.length (fin _ H.length _) _ _ _ _
 refine at_first hm ?_
 intro H1 hH1 hlen hlt
 refine' hG
 refine id_store ?_
 refine g_store rfl rfl rfl ?_
 refine s_n hlt (Nat.le_refl _) rfl rfl rfl ?_
 refine zrk ?_
 refine' hG
 exact fin_first hH1 rfl (row_flt c a) ⟨rfl,rfl⟩
end Go.Proofs.YtmeakjgbjldkdaaGreat.Ai
namespace Go.Proofs.YtmeakjgbjldkdaaGreat.Ai
open Go
variable {pr : Prims} {F : Nat → Option IFn}
theorem lst_of_lt {sz i : Nat} {rows : List (List AV)} (h : i < rows.length) : lst sz rows = .list sz .dead rows:=by
 cases rows with
 | nil => simp at h
 | cons r rs => rfl
def Froz (H : List Blk) (n k : Nat) (c : Blk) : Prop:=∀ b M,(hp H n b M)[k]? = some c
theorem froz_first {H H1 : List Blk} {z c : Blk} {k : Nat} (hH : H1 = H ++ [z]) (hk : H[k]? = some c) : Froz H1 H.length k c:=by
 intro b M
 obtain ⟨hl,-⟩:=List.getElem?_eq_some_iff.1 hk
 subst hH
 unfold hp
 rw [List.getElem?_set_ne (by omega),List.append_assoc,List.getElem?_append_left hl]
 exact hk
theorem froz_n {H : List Blk} {n k : Nat} {c : Blk} (hne : n ≠ k) (hk : H[k]? = some c) : Froz H n k c:=by
 intro b M
 obtain ⟨hl,-⟩:=List.getElem?_eq_some_iff.1 hk
 unfold hp
 rw [List.getElem?_set_ne hne,List.getElem?_append_left hl]
 exact hk
section
variable {H M : List Blk} {n m : Nat} {b : Blk} {rw : List Nat} {L : AV → Prop}
theorem zlf0 {off : Nat} {cs : List AV} {u : AV} (h : L u) (hF : Froz H n m (.cells cs):=by assumption) (hu : cs[off]? = some u:=by rfl) : LdAt none (.ptr m off) ⟨hp H n b M,rw⟩ L:=l_ptr0 (hF _ _) hu h
theorem zlm0 {j off : Nat} {cs : List AV} {u : AV} (h : L u) (hlt : n < H.length:=by assumption) (hM : M[j]? = some (.cells cs):=by assumption) (hu : cs[off]? = some u:=by rfl) : LdAt none (.ptr (H.length + j) off) ⟨hp H n b M,rw⟩ L:=l_own0 hlt hM hu h
theorem zlfc {kd : Nat} {cs vs : List AV} (h : L (.agg vs)) (hF : Froz H n m (.cells cs):=by assumption) (hc : canonL cs = vs:=by rfl) (hl : cs.length = kd:=by rfl) : LdAt (some kd) (.ptr m 0) ⟨hp H n b M,rw⟩ L:=l_ptrC (hF _ _) hc hl h
end
section
variable {b0 base ix : Nat} {d : Option Nat} {g : Option (Nat × Bool)} {prev items : List Item} {kp : List Nat} {k : List Fr} {e : Env} {Q : Ex → Env → St → Prop} {S : St}
theorem id_len {x : Opd} (h : In pr F b0 Q base prev (⟨ix,d,g,.q (.len x)⟩ :: items) kp k e S) : In pr F b0 Q base prev (⟨ix,d,g,.q (.len x)⟩ :: items) kp k e S:=h
theorem g_lenlst {x : Opd} {sz : Nat} {rows : List (List AV)} (hw : wanted g (eget e) = some true) (hx : x.val (eget e) = some (lst sz rows)) (h : In pr F b0 Q base (⟨ix,d,g,.q (.len x)⟩ :: prev) items kp k (eput e d (.int .i64 (rows.length : Int))) S) : In pr F b0 Q base prev (⟨ix,d,g,.q (.len x)⟩ :: items) kp k e S:=by
 refine in_q hw ?_ h
 obtain ⟨z,tg,hz,-,-⟩:=isL_lst (sz:=sz) (rows:=rows)
 rw [hz] at hx
 simp only [qval,hx]
 rfl
end
end Go.Proofs.YtmeakjgbjldkdaaGreat.Ai
namespace Go.Proofs.YtmeakjgbjldkdaaGreat.Ai
open Go
section
variable {H M : List Blk} {n m : Nat} {b : Blk} {rw : List Nat} {L : AV → Prop} {zero : AV} {s : Str}
theorem k_ok {es : List (Str × AV)} (hF : Froz H n m (.map es)) (h1 : ∀ v,mlook es s = some v → L (.tup [v,.bool true])) (h2 : mlook es s = none → L (.tup [zero,.bool false])) : LkAt zero true (.map m) (.str s) ⟨hp H n b M,rw⟩ L:=by
 refine ⟨?_⟩
 have e:=hF b M
 simp only [e]
 cases hm : mlook es s with
 | some v => exact ⟨_,rfl,h1 v hm⟩
 | none => exact ⟨_,rfl,h2 hm⟩
theorem k_no {es : List (Str × AV)} (hF : Froz H n m (.map es)) (h1 : ∀ v,mlook es s = some v → L v) (h2 : mlook es s = none → L zero) : LkAt zero false (.map m) (.str s) ⟨hp H n b M,rw⟩ L:=by
 refine ⟨?_⟩
 have e:=hF b M
 simp only [e]
 cases hm : mlook es s with
 | some v => exact ⟨_,rfl,h1 v hm⟩
 | none => exact ⟨_,rfl,h2 hm⟩
end
end Go.Proofs.YtmeakjgbjldkdaaGreat.Ai
namespace Go.Proofs.YtmeakjgbjldkdaaGreat.Ai
open Go
variable {pr : Prims} {F : Nat → Option IFn}
structure TabB (H : List Blk) (n : Nat) (cs : List Cls) (z : Nat) (tg : Tag) (mp ab o1 o2 o3 sl : AV) : Prop where
 at_ : H[n]? = some (.cells [.list z tg (cs.map clsRow),mp,ab,o1,o2,o3,sl])
 sz : cs ≠ [] → z = 9
 few : cs.length ≤ 6000
 big : ∀ c ∈ cs,c.ctors.length ≤ 42000000 ∧ c.meths.length ≤ 42000000
def FewC (c : Cls) : Prop:=c.fields.length ≤ 64 ∧ c.invs.length ≤ 64 ∧ c.meths.length ≤ 64 ∧ c.above.length ≤ 64
def Few (cs : List Cls) : Prop:=∀ (i : Nat) (c : Cls),cs[i]? = some c → FewC c
theorem det_few (L : LibD pr F) {H : List Blk} {rw : List Nat} {n z : Nat} {tg : Tag} {cs : List Cls} {mp ab o1 o2 o3 sl : AV} (T : TabB H n cs z tg mp ab o1 o2 o3 sl) : ∃ f : Int × Int,(f.1 = 0 → Few cs) ∧ Det pr F 100 [.ptr n 0] ⟨H,rw⟩ (.ret (.agg (fltRow f.1 f.2))) ⟨H,rw⟩:=by
 have hm:=L.hm
 suffices h : Wp pr F 100 [.ptr n 0] ⟨H,rw⟩ fun r S' => ∃ f : Int × Int,(f.1 = 0 → Few cs) ∧ r = .ret (.agg (fltRow f.1 f.2)) ∧ S' = ⟨H,rw⟩ by
  obtain ⟨r,S',hd,f,hf,rfl,rfl⟩:=h.det hm
  exact ⟨f,hf,hd⟩
 refine at_start hm L.f100.1 L.f100.2 rfl ?_
 refine' hGO
 unfold r100_0
 show At pr F H.length (fin _ H.length _) _ _ _ _
 refine at_first hm ?_
 intro H1 hH1 hlen hlt
 have hF:=froz_first hH1 T.at_
 have hfew:=T.few
 have hlm : (cs.map clsRow).length = cs.length:=List.length_map _
 refine' hG
 refine at_loop hm (fun mm e S' => ∃ (i : Nat) (J : List Blk),S' = ⟨hp H1 H.length (.cells [.int .i64 0,.int .i64 0]) J,rw⟩ ∧ i ≤ cs.length ∧ (∀ (k : Nat) (c : Cls),k < i → cs[k]? = some c → FewC c) ∧ mm = cs.length - i ∧ e = [(2,.ptr H.length 0),(12,.list z tg (cs.map clsRow)),(13,.int .i64 ((cs.map clsRow).length : Int)),(14,.int .i64 i)]) ?_ (m:=cs.length) ⟨0,[],rfl,by omega,fun k c h => by omega,rfl,rfl⟩
 rintro mm e S' ⟨i,J,rfl,hi,hfe,rfl,rfl⟩
 by_cases hlt2 : i < cs.length
 ·obtain ⟨c,hc⟩ : ∃ c,cs[i]? = some c:=⟨_,List.getElem?_eq_getElem hlt2⟩
  have hcr : (cs.map clsRow)[i]? = some (clsRow c):=by rw [List.getElem?_map,hc]; rfl
  have hz : z = 9:=T.sz (by intro h; rw [h] at hlt2; simp at hlt2)
  subst hz
  obtain ⟨hbc,hbm⟩:=T.big c (List.mem_of_getElem? hc)
  have hlx:=exRows_len c.invs
  refine' hG
  iterate 5
   rotate_left 1
  all_goals first
   | (refine g_call rfl rfl rfl ?_
      refine ⟨_,_,det_fault L _ _ _ _,?_⟩
      refine zrk ?_
      refine' hG
      refine id_store ?_
      refine g_store rfl rfl rfl ?_
      refine s_n hlt (Nat.le_refl _) rfl rfl rfl ?_
      refine zrk ?_
      refine' hG
      exact fin_first hH1 rfl (row_flt _ _) ⟨(_,_),fun h => by simp at h,rfl,rfl⟩)
   | skip
  have hfc : FewC c:=⟨by omega,by omega,by omega,by omega⟩
  refine at_loop hm (fun mm e S' => ∃ (q : Nat) (M : List Blk),S' = ⟨hp H1 H.length (.cells [.int .i64 0,.int .i64 0]) M,rw⟩ ∧ M[J.length]? = some (.cells (clsRow c)) ∧ q ≤ c.ctors.length ∧ mm = c.ctors.length - q ∧ e = [(2,.ptr H.length 0),(4,.ptr (H1.length + J.length) 0),(12,.list 9 tg (cs.map clsRow)),(13,.int .i64 ((cs.map clsRow).length : Int)),(14,.int .i64 i),(50,lst 5 (c.ctors.map ctrRow)),(51,.int .i64 ((c.ctors.map ctrRow).length : Int)),(52,.int .i64 q)]) ?_ (m:=c.ctors.length) ⟨0,_,rfl,at_bk0,by omega,rfl,rfl⟩
  rintro mm e S' ⟨q,M,rfl,hM,hq0,rfl,rfl⟩
  by_cases hq1 : q < c.ctors.length
  ·obtain ⟨ct,hct⟩ : ∃ ct,c.ctors[q]? = some ct:=⟨_,List.getElem?_eq_getElem hq1⟩
   have hctr : (c.ctors.map ctrRow)[q]? = some (ctrRow ct):=by rw [List.getElem?_map,hct]; rfl
   have hl5 : lst 5 (c.ctors.map ctrRow) = .list 5 .dead (c.ctors.map ctrRow):=lst_of_lt (i:=q) (by rw [List.length_map]; exact hq1)
   have hlc : (c.ctors.map ctrRow).length = c.ctors.length:=List.length_map _
   rw [hl5]
   refine' hG
   ·skip
    refine g_call rfl rfl rfl ?_
    refine ⟨_,_,det_fault L _ _ _ _,?_⟩
    refine zrk ?_
    refine' hG
    refine id_store ?_
    refine g_store rfl rfl rfl ?_
    refine s_n hlt (Nat.le_refl _) rfl rfl rfl ?_
    refine zrk ?_
    refine' hG
    exact fin_first hH1 rfl (row_flt _ _) ⟨(_,_),fun h => by simp at h,rfl,rfl⟩
   ·refine ⟨c.ctors.length - (q + 1),by omega,q + 1,M ++ [.cells (ctrRow ct)],rfl,?_,by omega,rfl,rfl⟩
    rw [List.getElem?_append_left (List.getElem?_eq_some_iff.1 hM).1]
    exact hM
  ·have hlc : (c.ctors.map ctrRow).length = c.ctors.length:=List.length_map _
   refine' hG
   refine at_loop hm (fun mm e S' => ∃ (q : Nat) (M : List Blk),S' = ⟨hp H1 H.length (.cells [.int .i64 0,.int .i64 0]) M,rw⟩ ∧ q ≤ c.meths.length ∧ mm = c.meths.length - q ∧ e = [(2,.ptr H.length 0),(12,.list 9 tg (cs.map clsRow)),(13,.int .i64 ((cs.map clsRow).length : Int)),(14,.int .i64 i),(65,lst 11 (c.meths.map mthRow)),(66,.int .i64 ((c.meths.map mthRow).length : Int)),(67,.int .i64 q)]) ?_ (m:=c.meths.length) ⟨0,_,rfl,by omega,rfl,rfl⟩
   clear hM
   rintro mm e S' ⟨q,M,rfl,hq0,rfl,rfl⟩
   have hlcm : (c.meths.map mthRow).length = c.meths.length:=List.length_map _
   by_cases hq1 : q < c.meths.length
   ·obtain ⟨ct,hct⟩ : ∃ ct,c.meths[q]? = some ct:=⟨_,List.getElem?_eq_getElem hq1⟩
    have hctr : (c.meths.map mthRow)[q]? = some (mthRow ct):=by rw [List.getElem?_map,hct]; rfl
    obtain ⟨nm1,ps1,⟨k1,t1,u1,e1,p1,a1⟩,bd1,ab1,at1⟩:=ct
    have hl5 : lst 11 (c.meths.map mthRow) = .list 11 .dead (c.meths.map mthRow):=lst_of_lt (i:=q) (by rw [List.length_map]; exact hq1)
    rw [hl5]
    refine' hG
    ·skip
     refine g_call rfl rfl rfl ?_
     refine ⟨_,_,det_fault L _ _ _ _,?_⟩
     refine zrk ?_
     refine' hG
     refine id_store ?_
     refine g_store rfl rfl rfl ?_
     refine s_n hlt (Nat.le_refl _) rfl rfl rfl ?_
     refine zrk ?_
     refine' hG
     exact fin_first hH1 rfl (row_flt _ _) ⟨(_,_),fun h => by simp at h,rfl,rfl⟩
    ·exact ⟨c.meths.length - (q + 1),by omega,q + 1,_,rfl,by omega,rfl,rfl⟩
   ·refine' hG
    refine ⟨cs.length - (i + 1),by omega,i + 1,M,rfl,by omega,?_,rfl,rfl⟩
    intro k d hk hd
    by_cases e2 : k = i
    ·subst e2
     rw [hc] at hd
     simp only [Option.some.injEq] at hd
     subst hd
     exact hfc
    ·exact hfe k d (by omega) hd
 ·refine' hG
  refine id_store ?_
  refine g_store rfl rfl rfl ?_
  refine s_n hlt (Nat.le_refl _) rfl rfl rfl ?_
  refine zrk ?_
  refine' hG
  exact fin_first hH1 rfl (row_flt 0 0) ⟨(0,0),fun _ k d hd => hfe k d (by have:=(List.getElem?_eq_some_iff.1 hd).1; omega) hd,rfl,rfl⟩
end Go.Proofs.YtmeakjgbjldkdaaGreat.Ai
namespace Go.Proofs.YtmeakjgbjldkdaaGreat.Ai
open Go
variable {pr : Prims} {F : Nat → Option IFn}
section
variable {b0 base ix : Nat} {d : Option Nat} {g : Option (Nat × Bool)} {prev items : List Item} {kp : List Nat} {k : List Fr} {e : Env} {Q : Ex → Env → St → Prop} {S : St} {H M : List Blk} {n : Nat} {b : Blk} {rw : List Nat} {re : List Nat}
theorem id_lk {zero : AV} {ok : Bool} {x y : Opd} (h : In pr F b0 Q base prev (⟨ix,d,g,.q (.lookup zero ok x y)⟩ :: items) kp k e S) : In pr F b0 Q base prev (⟨ix,d,g,.q (.lookup zero ok x y)⟩ :: items) kp k e S:=h
theorem k_pl {m : Nat} {L : AV → Prop} {zero : AV} {s : Str} {cs : List Cls} (hF : Froz H n m (.map (mapOf 0 cs)))
  (h1 : ∀ (q : Nat) (c : Cls),place cs s = some q → cs[q]? = some c → (cs.map clsRow)[q]? = some (clsRow c) → q < cs.length → L (.tup [.int .i64 (q : Int),.bool true]))
  (h2 : place cs s = none → L (.tup [zero,.bool false])) : LkAt zero true (.map m) (.str s) ⟨hp H n b M,rw⟩ L:=by
 refine k_ok hF (fun v hv => ?_) (fun hv => ?_)
 ·rw [mlook_map0] at hv
  cases hp : place cs s with
  | none => rw [hp] at hv; simp at hv
  | some q =>
   rw [hp] at hv
   simp only [Option.map_some,Option.some.injEq] at hv
   subst hv
   obtain ⟨c,hc,-⟩:=place_get hp
   exact h1 q c hp hc (by rw [List.getElem?_map,hc]; rfl) (List.getElem?_eq_some_iff.1 hc).1
 ·rw [mlook_map0] at hv
  cases hp : place cs s with
  | none => exact h2 hp
  | some q => rw [hp] at hv; simp at hv
theorem k_pln {m : Nat} {L : AV → Prop} {s : Str} {cs : List Cls} (hF : Froz H n m (.map (mapOf 0 cs)))
  (h1 : L (.int .i64 (((place cs s).getD 0 : Nat) : Int))) : LkAt (.int .i64 0) false (.map m) (.str s) ⟨hp H n b M,rw⟩ L:=by
 refine k_no hF (fun v hv => ?_) (fun hv => ?_)
 ·rw [mlook_map0] at hv
  cases hp : place cs s with
  | none => rw [hp] at hv; simp at hv
  | some q =>
   rw [hp] at hv h1
   simp only [Option.map_some,Option.some.injEq] at hv
   subst hv
   exact h1
 ·rw [mlook_map0] at hv
  cases hp : place cs s with
  | none => rw [hp] at h1; exact h1
  | some q => rw [hp] at hv; simp at hv
theorem at_ifb {c : Opd} {x y : IC} {t : Bool} (hc : c.val (eget e) = some (.bool t)) (h1 : t = true → At pr F b0 Q x k e S) (h2 : t = false → At pr F b0 Q y k e S) : At pr F b0 Q (.cond c x y) k e S:=by
 cases t with
 | true => exact at_true hc (h1 rfl)
 | false => exact at_false hc (h2 rfl)
end
section
variable {b0 base ix : Nat} {d : Option Nat} {g : Option (Nat × Bool)} {prev items : List Item} {kp : List Nat} {k : List Fr} {e : Env} {Q : Ex → Env → St → Prop} {S : St} {H M : List Blk} {n : Nat} {b : Blk} {rw : List Nat} {re : List Nat}
theorem id_box {x : Opd} (h : In pr F b0 Q base prev (⟨ix,d,g,.l (.box x) re⟩ :: items) kp k e S) : In pr F b0 Q base prev (⟨ix,d,g,.l (.box x) re⟩ :: items) kp k e S:=h
theorem at_box (hm : Mono pr) {x : Opd} {cs : List AV} (hx : x.val (eget e) = some (.agg cs))
  (h : ∀ H1,H1 = H ++ [Blk.cells cs] → H1.length = H.length + 1 → H.length < H1.length → In pr F H.length Q H.length [⟨0,d,none,.l (.box x) []⟩] items kp k (eput e d (.ptr H.length 0)) ⟨hp H1 H.length (.cells cs) [],rw⟩) :
  At pr F H.length Q (.region [] (⟨0,d,none,.l (.box x) []⟩ :: items) kp) k e ⟨H,rw⟩:=by
 have hlen : (H ++ [Blk.cells cs]).length = H.length + 1:=by simp
 have hlt : H.length < (H ++ [Blk.cells cs]).length:=by omega
 have hget : hp (H ++ [Blk.cells cs]) H.length (.cells cs) [] = H ++ [Blk.cells cs]:=by simp [hp]
 refine at_region hm (H:=H) (List.append_nil _) rfl ?_
 refine in_l rfl ?_ rfl (h _ rfl hlen hlt)
 simp only [lval,hx,hget]
 rfl
theorem at_first0 (hm : Mono pr) {zs : List AV}
  (h : ∀ H1,H1 = H ++ [Blk.cells zs] → H1.length = H.length + 1 → H.length < H1.length → In pr F H.length Q H.length [] items kp k e ⟨hp H1 H.length (.cells zs) [],rw⟩) : At pr F H.length Q (.region [zs] items kp) k e ⟨H,rw⟩:=by
 have hlen : (H ++ [Blk.cells zs]).length = H.length + 1:=by simp
 have hlt : H.length < (H ++ [Blk.cells zs]).length:=by omega
 have hget : hp (H ++ [Blk.cells zs]) H.length (.cells zs) [] = H ++ [Blk.cells zs]:=by simp [hp]
 exact at_region hm (H:=hp (H ++ [Blk.cells zs]) H.length (.cells zs) []) (by rw [hget]; rfl) rfl (h _ rfl hlen hlt)
end
theorem zlnC {kd : Nat} {L : AV → Prop} {vs : List AV} {H M : List Blk} {n : Nat} {b : Blk} {rw : List Nat} (h : L (.agg vs)) (hlt : n < H.length:=by assumption) (hb : b = .cells vs:=by rfl) (hv : Row kd vs:=by (first | assumption | with_reducible exact row_ex _ | with_reducible exact row_tok _ | with_reducible exact row_ty _ | with_reducible exact row_sm _ | with_reducible exact row_par _ | with_reducible exact row_fld _ | with_reducible exact row_mth _ | with_reducible exact row_ctr _ | with_reducible exact row_cls _ | with_reducible exact row_prg _ | with_reducible exact row_nm _)) : LdAt (some kd) (.ptr n 0) ⟨hp H n b M,rw⟩ L:=by
 subst hb
 refine ⟨_,?_,h⟩
 have e1 : (hp H n (.cells vs) M)[n]? = some (.cells vs):=hp_get hlt
 have:=hv.load
 simp only [aload,e1]
 simpa only [aload,List.getElem?_cons_zero] using this
def TxOk (pr : Prims) (F : Nat → Option IFn) (f : Nat) (args : List AV) (t : AV) : Prop:=∀ (H : List Blk) (rw : List Nat),0 < H.length → ∃ rw',Rx rw rw' ∧ Det pr F f args ⟨H,rw⟩ (.ret t) ⟨H,rw'⟩
theorem c_tx {f : Nat} {args : List AV} {t : AV} {H : List Blk} {rw : List Nat} {K : AV → St → Prop} (h : TxOk pr F f args t) (hH : 0 < H.length) (hk : ∀ rw',Rx rw rw' → K t ⟨H,rw'⟩) : ClAt pr F f args ⟨H,rw⟩ K:=by
 obtain ⟨rw',h1,h2⟩:=h H rw hH
 exact ⟨_,_,h2,hk rw' h1⟩
theorem TxOk.of (hm : Mono pr) {f : Nat} {args : List AV} {t : AV} (h : ∀ H rw,0 < H.length → Wp pr F f args ⟨H,rw⟩ fun r S' => ∃ rw',Rx rw rw' ∧ r = .ret t ∧ S' = ⟨H,rw'⟩) : TxOk pr F f args t:=by
 intro H rw hH
 obtain ⟨r,S',hd,rw',h1,rfl,rfl⟩:=(h H rw hH).det hm
 exact ⟨rw',h1,hd⟩
theorem hp_pos {H M : List Blk} {n : Nat} {b : Blk} (h : n < H.length) : 0 < (hp H n b M).length:=by rw [hp_len]; omega
theorem at_ext {J Y : List Blk} {k : Nat} {x : Blk} (h : J[k]? = some x) : (J ++ Y)[k]? = some x:=by
 rw [List.getElem?_append_left (List.getElem?_eq_some_iff.1 h).1]
 exact h
theorem zlx0 {H M : List Blk} {n j off : Nat} {b : Blk} {rw : List Nat} {L : AV → Prop} {cs : List AV} {u : AV} (h : L u) (hlt : n < H.length:=by assumption) (hM : M[j]? = some (.cells cs):=by first | exact at_ext (by assumption) | exact at_ext (at_ext (by assumption))) (hu : cs[off]? = some u:=by rfl) : LdAt none (.ptr (H.length + j) off) ⟨hp H n b M,rw⟩ L:=l_own0 hlt hM hu h
theorem zlx {H M : List Blk} {n j kd : Nat} {b : Blk} {rw : List Nat} {L : AV → Prop} {vs : List AV} (h : L (.agg vs)) (hlt : n < H.length:=by assumption) (hM : M[j]? = some (.cells vs):=by first | assumption | exact at_ext (by assumption) | exact at_ext (at_ext (by assumption))) (hv : Row kd vs:=by (first | assumption | with_reducible exact row_ex _ | with_reducible exact row_tok _ | with_reducible exact row_ty _ | with_reducible exact row_sm _ | with_reducible exact row_par _ | with_reducible exact row_fld _ | with_reducible exact row_mth _ | with_reducible exact row_ctr _ | with_reducible exact row_cls _ | with_reducible exact row_prg _ | with_reducible exact row_nm _)) : LdAt (some kd) (.ptr (H.length + j) 0) ⟨hp H n b M,rw⟩ L:=l_ownR hlt hM hv h
theorem id_lownP {H M : List Blk} {n j off kd : Nat} {b : Blk} {rw : List Nat} {L : AV → Prop} (h : LdAt (some kd) (.ptr (H.length + j) off) ⟨hp H n b M,rw⟩ L) : LdAt (some kd) (.ptr (H.length + j) off) ⟨hp H n b M,rw⟩ L:=h
theorem zloP {H M : List Blk} {n j off kd : Nat} {b : Blk} {rw : List Nat} {L : AV → Prop} {cs vs : List AV} (h : L (.agg vs)) (hc : canonL ((cs.drop off).take kd) = vs ∧ off + kd ≤ cs.length) (hlt : n < H.length:=by assumption) (hM : M[j]? = some (.cells cs):=by first | (first | rfl | assumption | exact at_bk0 | exact at_bk1 | exact at_bk2 | exact at_bk3 | exact at_bk4 | exact at_bl0 | exact at_bl1 | exact at_bl2 | exact at_bl3 | exact at_bl4) | exact at_ext (by assumption) | exact at_ext (at_ext (by assumption))) : LdAt (some kd) (.ptr (H.length + j) off) ⟨hp H n b M,rw⟩ L:=by
 refine ⟨_,?_,h⟩
 have e1:=(hp_own (b:=b) (L:=M) hlt j).trans hM
 simp only [aload,e1]
 rw [if_pos hc.2,hc.1]
theorem par_ty {p : Par} : canonL (((parRow p).drop (0 + 1)).take 6) = tyRow p.type ∧ 0 + 1 + 6 ≤ (parRow p).length:=by
 obtain ⟨nm,⟨k1,n1,u1,e1,p1,a1⟩,a⟩:=p
 exact ⟨(row_ty (.mk k1 n1 u1 e1 p1 a1)).can,Nat.le_of_ble_eq_true rfl⟩
theorem fld_ty {p : Fld} : canonL (((fldRow p).drop (0 + 1)).take 6) = tyRow p.type ∧ 0 + 1 + 6 ≤ (fldRow p).length:=by
 obtain ⟨nm,⟨k1,n1,u1,e1,p1,a1⟩,f,a⟩:=p
 exact ⟨(row_ty (.mk k1 n1 u1 e1 p1 a1)).can,Nat.le_of_ble_eq_true rfl⟩
theorem mth_ty {p : Mth} : canonL (((mthRow p).drop (0 + 2)).take 6) = tyRow p.result ∧ 0 + 2 + 6 ≤ (mthRow p).length:=by
 obtain ⟨nm,ps,⟨k1,n1,u1,e1,p1,a1⟩,bd,ab,a⟩:=p
 exact ⟨(row_ty (.mk k1 n1 u1 e1 p1 a1)).can,Nat.le_of_ble_eq_true rfl⟩
def memRow (sig owner : Str) (m : Mth) : List AV:=.str sig :: .str owner :: mthRow m
theorem mem_ty {sig owner : Str} {p : Mth} : canonL (((memRow sig owner p).drop (0 + 2 + 2)).take 6) = tyRow p.result ∧ 0 + 2 + 2 + 6 ≤ (memRow sig owner p).length:=by
 obtain ⟨nm,ps,⟨k1,n1,u1,e1,p1,a1⟩,bd,ab,a⟩:=p
 exact ⟨(row_ty (.mk k1 n1 u1 e1 p1 a1)).can,Nat.le_of_ble_eq_true rfl⟩
theorem row_mem (sig owner : Str) (m : Mth) : Row 13 (memRow sig owner m):=by
 have h:=row_mth m
 refine ⟨by simp [memRow,h.len],?_,?_⟩
 ·have:=h.can
  simp only [canonL,memRow,List.map_cons] at this ⊢
  rw [this]
  rfl
 ·have:=h.clo
  simp only [memRow,closedL,closed1,this,Bool.and_self]
theorem zrk6 {base : Nat} {H0 : List Blk} {prev : List Item} {re : List Nat} {e : Env} {X : Prop} (hx : X) (h : recheck prev re e H0 base = true:=by first | exact rec_nil | (repeat' first | with_reducible exact rc_end | refine rc_skip rfl ?_ | (refine id_rcload ?_; first | refine rc_off rfl ?_ | refine rc_load (rw:=[]) rfl rfl rfl ?_ ?_) | (refine id_rcalloc ?_; refine rc_allocN (by assumption) rfl (by (simp only [Nat.reduceAdd,Nat.add_zero]; try rfl)) (by (first | rfl | assumption | exact at_bk0 | exact at_bk1 | exact at_bk2 | exact at_bk3 | exact at_bk4 | exact at_bl0 | exact at_bl1 | exact at_bl2 | exact at_bl3 | exact at_bl4)) rfl ?_) | (refine id_rclk ?_; first | refine rc_off rfl ?_ | refine rc_lookup (rw:=[]) rfl rfl rfl rfl ?_ ?_) | refine rc_off rfl ?_ | refine rc_keep rfl rfl rfl ?_ | (refine l_ref0 rfl ?_)      | (refine id_lref ?_; first | refine zlr ?_ | refine zls ?_)      | (refine id_lown ?_; first | refine zlo ?_ | refine zlo2 ?_ | refine zlo3 ?_ | refine zlx ?_)      | (refine id_lown0 ?_; first | refine zlo0 ?_ | refine zlm0 ?_ | refine zlx0 ?_)      | (refine id_ln0 ?_; refine zln0 ?_)      | (refine id_lptr0 ?_; first | refine zlp0 ?_ | refine zlf0 ?_)      | (refine id_lownP ?_; (first | refine zloP ?_ par_ty | refine zloP ?_ fld_ty | refine zloP ?_ mth_ty | refine zloP ?_ mem_ty)) | (refine id_lptr ?_; first | refine zlpc ?_ | refine zlfc ?_ | refine zlnC ?_) | rfl)) : recheck prev re e H0 base = true ∧ X:=⟨h,hx⟩
structure TabM (H : List Blk) (n mb : Nat) (cs : List Cls) (z : Nat) (tg : Tag) (ab o1 o2 o3 sl : AV) : Prop extends TabB H n cs z tg (.map mb) ab o1 o2 o3 sl where
 mp : H[mb]? = some (.map (mapOf 0 cs))
theorem stH {Q : Prop} (h : Q:=by (repeat' (first | (refine in_id ?_; first  | (refine id_mov ?_; first | refine g_mov rfl rfl ?_ | refine in_no rfl ?_)  | (refine id_bin ?_; first    | (refine g_bin rfl rfl rfl ?_; first      | (refine id_bnS .add ?_; first | refine b_cat (by first | omega | (simp only [List.length_append,List.length_cons,List.length_nil]; omega)) ?_ | refine b_str rfl ?_)      | (refine id_bn .add ?_; first | refine b_int rfl (wrap64 (by omega) (by omega)) ?_ | refine b_int rfl rfl ?_)      | (refine id_bn .sub ?_; first | refine b_int rfl (wrap64 (by omega) (by omega)) ?_ | refine b_int rfl rfl ?_)      | (refine id_bnS .eql ?_; first | refine b_eqt (by decide) ?_ | refine b_eqf (by decide) ?_) | refine b_true rfl (by first | with_reducible rfl | assumption | (simp only [decide_eq_true_eq,beq_iff_eq,bne_iff_ne,ne_eq,Bool.not_eq_true',beq_eq_false_iff_ne,List.length_map]; first | done | omega | assumption) | decide) ?_      | refine b_false rfl (by first | with_reducible rfl | assumption | (simp only [decide_eq_false_iff_not,beq_eq_false_iff_ne,bne_eq_false_iff_eq,ne_eq,Bool.not_eq_false',beq_iff_eq,List.length_map]; first | done | omega | assumption) | decide) ?_      | (refine b_two rfl (fun hq => ?_) (fun hq => ?_) <;> (try simp only [decide_eq_true_eq,decide_eq_false_iff_not,beq_iff_eq,beq_eq_false_iff_ne,bne_iff_ne,ne_eq,bne_eq_false_iff_eq,Bool.not_eq_true',Int.not_lt,Int.not_le,Decidable.not_not,List.length_map] at hq))      | refine b_int rfl rfl ?_)    | refine in_no rfl ?_)  | (refine id_load ?_; first    | (refine g_load rfl rfl ?_; first      | (refine l_ref0 rfl ?_)      | (refine id_lref ?_; first | refine zlr ?_ | refine zls ?_)      | (refine id_lown ?_; first | refine zlo ?_ | refine zlo2 ?_ | refine zlo3 ?_ | refine zlx ?_)      | (refine id_lown0 ?_; first | refine zlo0 ?_ | refine zlm0 ?_ | refine zlx0 ?_)      | (refine id_ln0 ?_; refine zln0 ?_)      | (refine id_lptr0 ?_; first | refine zlp0 ?_ | refine zlf0 ?_)      | (refine id_lownP ?_; (first | refine zloP ?_ par_ty | refine zloP ?_ fld_ty | refine zloP ?_ mth_ty | refine zloP ?_ mem_ty)) | (refine id_lptr ?_; first | refine zlpc ?_ | refine zlfc ?_ | refine zlnC ?_))    | refine in_no rfl ?_)  | (refine id_alloc ?_; refine zaa ?_)  | (refine id_ixa ?_; first    | (refine g_ixa rfl rfl rfl ?_; first      | (refine i_tok (by omega) (by omega) ?_; intro tk htk htk2)      | refine i_list (by assumption) (by omega) ?_      | refine i_list rfl rfl ?_      | refine i_arr (by omega) (by omega) ?_)    | refine in_no rfl ?_)  | (refine id_ix ?_; first    | refine in_byte2 rfl rfl rfl (by with_reducible rfl) (by assumption) ?_    | refine in_byte (by assumption) rfl rfl rfl (by omega) ?_    | refine in_no rfl ?_)  | (refine id_list ?_; first    | (refine g_list rfl rfl ?_; first      | (refine id_ls1 ?_; first | refine ze1 ?_ | refine ls_c rfl ?_)      | (refine id_ls2 ?_; first | refine ze2 ?_ | refine ls_c rfl ?_)      | refine ls_c rfl ?_)    | refine in_no rfl ?_)  | (refine id_cut ?_; first    | refine in_cut rfl rfl rfl rfl (by simp only [Option.getD_some,Option.getD_none]; omega) rfl ?_    | refine in_no rfl ?_)  | (refine id_len ?_; refine g_lenlst rfl rfl ?_)  | (refine id_lk ?_; refine g_lookup rfl rfl rfl ?_; first | (refine k_pl (by assumption) (fun kq kc hkq hkc hkr hkl => ?_) (fun hkq => ?_)) | (refine k_pln (by assumption) ?_)) | (refine id_q ?_; first | refine g_q rfl rfl ?_ | refine in_no rfl ?_)  | (refine id_store ?_; first    | (refine g_store rfl rfl rfl ?_; first      | (refine id_stn 0 ?_; refine s_n hlt (Nat.le_refl _) rfl (by first | rfl | exact Row.len (by (first | assumption | with_reducible exact row_ex _ | with_reducible exact row_tok _ | with_reducible exact row_ty _ | with_reducible exact row_sm _ | with_reducible exact row_par _ | with_reducible exact row_fld _ | with_reducible exact row_mth _ | with_reducible exact row_ctr _ | with_reducible exact row_cls _ | with_reducible exact row_prg _ | with_reducible exact row_nm _ | with_reducible exact row_mem _ _ _))) (by first | rfl | exact Row.len (by (first | assumption | with_reducible exact row_ex _ | with_reducible exact row_tok _ | with_reducible exact row_ty _ | with_reducible exact row_sm _ | with_reducible exact row_par _ | with_reducible exact row_fld _ | with_reducible exact row_mth _ | with_reducible exact row_ctr _ | with_reducible exact row_cls _ | with_reducible exact row_prg _ | with_reducible exact row_nm _ | with_reducible exact row_mem _ _ _))) ?_; refine zrk6 ?_) | (refine id_stn (0 + 1) ?_; refine s_rI hlt (by assumption) (by omega) ?_; intro rc _ _ _ _ _ _; refine zrk6 ?_)      | (refine id_stn (0 + 3) ?_; refine s_rDeep hlt (by assumption) (by omega) ?_; intro rc _ _ _ _ _ _; refine zrk6 ?_)      | (refine id_stown ?_; first        | (refine id_stag0 ?_; first          | (refine zsR ?_; refine zrk6 ?_)          | (refine zsA ?_; refine zrk6 ?_)) | (refine id_stagg ?_; refine zsT ?_; refine zrk6 ?_)        | (refine zsO ?_; refine zrk6 ?_)))    | refine in_no_l rfl (by first | exact rec_nil | rfl) ?_)  | (refine id_box ?_; refine g_box hlt rfl rfl rfl (by (simp only [List.map_cons,List.map_nil,List.nil_append,List.cons_append,List.append_nil,cells_agg,cells_str,cells_int,cells_bool,cells_list]; rfl)) (by (first | (simp only [List.length_cons,List.length_nil,Nat.reduceAdd,Nat.zero_add]; rfl) | rfl)) ?_; refine zrk6 ?_) | (refine id_call ?_; first    | (refine g_call rfl rfl rfl ?_; first      | (refine id_cl 56 ?_; (first | refine ⟨_,_,det_fault L _ _ _ _,?_⟩ | refine ⟨_,_,det_fault L.toLibD _ _ _ _,?_⟩); refine zrk6 ?_) | (refine id_cl2 90 (.int .i64 0) ?_; (refine c_rqb (cis0 _) hlt (by assumption) ?_ ?_ <;> intro hP <;> obtain ⟨_,_⟩:=hP <;> refine zrk6 ?_)) | (refine id_cl2 90 (.int .i64 1) ?_; (refine c_rqb (cis1 _) hlt (by assumption) ?_ ?_ <;> intro hP <;> obtain ⟨_,_⟩:=hP <;> refine zrk6 ?_)) | (refine id_cl2 90 (.int .i64 2) ?_; (refine c_rqb (cis2 _) hlt (by assumption) ?_ ?_ <;> intro hP <;> obtain ⟨_,_⟩:=hP <;> refine zrk6 ?_))      | (refine id_cl 134 ?_; refine c_rq cpl hlt (by assumption) ?_; intro _ _; refine zrk6 ?_)      | (refine id_cl 136 ?_; (refine c_rcb (ctk _) hlt (by assumption) (by omega) (by omega) ?_ ?_ <;> intro rc rwc hR' _ _ _ _ _ _ hP <;> replace hR:=hR.trans hR' <;> (try replace hRL:=hRL.trans hR') <;> obtain ⟨_,_⟩:=hP <;> refine zrk6 ?_)) | (refine id_cl 140 ?_; (refine c_rcb (cen) hlt (by assumption) (by omega) (by omega) ?_ ?_ <;> intro rc rwc hR' _ _ _ _ _ _ hP <;> replace hR:=hR.trans hR' <;> (try replace hRL:=hRL.trans hR') <;> obtain ⟨_,_⟩:=hP <;> refine zrk6 ?_)) | (refine id_cl 93 ?_; (refine c_rc (cnd _) hlt (by assumption) (by omega) (by omega) ?_; intro _ rc rwc hR' _ _ _ _ _ _ hP; replace hR:=hR.trans hR'; (try replace hRL:=hRL.trans hR'); obtain ⟨_,_⟩:=hP; refine zrk6 ?_)) | (refine id_cl 95 ?_; (refine c_rc (cfl) hlt (by assumption) (by omega) (by omega) ?_; intro _ rc rwc hR' _ _ _ _ _ _ hP; replace hR:=hR.trans hR'; (try replace hRL:=hRL.trans hR'); obtain ⟨_,_⟩:=hP; refine zrk6 ?_))      | (refine c_tx (by assumption) (hp_pos hlt) ?_; intro rwt hRt; replace hR:=hR.trans hRt; refine zrk6 ?_) | (refine c_det (by first | assumption | exact hk1 _ _ | exact hd1 _ | exact hd2 _ | exact hd3 _ | exact hd4 _ | exact hd5 _ | exact hd6 _) ?_; refine zrk6 ?_))    | refine in_no_l rfl (by first | exact rec_nil | rfl) ?_)  | (refine id_l ?_; refine in_no_l rfl (by first | exact rec_nil | rfl) ?_)  | (refine id_nil ?_; refine in_nil (by simp only [keep,List.filterMap_cons,List.filterMap_nil,args0,List.zipIdx_cons,List.zipIdx_nil,List.map_cons,List.map_nil,eput,eget,if_true,if_false,Nat.reduceEqDiff,reduceIte,Option.map_some,Option.map_none]; rfl) ?_)) | (refine at_id ?_; first  | refine at_seq hm ?_  | (refine id_region ?_; first | refine zar hm ?_ | refine at_region hm (List.append_nil _) rfl ?_)  | (refine id_cond ?_; first | refine at_true rfl ?_ | refine at_false rfl ?_ | refine at_ifb rfl (fun hq => ?_) (fun hq => ?_))  | refine at_block ?_  | refine at_skip ?_  | refine at_ret ?_  | refine at_exit ?_) | (refine back_id ?_; first  | refine back_code ?_  | refine back_blk ?_  | refine back_ret_code ?_  | refine back_ret_blk ?_  | refine back_exit_code ?_  | refine back_exit_same ?_  | refine back_exit_other (by omega) ?_  | refine back_nil ?_))); all_goals (refine ob ?_; apply_rules (newGoals:=.nonDependentOnly) only [bx]; exact trivial)) : Q:=h
end Go.Proofs.YtmeakjgbjldkdaaGreat.Ai
namespace Go.Proofs.YtmeakjgbjldkdaaGreat.Ai
open Go
variable {pr : Prims} {F : Nat → Option IFn}
theorem linked_snoc {cs : List Cls} {i : Nat} {c : Cls} (hc : cs[i]? = some c) (h : ∀ x ∈ cs.take i,LinkOk cs x) (hx : LinkOk cs c) : ∀ x ∈ cs.take (i + 1),LinkOk cs x:=by
 rw [take_snoc hc]
 intro x hm
 rcases List.mem_append.1 hm with h1 | h1
 ·exact h x h1
 ·rw [List.mem_singleton.1 h1]; exact hx
theorem det_links (L : LibD pr F) {H : List Blk} {rw : List Nat} {n mb z : Nat} {tg : Tag} {cs : List Cls} {ab o1 o2 o3 sl : AV} (T : TabM H n mb cs z tg ab o1 o2 o3 sl) (hbg : ∀ c ∈ cs,c.above.length ≤ 42000000) :
  ∃ f : Int × Int,(f.1 = 0 → Linked cs) ∧ Det pr F 102 [.ptr n 0] ⟨H,rw⟩ (.ret (.agg (fltRow f.1 f.2))) ⟨H,rw⟩:=by
 have hm:=L.hm
 suffices h : Wp pr F 102 [.ptr n 0] ⟨H,rw⟩ fun r S' => ∃ f : Int × Int,(f.1 = 0 → Linked cs) ∧ r = .ret (.agg (fltRow f.1 f.2)) ∧ S' = ⟨H,rw⟩ by
  obtain ⟨r,S',hd,f,hf,rfl,rfl⟩:=h.det hm
  exact ⟨f,hf,hd⟩
 refine at_start hm L.f102.1 L.f102.2 rfl ?_
 refine' hGO
 unfold r102_0
 show At pr F H.length (fin _ H.length _) _ _ _ _
 refine at_first hm ?_
 intro H1 hH1 hlen hlt
 have hF:=froz_first hH1 T.at_
 have hFm:=froz_first hH1 T.mp
 have hfew:=T.few
 have hlm : (cs.map clsRow).length = cs.length:=List.length_map _
 refine' hG
 refine at_loop hm (fun mm e S' => ∃ (i : Nat) (J : List Blk),S' = ⟨hp H1 H.length (.cells [.int .i64 0,.int .i64 0]) J,rw⟩ ∧ i ≤ cs.length ∧ (∀ x ∈ cs.take i,LinkOk cs x) ∧ mm = cs.length - i ∧ e = [(0,.ptr n 0),(2,.ptr H.length 0),(14,.list z tg (cs.map clsRow)),(15,.int .i64 ((cs.map clsRow).length : Int)),(16,.int .i64 i)]) ?_ (m:=cs.length) ⟨0,[],rfl,by omega,by simp,rfl,rfl⟩
 rintro mm e S' ⟨i,J,rfl,hi,hok,rfl,rfl⟩
 by_cases hlt2 : i < cs.length
 ·obtain ⟨c,hc⟩ : ∃ c,cs[i]? = some c:=⟨_,List.getElem?_eq_getElem hlt2⟩
  have hcr : (cs.map clsRow)[i]? = some (clsRow c):=by rw [List.getElem?_map,hc]; rfl
  have hz : z = 9:=T.sz (by intro h; rw [h] at hlt2; simp at hlt2)
  subst hz
  have hbc:=hbg c (List.mem_of_getElem? hc)
  refine' stH
  iterate 2
   ·exact fin_first hH1 rfl (row_flt _ _) ⟨(_,_),fun h => by simp at h,rfl,rfl⟩
   rotate_left 1
  all_goals
   have hsup : c.super ≠ [] → ∃ k d,place cs c.super = some k ∧ cs[k]? = some d ∧ d.iface = false:=by
    first
     | exact fun _ => ⟨kq,kc,hkq,hkc,hq⟩
     | exact fun h => absurd (by simpa using hq) h
  all_goals refine at_loop hm (fun mm e S' => ∃ q : Nat,S' = ⟨hp H1 H.length (.cells [.int .i64 0,.int .i64 0]) (J ++ [.cells (clsRow c)]),rw⟩ ∧ q ≤ c.above.length ∧ (∀ a ∈ c.above.take q,∃ k d,place cs a = some k ∧ cs[k]? = some d ∧ d.iface = true) ∧ mm = c.above.length - q ∧ e = [(0,.ptr n 0),(2,.ptr H.length 0),(4,.ptr (H1.length + J.length) 0),(14,.list 9 tg (cs.map clsRow)),(15,.int .i64 ((cs.map clsRow).length : Int)),(16,.int .i64 i),(50,lst 1 (c.above.map nmRow)),(51,.int .i64 ((c.above.map nmRow).length : Int)),(52,.int .i64 q)]) ?_ (m:=c.above.length) ⟨0,rfl,by omega,by simp,rfl,rfl⟩
  all_goals
   rintro mm e S' ⟨q,rfl,hq0,hqa,rfl,rfl⟩
   have hlc : (c.above.map nmRow).length = c.above.length:=List.length_map _
   by_cases hq1 : q < c.above.length
   ·obtain ⟨a,ha⟩ : ∃ a,c.above[q]? = some a:=⟨_,List.getElem?_eq_getElem hq1⟩
    have har : (c.above.map nmRow)[q]? = some (nmRow a):=by rw [List.getElem?_map,ha]; rfl
    have hl5 : lst 1 (c.above.map nmRow) = .list 1 .dead (c.above.map nmRow):=lst_of_lt (i:=q) (by rw [List.length_map]; exact hq1)
    rw [hl5]
    refine' stH
    all_goals first
     | exact fin_first hH1 rfl (row_flt _ _) ⟨(_,_),fun h => by simp at h,rfl,rfl⟩
     | skip
    refine ⟨c.above.length - (q + 1),by omega,q + 1,rfl,by omega,?_,rfl,rfl⟩
    rw [take_snoc ha]
    intro x hx
    rcases List.mem_append.1 hx with h1 | h1
    ·exact hqa x h1
    ·rw [List.mem_singleton.1 h1]
     exact ⟨kq,kc,hkq,hkc,by simpa using hq⟩
   ·refine' stH
    exact ⟨cs.length - (i + 1),by omega,i + 1,_,rfl,by omega,linked_snoc hc hok ⟨hsup,fun a ha => hqa a (by rw [show q = c.above.length by omega,List.take_length]; exact ha)⟩,rfl,rfl⟩
 ·refine' stH
  exact fin_first hH1 rfl (row_flt 0 0) ⟨(0,0),fun _ c hc => hok c (by rw [show i = cs.length by omega,List.take_length]; exact hc),rfl,rfl⟩
end Go.Proofs.YtmeakjgbjldkdaaGreat.Ai
namespace Go.Proofs.YtmeakjgbjldkdaaGreat.Ai
open Go
set_option maxRecDepth 100000
set_option maxHeartbeats 16000000
def F204a : {l : List IC // Tr.fn Tr.TT Tryz.f204 0 [[0,1],[0,1,5],[0,5,6],[0,5,6,18],[0,5,6],[0,5,30,31,32],[0,5,30,31,32,33],[0,5,8,30,31,32],[0,5,30,31,32],[0,5,30,31,32],[4]] = l}:=⟨_,by cbv⟩
def r204_0 : IC:=Tr.pk F204a.1 0
def r204_1 : IC:=Tr.pk F204a.1 1
def r204_2 : IC:=Tr.pk F204a.1 2
def r204_3 : IC:=Tr.pk F204a.1 3
def r204_4 : IC:=Tr.pk F204a.1 4
def r204_5 : IC:=Tr.pk F204a.1 5
def r204_6 : IC:=Tr.pk F204a.1 6
def r204_7 : IC:=Tr.pk F204a.1 7
def r204_8 : IC:=Tr.pk F204a.1 8
def r204_9 : IC:=Tr.pk F204a.1 9
def r204_10 : IC:=Tr.pk F204a.1 10
noncomputable def i204 : IFn:=⟨2,(.seq r204_0 (.seq r204_1 (.seq r204_2 (.seq (.seq r204_3 (.cond (.tmp 18) r204_4 (.skip))) (.seq (.seq r204_5 (.block 0 (.loop [0,5,30,31,32] (.seq r204_6 (.seq (.cond (.tmp 33) (.skip) (.exit 0)) (.seq (.block 1 (.seq r204_7 r204_8)) r204_9)))))) (.seq r204_10 .ret)))))),[.tmp 4]⟩
theorem c204 : chkFn Tryz.prog Tryz.f204 i204 = true:=by kernel_rfl
def F57a : {l : List IC // Tr.fn Tr.TT Tryz.f57 0 [[0,1],[0,1,5],[0,1,5,9],[0,1,5,18],[4],[0,1,5],[4]] = l}:=⟨_,by cbv⟩
def r57_0 : IC:=Tr.pk F57a.1 0
def r57_1 : IC:=Tr.pk F57a.1 1
def r57_2 : IC:=Tr.pk F57a.1 2
def r57_3 : IC:=Tr.pk F57a.1 3
def r57_4 : IC:=Tr.pk F57a.1 4
def r57_5 : IC:=Tr.pk F57a.1 5
def r57_6 : IC:=Tr.pk F57a.1 6
noncomputable def i57 : IFn:=⟨2,(.seq r57_0 (.seq (.seq r57_1 (.block 0 (.loop [0,1,5] (.seq (.seq r57_2 (.cond (.tmp 9) (.skip) (.exit 0))) (.seq (.block 1 (.seq r57_3 (.cond (.tmp 18) (.seq r57_4 .ret) (.skip)))) r57_5))))) (.seq r57_6 .ret))),[.tmp 4]⟩
theorem c57 : chkFn Tryz.prog Tryz.f57 i57 = true:=by kernel_rfl
def F21a : {l : List IC // Tr.fn Tr.TT Tryz.f21 0 [[0,3],[0,3,18],[4,5],[0,3,6],[0,3,6,25],[0,3,6,7,8],[0,3,6,7,8,39],[4,5],[0,3,6],[4,5]] = l}:=⟨_,by cbv⟩
def r21_0 : IC:=Tr.pk F21a.1 0
def r21_1 : IC:=Tr.pk F21a.1 1
def r21_2 : IC:=Tr.pk F21a.1 2
def r21_3 : IC:=Tr.pk F21a.1 3
def r21_4 : IC:=Tr.pk F21a.1 4
def r21_5 : IC:=Tr.pk F21a.1 5
def r21_6 : IC:=Tr.pk F21a.1 6
def r21_7 : IC:=Tr.pk F21a.1 7
def r21_8 : IC:=Tr.pk F21a.1 8
def r21_9 : IC:=Tr.pk F21a.1 9
noncomputable def i21 : IFn:=⟨2,(.seq r21_0 (.seq (.seq r21_1 (.cond (.tmp 18) (.seq r21_2 .ret) (.skip))) (.seq (.seq r21_3 (.block 0 (.loop [0,3,6] (.seq (.seq r21_4 (.cond (.tmp 25) (.skip) (.exit 0))) (.seq (.block 1 (.seq r21_5 (.seq r21_6 (.cond (.tmp 39) (.seq r21_7 .ret) (.skip))))) r21_8))))) (.seq r21_9 .ret)))),[.tmp 4,.tmp 5]⟩
theorem c21 : chkFn Tryz.prog Tryz.f21 i21 = true:=by kernel_rfl
def F53a : {l : List IC // Tr.fn Tr.TT Tryz.f53 0 [[1],[2]] = l}:=⟨_,by cbv⟩
def r53_0 : IC:=Tr.pk F53a.1 0
def r53_1 : IC:=Tr.pk F53a.1 1
noncomputable def i53 : IFn:=⟨1,(.seq r53_0 (.seq r53_1 .ret)),[.tmp 2]⟩
theorem c53 : chkFn Tryz.prog Tryz.f53 i53 = true:=by kernel_rfl
def F16a : {l : List IC // Tr.fn Tr.TT Tryz.f16 0 [[1],[1,4],[1,4,5],[2],[1,4,7],[2],[1,4,9],[2],[1,4,11],[2],[1,13],[2],[2]] = l}:=⟨_,by cbv⟩
def r16_0 : IC:=Tr.pk F16a.1 0
def r16_1 : IC:=Tr.pk F16a.1 1
def r16_2 : IC:=Tr.pk F16a.1 2
def r16_3 : IC:=Tr.pk F16a.1 3
def r16_4 : IC:=Tr.pk F16a.1 4
def r16_5 : IC:=Tr.pk F16a.1 5
def r16_6 : IC:=Tr.pk F16a.1 6
def r16_7 : IC:=Tr.pk F16a.1 7
def r16_8 : IC:=Tr.pk F16a.1 8
def r16_9 : IC:=Tr.pk F16a.1 9
def r16_10 : IC:=Tr.pk F16a.1 10
def r16_11 : IC:=Tr.pk F16a.1 11
def r16_12 : IC:=Tr.pk F16a.1 12
noncomputable def i16 : IFn:=⟨1,(.seq r16_0 (.seq (.seq r16_1 (.block 0 (.seq r16_2 (.cond (.tmp 5) (.seq r16_3 .ret) (.seq r16_4 (.cond (.tmp 7) (.seq r16_5 .ret) (.seq r16_6 (.cond (.tmp 9) (.seq r16_7 .ret) (.seq r16_8 (.cond (.tmp 11) (.seq r16_9 .ret) (.seq r16_10 (.cond (.tmp 13) (.seq r16_11 .ret) (.skip))))))))))))) (.seq r16_12 .ret))),[.tmp 2]⟩
theorem c16 : chkFn Tryz.prog Tryz.f16 i16 = true:=by kernel_rfl
def F18a : {l : List IC // Tr.fn Tr.TT Tryz.f18 0 [[0,1],[1,5],[1,5,6],[1,5,6,12],[1,5,6,16],[1,5,6],[1,5,6],[1,5,6],[4]] = l}:=⟨_,by cbv⟩
def r18_0 : IC:=Tr.pk F18a.1 0
def r18_1 : IC:=Tr.pk F18a.1 1
def r18_2 : IC:=Tr.pk F18a.1 2
def r18_3 : IC:=Tr.pk F18a.1 3
def r18_4 : IC:=Tr.pk F18a.1 4
def r18_5 : IC:=Tr.pk F18a.1 5
def r18_6 : IC:=Tr.pk F18a.1 6
def r18_7 : IC:=Tr.pk F18a.1 7
def r18_8 : IC:=Tr.pk F18a.1 8
noncomputable def i18 : IFn:=⟨2,(.seq r18_0 (.seq r18_1 (.seq (.seq r18_2 (.block 0 (.loop [1,5,6] (.seq (.seq r18_3 (.cond (.tmp 12) (.skip) (.exit 0))) (.seq (.block 1 (.seq (.seq r18_4 (.cond (.tmp 16) r18_5 (.skip))) r18_6)) r18_7))))) (.seq r18_8 .ret)))),[.tmp 4]⟩
theorem c18 : chkFn Tryz.prog Tryz.f18 i18 = true:=by kernel_rfl
end Go.Proofs.YtmeakjgbjldkdaaGreat.Ai
namespace Go.Proofs.YtmeakjgbjldkdaaGreat.Ai
open Go
set_option maxRecDepth 100000
set_option maxHeartbeats 16000000
def F52a : {l : List IC // Tr.fn Tr.TT Tryz.f52 0 [[1],[1,3],[1,3,7],[1,3,7,8],[1,3],[1,3,7,10],[1,3],[1,3,7,12],[1,3],[1,3,7,16],[1,3,21],[1,3],[1,3],[1,3,7,29],[1,3],[1,3,31],[1,3],[1,3,34],[1,3],[3,38,39,40],[3,38,39,40,41],[3,5,38,39,40],[3,38,39,40],[3,38,39,40],[2]] = l}:=⟨_,by cbv⟩
def r52_0 : IC:=Tr.pk F52a.1 0
def r52_1 : IC:=Tr.pk F52a.1 1
def r52_2 : IC:=Tr.pk F52a.1 2
def r52_3 : IC:=Tr.pk F52a.1 3
def r52_4 : IC:=Tr.pk F52a.1 4
def r52_5 : IC:=Tr.pk F52a.1 5
def r52_6 : IC:=Tr.pk F52a.1 6
def r52_7 : IC:=Tr.pk F52a.1 7
def r52_8 : IC:=Tr.pk F52a.1 8
def r52_9 : IC:=Tr.pk F52a.1 9
def r52_10 : IC:=Tr.pk F52a.1 10
def r52_11 : IC:=Tr.pk F52a.1 11
def r52_12 : IC:=Tr.pk F52a.1 12
def r52_13 : IC:=Tr.pk F52a.1 13
def r52_14 : IC:=Tr.pk F52a.1 14
def r52_15 : IC:=Tr.pk F52a.1 15
def r52_16 : IC:=Tr.pk F52a.1 16
def r52_17 : IC:=Tr.pk F52a.1 17
def r52_18 : IC:=Tr.pk F52a.1 18
def r52_19 : IC:=Tr.pk F52a.1 19
def r52_20 : IC:=Tr.pk F52a.1 20
def r52_21 : IC:=Tr.pk F52a.1 21
def r52_22 : IC:=Tr.pk F52a.1 22
def r52_23 : IC:=Tr.pk F52a.1 23
def r52_24 : IC:=Tr.pk F52a.1 24
noncomputable def i52 : IFn:=⟨1,(.seq r52_0 (.seq r52_1 (.seq (.seq r52_2 (.block 0 (.seq r52_3 (.cond (.tmp 8) r52_4 (.seq r52_5 (.cond (.tmp 10) r52_6 (.seq r52_7 (.cond (.tmp 12) r52_8 (.seq r52_9 (.cond (.tmp 16) (.seq (.seq r52_10 (.cond (.tmp 21) r52_11 (.skip))) r52_12) (.seq r52_13 (.cond (.tmp 29) r52_14 (.seq r52_15 (.cond (.tmp 31) r52_16 (.skip))))))))))))))) (.seq (.seq r52_17 (.cond (.tmp 34) r52_18 (.skip))) (.seq (.seq r52_19 (.block 1 (.loop [3,38,39,40] (.seq r52_20 (.seq (.cond (.tmp 41) (.skip) (.exit 1)) (.seq (.block 2 (.seq r52_21 r52_22)) r52_23)))))) (.seq r52_24 .ret)))))),[.tmp 2]⟩
theorem c52 : chkFn Tryz.prog Tryz.f52 i52 = true:=by kernel_rfl
def F96a : {l : List IC // Tr.fn Tr.TT Tryz.f96 0 [[1],[1,3,4],[1,3,4,5],[1,3,4,5,19],[1,3,4,5,19,20],[1,3,4,5,19,20],[2],[1,3,4,5,19,25],[2],[1,3,4,5,19,33],[2],[1,3,4,5,19,52],[2],[1,3,4,5,19,63],[1,6],[1,6,66,67,68],[1,6,66,67,68,69],[1,8,66,67,68],[1,6,66,67,68],[1,6,66,67,68],[2],[1,3,4,5,19,83],[2],[1,3,4,5,19,92],[2],[1,3,4,5,19,98],[2],[1,3,4,5,19,100],[2],[1,3,4,5,19,105],[2],[1,3,4,5,110],[2],[1,3,4,5,119],[2],[1,3,4,5,9],[1,3,4,5,9,124],[1,3,4,5,9]] = l}:=⟨_,by cbv⟩
def r96_0 : IC:=Tr.pk F96a.1 0
def r96_1 : IC:=Tr.pk F96a.1 1
def r96_2 : IC:=Tr.pk F96a.1 2
def r96_3 : IC:=Tr.pk F96a.1 3
def r96_4 : IC:=Tr.pk F96a.1 4
def r96_5 : IC:=Tr.pk F96a.1 5
def r96_6 : IC:=Tr.pk F96a.1 6
def r96_7 : IC:=Tr.pk F96a.1 7
def r96_8 : IC:=Tr.pk F96a.1 8
def r96_9 : IC:=Tr.pk F96a.1 9
def r96_10 : IC:=Tr.pk F96a.1 10
def r96_11 : IC:=Tr.pk F96a.1 11
def r96_12 : IC:=Tr.pk F96a.1 12
def r96_13 : IC:=Tr.pk F96a.1 13
def r96_14 : IC:=Tr.pk F96a.1 14
def r96_15 : IC:=Tr.pk F96a.1 15
def r96_16 : IC:=Tr.pk F96a.1 16
def r96_17 : IC:=Tr.pk F96a.1 17
def r96_18 : IC:=Tr.pk F96a.1 18
def r96_19 : IC:=Tr.pk F96a.1 19
def r96_20 : IC:=Tr.pk F96a.1 20
def r96_21 : IC:=Tr.pk F96a.1 21
def r96_22 : IC:=Tr.pk F96a.1 22
def r96_23 : IC:=Tr.pk F96a.1 23
def r96_24 : IC:=Tr.pk F96a.1 24
def r96_25 : IC:=Tr.pk F96a.1 25
def r96_26 : IC:=Tr.pk F96a.1 26
def r96_27 : IC:=Tr.pk F96a.1 27
def r96_28 : IC:=Tr.pk F96a.1 28
def r96_29 : IC:=Tr.pk F96a.1 29
def r96_30 : IC:=Tr.pk F96a.1 30
def r96_31 : IC:=Tr.pk F96a.1 31
def r96_32 : IC:=Tr.pk F96a.1 32
def r96_33 : IC:=Tr.pk F96a.1 33
def r96_34 : IC:=Tr.pk F96a.1 34
def r96_35 : IC:=Tr.pk F96a.1 35
def r96_36 : IC:=Tr.pk F96a.1 36
def r96_37 : IC:=Tr.pk F96a.1 37
def F96b : {l : List IC // Tr.fn Tr.TT Tryz.f96 38 [[2]] = l}:=⟨_,by cbv⟩
def r96_38 : IC:=Tr.pk F96b.1 0
noncomputable def i96 : IFn:=⟨1,(.seq r96_0 (.seq r96_1 (.seq r96_2 (.seq (.seq r96_3 (.block 0 (.seq (.seq r96_4 (.cond (.tmp 20) (.skip) r96_5)) (.cond (.tmp 20) (.seq r96_6 .ret) (.seq r96_7 (.cond (.tmp 25) (.seq r96_8 .ret) (.seq r96_9 (.cond (.tmp 33) (.seq r96_10 .ret) (.seq r96_11 (.cond (.tmp 52) (.seq r96_12 .ret) (.seq r96_13 (.cond (.tmp 63) (.seq r96_14 (.seq (.seq r96_15 (.block 1 (.loop [1,6,66,67,68] (.seq r96_16 (.seq (.cond (.tmp 69) (.skip) (.exit 1)) (.seq (.block 2 (.seq r96_17 r96_18)) r96_19)))))) (.seq r96_20 .ret))) (.seq r96_21 (.cond (.tmp 83) (.seq r96_22 .ret) (.seq r96_23 (.cond (.tmp 92) (.seq r96_24 .ret) (.seq r96_25 (.cond (.tmp 98) (.seq r96_26 .ret) (.seq r96_27 (.cond (.tmp 100) (.seq r96_28 .ret) (.seq r96_29 (.cond (.tmp 105) (.seq r96_30 .ret) (.seq r96_31 (.cond (.tmp 110) (.seq r96_32 .ret) (.skip))))))))))))))))))))))))) (.seq (.seq r96_33 (.cond (.tmp 119) (.seq r96_34 .ret) (.skip))) (.seq r96_35 (.seq (.seq r96_36 (.cond (.tmp 124) r96_37 (.skip))) (.seq r96_38 .ret)))))))),[.tmp 2]⟩
theorem c96 : chkFn Tryz.prog Tryz.f96 i96 = true:=by kernel_rfl
def F97a : {l : List IC // Tr.fn Tr.TT Tryz.f97 0 [[1],[1],[1,6],[1,6,9],[1,3],[1,6,11],[1,3],[1,13],[1,3],[1,3],[1,3,22],[1,3],[1,3,4],[1,3,4,29],[1,3,4],[1,3,4],[2]] = l}:=⟨_,by cbv⟩
def r97_0 : IC:=Tr.pk F97a.1 0
def r97_1 : IC:=Tr.pk F97a.1 1
def r97_2 : IC:=Tr.pk F97a.1 2
def r97_3 : IC:=Tr.pk F97a.1 3
def r97_4 : IC:=Tr.pk F97a.1 4
def r97_5 : IC:=Tr.pk F97a.1 5
def r97_6 : IC:=Tr.pk F97a.1 6
def r97_7 : IC:=Tr.pk F97a.1 7
def r97_8 : IC:=Tr.pk F97a.1 8
def r97_9 : IC:=Tr.pk F97a.1 9
def r97_10 : IC:=Tr.pk F97a.1 10
def r97_11 : IC:=Tr.pk F97a.1 11
def r97_12 : IC:=Tr.pk F97a.1 12
def r97_13 : IC:=Tr.pk F97a.1 13
def r97_14 : IC:=Tr.pk F97a.1 14
def r97_15 : IC:=Tr.pk F97a.1 15
def r97_16 : IC:=Tr.pk F97a.1 16
noncomputable def i97 : IFn:=⟨1,(.seq r97_0 (.seq r97_1 (.seq (.seq r97_2 (.block 0 (.seq r97_3 (.cond (.tmp 9) r97_4 (.seq r97_5 (.cond (.tmp 11) r97_6 (.seq r97_7 (.cond (.tmp 13) r97_8 r97_9)))))))) (.seq (.seq r97_10 (.cond (.tmp 22) r97_11 (.skip))) (.seq (.seq r97_12 (.block 1 (.loop [1,3,4] (.seq (.seq r97_13 (.cond (.tmp 29) (.skip) (.exit 1))) (.seq (.block 2 r97_14) r97_15))))) (.seq r97_16 .ret)))))),[.tmp 2]⟩
theorem c97 : chkFn Tryz.prog Tryz.f97 i97 = true:=by kernel_rfl
def F127a : {l : List IC // Tr.fn Tr.TT Tryz.f127 0 [[0],[0,3],[3,6,7,8],[3,6,7,8,9],[3,5,6,7,8],[3,6,7,8],[3,6,7,8],[2]] = l}:=⟨_,by cbv⟩
def r127_0 : IC:=Tr.pk F127a.1 0
def r127_1 : IC:=Tr.pk F127a.1 1
def r127_2 : IC:=Tr.pk F127a.1 2
def r127_3 : IC:=Tr.pk F127a.1 3
def r127_4 : IC:=Tr.pk F127a.1 4
def r127_5 : IC:=Tr.pk F127a.1 5
def r127_6 : IC:=Tr.pk F127a.1 6
def r127_7 : IC:=Tr.pk F127a.1 7
noncomputable def i127 : IFn:=⟨1,(.seq r127_0 (.seq r127_1 (.seq (.seq r127_2 (.block 0 (.loop [3,6,7,8] (.seq r127_3 (.seq (.cond (.tmp 9) (.skip) (.exit 0)) (.seq (.block 1 (.seq r127_4 r127_5)) r127_6)))))) (.seq r127_7 .ret)))),[.tmp 2]⟩
theorem c127 : chkFn Tryz.prog Tryz.f127 i127 = true:=by kernel_rfl
def F142a : {l : List IC // Tr.fn Tr.TT Tryz.f142 0 [[0,1,4],[0,1,4,8],[4],[4]] = l}:=⟨_,by cbv⟩
def r142_0 : IC:=Tr.pk F142a.1 0
def r142_1 : IC:=Tr.pk F142a.1 1
def r142_2 : IC:=Tr.pk F142a.1 2
def r142_3 : IC:=Tr.pk F142a.1 3
noncomputable def i142 : IFn:=⟨2,(.seq r142_0 (.seq (.seq r142_1 (.cond (.tmp 8) (.seq r142_2 .ret) (.skip))) (.seq r142_3 .ret))),[.cell 4 (some 5)]⟩
theorem c142 : chkFn Tryz.prog Tryz.f142 i142 = true:=by kernel_rfl
def F143a : {l : List IC // Tr.fn Tr.TT Tryz.f143 0 [[1],[1,5],[1,5,6],[2],[1,5,8],[1,8],[2],[3],[3,15],[2],[2]] = l}:=⟨_,by cbv⟩
def r143_0 : IC:=Tr.pk F143a.1 0
def r143_1 : IC:=Tr.pk F143a.1 1
def r143_2 : IC:=Tr.pk F143a.1 2
def r143_3 : IC:=Tr.pk F143a.1 3
def r143_4 : IC:=Tr.pk F143a.1 4
def r143_5 : IC:=Tr.pk F143a.1 5
def r143_6 : IC:=Tr.pk F143a.1 6
def r143_7 : IC:=Tr.pk F143a.1 7
def r143_8 : IC:=Tr.pk F143a.1 8
def r143_9 : IC:=Tr.pk F143a.1 9
def r143_10 : IC:=Tr.pk F143a.1 10
noncomputable def i143 : IFn:=⟨1,(.seq r143_0 (.seq (.seq r143_1 (.block 0 (.seq r143_2 (.cond (.tmp 6) (.seq r143_3 .ret) (.seq (.seq r143_4 (.cond (.tmp 8) (.skip) r143_5)) (.cond (.tmp 8) (.seq r143_6 .ret) (.skip))))))) (.seq (.seq r143_7 (.seq r143_8 (.cond (.tmp 15) (.seq r143_9 .ret) (.skip)))) (.seq r143_10 .ret)))),[.tmp 2]⟩
theorem c143 : chkFn Tryz.prog Tryz.f143 i143 = true:=by kernel_rfl
def F144a : {l : List IC // Tr.fn Tr.TT Tryz.f144 0 [[1],[2]] = l}:=⟨_,by cbv⟩
def r144_0 : IC:=Tr.pk F144a.1 0
def r144_1 : IC:=Tr.pk F144a.1 1
noncomputable def i144 : IFn:=⟨1,(.seq r144_0 (.seq r144_1 .ret)),[.tmp 2]⟩
theorem c144 : chkFn Tryz.prog Tryz.f144 i144 = true:=by kernel_rfl
def F145a : {l : List IC // Tr.fn Tr.TT Tryz.f145 0 [[1,2],[2,8],[4],[4]] = l}:=⟨_,by cbv⟩
def r145_0 : IC:=Tr.pk F145a.1 0
def r145_1 : IC:=Tr.pk F145a.1 1
def r145_2 : IC:=Tr.pk F145a.1 2
def r145_3 : IC:=Tr.pk F145a.1 3
noncomputable def i145 : IFn:=⟨2,(.seq r145_0 (.seq (.seq r145_1 (.cond (.tmp 8) (.seq r145_2 .ret) (.skip))) (.seq r145_3 .ret))),[.tmp 4]⟩
theorem c145 : chkFn Tryz.prog Tryz.f145 i145 = true:=by kernel_rfl
def F146a : {l : List IC // Tr.fn Tr.TT Tryz.f146 0 [[1],[1,7],[1,7,8],[1,7,8],[2],[1,7,13],[1,7,13],[1,7,13],[1,7,13],[2],[1,7,20],[2],[1,7,22],[2],[1,7,31],[2],[1,7,42],[2],[1,7,56],[2],[1,7,67],[2],[1,7,85],[2],[1,7,100],[2],[1,108],[2],[1,3],[1,3,4,5],[1,3,4,5,123],[1,3,4,5],[1,4,5,125],[1,4,5]] = l}:=⟨_,by cbv⟩
def r146_0 : IC:=Tr.pk F146a.1 0
def r146_1 : IC:=Tr.pk F146a.1 1
def r146_2 : IC:=Tr.pk F146a.1 2
def r146_3 : IC:=Tr.pk F146a.1 3
def r146_4 : IC:=Tr.pk F146a.1 4
def r146_5 : IC:=Tr.pk F146a.1 5
def r146_6 : IC:=Tr.pk F146a.1 6
def r146_7 : IC:=Tr.pk F146a.1 7
def r146_8 : IC:=Tr.pk F146a.1 8
def r146_9 : IC:=Tr.pk F146a.1 9
def r146_10 : IC:=Tr.pk F146a.1 10
def r146_11 : IC:=Tr.pk F146a.1 11
def r146_12 : IC:=Tr.pk F146a.1 12
def r146_13 : IC:=Tr.pk F146a.1 13
def r146_14 : IC:=Tr.pk F146a.1 14
def r146_15 : IC:=Tr.pk F146a.1 15
def r146_16 : IC:=Tr.pk F146a.1 16
def r146_17 : IC:=Tr.pk F146a.1 17
def r146_18 : IC:=Tr.pk F146a.1 18
def r146_19 : IC:=Tr.pk F146a.1 19
def r146_20 : IC:=Tr.pk F146a.1 20
def r146_21 : IC:=Tr.pk F146a.1 21
def r146_22 : IC:=Tr.pk F146a.1 22
def r146_23 : IC:=Tr.pk F146a.1 23
def r146_24 : IC:=Tr.pk F146a.1 24
def r146_25 : IC:=Tr.pk F146a.1 25
def r146_26 : IC:=Tr.pk F146a.1 26
def r146_27 : IC:=Tr.pk F146a.1 27
def r146_28 : IC:=Tr.pk F146a.1 28
def r146_29 : IC:=Tr.pk F146a.1 29
def r146_30 : IC:=Tr.pk F146a.1 30
def r146_31 : IC:=Tr.pk F146a.1 31
def r146_32 : IC:=Tr.pk F146a.1 32
def r146_33 : IC:=Tr.pk F146a.1 33
def F146b : {l : List IC // Tr.fn Tr.TT Tryz.f146 34 [[2]] = l}:=⟨_,by cbv⟩
def r146_34 : IC:=Tr.pk F146b.1 0
noncomputable def i146 : IFn:=⟨1,(.seq r146_0 (.seq (.seq r146_1 (.block 0 (.seq (.seq r146_2 (.cond (.tmp 8) (.skip) r146_3)) (.cond (.tmp 8) (.seq r146_4 .ret) (.seq (.seq r146_5 (.cond (.tmp 13) (.skip) (.seq r146_6 (.cond (.tmp 13) (.skip) (.seq r146_7 (.cond (.tmp 13) (.skip) r146_8)))))) (.cond (.tmp 13) (.seq r146_9 .ret) (.seq r146_10 (.cond (.tmp 20) (.seq r146_11 .ret) (.seq r146_12 (.cond (.tmp 22) (.seq r146_13 .ret) (.seq r146_14 (.cond (.tmp 31) (.seq r146_15 .ret) (.seq r146_16 (.cond (.tmp 42) (.seq r146_17 .ret) (.seq r146_18 (.cond (.tmp 56) (.seq r146_19 .ret) (.seq r146_20 (.cond (.tmp 67) (.seq r146_21 .ret) (.seq r146_22 (.cond (.tmp 85) (.seq r146_23 .ret) (.seq r146_24 (.cond (.tmp 100) (.seq r146_25 .ret) (.seq r146_26 (.cond (.tmp 108) (.seq r146_27 .ret) (.skip))))))))))))))))))))))))) (.seq r146_28 (.seq r146_29 (.seq (.seq r146_30 (.cond (.tmp 123) r146_31 (.skip))) (.seq (.seq r146_32 (.cond (.tmp 125) r146_33 (.skip))) (.seq r146_34 .ret))))))),[.tmp 2]⟩
theorem c146 : chkFn Tryz.prog Tryz.f146 i146 = true:=by kernel_rfl
def F198a : {l : List IC // Tr.fn Tr.TT Tryz.f198 0 [[0],[3],[3,4],[2],[3,6],[2],[3,8],[3,8],[3,8],[3,8],[3,8],[3,8],[2],[3,15],[3,15],[2],[3,18],[3,18],[18],[2],[2]] = l}:=⟨_,by cbv⟩
def r198_0 : IC:=Tr.pk F198a.1 0
def r198_1 : IC:=Tr.pk F198a.1 1
def r198_2 : IC:=Tr.pk F198a.1 2
def r198_3 : IC:=Tr.pk F198a.1 3
def r198_4 : IC:=Tr.pk F198a.1 4
def r198_5 : IC:=Tr.pk F198a.1 5
def r198_6 : IC:=Tr.pk F198a.1 6
def r198_7 : IC:=Tr.pk F198a.1 7
def r198_8 : IC:=Tr.pk F198a.1 8
def r198_9 : IC:=Tr.pk F198a.1 9
def r198_10 : IC:=Tr.pk F198a.1 10
def r198_11 : IC:=Tr.pk F198a.1 11
def r198_12 : IC:=Tr.pk F198a.1 12
def r198_13 : IC:=Tr.pk F198a.1 13
def r198_14 : IC:=Tr.pk F198a.1 14
def r198_15 : IC:=Tr.pk F198a.1 15
def r198_16 : IC:=Tr.pk F198a.1 16
def r198_17 : IC:=Tr.pk F198a.1 17
def r198_18 : IC:=Tr.pk F198a.1 18
def r198_19 : IC:=Tr.pk F198a.1 19
def r198_20 : IC:=Tr.pk F198a.1 20
noncomputable def i198 : IFn:=⟨1,(.seq r198_0 (.seq (.seq r198_1 (.block 0 (.seq r198_2 (.cond (.tmp 4) (.seq r198_3 .ret) (.seq r198_4 (.cond (.tmp 6) (.seq r198_5 .ret) (.seq (.seq r198_6 (.cond (.tmp 8) (.skip) (.seq r198_7 (.cond (.tmp 8) (.skip) (.seq r198_8 (.cond (.tmp 8) (.skip) (.seq r198_9 (.cond (.tmp 8) (.skip) (.seq r198_10 (.cond (.tmp 8) (.skip) r198_11)))))))))) (.cond (.tmp 8) (.seq r198_12 .ret) (.seq (.seq r198_13 (.cond (.tmp 15) (.skip) r198_14)) (.cond (.tmp 15) (.seq r198_15 .ret) (.seq (.seq r198_16 (.cond (.tmp 18) (.skip) (.seq r198_17 (.cond (.tmp 18) (.skip) r198_18)))) (.cond (.tmp 18) (.seq r198_19 .ret) (.skip))))))))))))) (.seq r198_20 .ret))),[.tmp 2]⟩
theorem c198 : chkFn Tryz.prog Tryz.f198 i198 = true:=by kernel_rfl
def F199a : {l : List IC // Tr.fn Tr.TT Tryz.f199 0 [[0],[0,3],[0,3,4],[0,3,4,8],[0,3,4,12],[0,3,4],[0,3,4],[0,3,4],[2]] = l}:=⟨_,by cbv⟩
def r199_0 : IC:=Tr.pk F199a.1 0
def r199_1 : IC:=Tr.pk F199a.1 1
def r199_2 : IC:=Tr.pk F199a.1 2
def r199_3 : IC:=Tr.pk F199a.1 3
def r199_4 : IC:=Tr.pk F199a.1 4
def r199_5 : IC:=Tr.pk F199a.1 5
def r199_6 : IC:=Tr.pk F199a.1 6
def r199_7 : IC:=Tr.pk F199a.1 7
def r199_8 : IC:=Tr.pk F199a.1 8
noncomputable def i199 : IFn:=⟨1,(.seq r199_0 (.seq r199_1 (.seq (.seq r199_2 (.block 0 (.loop [0,3,4] (.seq (.seq r199_3 (.cond (.tmp 8) (.skip) (.exit 0))) (.seq (.block 1 (.seq (.seq r199_4 (.cond (.tmp 12) r199_5 (.skip))) r199_6)) r199_7))))) (.seq r199_8 .ret)))),[.tmp 2]⟩
theorem c199 : chkFn Tryz.prog Tryz.f199 i199 = true:=by kernel_rfl
def F200a : {l : List IC // Tr.fn Tr.TT Tryz.f200 0 [[1,2],[2,8],[4],[4]] = l}:=⟨_,by cbv⟩
def r200_0 : IC:=Tr.pk F200a.1 0
def r200_1 : IC:=Tr.pk F200a.1 1
def r200_2 : IC:=Tr.pk F200a.1 2
def r200_3 : IC:=Tr.pk F200a.1 3
noncomputable def i200 : IFn:=⟨2,(.seq r200_0 (.seq (.seq r200_1 (.cond (.tmp 8) (.seq r200_2 .ret) (.skip))) (.seq r200_3 .ret))),[.tmp 4]⟩
theorem c200 : chkFn Tryz.prog Tryz.f200 i200 = true:=by kernel_rfl
def F229a : {l : List IC // Tr.fn Tr.TT Tryz.f229 0 [[1],[1,11],[2],[3],[3,16],[2],[2]] = l}:=⟨_,by cbv⟩
def r229_0 : IC:=Tr.pk F229a.1 0
def r229_1 : IC:=Tr.pk F229a.1 1
def r229_2 : IC:=Tr.pk F229a.1 2
def r229_3 : IC:=Tr.pk F229a.1 3
def r229_4 : IC:=Tr.pk F229a.1 4
def r229_5 : IC:=Tr.pk F229a.1 5
def r229_6 : IC:=Tr.pk F229a.1 6
noncomputable def i229 : IFn:=⟨1,(.seq r229_0 (.seq (.seq r229_1 (.cond (.tmp 11) (.seq r229_2 .ret) (.skip))) (.seq (.seq r229_3 (.seq r229_4 (.cond (.tmp 16) (.seq r229_5 .ret) (.skip)))) (.seq r229_6 .ret)))),[.tmp 2]⟩
theorem c229 : chkFn Tryz.prog Tryz.f229 i229 = true:=by kernel_rfl
end Go.Proofs.YtmeakjgbjldkdaaGreat.Ai
namespace Go.Proofs.YtmeakjgbjldkdaaGreat.Ai
open Go
def bindF (op : Str) : Int:=if op = [110,101,103] ∨ op = [110,111,116] then 6 else if 0 ≤ levelF op then levelF op else 7
def atT (p : Int × Str) (least : Int) : Str:=if p.1 < least then [40] ++ p.2 ++ [41] else p.2
def joinT (sep : Str) : List Str → Str
 | [] => []
 | [x] => x
 | x :: y :: l => x ++ sep ++ joinT sep (y :: l)
def nulT : Int × Str:=(7,[110,117,108,108])
def textOf (op name : Str) (az : List (Int × Str)) (ty : Str) : Str:=
 let a:=az.getD 0 nulT
 let b:=az.getD 1 nulT
 if op = [110,117,109] ∨ op = [118,97,114] then name
 else if op = [102,105,101,108,100] then atT a 7 ++ [46] ++ name
 else if op = [99,97,108,108] then atT a 7 ++ [46] ++ name ++ [40] ++ joinT [44,32] ((az.drop 1).map (·.2)) ++ [41]
 else if op = [110,101,119] then [110,101,119,32] ++ name ++ [40] ++ joinT [44,32] (az.map (·.2)) ++ [41]
 else if op = [108,105,115,116] then [108,105,115,116,32] ++ ty ++ [40] ++ joinT [44,32] (az.map (·.2)) ++ [41]
 else if op = [105,110,100,101,120] then atT a 7 ++ [91] ++ b.2 ++ [93]
 else if op = [108,101,110] then [108,101,110,40] ++ a.2 ++ [41]
 else if op = [114,101,97,100] then [114,101,97,100,40,41]
 else if op = [110,101,103] then [45] ++ atT a 6
 else if op = [110,111,116] then [33] ++ atT a 6
 else if levelF op < 0 then op
 else atT a (if levelF op = 0 then 1 else if levelF op = 3 then 4 else levelF op) ++ [32] ++ op ++ [32] ++ atT b (if levelF op = 0 then 0 else levelF op + 1)
mutual
def tyText : Ty → Str
 | .mk kind name null elem pred _ => (if kind = 1 then [105,110,116] else if kind = 2 then [98,111,111,108] else if kind = 3 then name else if kind = 4 then tysText elem ++ [91,93] else if kind = 0 then [118,111,105,100] else [110,117,108,108]) ++ (if null then [63] else []) ++ predText pred
def tysText : List Ty → Str
 | [] => []
 | t :: _ => tyText t
def predText : List Xp → Str
 | [] => []
 | x :: xs => [123,118,32,124,32] ++ exText x ++ [125] ++ predText xs
def exText : Xp → Str
 | .mk op name args ty _ => textOf op name (exTexts args) (tysText ty)
def exTexts : List Xp → List (Int × Str)
 | [] => []
 | .mk op name args ty _a :: xs => (bindF op,textOf op name (exTexts args) (tysText ty)) :: exTexts xs
end
def Xp.op : Xp → Str
 | .mk op _ _ _ _ => op
theorem exTexts_cons (x : Xp) (xs : List Xp) : exTexts (x :: xs) = (bindF x.op,exText x) :: exTexts xs:=by
 obtain ⟨op,name,args,ty,a⟩:=x
 simp only [exTexts,exText,Xp.op]
theorem exTexts_nil : exTexts [] = []:=by simp only [exTexts]
theorem exTexts_map (xs : List Xp) : (exTexts xs).map (·.2) = xs.map exText:=by
 induction xs with
 | nil => simp [exTexts]
 | cons x xs ih => rw [exTexts_cons]; simp [ih]
def baseT : Ty → Str
 | .mk kind name _ elem _ _ => if kind = 1 then [105,110,116] else if kind = 2 then [98,111,111,108] else if kind = 3 then name else if kind = 4 then tysText elem ++ [91,93] else if kind = 0 then [118,111,105,100] else [110,117,108,108]
def sigT (name : Str) (ps : List Par) : Str:=name ++ [40] ++ joinT [44] (ps.map fun p => baseT p.type) ++ [41]
theorem len_atT (p : Int × Str) (k : Int) : (atT p k).length ≤ p.2.length + 2:=by
 unfold atT; split <;> simp
def lenTs : List (Int × Str) → Nat
 | [] => 0
 | p :: ps => p.2.length + lenTs ps
theorem len_joinT (sep : Str) : ∀ l : List Str,(joinT sep l).length ≤ (l.map fun x => x.length + sep.length).sum:=by
 intro l
 induction l with
 | nil => simp [joinT]
 | cons x l ih =>
  cases l with
  | nil => simp [joinT]
  | cons y l =>
   simp only [joinT,List.length_append,List.map_cons,List.sum_cons] at ih ⊢
   omega
theorem sum_snd (l : List (Int × Str)) (k : Nat) : ((l.map (·.2)).map fun x => x.length + k).sum = lenTs l + k * l.length:=by
 induction l with
 | nil => simp [lenTs]
 | cons p l ih => simp only [List.map_cons,List.sum_cons,lenTs,List.length_cons,ih,Nat.mul_add,Nat.mul_one]; omega
theorem len_get0 (az : List (Int × Str)) : (az.getD 0 nulT).2.length ≤ lenTs az + 4:=by
 cases az with
 | nil => simp [nulT]
 | cons p l => simp [lenTs]; omega
theorem len_get1 (az : List (Int × Str)) : (az.getD 1 nulT).2.length + (if 0 < az.length then (az.getD 0 nulT).2.length else 0) ≤ lenTs az + 4:=by
 match az with
 | [] => simp [nulT]
 | [p] => simp [nulT,lenTs]; omega
 | p :: q :: l => simp [lenTs]; omega
theorem ite_len {c : Prop} [Decidable c] {a b : Str} {n : Nat} (ha : a.length ≤ n) (hb : b.length ≤ n) : (if c then a else b).length ≤ n:=by
 split
 ·exact ha
 ·exact hb
theorem len_textOf (op name ty : Str) (az : List (Int × Str)) : (textOf op name az ty).length ≤ op.length + name.length + lenTs az + ty.length + 2 * az.length + 16:=by
 have h0:=len_get0 az
 have h1:=len_get1 az
 have ha:=fun k => len_atT (az.getD 0 nulT) k
 have hb:=fun k => len_atT (az.getD 1 nulT) k
 have hj:=len_joinT [44,32] (az.map (·.2))
 rw [show ([44,32] : Str).length = 2 from rfl,sum_snd] at hj
 have hk:=len_joinT [44,32] ((az.drop 1).map (·.2))
 rw [show ([44,32] : Str).length = 2 from rfl,sum_snd] at hk
 have hd : lenTs (az.drop 1) + 2 * (az.drop 1).length + (az.getD 0 nulT).2.length ≤ lenTs az + 2 * az.length + 4:=by
  cases az with
  | nil => simp [lenTs,nulT]
  | cons p l => simp [lenTs]; omega
 have h2 : (az.getD 0 nulT).2.length + (az.getD 1 nulT).2.length ≤ lenTs az + 8:=by
  match az with
  | [] => simp [nulT]
  | [p] => simp [nulT,lenTs]
  | p :: q :: l => simp [lenTs]; omega
 have h3 : (az.getD 1 nulT).2.length ≤ lenTs az + 8:=by omega
 unfold textOf
 simp only
 have a7:=ha 7
 have a6:=ha 6
 have al:=ha (if levelF op = 0 then 1 else if levelF op = 3 then 4 else levelF op)
 have bl:=hb (if levelF op = 0 then 0 else levelF op + 1)
 have c1:=ha 1
 have c4:=ha 4
 have cL:=ha (levelF op)
 have d0:=hb 0
 have dL:=hb (levelF op + 1)
 repeat' refine ite_len ?_ ?_
 all_goals try simp only [List.length_append,List.length_cons,List.length_nil]
 all_goals omega
mutual
theorem len_exText (x : Xp) : (exText x).length + 8 ≤ 32 * wEx x:=by
 obtain ⟨op,name,args,ty,a⟩:=x
 have h1:=len_exTexts args
 have h2:=len_tysText ty
 have h3:=len_textOf op name (tysText ty) (exTexts args)
 simp only [exText,wEx]
 omega
theorem len_exTexts (xs : List Xp) : lenTs (exTexts xs) + 8 * (exTexts xs).length ≤ 32 * wExs xs:=by
 match xs with
 | [] => simp [exTexts,lenTs]
 | x :: xs =>
  have h1:=len_exText x
  have h2:=len_exTexts xs
  rw [exTexts_cons]
  simp only [lenTs,wExs,List.length_cons]
  omega
theorem len_tyText (t : Ty) : (tyText t).length + 8 ≤ 32 * wTy t:=by
 obtain ⟨kind,name,null,elem,pred,a⟩:=t
 have h1:=len_tysText elem
 have h2:=len_predText pred
 simp only [tyText,wTy]
 repeat' split
 all_goals simp only [List.length_append,List.length_cons,List.length_nil]
 all_goals omega
theorem len_tysText (ts : List Ty) : (tysText ts).length ≤ 32 * wTys ts:=by
 match ts with
 | [] => simp [tysText]
 | t :: ts =>
  have h1:=len_tyText t
  simp only [tysText,wTys]
  omega
theorem len_predText (xs : List Xp) : (predText xs).length ≤ 32 * wExs xs:=by
 match xs with
 | [] => simp [predText]
 | x :: xs =>
  have h1:=len_exText x
  have h2:=len_predText xs
  simp only [predText,wExs,List.length_append,List.length_cons,List.length_nil]
  omega
end
theorem len_baseT (t : Ty) : (baseT t).length ≤ 32 * wTy t:=by
 obtain ⟨kind,name,null,elem,pred,a⟩:=t
 have h1:=len_tysText elem
 simp only [baseT,wTy]
 repeat' split
 all_goals try simp only [List.length_append,List.length_cons,List.length_nil]
 all_goals omega
theorem wL_mem {α : Type} (w : α → Nat) {x : α} : ∀ {l : List α},x ∈ l → w x ≤ wL w l:=by
 intro l
 induction l with
 | nil => intro h; cases h
 | cons y l ih =>
  intro h
  simp only [wL]
  rcases List.mem_cons.1 h with h | h
  ·subst h; omega
  ·have:=ih h; omega
theorem wL_len {α : Type} (w : α → Nat) (hw : ∀ x,1 ≤ w x) : ∀ (l : List α),l.length ≤ wL w l:=by
 intro l
 induction l with
 | nil => simp [wL]
 | cons y l ih => simp only [wL,List.length_cons]; have:=hw y; omega
end Go.Proofs.YtmeakjgbjldkdaaGreat.Ai
namespace Go.Proofs.YtmeakjgbjldkdaaGreat.Ai
open Go
variable {pr : Prims} {F : Nat → Option IFn}
structure LibE (pr : Prims) (F : Nat → Option IFn) : Prop extends LibD pr F where
 f16 : Has pr F 16 i16
 f18 : Has pr F 18 i18
 f21 : Has pr F 21 i21
 f53 : Has pr F 53 i53
 f57 : Has pr F 57 i57
 f204 : Has pr F 204 i204
 f52 : Has pr F 52 i52
 f96 : Has pr F 96 i96
 f97 : Has pr F 97 i97
 f127 : Has pr F 127 i127
 f142 : Has pr F 142 i142
 f143 : Has pr F 143 i143
 f144 : Has pr F 144 i144
 f145 : Has pr F 145 i145
 f146 : Has pr F 146 i146
 f198 : Has pr F 198 i198
 f199 : Has pr F 199 i199
 f200 : Has pr F 200 i200
 f229 : Has pr F 229 i229
 join : ∀ (l : List Str) (sep : Str) (v : AV) (H : List Blk) (rw : List Nat),IsL 1 v (l.map nmRow) → (l.map fun x => x.length + sep.length).sum ≤ 2147483648 → (hs : 0 < sep.length:=by decide) → Det pr F 54 [v,.str sep] ⟨H,rw⟩ (.ret (.str (joinT sep l))) ⟨H,rw⟩
theorem b_eqt {tk : TK} {a b : Str} {K : AV → Prop} (h : (a == b) = true) (hk : K (.bool true)) : BnAt tk .eql (.str a) (.str b) K:=⟨_,by simp only [abin,h],hk⟩
theorem b_eqf {tk : TK} {a b : Str} {K : AV → Prop} (h : (a == b) = false) (hk : K (.bool false)) : BnAt tk .eql (.str a) (.str b) K:=⟨_,by simp only [abin,h],hk⟩
def rankF (x : Str) : Int:=
 if x = [124,124] then 0 else if x = [38,38] then 1
 else if x = [61,61] ∨ x = [33,61] ∨ x = [60] ∨ x = [60,61] ∨ x = [62] ∨ x = [62,61] then 2
 else if x = [43] ∨ x = [45] then 3 else if x = [42] ∨ x = [47] ∨ x = [37] then 4 else -1
theorem rank_level (x : Str) (h : x ≠ [61,62]) : rankF x = levelF x - (if levelF x < 0 then 0 else 1):=by
 unfold levelF
 rw [if_neg h]
 unfold rankF
 repeat' split
 all_goals first | rfl | omega
theorem det_rank (L : LibE pr F) (S : St) (x : Str) : Det pr F 198 [.str x] S (.ret (.int .i64 (rankF x))) S:=by
 have hm:=L.hm
 obtain ⟨H,rw⟩:=S
 refine Det.of hm (at_start hm L.f198.1 L.f198.2 rfl ?_)
 refine' hG
 all_goals
  refine fin_ret rfl rfl (List.take_length) ⟨?_,rfl⟩
  simp only [Res.ret.injEq,AV.int.injEq,true_and,rankF]
 all_goals first | (subst hq; rfl) | simp only [*,or_self,if_false]
theorem st_of {H : List Blk} {n : Nat} {b : Blk} {rw : List Nat} (h : H[n]? = some b) : (⟨hp H n b [],rw⟩ : St) = ⟨H,rw⟩:=by rw [← hp_of h]
theorem fin_retF {H H1 M : List Blk} {rw : List Nat} {z b : Blk} {v : AV} {t : Nat} {e : Env} {Q : Res → St → Prop} (hH : H1 = H ++ [z]) (he : eget e t = some v) (hb : Ai.below H.length v = true) (h : Q (.ret v) ⟨H,rw⟩) :
  fin [.tmp t] H.length Q .ret e ⟨hp H1 H.length b M,rw⟩:=by
 subst hH
 exact fin_ret (by simp only [rvals,he]) hb take_own h
theorem rank_le (x : Str) : -1 ≤ rankF x ∧ rankF x ≤ 4:=by
 unfold rankF
 repeat' split
 all_goals omega
theorem bind_rank (op : Str) : bindF op = if op = [61,62] then 0 else if op = [110,101,103] ∨ op = [110,111,116] then 6 else if 0 ≤ rankF op then rankF op + 1 else 7:=by
 by_cases h : op = [61,62]
 ·subst h
  decide
 ·rw [if_neg h]
  unfold bindF
  have hr:=rank_level op h
  have hl : levelF op ≠ 0:=by
   unfold levelF
   rw [if_neg h]
   repeat' split
   all_goals omega
  split
  ·rfl
  ·by_cases h0 : levelF op < 0
   ·rw [if_pos h0] at hr
    rw [if_neg (by omega),if_neg (by omega)]
   ·rw [if_neg h0] at hr
    rw [if_pos (by omega),if_pos (by omega)]
    omega
theorem det_sbind (L : LibE pr F) (x : Xp) : TxOk pr F 143 [.agg (exRow x)] (.int .i64 (bindF x.op)):=by
 have hm:=L.hm
 refine TxOk.of hm ?_
 intro H rw hH
 obtain ⟨op,name,args,ty,a⟩:=x
 refine at_start hm L.f143.1 L.f143.2 rfl ?_
 refine at_seq hm ?_
 unfold r143_0
 show At pr F H.length (fin _ H.length _) _ _ _ _
 refine at_box hm rfl ?_
 intro H1 hH1 hlen hlt
 have hd1:=fun S => det_rank L S op
 have hR : Rx rw rw:=Rx.rfl
 obtain ⟨hrk1,hrk2⟩:=rank_le op
 refine' stH
 all_goals refine fin_retF hH1 rfl rfl ⟨_,hR,?_,rfl⟩
 all_goals rw [show (Xp.mk op name args ty a).op = op from rfl,bind_rank]
 all_goals first
  | rw [if_pos (by assumption)]
  | rw [if_neg (by assumption),if_pos (Or.inl (by assumption))]
  | rw [if_neg (by assumption),if_pos (Or.inr (by assumption))]
  | rw [if_neg (by assumption),if_neg (by rintro (h | h) <;> contradiction),if_pos (by omega)]
  | rw [if_neg (by assumption),if_neg (by rintro (h | h) <;> contradiction),if_neg (by omega)]
end Go.Proofs.YtmeakjgbjldkdaaGreat.Ai
namespace Go.Proofs.YtmeakjgbjldkdaaGreat.Ai
open Go
variable {pr : Prims} {F : Nat → Option IFn}
theorem tx_at (L : LibE pr F) (x : Xp) (k : Int) (hx : TxOk pr F 96 [.agg (exRow x)] (.str (exText x))) (hs : (exText x).length ≤ 2147483648) : TxOk pr F 145 [.agg (exRow x),.int .i64 k] (.str (atT (bindF x.op,exText x) k)):=by
 have hm:=L.hm
 refine TxOk.of hm ?_
 intro H rw hH
 have hR : Rx rw rw:=Rx.rfl
 have hb:=det_sbind L x
 refine at_start hm L.f145.1 L.f145.2 rfl ?_
 refine at_seq hm ?_
 unfold r145_0
 show At pr F H.length (fin _ H.length _) _ _ _ _
 refine at_box hm rfl ?_
 intro H1 hH1 hlen hlt
 refine' stH
 ·exact fin_retF hH1 rfl rfl ⟨_,hR,by rw [atT,if_pos (by assumption)],rfl⟩
 ·exact fin_retF hH1 rfl rfl ⟨_,hR,by rw [atT,if_neg (by omega)],rfl⟩
end Go.Proofs.YtmeakjgbjldkdaaGreat.Ai
namespace Go.Proofs.YtmeakjgbjldkdaaGreat.Ai
open Go
variable {pr : Prims} {F : Nat → Option IFn}
def ixRow (k : Nat) : List AV:=[.int .i64 (k : Int)]
def ixRows (l : List Nat) : List (List AV):=l.map ixRow
theorem ixRows_append (a b : List Nat) : ixRows (a ++ b) = ixRows a ++ ixRows b:=List.map_append
theorem ixRows_len (a : List Nat) : (ixRows a).length = a.length:=List.length_map _
structure TabL (H : List Blk) (n mb : Nat) (cs : List Cls) (z : Nat) (tg : Tag) (ab o1 o2 o3 sl : AV) : Prop extends TabM H n mb cs z tg ab o1 o2 o3 sl where
 linked : Linked cs
 unlike : Unlike cs
 wt : wL wCls cs ≤ 42000000
theorem above_len (c : Cls) : c.above.length + 1 ≤ wCls c:=by
 have:=wL_len wNm (fun x => by simp only [wNm]; omega) c.above
 simp only [wCls]; omega
theorem nxtC_len (cs : List Cls) (c : Cls) : (nxtC cs c).length ≤ wCls c:=by
 have:=above_len c
 unfold nxtC
 split <;> simp <;> omega
theorem det_next (L : LibE pr F) {H : List Blk} {rw : List Nat} {n mb z : Nat} {tg : Tag} {cs : List Cls} {ab o1 o2 o3 sl : AV} (T : TabL H n mb cs z tg ab o1 o2 o3 sl) {i : Nat} (hi : i < cs.length) :
  ∃ (v : AV) (rw' : List Nat),Lst rw 1 v (ixRows (nxt cs i)) rw' ∧ Rx rw rw' ∧ Det pr F 204 [.ptr n 0,.int .i64 i] ⟨H,rw⟩ (.ret v) ⟨H,rw'⟩:=by
 have hm:=L.hm
 suffices h : Wp pr F 204 [.ptr n 0,.int .i64 i] ⟨H,rw⟩ fun r S' => ∃ (v : AV) (rw' : List Nat),Lst rw 1 v (ixRows (nxt cs i)) rw' ∧ Rx rw rw' ∧ r = .ret v ∧ S' = ⟨H,rw'⟩ by
  obtain ⟨r,S',hd,v,rw',h1,h2,rfl,rfl⟩:=h.det hm
  exact ⟨v,rw',h1,h2,hd⟩
 have hlt : n < H.length:=(List.getElem?_eq_some_iff.1 T.at_).1
 have hne : n ≠ mb:=by
  intro h
  have:=T.at_
  rw [h,T.mp] at this
  simp at this
 have hFm:=froz_n hne T.mp
 have hfew:=T.few
 have hlm : (cs.map clsRow).length = cs.length:=List.length_map _
 obtain ⟨c,hc⟩ : ∃ c,cs[i]? = some c:=⟨_,List.getElem?_eq_getElem hi⟩
 have hcr : (cs.map clsRow)[i]? = some (clsRow c):=by rw [List.getElem?_map,hc]; rfl
 have hz : z = 9:=T.sz (by intro h; rw [h] at hi; simp at hi)
 subst hz
 have hbc:=above_len c
 have hbw:=wL_mem wCls (List.mem_of_getElem? hc)
 have hbt:=T.wt
 have hR : Rx rw rw:=Rx.rfl
 refine at_start_hp hm L.f204.1 L.f204.2 rfl (hp_of T.at_) ?_
 refine' stH
 refine id_append ?_
 refine g_append rfl rfl rfl ?_
 refine ap_lst (row:=ixRow ((place cs c.super).getD 0)) (rw0:=rw) Lst.nil hR (by simp [maxRow]) (by simp [maxRow]) (by omega) ?_
 intro l4 rw4 hl4 hR4
 refine zrk6 ?_
 have hl0 : Lst rw 1 l4 (ixRows ((if c.super = [] then [] else [(place cs c.super).getD 0]) ++ (c.above.take 0).map fun a => (place cs a).getD 0)) rw4:=by
  rw [if_neg (by assumption)]
  exact hl4
 have hR0:=hR4
 refine' stH
 rotate_left 1
 have hl0 : Lst rw 1 (.list 0 .full []) (ixRows ((if c.super = [] then [] else [(place cs c.super).getD 0]) ++ (c.above.take 0).map fun a => (place cs a).getD 0)) rw:=by
  rw [if_pos (by simpa using hq)]
  exact Lst.nil
 have hR0:=hR
 all_goals
  refine at_loop hm (fun mm e S' => ∃ (q : Nat) (l : AV) (rw' : List Nat),S' = ⟨hp H n (.cells [.list 9 tg (cs.map clsRow),.map mb,ab,o1,o2,o3,sl]) [.cells (clsRow c)],rw'⟩ ∧ q ≤ c.above.length ∧ Lst rw 1 l (ixRows ((if c.super = [] then [] else [(place cs c.super).getD 0]) ++ (c.above.take q).map fun a => (place cs a).getD 0)) rw' ∧ Rx rw rw' ∧ mm = c.above.length - q ∧ e = [(0,.ptr n 0),(5,l),(30,lst 1 (c.above.map nmRow)),(31,.int .i64 ((c.above.map nmRow).length : Int)),(32,.int .i64 q)]) ?_ (m:=c.above.length) ⟨0,_,_,rfl,by omega,hl0,hR0,rfl,rfl⟩
  clear hl0 hR0
  rintro mm e S' ⟨q,l,rw',rfl,hq0,hl,hR',rfl,rfl⟩
  have hlc : (c.above.map nmRow).length = c.above.length:=List.length_map _
  by_cases hq1 : q < c.above.length
  ·obtain ⟨a,ha⟩ : ∃ a,c.above[q]? = some a:=⟨_,List.getElem?_eq_getElem hq1⟩
   have har : (c.above.map nmRow)[q]? = some (nmRow a):=by rw [List.getElem?_map,ha]; rfl
   have hl5 : lst 1 (c.above.map nmRow) = .list 1 .dead (c.above.map nmRow):=lst_of_lt (i:=q) (by rw [List.length_map]; exact hq1)
   rw [hl5]
   refine' stH
   refine id_append ?_
   refine g_append rfl rfl rfl ?_
   have hb : (ixRows ((if c.super = [] then [] else [(place cs c.super).getD 0]) ++ (c.above.take q).map fun a => (place cs a).getD 0)).length ≤ 1 + q:=by
    rw [ixRows_len,List.length_append,List.length_map,List.length_take]
    split <;> simp <;> omega
   refine ap_lst (row:=ixRow ((place cs a).getD 0)) hl hR' (by simp only [maxRow]; omega) (by simp only [maxRow]; omega) (by omega) ?_
   intro l4 rw4 hl4 hR4
   refine zrk6 ?_
   refine' stH
   refine ⟨c.above.length - (q + 1),by omega,q + 1,l4,rw4,rfl,by omega,?_,hR4,rfl,rfl⟩
   rw [take_snoc ha,List.map_append,← List.append_assoc,ixRows_append]
   exact hl4
  ·refine' stH
   have e2 : nxt cs i = (if c.super = [] then [] else [(place cs c.super).getD 0]) ++ (c.above.take q).map fun a => (place cs a).getD 0:=by
    rw [show q = c.above.length by omega,List.take_length]
    unfold nxt
    rw [hc]
    rfl
   rw [← e2] at hl
   exact fin_ret rfl (hl.isL.below _) (hp_take hlt) ⟨l,rw',hl,hR',rfl,st_of T.at_⟩
end Go.Proofs.YtmeakjgbjldkdaaGreat.Ai
namespace Go.Proofs.YtmeakjgbjldkdaaGreat.Ai
open Go
variable {pr : Prims} {F : Nat → Option IFn}
def Keep (H H' : List Blk) : Prop:=∀ (k : Nat) (c : Blk),H[k]? = some c → H'[k]? = some c
theorem keep_first {H H1 : List Blk} {z : Blk} (hH : H1 = H ++ [z]) (b : Blk) (M : List Blk) : Keep H (hp H1 H.length b M):=fun _ _ hk => froz_first hH hk b M
theorem keep_n {H : List Blk} {n : Nat} {b : Blk} (hb : H[n]? = some b) (M : List Blk) : Keep H (hp H n b M):=by
 intro k c hk
 by_cases h : n = k
 ·subst h
  rw [hb] at hk
  rw [← hk]
  exact hp_get (List.getElem?_eq_some_iff.1 hb).1
 ·exact froz_n h hk b M
theorem TabM.keep {H H' : List Blk} {n mb z : Nat} {tg : Tag} {cs : List Cls} {ab o1 o2 o3 sl : AV} (T : TabM H n mb cs z tg ab o1 o2 o3 sl) (h : Keep H H') : TabM H' n mb cs z tg ab o1 o2 o3 sl:=
 {at_:=h _ _ T.at_,sz:=T.sz,few:=T.few,big:=T.big,mp:=h _ _ T.mp}
mutual
def knownF (cs : List Cls) : Ty → Int × Int
 | .mk kind name _ elem _ at_ => if kind = 3 ∧ place cs name = none then (121,at_) else knownsF cs elem
def knownsF (cs : List Cls) : List Ty → Int × Int
 | [] => (0,0)
 | t :: ts => if (knownF cs t).1 = 0 then knownsF cs ts else knownF cs t
end
theorem wTys_mem {t : Ty} : ∀ {ts : List Ty},t ∈ ts → wTy t ≤ wTys ts:=by
 intro ts
 induction ts with
 | nil => intro h; cases h
 | cons u ts ih =>
  intro h
  simp only [wTys]
  rcases List.mem_cons.1 h with h | h
  ·subst h; omega
  ·have:=ih h; omega
theorem wTys_len : ∀ (ts : List Ty),ts.length ≤ wTys ts:=by
 intro ts
 induction ts with
 | nil => simp
 | cons u ts ih =>
  obtain ⟨k,nm,nl,el,pd,a⟩:=u
  simp only [wTys,wTy,List.length_cons]; omega
theorem tyRows_get {ts : List Ty} {i : Nat} {t : Ty} (h : ts[i]? = some t) : (tyRows ts)[i]? = some (tyRow t):=by rw [tyRows_map,List.getElem?_map,h]; rfl
theorem det_known (L : LibE pr F) {cs : List Cls} : ∀ (k : Nat) (t : Ty),wTy t < k → wTy t ≤ 42000000 → ∀ {H : List Blk} {rw : List Nat} {n mb z : Nat} {tg : Tag} {ab o1 o2 o3 sl : AV},TabM H n mb cs z tg ab o1 o2 o3 sl →
  Det pr F 20 [.ptr n 0,.agg (tyRow t)] ⟨H,rw⟩ (.ret (.agg (fltRow (knownF cs t).1 (knownF cs t).2))) ⟨H,rw⟩:=by
 have hm:=L.hm
 intro k
 induction k with
 | zero => intro t h; omega
 | succ k ih =>
  intro t hk hw H rw n mb z tg ab o1 o2 o3 sl T
  refine Det.of hm ?_
  obtain ⟨kind,name,null,elem,pred,a⟩:=t
  have hel:=wTys_len elem
  have hwe : wTys elem < wTy (.mk kind name null elem pred a):=by simp only [wTy]; omega
  refine at_start hm L.f20.1 L.f20.2 rfl ?_
  refine' hGO
  unfold r20_0
  show At pr F H.length (fin _ H.length _) _ _ _ _
  refine at_first0 hm ?_
  intro H1 hH1 hlen hlt
  have hF:=froz_first hH1 T.at_
  have hFm:=froz_first hH1 T.mp
  have hlt1 : (tyRows elem).length = elem.length:=tyRows_len elem
  refine' stH
  refine in_alloc (q:=H.length) rfl rfl (hp_get hlt) ?_
  refine' stH
  rotate_left 1
  ·refine fin_first hH1 rfl (row_flt _ _) ⟨?_,rfl⟩
   simp only [knownF]
   rw [if_pos ⟨by assumption,by assumption⟩]
  all_goals
   have h0 : knownF cs (.mk kind name null elem pred a) = knownsF cs elem:=by
    simp only [knownF]
    rw [if_neg]
    rintro ⟨h1,h2⟩
    first
     | (rw [hkq] at h2; simp at h2)
     | exact absurd h1 (by assumption)
   refine at_loop hm (fun mm e S' => ∃ (i : Nat) (J : List Blk),S' = ⟨hp H1 H.length (.cells [.int .i64 0,.int .i64 0]) J,rw⟩ ∧ i ≤ elem.length ∧ knownsF cs elem = knownsF cs (elem.drop i) ∧ mm = elem.length - i ∧ e = [(0,.ptr n 0),(4,.ptr H.length 0),(29,lst 6 (tyRows elem)),(30,.int .i64 ((tyRows elem).length : Int)),(31,.int .i64 i)]) ?_ (m:=elem.length) ⟨0,_,rfl,by omega,by simp,rfl,rfl⟩
   rintro mm e S' ⟨i,J,rfl,hi,hkn,rfl,rfl⟩
   by_cases hi1 : i < elem.length
   ·obtain ⟨t',ht'⟩ : ∃ t',elem[i]? = some t':=⟨_,List.getElem?_eq_getElem hi1⟩
    have htr:=tyRows_get ht'
    have hl5 : lst 6 (tyRows elem) = .list 6 .dead (tyRows elem):=lst_of_lt (i:=i) (by omega)
    have hwt:=wTys_mem (List.mem_of_getElem? ht')
    have hdr : elem.drop i = t' :: elem.drop (i + 1):=by rw [List.drop_eq_getElem_cons hi1]; rw [List.getElem?_eq_getElem hi1] at ht'; simp only [Option.some.injEq] at ht'; rw [ht']
    rw [hdr,knownsF] at hkn
    rw [hl5]
    refine' stH
    refine g_call rfl rfl rfl ?_
    refine ⟨_,_,ih t' (by omega) (by omega) (T.keep (keep_first hH1 _ _)),?_⟩
    refine zrk6 ?_
    refine' stH
    ·refine fin_first hH1 rfl (row_flt (knownF cs t').1 (knownF cs t').2) ⟨?_,rfl⟩
     rw [h0,hkn,if_neg (by assumption)]
     rfl
    ·exact ⟨elem.length - (i + 1),by omega,i + 1,_,rfl,by omega,by rw [hkn,if_pos (by assumption)],rfl,rfl⟩
   ·refine' stH
    refine fin_first hH1 rfl (row_flt 0 0) ⟨?_,rfl⟩
    rw [h0,hkn,List.drop_eq_nil_of_le (by omega)]
    rfl
end Go.Proofs.YtmeakjgbjldkdaaGreat.Ai
