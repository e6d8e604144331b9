/- A part of what is proved: R22, L4, C1, C2, Stp4, Stp5, C3. No condition. -/
import Derived.Test.YtmeakjgbjldkdaaGreatVa10
import Derived.Test.YtmeakjgbjldkdaaGreatProg
import Derived.KernelRfl
set_option maxRecDepth 100000
set_option maxHeartbeats 16000000
namespace Go.Proofs.YtmeakjgbjldkdaaGreat.Ai
open Go
variable {pr : Prims} {F : Nat → Option IFn}
structure PrgOut where
 p : Prg
 code : Int
 at_ : Int
 rw : List Nat
def PrgOut.good (rw : List Nat) (o : PrgOut) : Prop:=Rx rw o.rw ∧ (o.code = 0 → okPrg o.p ∧ o.p.classes.length ≤ 6000 ∧ wL wCls o.p.classes + wSms o.p.main ≤ 42000000) ∧ (o.code ≠ 0 → o.p = ⟨[],[]⟩)
theorem hp_J {H : List Blk} {n : Nat} {b c d : Blk} {M : List Blk} (hlt : n < H.length) : hp (hp H n b [c]) H.length d M = hp H n b (d :: M):=by
 unfold hp
 rw [← List.set_append_left _ _ (by simp; omega),List.set_comm _ _ (by omega),List.append_assoc,List.set_append_right _ _ (by omega),Nat.sub_self]
 rfl
theorem prg_end {H H1 M : List Blk} {rw rw' : List Nat} {p : Prg} {z : Blk} {vs : List AV} {c a : Int} (hH : H1 = H ++ [z]) (hv : vs = prgRow p) (hg : PrgOut.good rw ⟨p,c,a,rw'⟩) :
  fin [.cell 2 (some 2),.tmp 3,.tmp 4] H.length (fun r S' => ∃ o : PrgOut,o.good rw ∧ r = .ret (.tup [.agg (prgRow o.p),.int .i64 o.code,.int .i64 o.at_]) ∧ S' = ⟨H,o.rw⟩) .ret [(2,.ptr H.length 0),(3,.int .i64 c),(4,.int .i64 a)] ⟨hp H1 H.length (.cells vs) M,rw'⟩:=by
 subst hH hv
 have e1 : (hp (H ++ [z]) H.length (.cells (prgRow p)) M)[H.length]? = some (.cells (prgRow p)):=hp_get (by simp)
 have e2 : rvals [.cell 2 (some 2),.tmp 3,.tmp 4] [(2,.ptr H.length 0),(3,.int .i64 c),(4,.int .i64 a)] (hp (H ++ [z]) H.length (.cells (prgRow p)) M) = some [.agg (prgRow p),.int .i64 c,.int .i64 a]:=by
  have e3 : aload (some 2) (.ptr H.length 0) (hp (H ++ [z]) H.length (.cells (prgRow p)) M) = some (.agg (prgRow p)):=by
   have:=(row_prg p).load
   simp only [aload,e1]
   simpa only [aload,List.getElem?_cons_zero] using this
  show (match aload (some 2) (.ptr H.length 0) (hp (H ++ [z]) H.length (.cells (prgRow p)) M) with | some v => _ | none => _) = _
  rw [e3]
 refine fin_tup e2 ?_ ?_ ⟨⟨p,c,a,rw'⟩,hg,rfl,rfl⟩
 ·have this : Ai.belowL H.length (prgRow p) = true:=(row_prg p).below H.length
  simp only [Ai.belowL,this,Ai.below,Bool.and_self]
 ·unfold hp
  rw [List.take_set]
  simp [List.set_eq_of_length_le]
theorem c_rcJ {K : AV → St → Prop} {H : List Blk} {rw : List Nat} {n : Nat} {b : Blk} {s : Src} {r : Rd} {M : List Blk} {α : Type} {enc : α → AV} {post : Src → Rd → α → Rd → Prop} {fn : Nat} {args : List AV} {m : Int} (hlt : n < H.length) (hc : RC pr F enc post fn args m) (hok : Rok s r) (hd : 101 ≤ r.deep + m) (hd2 : r.deep ≤ 200)
  (h : ∀ (x : α) (r' : Rd) (rw' : List Nat),Rx rw rw' → Rok s r' → 0 ≤ r'.i → r'.i ≤ s.toks.length → 0 ≤ r'.deep → r.i ≤ r'.i → (r'.code = 0 → r.code = 0) → post s r x r' → K (enc x) ⟨hp H n b (blk s r' :: M),rw'⟩) :
  ClAt pr F fn (.ptr (H.length + 0) 0 :: args) ⟨hp H n b (blk s r :: M),rw⟩ K:=by
 obtain ⟨o,⟨hn,hR,hp'⟩,hdet⟩:=hc (hp H n b [blk s r]) rw H.length s r M (by rw [hp_len]; simp) hok hd hd2
 rw [hp_J hlt,hp_J hlt] at hdet
 exact ⟨_,_,hdet,h o.x o.r o.rw hR ⟨hn.lo,hn.hi,hn.dlo,hn.dhi⟩ hn.lo hn.hi hn.dlo hn.mono hn.code hp'⟩
theorem c_rqJ {K : AV → St → Prop} {H : List Blk} {rw : List Nat} {n : Nat} {b : Blk} {s : Src} {r : Rd} {M : List Blk} {α : Type} {enc : α → AV} {post : Src → Rd → α → Prop} {fn : Nat} {args : List AV} (hlt : n < H.length) (hc : RQ pr F enc post fn args) (hok : Rok s r)
  (h : ∀ (x : α),post s r x → K (enc x) ⟨hp H n b (blk s r :: M),rw⟩) :
  ClAt pr F fn (.ptr (H.length + 0) 0 :: args) ⟨hp H n b (blk s r :: M),rw⟩ K:=by
 obtain ⟨x,hp',hdet⟩:=hc (hp H n b [blk s r]) rw H.length s r M (by rw [hp_len]; simp) hok
 rw [hp_J hlt] at hdet
 exact ⟨_,_,hdet,h x hp'⟩
theorem s_n {b0 n kd : Nat} {H M : List Blk} {rw : List Nat} {b : Blk} {vs cs : List AV} {K : St → Prop} (hlt : n < H.length) (hb0 : b0 ≤ n) (hb : b = .cells cs) (hc : cs.length = kd) (hv : vs.length = kd) (h : K ⟨hp H n (.cells vs) M,rw⟩) : StAt b0 kd (.ptr n 0) (.agg vs) ⟨hp H n b M,rw⟩ K:=by
 refine ⟨_,?_,h⟩
 unfold storeV
 simp only [hp_get hlt,hb]
 rw [if_pos ⟨hv,rfl,by omega,.inl hb0⟩,hp_set,overlay_all (by rw [hc]; exact hv.symm)]
 rfl
theorem LV.get {sz : Nat} {v : AV} {rows : List (List AV)} (h : LV sz v rows) : ∃ z tag,v = .list z tag rows ∧ (rows ≠ [] → z = sz):=by
 rcases h with ⟨tag,rfl⟩ | ⟨rfl,rfl⟩
 ·exact ⟨_,_,rfl,fun _ => rfl⟩
 ·exact ⟨_,_,rfl,fun h => absurd rfl h⟩
section
variable {b0 base ix : Nat} {d : Option Nat} {g : Option (Nat × Bool)} {prev items : List Item} {kp : List Nat} {k : List Fr} {e : Env} {Q : Ex → Env → St → Prop}
theorem g_box {x : Opd} {re : List Nat} {v : AV} {H M M' : List Blk} {n q : Nat} {b : Blk} {rw : List Nat} (hlt : n < H.length) (hw : wanted g (eget e) = some true) (hx : x.val (eget e) = some v) (hv : v.okv = true) (hM : M ++ [.cells v.cells] = M') (hq : M.length = q)
  (h : recheck prev re (eput e d (.ptr (H.length + q) 0)) (hp H n b M') base = true ∧ In pr F b0 Q base (⟨ix,d,g,.l (.box x) re⟩ :: prev) items kp k (eput e d (.ptr (H.length + q) 0)) ⟨hp H n b M',rw⟩) :
  In pr F b0 Q base prev (⟨ix,d,g,.l (.box x) re⟩ :: items) kp k e ⟨hp H n b M,rw⟩:=by
 subst hM hq
 refine in_l hw ?_ h.1 h.2
 simp only [lval,hx,hv,if_true,hp_len,hp_app hlt]
end
theorem det_program (L : LibS pr F) (H : List Blk) (rw : List Nat) (x : Str) (hx : x.length ≤ 6000) : ∃ o : PrgOut,o.good rw ∧ Det pr F 51 [.str x] ⟨H,rw⟩ (.ret (.tup [.agg (prgRow o.p),.int .i64 o.code,.int .i64 o.at_])) ⟨H,o.rw⟩:=by
 have hm:=L.hm
 suffices h : Wp pr F 51 [.str x] ⟨H,rw⟩ fun r S' => ∃ o : PrgOut,o.good rw ∧ r = .ret (.tup [.agg (prgRow o.p),.int .i64 o.code,.int .i64 o.at_]) ∧ S' = ⟨H,o.rw⟩ by
  obtain ⟨r,S',hd,x,hp,rfl,rfl⟩:=h.det hm
  exact ⟨x,hp,hd⟩
 have cis0:=fun x => rq_is L.toLibR 0 (by omega) x
 have cis1:=fun x => rq_is L.toLibR 1 (by omega) x
 have cis2:=fun x => rq_is L.toLibR 2 (by omega) x
 have cpl:=rq_place L.toLibR
 have ctk:=fun x => rc_take L.toLibR x 2000
 have cen:=rc_enter L.toLibR 2000
 have cnd:=fun x => rc_need L.toLibR x 2000
 have cfl:=rc_fail L.toLibR 110 (by omega) 2000
 have cnm:=rc_name L.toLibR 2000
 have hcl:=rc_class L
 have hif:=rc_iface L
 have hbl:=rc_block L
 refine at_start hm L.f51.1 L.f51.2 rfl ?_
 refine' hGO
 obtain ⟨H1,hH1⟩ : ∃ H1,H1 = H ++ [Blk.cells [.list 0 .full [],.list 0 .full []]]:=⟨_,rfl⟩
 have hlen : H1.length = H.length + 1:=by rw [hH1]; simp
 have hlt : H.length < H1.length:=by omega
 have hget : hp H1 H.length (.cells [.list 0 .full [],.list 0 .full []]) [] = H ++ [Blk.cells [.list 0 .full [],.list 0 .full []]]:=by subst hH1; simp [hp]
 unfold r51_0
 refine at_region hm (H:=hp H1 H.length (.cells [.list 0 .full [],.list 0 .full []]) []) (by rw [hget]; rfl) rfl ?_
 refine id_alloc ?_
 refine in_alloc (q:=H.length) rfl rfl (hp_get hlt) ?_
 have hR : Rx rw rw:=Rx.rfl
 refine' hG
 obtain ⟨⟨lv,le,la,toks,rw1⟩,⟨hR1,hlv,htk,htx⟩,hdet⟩:=det_tokens L.toLibL (hp H1 H.length (.cells [.list 0 .full [],.list 0 .full []]) []) rw x hx
 simp only at hR1 hlv htk htx hdet
 obtain ⟨sz,tag,rfl,hsz⟩:=hlv.get
 refine g_call rfl rfl rfl ?_
 refine ⟨_,_,hdet,?_⟩
 replace hR:=hR.trans hR1
 refine zrk ?_
 refine' hG
 ·refine id_store ?_
  refine g_store rfl rfl rfl ?_
  refine s_n hlt (Nat.le_refl _) rfl rfl rfl ?_
  refine zrk ?_
  refine' hG
  exact prg_end (p:=⟨[],[]⟩) hH1 (by simp [prgRow,smRows,lst]) ⟨hR,fun h => absurd h (by simp only; omega),fun _ => rfl⟩
 ·obtain ⟨s,hs⟩ : ∃ s : Src,s = ⟨toks,sz,tag,x.length,fun h => hsz (by simpa using h),htk,htx⟩:=⟨_,rfl⟩
  have hsm : s.toks.length ≤ 6000:=s.small
  have hok : Rok s ⟨0,0,0,0⟩:=⟨by simp only; omega,by simp only; omega,by simp only; omega,by simp only; omega⟩
  refine g_box (v:=.agg [.list sz tag (toks.map Tok.row),.int .i64 0,.int .i64 x.length,.int .i64 0,.int .i64 0,.int .i64 0]) (M':=[blk s ⟨0,0,0,0⟩]) hlt rfl rfl rfl (by subst hs; rfl) (q:=0) rfl ?_
  refine zrk ?_
  refine' hG
  refine at_loop hm (fun mm e S' => ∃ (r' : Rd) (rw' : List Nat) (cv : AV) (cs : List Cls),S' = ⟨hp H1 H.length (.cells [.list 0 .full [],.list 0 .full []]) [blk s r',.cells [cv,.list 0 .full []]],rw'⟩ ∧ Rok s r' ∧ r'.deep = 0 ∧ Rx rw rw' ∧ Lst rw 9 cv (cs.map clsRow) rw' ∧ ((cs.length : Int) ≤ r'.i + 1) ∧ (r'.code = 0 → (cs.length : Int) ≤ r'.i ∧ (wL wCls cs : Int) ≤ 7000 * r'.i) ∧ (r'.code = 0 → ∀ c ∈ cs,okCls c) ∧ (mm : Int) = 2 * (s.toks.length - r'.i) + (if r'.code = 0 then 1 else 0) ∧
   e = [(2,.ptr H.length 0),(8,.ptr (H1.length + 0) 0),(9,.ptr (H1.length + 1) 0)]) ?_ (m:=2 * s.toks.length + 1) ⟨⟨0,0,0,0⟩,rw1,_,[],rfl,hok,rfl,hR,.nil,by simp,fun _ => ⟨by simp,by simp [wL]⟩,by simp,by simp,rfl⟩
  clear hR hok
  rintro mm e S' ⟨r',rw',cv,cs,rfl,hok',h2,hR,hl1,h3,h4,h5,hmm,rfl⟩
  have q1:=hok'.lo
  have q2:=hok'.hi
  have q3:=hok'.dlo
  have hRL : Rx rw' rw':=Rx.rfl
  obtain ⟨szv,tagv,rfl,-,-⟩:=hl1.tag
  refine' hG
  refine g_call rfl rfl rfl ?_
  refine c_rqJ hlt (cis0 _) hok' ?_
  intro b1 hb1
  cases b1 with
  | true =>
   have hc0 : r'.code = 0:=hb1.1
   have hi0 : r'.i + ((0 : Nat) : Int) < s.toks.length:=hb1.2
   refine zrk ?_
   refine' hG
   refine g_call rfl rfl rfl ?_
   refine c_rqJ hlt (cis0 _) hok' ?_
   intro b2 hb2
   cases b2 with
   | true =>
    refine zrk ?_
    refine' hG
    refine g_call rfl rfl rfl ?_
    refine c_rcJ hlt hcl hok' (by omega) (by omega) ?_
    intro c1 r1 rw2 hR1 hok1 _ _ _ _ _ hP
    obtain ⟨p1,p2,p3⟩:=hP
    replace hR:=hR.trans hR1
    refine zrk ?_
    refine' hG
    refine id_append ?_
    refine g_append rfl rfl rfl ?_
    refine ap_lst (hl1.ext hR1) hR (by simp only [List.length_map,maxRow]; omega) (by simp only [List.length_map,maxRow]; omega) (by omega) ?_
    intro l4 rw4 hl4 hR4
    obtain ⟨szw,tagw,rfl,-,-⟩:=hl4.tag
    refine zrk ?_
    refine' hG
    refine ⟨(2 * (s.toks.length - r1.i) + (if r1.code = 0 then 1 else 0)).toNat,?_,r1,rw4,_,cs ++ [c1],rfl,hok1,by omega,hR4,by rw [List.map_append]; exact hl4,by simp; omega,?_,?_,by split <;> omega,rfl⟩
    ·rw [if_pos hc0] at hmm
     split <;> omega
    ·intro h0
     rw [wL_append]
     simp only [wL,List.length_append,List.length_cons,List.length_nil]
     have:=h4 hc0
     have:=p2 h0
     omega
    ·intro h0 y hy
     rcases List.mem_append.1 hy with hh | hh
     ·exact h5 hc0 y hh
     ·rw [List.mem_singleton] at hh
      subst hh
      exact p3 h0
   | false =>
    refine zrk ?_
    refine' hG
    refine g_call rfl rfl rfl ?_
    refine c_rcJ hlt hif hok' (by omega) (by omega) ?_
    intro c1 r1 rw2 hR1 hok1 _ _ _ _ _ hP
    obtain ⟨p1,p2,p3⟩:=hP
    replace hR:=hR.trans hR1
    refine zrk ?_
    refine' hG
    refine id_append ?_
    refine g_append rfl rfl rfl ?_
    refine ap_lst (hl1.ext hR1) hR (by simp only [List.length_map,maxRow]; omega) (by simp only [List.length_map,maxRow]; omega) (by omega) ?_
    intro l4 rw4 hl4 hR4
    obtain ⟨szw,tagw,rfl,-,-⟩:=hl4.tag
    refine zrk ?_
    refine' hG
    refine ⟨(2 * (s.toks.length - r1.i) + (if r1.code = 0 then 1 else 0)).toNat,?_,r1,rw4,_,cs ++ [c1],rfl,hok1,by omega,hR4,by rw [List.map_append]; exact hl4,by simp; omega,?_,?_,by split <;> omega,rfl⟩
    ·rw [if_pos hc0] at hmm
     split <;> omega
    ·intro h0
     rw [wL_append]
     simp only [wL,List.length_append,List.length_cons,List.length_nil]
     have:=h4 hc0
     have:=p2 h0
     omega
    ·intro h0 y hy
     rcases List.mem_append.1 hy with hh | hh
     ·exact h5 hc0 y hh
     ·rw [List.mem_singleton] at hh
      subst hh
      exact p3 h0
  | false =>
   refine zrk ?_
   refine' hG
   refine g_call rfl rfl rfl ?_
   refine c_rqJ hlt (cis0 _) hok' ?_
   intro b3 hb3
   cases b3 with
   | true =>
    have hc0 : r'.code = 0:=hb3.1
    have hi0 : r'.i + ((0 : Nat) : Int) < s.toks.length:=hb3.2
    refine zrk ?_
    refine' hG
    refine g_call rfl rfl rfl ?_
    refine c_rqJ hlt (cis0 _) hok' ?_
    intro b2 hb2
    cases b2 with
    | true =>
     refine zrk ?_
     refine' hG
     refine g_call rfl rfl rfl ?_
     refine c_rcJ hlt hcl hok' (by omega) (by omega) ?_
     intro c1 r1 rw2 hR1 hok1 _ _ _ _ _ hP
     obtain ⟨p1,p2,p3⟩:=hP
     replace hR:=hR.trans hR1
     refine zrk ?_
     refine' hG
     refine id_append ?_
     refine g_append rfl rfl rfl ?_
     refine ap_lst (hl1.ext hR1) hR (by simp only [List.length_map,maxRow]; omega) (by simp only [List.length_map,maxRow]; omega) (by omega) ?_
     intro l4 rw4 hl4 hR4
     obtain ⟨szw,tagw,rfl,-,-⟩:=hl4.tag
     refine zrk ?_
     refine' hG
     refine ⟨(2 * (s.toks.length - r1.i) + (if r1.code = 0 then 1 else 0)).toNat,?_,r1,rw4,_,cs ++ [c1],rfl,hok1,by omega,hR4,by rw [List.map_append]; exact hl4,by simp; omega,?_,?_,by split <;> omega,rfl⟩
     ·rw [if_pos hc0] at hmm
      split <;> omega
     ·intro h0
      rw [wL_append]
      simp only [wL,List.length_append,List.length_cons,List.length_nil]
      have:=h4 hc0
      have:=p2 h0
      omega
     ·intro h0 y hy
      rcases List.mem_append.1 hy with hh | hh
      ·exact h5 hc0 y hh
      ·rw [List.mem_singleton] at hh
       subst hh
       exact p3 h0
    | false =>
     refine zrk ?_
     refine' hG
     refine g_call rfl rfl rfl ?_
     refine c_rcJ hlt hif hok' (by omega) (by omega) ?_
     intro c1 r1 rw2 hR1 hok1 _ _ _ _ _ hP
     obtain ⟨p1,p2,p3⟩:=hP
     replace hR:=hR.trans hR1
     refine zrk ?_
     refine' hG
     refine id_append ?_
     refine g_append rfl rfl rfl ?_
     refine ap_lst (hl1.ext hR1) hR (by simp only [List.length_map,maxRow]; omega) (by simp only [List.length_map,maxRow]; omega) (by omega) ?_
     intro l4 rw4 hl4 hR4
     obtain ⟨szw,tagw,rfl,-,-⟩:=hl4.tag
     refine zrk ?_
     refine' hG
     refine ⟨(2 * (s.toks.length - r1.i) + (if r1.code = 0 then 1 else 0)).toNat,?_,r1,rw4,_,cs ++ [c1],rfl,hok1,by omega,hR4,by rw [List.map_append]; exact hl4,by simp; omega,?_,?_,by split <;> omega,rfl⟩
     ·rw [if_pos hc0] at hmm
      split <;> omega
     ·intro h0
      rw [wL_append]
      simp only [wL,List.length_append,List.length_cons,List.length_nil]
      have:=h4 hc0
      have:=p2 h0
      omega
     ·intro h0 y hy
      rcases List.mem_append.1 hy with hh | hh
      ·exact h5 hc0 y hh
      ·rw [List.mem_singleton] at hh
       subst hh
       exact p3 h0
   | false =>
    refine zrk ?_
    refine' hG
    refine g_call rfl rfl rfl ?_
    refine c_rcJ hlt (cnd _) hok' (by omega) (by omega) ?_
    intro _ r1 rw2 hR1 hok1 _ _ _ _ _ hP
    obtain ⟨n1,n2⟩:=hP
    replace hR:=hR.trans hR1
    refine zrk ?_
    refine' hG
    refine g_call rfl rfl rfl ?_
    refine c_rcJ hlt hbl hok1 (by omega) (by omega) ?_
    intro bl r2 rw3 hR2 hok2 _ _ _ _ _ hP
    obtain ⟨b1,b2,b3⟩:=hP
    replace hR:=hR.trans hR2
    refine zrk ?_
    refine' hG
    ·refine g_call rfl rfl rfl ?_
     refine c_rcJ hlt cfl hok2 (by omega) (by omega) ?_
     intro _ r3 rw4 hR3 hok3 _ _ _ _ _ hP
     obtain ⟨f1,f2,f3⟩:=hP
     replace hR:=hR.trans hR3
     refine zrk ?_
     refine' hG
     refine id_store ?_
     refine g_store rfl rfl rfl ?_
     refine s_n hlt (Nat.le_refl _) rfl rfl rfl ?_
     refine zrk ?_
     refine' hG
     exact prg_end (p:=⟨[],[]⟩) hH1 (by simp [prgRow,smRows,lst]) ⟨hR,fun h => absurd h (by simp only; omega),fun _ => rfl⟩
    ·skip
     refine id_store ?_
     refine g_store rfl rfl rfl ?_
     refine s_n hlt (Nat.le_refl _) rfl rfl rfl ?_
     refine zrk ?_
     refine' hG
     exact prg_end (p:=⟨[],[]⟩) hH1 (by simp [prgRow,smRows,lst]) ⟨hR,fun h => absurd h (by simp only; omega),fun _ => rfl⟩
    ·have e1:=hl1.isL.canon
     have e2:=bl.is.canon
     have hcan : canonL [.list szv tagv (cs.map clsRow),bl.v] = prgRow ⟨cs,bl.xs⟩:=by simp only [canonL,List.map_cons,List.map_nil,e1,e2,prgRow]
     refine id_store ?_
     refine g_store rfl rfl rfl ?_
     refine s_n hlt (Nat.le_refl _) rfl rfl rfl ?_
     refine zrk ?_
     refine' hG
     have w1:=h4 (by omega)
     have w2:=b2 (by omega)
     exact prg_end (p:=⟨cs,bl.xs⟩) hH1 hcan ⟨hR,fun _ => ⟨⟨h5 (by omega),b3 (by omega)⟩,by simp only; omega,by simp only; omega⟩,fun h => absurd rfl h⟩
end Go.Proofs.YtmeakjgbjldkdaaGreat.Ai
namespace Go.Proofs.YtmeakjgbjldkdaaGreat.Ai
open Go
def r14_0 : IC:=.region [[(.list 0 .full []),(.list 0 .full [])]] [Qq 0 2 (.alloc 0 [(.list 0 .full []),(.list 0 .full [])]),Qk 1 3 (.bool false)] [0,2]
def r14_1 : IC:=.region [] [Qm 0 7 0,Qq 1 8 (.lenS (.tmp 7)),Qv 2 9 .gtr 8 (Qz 6000)] [0,2,9]
def r14_2 : IC:=.region [] [Qq 0 10 (.build [(.list 0 .full []),(.list 0 .full [])] []),Qs 1 2 2 10 [],Qk 2 3 (.bool false)] [2,3]
def r14_3 : IC:=.region [[(.list 0 .full []),(.list 0 .full [])]] [Qm 0 12 0,Qc 1 13 51 [(.tmp 12)] [],Qm 2 11 13,Qx 3 14 11 0,Qx 4 15 11 1,Qx 5 16 11 2,Qq 6 4 (.alloc 0 [(.list 0 .full []),(.list 0 .full [])]),Qs 7 2 4 14 [],Qm 8 5 15,Qm 9 6 16] [2,4,5]
def r14_4 : IC:=.region [] [Qe 0 17 2 4,Qm 1 18 5,Qv 2 19 .eql 18 (Qz 0),Qm 3 20 19,Qfg 4 21 20 true 0 4,Qdg 5 22 20 true 21,Qng 6 23 20 true 22,Qvg 7 24 20 true .leq 23 (Qz 70),Qa 8 25 20 24,Qs 9 2 2 17 [5],Qm 10 3 25] [2,3]
noncomputable def i14 : IFn:=⟨1,(.seq r14_0 (.seq (.seq r14_1 (.cond (.tmp 9) (.seq r14_2 .ret) (.skip))) (.seq r14_3 (.seq r14_4 .ret)))),[.cell 2 (some 2),.tmp 3]⟩
theorem c14 : chkFn Tryz.prog Tryz.f14 i14 = true:=by kernel_rfl
def r19_0 : IC:=.region [] [Qq 0 2 (.mov (.const .nilp)),Qk 1 3 (.list 0 .full [])] [0]
def r19_1 : IC:=.region [[(.list 0 .full []),(.list 0 .full [])]] [Qm 0 9 0,Qc 1 10 14 [(.tmp 9)] [],Qm 2 8 10,Qx 3 11 8 0,Qx 4 12 8 1,Qq 5 4 (.alloc 0 [(.list 0 .full []),(.list 0 .full [])]),Qs 6 2 4 11 [],Qm 7 5 12] [4,5]
def r19_2 : IC:=.region [] [Qm 0 13 5,Qu 1 14 13] [4,14]
def r19_3 : IC:=.region [] [Qq 0 2 (.mov (.const .nilp)),Qk 1 3 (.list 0 .full [])] [2,3]
def r19_4 : IC:=.region [[(Qz 0),(Qz 0)]] [Qe 0 16 2 4,Qc 1 17 55 [(.tmp 16)] [],Qm 2 15 17,Qx 3 18 15 0,Qx 4 19 15 1,Qq 5 7 (.alloc 0 [(Qz 0),(Qz 0)]),Qm 6 6 18,Qs 7 2 7 19 []] [4,6,7]
def r19_5 : IC:=.region [] [Qf 0 20 0 7,Qd 1 21 20,Qv 2 22 .neq 21 (Qz 0)] [4,6,22]
def r19_6 : IC:=.region [] [Qq 0 2 (.mov (.const .nilp)),Qk 1 3 (.list 0 .full [])] [2,3]
def r19_7 : IC:=.region [] [Qm 0 23 6,Qf 1 24 0 4,Qd 2 25 24,Qm 3 2 23,Qm 4 3 25] [2,3]
noncomputable def i19 : IFn:=⟨1,(.seq r19_0 (.seq r19_1 (.seq (.seq r19_2 (.cond (.tmp 14) (.seq r19_3 .ret) (.skip))) (.seq r19_4 (.seq (.seq r19_5 (.cond (.tmp 22) (.seq r19_6 .ret) (.skip))) (.seq r19_7 .ret)))))),[.tmp 2,.tmp 3]⟩
theorem c19 : chkFn Tryz.prog Tryz.f19 i19 = true:=by kernel_rfl
def r56_0 : IC:=.region [[(Qz 0),(Qz 0)]] [Qq 0 4 (.alloc 0 [(Qz 0),(Qz 0)])] [0,1,4]
def r56_1 : IC:=.region [] [Qm 0 5 0,Qm 1 6 1,Qq 2 7 (.build [(Qz 0),(Qz 0)] [(0,1,(.tmp 5)),(1,1,(.tmp 6))]),Qs 3 2 4 7 []] [4]
noncomputable def i56 : IFn:=⟨2,(.seq r56_0 (.seq r56_1 .ret)),[.cell 4 (some 2)]⟩
theorem c56 : chkFn Tryz.prog Tryz.f56 i56 = true:=by kernel_rfl
def r100_0 : IC:=.region [[(Qz 0),(Qz 0)]] [Qq 0 2 (.alloc 0 [(Qz 0),(Qz 0)])] [0,2]
def r100_1 : IC:=.region [] [Qm 0 9 0,Qq 1 10 (.nilCheck (.tmp 9)),Qf 2 11 0 10,Qd 3 12 11,Qn 4 13 12,Qk 5 14 (Qz 0)] [2,12,13,14]
def r100_2 : IC:=.region [] [Qb 0 15 .lss 14 13] [2,12,13,14,15]
def r100_3 : IC:=.region [[(.str []),(.bool false),(.str []),(.list 0 .full []),(.list 0 .full []),(.list 0 .full []),(.list 0 .full []),(.list 0 .full []),(Qz 0)]] [Qm 0 16 14,Qi 1 17 9 12 14,Qe 2 18 9 17,Qq 3 4 (.alloc 0 [(.str []),(.bool false),(.str []),(.list 0 .full []),(.list 0 .full []),(.list 0 .full []),(.list 0 .full []),(.list 0 .full []),(Qz 0)]),Qm 4 3 16,Qs 5 9 4 18 []] [2,3,4,12,13,14]
def r100_4 : IC:=.region [] [Qm 0 19 3,Qv 1 20 .geq 19 (Qz 64)] [2,4,12,13,14,20]
def r100_5 : IC:=.region [] [Qf 0 21 8 4,Qd 1 22 21,Qc 2 23 56 [(.const (Qz 126)),(.tmp 22)] [],Qs 3 2 2 23 []] [2]
def r100_6 : IC:=.region [] [Qf 0 24 4 4,Qd 1 25 24,Qn 2 26 25,Qv 3 27 .gtr 26 (Qz 64),Qm 4 28 27,Qfg 5 29 28 false 5 4,Qdg 6 30 28 false 29,Qng 7 31 28 false 30,Qvg 8 32 28 false .gtr 31 (Qz 64),Qo 9 33 28 32,Qm 10 34 33,Qfg 11 35 34 false 7 4,Qdg 12 36 34 false 35,Qng 13 37 34 false 36,Qvg 14 38 34 false .gtr 37 (Qz 64),Qo 15 39 34 38,Qm 16 40 39,Qfg 17 41 40 false 3 4,Qdg 18 42 40 false 41,Qng 19 43 40 false 42,Qvg 20 44 40 false .gtr 43 (Qz 64),Qo 21 45 40 44] [2,4,12,13,14,45]
def r100_7 : IC:=.region [] [Qf 0 46 8 4,Qd 1 47 46,Qc 2 48 56 [(.const (Qz 126)),(.tmp 47)] [],Qs 3 2 2 48 []] [2]
def r100_8 : IC:=.region [] [Qf 0 49 6 4,Qd 1 50 49,Qn 2 51 50,Qk 3 52 (Qz 0)] [2,4,12,13,14,50,51,52]
def r100_9 : IC:=.region [] [Qb 0 53 .lss 52 51] [2,4,12,13,14,50,51,52,53]
def r100_10 : IC:=.region [[(.list 0 .full []),(.bool false),(.list 0 .full []),(.list 0 .full []),(Qz 0)]] [Qi 0 54 5 50 52,Qe 1 55 5 54,Qq 2 6 (.alloc 0 [(.list 0 .full []),(.bool false),(.list 0 .full []),(.list 0 .full []),(Qz 0)]),Qs 3 5 6 55 []] [2,4,6,12,13,14,50,51,52]
def r100_11 : IC:=.region [] [Qf 0 56 0 6,Qd 1 57 56,Qn 2 58 57,Qv 3 59 .gtr 58 (Qz 64)] [2,4,6,12,13,14,50,51,52,59]
def r100_12 : IC:=.region [] [Qf 0 60 4 6,Qd 1 61 60,Qc 2 62 56 [(.const (Qz 126)),(.tmp 61)] [],Qs 3 2 2 62 []] [2]
def r100_13 : IC:=.region [] [Qv 0 63 .add 52 (Qz 1),Qm 1 52 63] [2,4,12,13,14,50,51,52]
def r100_14 : IC:=.region [] [Qf 0 64 7 4,Qd 1 65 64,Qn 2 66 65,Qk 3 67 (Qz 0)] [2,12,13,14,65,66,67]
def r100_15 : IC:=.region [] [Qb 0 68 .lss 67 66] [2,12,13,14,65,66,67,68]
def r100_16 : IC:=.region [[(.str []),(.list 0 .full []),(Qz 0),(.str []),(.bool false),(.list 0 .full []),(.list 0 .full []),(Qz 0),(.list 0 .full []),(.bool false),(Qz 0)]] [Qi 0 69 11 65 67,Qe 1 70 11 69,Qq 2 8 (.alloc 0 [(.str []),(.list 0 .full []),(Qz 0),(.str []),(.bool false),(.list 0 .full []),(.list 0 .full []),(Qz 0),(.list 0 .full []),(.bool false),(Qz 0)]),Qs 3 11 8 70 []] [2,8,12,13,14,65,66,67]
def r100_17 : IC:=.region [] [Qf 0 71 1 8,Qd 1 72 71,Qn 2 73 72,Qv 3 74 .gtr 73 (Qz 64)] [2,8,12,13,14,65,66,67,74]
def r100_18 : IC:=.region [] [Qf 0 75 10 8,Qd 1 76 75,Qc 2 77 56 [(.const (Qz 126)),(.tmp 76)] [],Qs 3 2 2 77 []] [2]
def r100_19 : IC:=.region [] [Qv 0 78 .add 67 (Qz 1),Qm 1 67 78] [2,12,13,14,65,66,67]
def r100_20 : IC:=.region [] [Qv 0 79 .add 14 (Qz 1),Qm 1 14 79] [2,12,13,14]
def r100_21 : IC:=.region [] [Qq 0 80 (.build [(Qz 0),(Qz 0)] []),Qs 1 2 2 80 []] [2]
noncomputable def i100 : IFn:=⟨1,(.seq r100_0 (.seq (.seq r100_1 (.block 0 (.loop [2,12,13,14] (.seq r100_2 (.seq (.cond (.tmp 15) (.skip) (.exit 0)) (.seq (.block 1 (.seq r100_3 (.seq (.seq r100_4 (.cond (.tmp 20) (.seq r100_5 .ret) (.skip))) (.seq (.seq r100_6 (.cond (.tmp 45) (.seq r100_7 .ret) (.skip))) (.seq (.seq r100_8 (.block 2 (.loop [2,4,12,13,14,50,51,52] (.seq r100_9 (.seq (.cond (.tmp 53) (.skip) (.exit 2)) (.seq (.block 3 (.seq r100_10 (.seq r100_11 (.cond (.tmp 59) (.seq r100_12 .ret) (.skip))))) r100_13)))))) (.seq r100_14 (.block 4 (.loop [2,12,13,14,65,66,67] (.seq r100_15 (.seq (.cond (.tmp 68) (.skip) (.exit 4)) (.seq (.block 5 (.seq r100_16 (.seq r100_17 (.cond (.tmp 74) (.seq r100_18 .ret) (.skip))))) r100_19))))))))))) r100_20)))))) (.seq r100_21 .ret))),[.cell 2 (some 2)]⟩
theorem c100 : chkFn Tryz.prog Tryz.f100 i100 = true:=by kernel_rfl
def r101_0 : IC:=.region [[(Qz 0),(Qz 0)]] [Qq 0 2 (.alloc 0 [(Qz 0),(Qz 0)])] [0,2]
def r101_1 : IC:=.region [] [Qm 0 7 0,Qq 1 8 (.nilCheck (.tmp 7)),Qf 2 9 0 8,Qd 3 10 9,Qn 4 11 10,Qk 5 12 (Qz 0)] [0,2,10,11,12]
def r101_2 : IC:=.region [] [Qb 0 13 .lss 12 11] [0,2,10,11,12,13]
def r101_3 : IC:=.region [[(.str []),(.bool false),(.str []),(.list 0 .full []),(.list 0 .full []),(.list 0 .full []),(.list 0 .full []),(.list 0 .full []),(Qz 0)]] [Qm 0 14 12,Qi 1 15 9 10 12,Qe 2 16 9 15,Qq 3 4 (.alloc 0 [(.str []),(.bool false),(.str []),(.list 0 .full []),(.list 0 .full []),(.list 0 .full []),(.list 0 .full []),(.list 0 .full []),(Qz 0)]),Qm 4 3 14,Qs 5 9 4 16 []] [0,2,3,4,10,11,12]
def r101_4 : IC:=.region [] [Qm 0 18 0,Qq 1 19 (.nilCheck (.tmp 18)),Qf 2 20 1 19,Qd 3 21 20,Qf 4 22 0 4,Qd 5 23 22,Qq 6 24 (.lookup (Qz 0) true (.tmp 21) (.tmp 23)),Qm 7 17 24,Qx 8 25 17 0,Qx 9 26 17 1,Qm 10 5 25,Qm 11 6 26] [0,2,3,4,6,10,11,12]
def r101_5 : IC:=.region [] [Qm 0 27 6] [0,2,3,4,10,11,12,27]
def r101_6 : IC:=.region [] [Qf 0 28 8 4,Qd 1 29 28,Qc 2 30 56 [(.const (Qz 120)),(.tmp 29)] [],Qs 3 2 2 30 []] [2]
def r101_7 : IC:=.region [] [Qm 0 31 0,Qq 1 32 (.nilCheck (.tmp 31)),Qf 2 33 1 32,Qd 3 34 33,Qf 4 35 0 4,Qd 5 36 35,Qm 6 37 3,Qw 7 (.mapUpd (.tmp 34) (.tmp 36) (.tmp 37)) []] [0,2,10,11,12]
def r101_8 : IC:=.region [] [Qv 0 38 .add 12 (Qz 1),Qm 1 12 38] [0,2,10,11,12]
def r101_9 : IC:=.region [] [Qq 0 39 (.build [(Qz 0),(Qz 0)] []),Qs 1 2 2 39 []] [2]
noncomputable def i101 : IFn:=⟨1,(.seq r101_0 (.seq (.seq r101_1 (.block 0 (.loop [0,2,10,11,12] (.seq r101_2 (.seq (.cond (.tmp 13) (.skip) (.exit 0)) (.seq (.block 1 (.seq r101_3 (.seq (.seq r101_4 (.seq r101_5 (.cond (.tmp 27) (.seq r101_6 .ret) (.skip)))) r101_7))) r101_8)))))) (.seq r101_9 .ret))),[.cell 2 (some 2)]⟩
theorem c101 : chkFn Tryz.prog Tryz.f101 i101 = true:=by kernel_rfl
def r102_0 : IC:=.region [[(Qz 0),(Qz 0)]] [Qq 0 2 (.alloc 0 [(Qz 0),(Qz 0)])] [0,2]
def r102_1 : IC:=.region [] [Qm 0 11 0,Qq 1 12 (.nilCheck (.tmp 11)),Qf 2 13 0 12,Qd 3 14 13,Qn 4 15 14,Qk 5 16 (Qz 0)] [0,2,14,15,16]
def r102_2 : IC:=.region [] [Qb 0 17 .lss 16 15] [0,2,14,15,16,17]
def r102_3 : IC:=.region [[(.str []),(.bool false),(.str []),(.list 0 .full []),(.list 0 .full []),(.list 0 .full []),(.list 0 .full []),(.list 0 .full []),(Qz 0)]] [Qi 0 18 9 14 16,Qe 1 19 9 18,Qq 2 4 (.alloc 0 [(.str []),(.bool false),(.str []),(.list 0 .full []),(.list 0 .full []),(.list 0 .full []),(.list 0 .full []),(.list 0 .full []),(Qz 0)]),Qs 3 9 4 19 []] [0,2,4,14,15,16]
def r102_4 : IC:=.region [] [Qf 0 20 2 4,Qd 1 21 20,Qv 2 22 .neq 21 (.str [])] [0,2,4,14,15,16,22]
def r102_5 : IC:=.region [] [Qm 0 24 0,Qq 1 25 (.nilCheck (.tmp 24)),Qf 2 26 1 25,Qd 3 27 26,Qf 4 28 2 4,Qd 5 29 28,Qq 6 30 (.lookup (Qz 0) true (.tmp 27) (.tmp 29)),Qm 7 23 30,Qx 8 31 23 0,Qx 9 32 23 1,Qm 10 5 31,Qm 11 6 32] [0,2,4,5,6,14,15,16]
def r102_6 : IC:=.region [] [Qm 0 33 6,Qu 1 34 33] [0,2,4,5,14,15,16,34]
def r102_7 : IC:=.region [] [Qf 0 35 8 4,Qd 1 36 35,Qc 2 37 56 [(.const (Qz 121)),(.tmp 36)] [],Qs 3 2 2 37 []] [2]
def r102_8 : IC:=.region [] [Qm 0 38 0,Qq 1 39 (.nilCheck (.tmp 38)),Qf 2 40 0 39,Qd 3 41 40,Qm 4 42 5,Qi 5 43 9 41 42,Qf 6 44 1 43,Qd 7 45 44] [0,2,4,14,15,16,45]
def r102_9 : IC:=.region [] [Qf 0 46 8 4,Qd 1 47 46,Qc 2 48 56 [(.const (Qz 123)),(.tmp 47)] [],Qs 3 2 2 48 []] [2]
def r102_10 : IC:=.region [] [Qf 0 49 3 4,Qd 1 50 49,Qn 2 51 50,Qk 3 52 (Qz 0)] [0,2,4,14,15,16,50,51,52]
def r102_11 : IC:=.region [] [Qb 0 53 .lss 52 51] [0,2,4,14,15,16,50,51,52,53]
def r102_12 : IC:=.region [] [Qi 0 54 1 50 52,Qd 1 55 54,Qm 2 8 55] [0,2,4,8,14,15,16,50,51,52]
def r102_13 : IC:=.region [] [Qm 0 57 0,Qq 1 58 (.nilCheck (.tmp 57)),Qf 2 59 1 58,Qd 3 60 59,Qm 4 61 8,Qq 5 62 (.lookup (Qz 0) true (.tmp 60) (.tmp 61)),Qm 6 56 62,Qx 7 63 56 0,Qx 8 64 56 1,Qm 9 9 63,Qm 10 10 64] [0,2,4,9,10,14,15,16,50,51,52]
def r102_14 : IC:=.region [] [Qm 0 65 10,Qu 1 66 65] [0,2,4,9,14,15,16,50,51,52,66]
def r102_15 : IC:=.region [] [Qf 0 67 8 4,Qd 1 68 67,Qc 2 69 56 [(.const (Qz 121)),(.tmp 68)] [],Qs 3 2 2 69 []] [2]
def r102_16 : IC:=.region [] [Qm 0 70 0,Qq 1 71 (.nilCheck (.tmp 70)),Qf 2 72 0 71,Qd 3 73 72,Qm 4 74 9,Qi 5 75 9 73 74,Qf 6 76 1 75,Qd 7 77 76,Qu 8 78 77] [0,2,4,14,15,16,50,51,52,78]
def r102_17 : IC:=.region [] [Qf 0 79 8 4,Qd 1 80 79,Qc 2 81 56 [(.const (Qz 123)),(.tmp 80)] [],Qs 3 2 2 81 []] [2]
def r102_18 : IC:=.region [] [Qv 0 82 .add 52 (Qz 1),Qm 1 52 82] [0,2,4,14,15,16,50,51,52]
def r102_19 : IC:=.region [] [Qv 0 83 .add 16 (Qz 1),Qm 1 16 83] [0,2,14,15,16]
def r102_20 : IC:=.region [] [Qq 0 84 (.build [(Qz 0),(Qz 0)] []),Qs 1 2 2 84 []] [2]
noncomputable def i102 : IFn:=⟨1,(.seq r102_0 (.seq (.seq r102_1 (.block 0 (.loop [0,2,14,15,16] (.seq r102_2 (.seq (.cond (.tmp 17) (.skip) (.exit 0)) (.seq (.block 1 (.seq r102_3 (.seq (.seq r102_4 (.cond (.tmp 22) (.seq r102_5 (.seq (.seq r102_6 (.cond (.tmp 34) (.seq r102_7 .ret) (.skip))) (.seq r102_8 (.cond (.tmp 45) (.seq r102_9 .ret) (.skip))))) (.skip))) (.seq r102_10 (.block 2 (.loop [0,2,4,14,15,16,50,51,52] (.seq r102_11 (.seq (.cond (.tmp 53) (.skip) (.exit 2)) (.seq (.block 3 (.seq r102_12 (.seq r102_13 (.seq (.seq r102_14 (.cond (.tmp 66) (.seq r102_15 .ret) (.skip))) (.seq r102_16 (.cond (.tmp 78) (.seq r102_17 .ret) (.skip))))))) r102_18))))))))) r102_19)))))) (.seq r102_20 .ret))),[.cell 2 (some 2)]⟩
theorem c102 : chkFn Tryz.prog Tryz.f102 i102 = true:=by kernel_rfl
def r103_0 : IC:=.region [[(Qz 0),(Qz 0)]] [Qq 0 2 (.alloc 0 [(Qz 0),(Qz 0)])] [0,2]
def r103_1 : IC:=.region [] [Qm 0 5 0,Qq 1 6 (.nilCheck (.tmp 5)),Qf 2 7 0 6,Qd 3 8 7,Qn 4 9 8,Qk 5 10 (Qz 0)] [0,2,8,9,10]
def r103_2 : IC:=.region [] [Qb 0 11 .lss 10 9] [0,2,8,9,10,11]
def r103_3 : IC:=.region [[(.str []),(.bool false),(.str []),(.list 0 .full []),(.list 0 .full []),(.list 0 .full []),(.list 0 .full []),(.list 0 .full []),(Qz 0)]] [Qm 0 12 10,Qi 1 13 9 8 10,Qe 2 14 9 13,Qq 3 4 (.alloc 0 [(.str []),(.bool false),(.str []),(.list 0 .full []),(.list 0 .full []),(.list 0 .full []),(.list 0 .full []),(.list 0 .full []),(Qz 0)]),Qm 4 3 12,Qs 5 9 4 14 []] [0,2,3,4,8,9,10]
def r103_4 : IC:=.region [] [Qm 0 15 0,Qm 1 16 3,Qc 2 17 149 [(.tmp 15),(.tmp 16)] [],Qm 3 18 3,Qi 4 19 1 17 18,Qd 5 20 19] [0,2,4,8,9,10,20]
def r103_5 : IC:=.region [] [Qf 0 21 8 4,Qd 1 22 21,Qc 2 23 56 [(.const (Qz 122)),(.tmp 22)] [],Qs 3 2 2 23 []] [2]
def r103_6 : IC:=.region [] [Qv 0 24 .add 10 (Qz 1),Qm 1 10 24] [0,2,8,9,10]
def r103_7 : IC:=.region [] [Qq 0 25 (.build [(Qz 0),(Qz 0)] []),Qs 1 2 2 25 []] [2]
noncomputable def i103 : IFn:=⟨1,(.seq r103_0 (.seq (.seq r103_1 (.block 0 (.loop [0,2,8,9,10] (.seq r103_2 (.seq (.cond (.tmp 11) (.skip) (.exit 0)) (.seq (.block 1 (.seq r103_3 (.seq r103_4 (.cond (.tmp 20) (.seq r103_5 .ret) (.skip))))) r103_6)))))) (.seq r103_7 .ret))),[.cell 2 (some 2)]⟩
theorem c103 : chkFn Tryz.prog Tryz.f103 i103 = true:=by kernel_rfl
def r104_0 : IC:=.region [] [Qm 0 6 0,Qq 1 7 (.nilCheck (.tmp 6)),Qf 2 8 0 7,Qd 3 9 8,Qn 4 10 9,Qk 5 11 (Qz 0)] [0,10,11]
def r104_1 : IC:=.region [] [Qb 0 12 .lss 11 10] [0,10,11,12]
def r104_2 : IC:=.region [] [Qm 0 13 11,Qm 1 2 13] [0,2,10,11]
def r104_3 : IC:=.region [] [Qk 0 3 (.list 0 .full [])] [0,2,3,10,11]
def r104_4 : IC:=.region [] [Qm 0 14 0,Qm 1 15 2,Qc 2 16 149 [(.tmp 14),(.tmp 15)] [],Qn 3 17 16,Qk 4 18 (Qz 0)] [0,3,10,11,16,17,18]
def r104_5 : IC:=.region [] [Qb 0 19 .lss 18 17] [0,3,10,11,16,17,18,19]
def r104_6 : IC:=.region [] [Qm 0 20 18,Qi 1 21 1 16 18,Qd 2 22 21,Qm 3 4 20,Qm 4 5 22] [0,3,4,5,10,11,16,17,18]
def r104_7 : IC:=.region [] [Qm 0 23 5] [0,3,4,10,11,16,17,18,23]
def r104_8 : IC:=.region [] [Qm 0 24 3,Qm 1 25 4,Qq 2 26 (.mkList 1 [(.tmp 25)]),Ql 3 27 (.append 1 8 (.tmp 24) (.tmp 26)) [],Qm 4 3 27] [0,3,10,11,16,17,18]
def r104_9 : IC:=.region [] [Qv 0 28 .add 18 (Qz 1),Qm 1 18 28] [0,3,10,11,16,17,18]
def r104_10 : IC:=.region [] [Qm 0 29 0,Qm 1 30 0,Qq 2 31 (.nilCheck (.tmp 30)),Qf 3 32 2 31,Qd 4 33 32,Qm 5 34 3,Qq 6 35 (.mkList 1 [(.tmp 34)]),Ql 7 36 (.append 1 24 (.tmp 33) (.tmp 35)) [],Qq 8 37 (.nilCheck (.tmp 29)),Qf 9 38 2 37,Qs 10 1 38 36 []] [0,10,11]
def r104_11 : IC:=.region [] [Qv 0 39 .add 11 (Qz 1),Qm 1 11 39] [0,10,11]
noncomputable def i104 : IFn:=⟨1,(.seq r104_0 (.block 0 (.loop [0,10,11] (.seq r104_1 (.seq (.cond (.tmp 12) (.skip) (.exit 0)) (.seq (.block 1 (.seq r104_2 (.seq r104_3 (.seq (.seq r104_4 (.block 2 (.loop [0,3,10,11,16,17,18] (.seq r104_5 (.seq (.cond (.tmp 19) (.skip) (.exit 2)) (.seq (.block 3 (.seq r104_6 (.seq r104_7 (.cond (.tmp 23) r104_8 (.skip))))) r104_9)))))) r104_10)))) r104_11)))))),[]⟩
theorem c104 : chkFn Tryz.prog Tryz.f104 i104 = true:=by kernel_rfl
def r105_0 : IC:=.region [[(Qz 0),(Qz 0)]] [Qq 0 4 (.alloc 0 [(Qz 0),(Qz 0)])] [0,1,4]
def r105_1 : IC:=.region [[(.str []),(.bool false),(.str []),(.list 0 .full []),(.list 0 .full []),(.list 0 .full []),(.list 0 .full []),(.list 0 .full []),(Qz 0)]] [Qm 0 20 0,Qq 1 21 (.nilCheck (.tmp 20)),Qf 2 22 0 21,Qd 3 23 22,Qm 4 24 1,Qi 5 25 9 23 24,Qe 6 26 9 25,Qq 7 5 (.alloc 0 [(.str []),(.bool false),(.str []),(.list 0 .full []),(.list 0 .full []),(.list 0 .full []),(.list 0 .full []),(.list 0 .full []),(Qz 0)]),Qs 8 9 5 26 []] [0,1,4,5]
def r105_2 : IC:=.region [] [Qf 0 27 4 5,Qd 1 28 27,Qn 2 29 28,Qk 3 30 (Qz 0)] [0,1,4,5,28,29,30]
def r105_3 : IC:=.region [] [Qb 0 31 .lss 30 29] [0,1,4,5,28,29,30,31]
def r105_4 : IC:=.region [[(.str []),(Qz 0),(.str []),(.bool false),(.list 0 .full []),(.list 0 .full []),(Qz 0),(.bool false),(Qz 0)]] [Qm 0 32 30,Qi 1 33 9 28 30,Qe 2 34 9 33,Qq 3 7 (.alloc 0 [(.str []),(Qz 0),(.str []),(.bool false),(.list 0 .full []),(.list 0 .full []),(Qz 0),(.bool false),(Qz 0)]),Qm 4 6 32,Qs 5 9 7 34 []] [0,1,4,5,6,7,28,29,30]
def r105_5 : IC:=.region [] [Qf 0 35 4 5,Qd 1 36 35,Qm 2 37 6,Qq 3 38 (.slice 9 (.tmp 36) none (some (.tmp 37))),Qn 4 39 38,Qk 5 40 (Qz 0)] [0,1,4,5,7,28,29,30,38,39,40]
def r105_6 : IC:=.region [] [Qb 0 41 .lss 40 39] [0,1,4,5,7,28,29,30,38,39,40,41]
def r105_7 : IC:=.region [[(.str []),(Qz 0),(.str []),(.bool false),(.list 0 .full []),(.list 0 .full []),(Qz 0),(.bool false),(Qz 0)]] [Qi 0 42 9 38 40,Qe 1 43 9 42,Qq 2 9 (.alloc 0 [(.str []),(Qz 0),(.str []),(.bool false),(.list 0 .full []),(.list 0 .full []),(Qz 0),(.bool false),(Qz 0)]),Qs 3 9 9 43 []] [0,1,4,5,7,9,28,29,30,38,39,40]
def r105_8 : IC:=.region [] [Qf 0 44 0 7,Qd 1 45 44,Qf 2 46 0 9,Qd 3 47 46,Qb 4 48 .eql 45 47] [0,1,4,5,7,28,29,30,38,39,40,48]
def r105_9 : IC:=.region [] [Qf 0 49 8 7,Qd 1 50 49,Qc 2 51 56 [(.const (Qz 120)),(.tmp 50)] [],Qs 3 2 4 51 []] [4]
def r105_10 : IC:=.region [] [Qv 0 52 .add 40 (Qz 1),Qm 1 40 52] [0,1,4,5,7,28,29,30,38,39,40]
def r105_11 : IC:=.region [[(.str []),(Qz 0),(.str []),(.bool false),(.list 0 .full []),(.list 0 .full []),(Qz 0),(.bool false),(Qz 0)]] [Qm 0 54 0,Qf 1 55 2 5,Qd 2 56 55,Qf 3 57 0 7,Qd 4 58 57,Qc 5 59 30 [(.tmp 54),(.tmp 56),(.tmp 58)] [],Qm 6 53 59,Qx 7 60 53 0,Qx 8 61 53 1,Qx 9 62 53 2,Qq 10 10 (.alloc 0 [(.str []),(Qz 0),(.str []),(.bool false),(.list 0 .full []),(.list 0 .full []),(Qz 0),(.bool false),(Qz 0)]),Qs 11 9 10 60 [],Qm 12 11 61,Qm 13 12 62] [0,1,4,5,7,12,28,29,30]
def r105_12 : IC:=.region [] [Qm 0 63 12] [0,1,4,5,7,28,29,30,63]
def r105_13 : IC:=.region [] [Qf 0 64 8 7,Qd 1 65 64,Qc 2 66 56 [(.const (Qz 120)),(.tmp 65)] [],Qs 3 2 4 66 []] [4]
def r105_14 : IC:=.region [[(Qz 0),(Qz 0)]] [Qm 0 67 0,Qf 1 68 1 7,Qe 2 69 6 68,Qc 3 70 20 [(.tmp 67),(.tmp 69)] [],Qq 4 13 (.alloc 0 [(Qz 0),(Qz 0)]),Qs 5 2 13 70 []] [0,1,4,5,13,28,29,30]
def r105_15 : IC:=.region [] [Qf 0 71 0 13,Qd 1 72 71,Qv 2 73 .neq 72 (Qz 0)] [0,1,4,5,13,28,29,30,73]
def r105_16 : IC:=.region [] [Qe 0 74 2 13,Qs 1 2 4 74 []] [4]
def r105_17 : IC:=.region [] [Qv 0 75 .add 30 (Qz 1),Qm 1 30 75] [0,1,4,5,28,29,30]
def r105_18 : IC:=.region [] [Qf 0 76 6 5,Qd 1 77 76,Qn 2 78 77,Qk 3 79 (Qz 0)] [0,1,4,5,77,78,79]
def r105_19 : IC:=.region [] [Qb 0 80 .lss 79 78] [0,1,4,5,77,78,79,80]
def r105_20 : IC:=.region [[(.list 0 .full []),(.bool false),(.list 0 .full []),(.list 0 .full []),(Qz 0)]] [Qm 0 81 79,Qi 1 82 5 77 79,Qe 2 83 5 82,Qq 3 15 (.alloc 0 [(.list 0 .full []),(.bool false),(.list 0 .full []),(.list 0 .full []),(Qz 0)]),Qm 4 14 81,Qs 5 5 15 83 []] [0,1,4,5,14,15,77,78,79]
def r105_21 : IC:=.region [] [Qm 0 84 14,Qv 1 85 .gtr 84 (Qz 0)] [0,1,4,5,15,77,78,79,85]
def r105_22 : IC:=.region [] [Qf 0 86 4 15,Qd 1 87 86,Qc 2 88 56 [(.const (Qz 120)),(.tmp 87)] [],Qs 3 2 4 88 []] [4]
def r105_23 : IC:=.region [[(Qz 0),(Qz 0)]] [Qm 0 89 0,Qf 1 90 0 15,Qd 2 91 90,Qc 3 92 150 [(.tmp 89),(.tmp 91)] [],Qq 4 16 (.alloc 0 [(Qz 0),(Qz 0)]),Qs 5 2 16 92 []] [0,1,4,5,16,77,78,79]
def r105_24 : IC:=.region [] [Qf 0 93 0 16,Qd 1 94 93,Qv 2 95 .neq 94 (Qz 0)] [0,1,4,5,16,77,78,79,95]
def r105_25 : IC:=.region [] [Qe 0 96 2 16,Qs 1 2 4 96 []] [4]
def r105_26 : IC:=.region [] [Qv 0 97 .add 79 (Qz 1),Qm 1 79 97] [0,1,4,5,77,78,79]
def r105_27 : IC:=.region [] [Qf 0 98 7 5,Qd 1 99 98,Qn 2 100 99,Qk 3 101 (Qz 0)] [0,1,4,99,100,101]
def r105_28 : IC:=.region [] [Qb 0 102 .lss 101 100] [0,1,4,99,100,101,102]
def r105_29 : IC:=.region [[(.str []),(.list 0 .full []),(Qz 0),(.str []),(.bool false),(.list 0 .full []),(.list 0 .full []),(Qz 0),(.list 0 .full []),(.bool false),(Qz 0)]] [Qm 0 103 101,Qi 1 104 11 99 101,Qe 2 105 11 104,Qq 3 18 (.alloc 0 [(.str []),(.list 0 .full []),(Qz 0),(.str []),(.bool false),(.list 0 .full []),(.list 0 .full []),(Qz 0),(.list 0 .full []),(.bool false),(Qz 0)]),Qm 4 17 103,Qs 5 11 18 105 []] [0,1,4,17,18,99,100,101]
def r105_30 : IC:=.region [[(Qz 0),(Qz 0)]] [Qm 0 106 0,Qm 1 107 1,Qm 2 108 17,Qe 3 109 11 18,Qc 4 110 151 [(.tmp 106),(.tmp 107),(.tmp 108),(.tmp 109)] [],Qq 5 19 (.alloc 0 [(Qz 0),(Qz 0)]),Qs 6 2 19 110 []] [0,1,4,19,99,100,101]
def r105_31 : IC:=.region [] [Qf 0 111 0 19,Qd 1 112 111,Qv 2 113 .neq 112 (Qz 0)] [0,1,4,19,99,100,101,113]
def r105_32 : IC:=.region [] [Qe 0 114 2 19,Qs 1 2 4 114 []] [4]
def r105_33 : IC:=.region [] [Qv 0 115 .add 101 (Qz 1),Qm 1 101 115] [0,1,4,99,100,101]
def r105_34 : IC:=.region [] [Qq 0 116 (.build [(Qz 0),(Qz 0)] []),Qs 1 2 4 116 []] [4]
noncomputable def i105 : IFn:=⟨2,(.seq r105_0 (.seq r105_1 (.seq (.seq r105_2 (.block 0 (.loop [0,1,4,5,28,29,30] (.seq r105_3 (.seq (.cond (.tmp 31) (.skip) (.exit 0)) (.seq (.block 1 (.seq r105_4 (.seq (.seq r105_5 (.block 2 (.loop [0,1,4,5,7,28,29,30,38,39,40] (.seq r105_6 (.seq (.cond (.tmp 41) (.skip) (.exit 2)) (.seq (.block 3 (.seq r105_7 (.seq r105_8 (.cond (.tmp 48) (.seq r105_9 .ret) (.skip))))) r105_10)))))) (.seq (.seq r105_11 (.seq r105_12 (.cond (.tmp 63) (.seq r105_13 .ret) (.skip)))) (.seq r105_14 (.seq r105_15 (.cond (.tmp 73) (.seq r105_16 .ret) (.skip)))))))) r105_17)))))) (.seq (.seq r105_18 (.block 4 (.loop [0,1,4,5,77,78,79] (.seq r105_19 (.seq (.cond (.tmp 80) (.skip) (.exit 4)) (.seq (.block 5 (.seq r105_20 (.seq (.seq r105_21 (.cond (.tmp 85) (.seq r105_22 .ret) (.skip))) (.seq r105_23 (.seq r105_24 (.cond (.tmp 95) (.seq r105_25 .ret) (.skip))))))) r105_26)))))) (.seq (.seq r105_27 (.block 6 (.loop [0,1,4,99,100,101] (.seq r105_28 (.seq (.cond (.tmp 102) (.skip) (.exit 6)) (.seq (.block 7 (.seq r105_29 (.seq r105_30 (.seq r105_31 (.cond (.tmp 113) (.seq r105_32 .ret) (.skip)))))) r105_33)))))) (.seq r105_34 .ret)))))),[.cell 4 (some 2)]⟩
theorem c105 : chkFn Tryz.prog Tryz.f105 i105 = true:=by kernel_rfl
def r106_0 : IC:=.region [[(Qz 0),(Qz 0)]] [Qq 0 4 (.alloc 0 [(Qz 0),(Qz 0)])] [0,1,4]
def r106_1 : IC:=.region [[(.str []),(.bool false),(.str []),(.list 0 .full []),(.list 0 .full []),(.list 0 .full []),(.list 0 .full []),(.list 0 .full []),(Qz 0)]] [Qm 0 12 0,Qq 1 13 (.nilCheck (.tmp 12)),Qf 2 14 0 13,Qd 3 15 14,Qm 4 16 1,Qi 5 17 9 15 16,Qe 6 18 9 17,Qq 7 5 (.alloc 0 [(.str []),(.bool false),(.str []),(.list 0 .full []),(.list 0 .full []),(.list 0 .full []),(.list 0 .full []),(.list 0 .full []),(Qz 0)]),Qs 8 9 5 18 []] [0,1,4,5]
def r106_2 : IC:=.region [] [Qm 0 19 0,Qq 1 20 (.nilCheck (.tmp 19)),Qf 2 21 2 20,Qd 3 22 21,Qm 4 23 1,Qi 5 24 1 22 23,Qd 6 25 24,Qn 7 26 25,Qk 8 27 (Qz 0)] [0,4,5,25,26,27]
def r106_3 : IC:=.region [] [Qb 0 28 .lss 27 26] [0,4,5,25,26,27,28]
def r106_4 : IC:=.region [] [Qi 0 29 1 25 27,Qd 1 30 29,Qm 2 7 30] [0,4,5,7,25,26,27]
def r106_5 : IC:=.region [] [Qm 0 31 0,Qq 1 32 (.nilCheck (.tmp 31)),Qf 2 33 0 32,Qd 3 34 33,Qm 4 35 7,Qi 5 36 9 34 35,Qf 6 37 1 36,Qd 7 38 37,Qu 8 39 38] [0,4,5,7,25,26,27,39]
def r106_6 : IC:=.region [] [Qm 0 40 0,Qq 1 41 (.nilCheck (.tmp 40)),Qf 2 42 0 41,Qd 3 43 42,Qm 4 44 7,Qi 5 45 9 43 44,Qf 6 46 7 45,Qd 7 47 46,Qn 8 48 47,Qk 9 49 (Qz 0)] [0,4,5,25,26,27,47,48,49]
def r106_7 : IC:=.region [] [Qb 0 50 .lss 49 48] [0,4,5,25,26,27,47,48,49,50]
def r106_8 : IC:=.region [[(.str []),(.list 0 .full []),(Qz 0),(.str []),(.bool false),(.list 0 .full []),(.list 0 .full []),(Qz 0),(.list 0 .full []),(.bool false),(Qz 0)]] [Qi 0 51 11 47 49,Qe 1 52 11 51,Qq 2 9 (.alloc 0 [(.str []),(.list 0 .full []),(Qz 0),(.str []),(.bool false),(.list 0 .full []),(.list 0 .full []),(Qz 0),(.list 0 .full []),(.bool false),(Qz 0)]),Qs 3 11 9 52 []] [0,4,5,9,25,26,27,47,48,49]
def r106_9 : IC:=.region [[(.str []),(.str []),(.str []),(.list 0 .full []),(Qz 0),(.str []),(.bool false),(.list 0 .full []),(.list 0 .full []),(Qz 0),(.list 0 .full []),(.bool false),(Qz 0)]] [Qm 0 54 0,Qf 1 55 0 5,Qd 2 56 55,Qf 3 57 0 9,Qd 4 58 57,Qf 5 59 1 9,Qd 6 60 59,Qq 12 10 (.alloc 0 [(.str []),(.str []),(.str []),(.list 0 .full []),(Qz 0),(.str []),(.bool false),(.list 0 .full []),(.list 0 .full []),(Qz 0),(.list 0 .full []),(.bool false),(Qz 0)]),Qc 7 61 17 [(.tmp 58),(.tmp 60)] [2,12],Qc 8 62 26 [(.tmp 54),(.tmp 56),(.tmp 61)] [12],Qm 9 53 62,Qx 10 63 53 0,Qx 11 64 53 1,Qs 13 13 10 63 [],Qm 14 11 64] [0,4,5,9,10,11,25,26,27,47,48,49]
def r106_10 : IC:=.region [] [Qm 0 65 11,Qu 1 66 65] [0,4,5,9,10,25,26,27,47,48,49,66]
def r106_11 : IC:=.region [] [Qf 0 67 8 5,Qd 1 68 67,Qc 2 69 56 [(.const (Qz 125)),(.tmp 68)] [],Qs 3 2 4 69 []] [4]
def r106_12 : IC:=.region [] [Qf 0 70 2 10,Qf 1 71 2 70,Qe 2 72 6 71,Qf 4 74 2 9,Qe 5 75 6 74,Qc 3 73 15 [(.tmp 72)] [5],Qc 6 76 15 [(.tmp 75)] [],Qb 7 77 .neq 73 76] [0,4,5,25,26,27,47,48,49,77]
def r106_13 : IC:=.region [] [Qf 0 78 8 5,Qd 1 79 78,Qc 2 80 56 [(.const (Qz 124)),(.tmp 79)] [],Qs 3 2 4 80 []] [4]
def r106_14 : IC:=.region [] [Qv 0 81 .add 49 (Qz 1),Qm 1 49 81] [0,4,5,25,26,27,47,48,49]
def r106_15 : IC:=.region [] [Qv 0 82 .add 27 (Qz 1),Qm 1 27 82] [0,4,5,25,26,27]
def r106_16 : IC:=.region [] [Qq 0 83 (.build [(Qz 0),(Qz 0)] []),Qs 1 2 4 83 []] [4]
noncomputable def i106 : IFn:=⟨2,(.seq r106_0 (.seq r106_1 (.seq (.seq r106_2 (.block 0 (.loop [0,4,5,25,26,27] (.seq r106_3 (.seq (.cond (.tmp 28) (.skip) (.exit 0)) (.seq (.block 1 (.seq r106_4 (.seq (.seq r106_5 (.cond (.tmp 39) (.exit 1) (.skip))) (.seq r106_6 (.block 2 (.loop [0,4,5,25,26,27,47,48,49] (.seq r106_7 (.seq (.cond (.tmp 50) (.skip) (.exit 2)) (.seq (.block 3 (.seq r106_8 (.seq r106_9 (.seq (.seq r106_10 (.cond (.tmp 66) (.seq r106_11 .ret) (.skip))) (.seq r106_12 (.cond (.tmp 77) (.seq r106_13 .ret) (.skip))))))) r106_14))))))))) r106_15)))))) (.seq r106_16 .ret)))),[.cell 4 (some 2)]⟩
theorem c106 : chkFn Tryz.prog Tryz.f106 i106 = true:=by kernel_rfl
def r149_0 : IC:=.region [] [Qk 0 4 (.list 0 .full [])] [0,1]
def r149_1 : IC:=.region [] [Qm 0 8 0,Qq 1 9 (.nilCheck (.tmp 8)),Qf 2 10 0 9,Qd 3 11 10,Qn 4 12 11,Ql 5 13 (.mkSlice 1 1 [(.bool false)] (.tmp 12) (.tmp 12)) [],Qm 6 5 13] [0,1,5]
def r149_2 : IC:=.region [] [Qm 0 14 0,Qm 1 15 1,Qc 2 16 204 [(.tmp 14),(.tmp 15)] [],Qm 3 6 16] [0,5,6]
def r149_3 : IC:=.region [] [Qm 0 17 6,Qn 1 18 17,Qv 2 19 .gtr 18 (Qz 0)] [0,5,6,19]
def r149_4 : IC:=.region [] [Qm 0 20 6,Qq 1 21 (.indexAddr 1 (.tmp 20) (.const (Qz 0))),Qd 2 22 21,Qm 3 7 22] [0,5,6,7]
def r149_5 : IC:=.region [] [Qm 0 23 6,Qq 1 24 (.slice 1 (.tmp 23) (some (.const (Qz 1))) none),Qm 2 6 24] [0,5,6,7]
def r149_6 : IC:=.region [] [Qm 0 25 5,Qm 1 26 7,Qi 2 27 1 25 26,Qd 3 28 27,Qu 4 29 28] [0,5,6,7,29]
def r149_7 : IC:=.region [] [Qm 0 30 5,Qm 1 31 7,Qi 2 32 1 30 31,Qw 3 (.store 1 (.tmp 32) (.const (.bool true))) []] [0,5,6,7]
def r149_8 : IC:=.region [] [Qm 0 33 6,Qm 1 34 0,Qm 2 35 7,Qc 3 36 204 [(.tmp 34),(.tmp 35)] [],Ql 4 37 (.append 1 8 (.tmp 33) (.tmp 36)) [],Qm 5 6 37] [0,5,6]
def r149_9 : IC:=.region [] [Qm 0 38 5,Qm 1 4 38] [4]
noncomputable def i149 : IFn:=⟨2,(.seq r149_0 (.seq r149_1 (.seq r149_2 (.seq (.block 0 (.loop [0,5,6] (.seq (.seq r149_3 (.cond (.tmp 19) (.skip) (.exit 0))) (.block 1 (.seq r149_4 (.seq r149_5 (.seq r149_6 (.cond (.tmp 29) (.seq r149_7 r149_8) (.skip))))))))) (.seq r149_9 .ret))))),[.tmp 4]⟩
theorem c149 : chkFn Tryz.prog Tryz.f149 i149 = true:=by kernel_rfl
def r20_0 : IC:=.region [[(Qz 0),(Qz 0)]] [Ql 0 3 (.box (.tmp 1)) [],Qq 1 4 (.alloc 0 [(Qz 0),(Qz 0)])] [0,3,4]
def r20_1 : IC:=.region [] [Qf 0 10 0 3,Qd 1 11 10,Qv 2 12 .eql 11 (Qz 3)] [0,3,4,12]
def r20_2 : IC:=.region [] [Qm 0 14 0,Qq 1 15 (.nilCheck (.tmp 14)),Qf 2 16 1 15,Qd 3 17 16,Qf 4 18 1 3,Qd 5 19 18,Qq 6 20 (.lookup (Qz 0) true (.tmp 17) (.tmp 19)),Qm 7 13 20,Qx 8 21 13 0,Qx 9 22 13 1,Qm 10 5 21,Qm 11 6 22] [0,3,4,6]
def r20_3 : IC:=.region [] [Qm 0 23 6,Qu 1 24 23] [0,3,4,24]
def r20_4 : IC:=.region [] [Qf 0 25 5 3,Qd 1 26 25,Qc 2 27 56 [(.const (Qz 121)),(.tmp 26)] [],Qs 3 2 4 27 []] [4]
def r20_5 : IC:=.region [] [Qf 0 28 3 3,Qd 1 29 28,Qn 2 30 29,Qk 3 31 (Qz 0)] [0,4,29,30,31]
def r20_6 : IC:=.region [] [Qb 0 32 .lss 31 30] [0,4,29,30,31,32]
def r20_7 : IC:=.region [[(Qz 0),(.str []),(.bool false),(.list 0 .full []),(.list 0 .full []),(Qz 0)]] [Qi 0 33 6 29 31,Qe 1 34 6 33,Qq 2 8 (.alloc 0 [(Qz 0),(.str []),(.bool false),(.list 0 .full []),(.list 0 .full []),(Qz 0)]),Qs 3 6 8 34 []] [0,4,8,29,30,31]
def r20_8 : IC:=.region [[(Qz 0),(Qz 0)]] [Qm 0 35 0,Qe 1 36 6 8,Qc 2 37 20 [(.tmp 35),(.tmp 36)] [],Qq 3 9 (.alloc 0 [(Qz 0),(Qz 0)]),Qs 4 2 9 37 []] [0,4,9,29,30,31]
def r20_9 : IC:=.region [] [Qf 0 38 0 9,Qd 1 39 38,Qv 2 40 .neq 39 (Qz 0)] [0,4,9,29,30,31,40]
def r20_10 : IC:=.region [] [Qe 0 41 2 9,Qs 1 2 4 41 []] [4]
def r20_11 : IC:=.region [] [Qv 0 42 .add 31 (Qz 1),Qm 1 31 42] [0,4,29,30,31]
def r20_12 : IC:=.region [] [Qq 0 43 (.build [(Qz 0),(Qz 0)] []),Qs 1 2 4 43 []] [4]
noncomputable def i20 : IFn:=⟨2,(.seq r20_0 (.seq (.seq r20_1 (.cond (.tmp 12) (.seq r20_2 (.seq r20_3 (.cond (.tmp 24) (.seq r20_4 .ret) (.skip)))) (.skip))) (.seq (.seq r20_5 (.block 0 (.loop [0,4,29,30,31] (.seq r20_6 (.seq (.cond (.tmp 32) (.skip) (.exit 0)) (.seq (.block 1 (.seq r20_7 (.seq r20_8 (.seq r20_9 (.cond (.tmp 40) (.seq r20_10 .ret) (.skip)))))) r20_11)))))) (.seq r20_12 .ret)))),[.cell 4 (some 2)]⟩
theorem c20 : chkFn Tryz.prog Tryz.f20 i20 = true:=by kernel_rfl
def r150_0 : IC:=.region [[(Qz 0),(Qz 0)]] [Qq 0 4 (.alloc 0 [(Qz 0),(Qz 0)])] [0,1,4]
def r150_1 : IC:=.region [] [Qm 0 10 1,Qn 1 11 10,Qk 2 12 (Qz 0)] [0,1,4,10,11,12]
def r150_2 : IC:=.region [] [Qb 0 13 .lss 12 11] [0,1,4,10,11,12,13]
def r150_3 : IC:=.region [[(.str []),(Qz 0),(.str []),(.bool false),(.list 0 .full []),(.list 0 .full []),(Qz 0),(Qz 0)]] [Qm 0 14 12,Qi 1 15 8 10 12,Qe 2 16 8 15,Qq 3 6 (.alloc 0 [(.str []),(Qz 0),(.str []),(.bool false),(.list 0 .full []),(.list 0 .full []),(Qz 0),(Qz 0)]),Qm 4 5 14,Qs 5 8 6 16 []] [0,1,4,5,6,10,11,12]
def r150_4 : IC:=.region [] [Qm 0 17 1,Qm 1 18 5,Qq 2 19 (.slice 8 (.tmp 17) none (some (.tmp 18))),Qn 3 20 19,Qk 4 21 (Qz 0)] [0,1,4,6,10,11,12,19,20,21]
def r150_5 : IC:=.region [] [Qb 0 22 .lss 21 20] [0,1,4,6,10,11,12,19,20,21,22]
def r150_6 : IC:=.region [[(.str []),(Qz 0),(.str []),(.bool false),(.list 0 .full []),(.list 0 .full []),(Qz 0),(Qz 0)]] [Qi 0 23 8 19 21,Qe 1 24 8 23,Qq 2 8 (.alloc 0 [(.str []),(Qz 0),(.str []),(.bool false),(.list 0 .full []),(.list 0 .full []),(Qz 0),(Qz 0)]),Qs 3 8 8 24 []] [0,1,4,6,8,10,11,12,19,20,21]
def r150_7 : IC:=.region [] [Qf 0 25 0 6,Qd 1 26 25,Qf 2 27 0 8,Qd 3 28 27,Qb 4 29 .eql 26 28] [0,1,4,6,10,11,12,19,20,21,29]
def r150_8 : IC:=.region [] [Qf 0 30 7 6,Qd 1 31 30,Qc 2 32 56 [(.const (Qz 120)),(.tmp 31)] [],Qs 3 2 4 32 []] [4]
def r150_9 : IC:=.region [] [Qv 0 33 .add 21 (Qz 1),Qm 1 21 33] [0,1,4,6,10,11,12,19,20,21]
def r150_10 : IC:=.region [[(Qz 0),(Qz 0)]] [Qm 0 34 0,Qf 1 35 1 6,Qe 2 36 6 35,Qc 3 37 20 [(.tmp 34),(.tmp 36)] [],Qq 4 9 (.alloc 0 [(Qz 0),(Qz 0)]),Qs 5 2 9 37 []] [0,1,4,9,10,11,12]
def r150_11 : IC:=.region [] [Qf 0 38 0 9,Qd 1 39 38,Qv 2 40 .neq 39 (Qz 0)] [0,1,4,9,10,11,12,40]
def r150_12 : IC:=.region [] [Qe 0 41 2 9,Qs 1 2 4 41 []] [4]
def r150_13 : IC:=.region [] [Qv 0 42 .add 12 (Qz 1),Qm 1 12 42] [0,1,4,10,11,12]
def r150_14 : IC:=.region [] [Qq 0 43 (.build [(Qz 0),(Qz 0)] []),Qs 1 2 4 43 []] [4]
noncomputable def i150 : IFn:=⟨2,(.seq r150_0 (.seq (.seq r150_1 (.block 0 (.loop [0,1,4,10,11,12] (.seq r150_2 (.seq (.cond (.tmp 13) (.skip) (.exit 0)) (.seq (.block 1 (.seq r150_3 (.seq (.seq r150_4 (.block 2 (.loop [0,1,4,6,10,11,12,19,20,21] (.seq r150_5 (.seq (.cond (.tmp 22) (.skip) (.exit 2)) (.seq (.block 3 (.seq r150_6 (.seq r150_7 (.cond (.tmp 29) (.seq r150_8 .ret) (.skip))))) r150_9)))))) (.seq r150_10 (.seq r150_11 (.cond (.tmp 40) (.seq r150_12 .ret) (.skip))))))) r150_13)))))) (.seq r150_14 .ret))),[.cell 4 (some 2)]⟩
theorem c150 : chkFn Tryz.prog Tryz.f150 i150 = true:=by kernel_rfl
def r151_0 : IC:=.region [[(Qz 0),(Qz 0)]] [Ql 0 7 (.box (.tmp 3)) [],Qq 1 8 (.alloc 0 [(Qz 0),(Qz 0)])] [0,1,2,7,8]
def r151_1 : IC:=.region [[(Qz 0),(Qz 0)]] [Qm 0 18 0,Qf 1 19 1 7,Qd 2 20 19,Qc 3 21 150 [(.tmp 18),(.tmp 20)] [],Qq 4 9 (.alloc 0 [(Qz 0),(Qz 0)]),Qs 5 2 9 21 []] [0,1,2,7,8,9]
def r151_2 : IC:=.region [] [Qf 0 22 0 9,Qd 1 23 22,Qv 2 24 .neq 23 (Qz 0)] [0,1,2,7,8,9,24]
def r151_3 : IC:=.region [] [Qe 0 25 2 9,Qs 1 2 8 25 []] [8]
def r151_4 : IC:=.region [[(Qz 0),(Qz 0)]] [Qm 0 26 0,Qf 1 27 2 7,Qe 2 28 6 27,Qc 3 29 20 [(.tmp 26),(.tmp 28)] [],Qq 4 10 (.alloc 0 [(Qz 0),(Qz 0)]),Qs 5 2 10 29 []] [0,1,2,7,8,10]
def r151_5 : IC:=.region [] [Qf 0 30 0 10,Qd 1 31 30,Qv 2 32 .neq 31 (Qz 0)] [0,1,2,7,8,10,32]
def r151_6 : IC:=.region [] [Qe 0 33 2 10,Qs 1 2 8 33 []] [8]
def r151_7 : IC:=.region [] [Qf 0 34 0 7,Qd 1 35 34,Qf 2 36 1 7,Qd 3 37 36,Qc 4 38 17 [(.tmp 35),(.tmp 37)] [],Qm 5 11 38] [0,1,2,7,8,11]
def r151_8 : IC:=.region [] [Qm 0 39 0,Qq 1 40 (.nilCheck (.tmp 39)),Qf 2 41 0 40,Qd 3 42 41,Qm 4 43 1,Qi 5 44 9 42 43,Qf 6 45 7 44,Qd 7 46 45,Qm 8 47 2,Qq 9 48 (.slice 11 (.tmp 46) none (some (.tmp 47))),Qn 10 49 48,Qk 11 50 (Qz 0)] [0,1,7,8,11,48,49,50]
def r151_9 : IC:=.region [] [Qb 0 51 .lss 50 49] [0,1,7,8,11,48,49,50,51]
def r151_10 : IC:=.region [[(.str []),(.list 0 .full []),(Qz 0),(.str []),(.bool false),(.list 0 .full []),(.list 0 .full []),(Qz 0),(.list 0 .full []),(.bool false),(Qz 0)]] [Qi 0 52 11 48 50,Qe 1 53 11 52,Qq 2 13 (.alloc 0 [(.str []),(.list 0 .full []),(Qz 0),(.str []),(.bool false),(.list 0 .full []),(.list 0 .full []),(Qz 0),(.list 0 .full []),(.bool false),(Qz 0)]),Qs 3 11 13 53 []] [0,1,7,8,11,13,48,49,50]
def r151_11 : IC:=.region [] [Qf 0 54 0 13,Qd 1 55 54,Qf 2 56 1 13,Qd 3 57 56,Qc 4 58 17 [(.tmp 55),(.tmp 57)] [],Qm 5 59 11,Qb 6 60 .eql 58 59] [0,1,7,8,11,48,49,50,60]
def r151_12 : IC:=.region [] [Qf 0 61 10 7,Qd 1 62 61,Qc 2 63 56 [(.const (Qz 120)),(.tmp 62)] [],Qs 3 2 8 63 []] [8]
def r151_13 : IC:=.region [] [Qv 0 64 .add 50 (Qz 1),Qm 1 50 64] [0,1,7,8,11,48,49,50]
def r151_14 : IC:=.region [] [Qm 0 65 0,Qq 1 66 (.nilCheck (.tmp 65)),Qf 2 67 2 66,Qd 3 68 67,Qm 4 69 1,Qi 5 70 1 68 69,Qd 6 71 70,Qn 7 72 71,Qk 8 73 (Qz 0)] [0,7,8,11,71,72,73]
def r151_15 : IC:=.region [] [Qb 0 74 .lss 73 72] [0,7,8,11,71,72,73,74]
def r151_16 : IC:=.region [] [Qi 0 75 1 71 73,Qd 1 76 75,Qm 2 15 76] [0,7,8,11,15,71,72,73]
def r151_17 : IC:=.region [[(.str []),(.list 0 .full []),(Qz 0),(.str []),(.bool false),(.list 0 .full []),(.list 0 .full []),(Qz 0),(.list 0 .full []),(.bool false),(Qz 0)]] [Qm 0 78 0,Qm 1 79 15,Qm 2 80 11,Qc 3 81 65 [(.tmp 78),(.tmp 79),(.tmp 80)] [],Qm 4 77 81,Qx 5 82 77 0,Qx 6 83 77 1,Qq 7 16 (.alloc 0 [(.str []),(.list 0 .full []),(Qz 0),(.str []),(.bool false),(.list 0 .full []),(.list 0 .full []),(Qz 0),(.list 0 .full []),(.bool false),(Qz 0)]),Qs 8 11 16 82 [],Qm 9 17 83] [0,7,8,11,16,17,71,72,73]
def r151_18 : IC:=.region [] [Qm 0 84 17,Qm 1 85 84,Qfg 2 86 85 true 2 16,Qeg 3 87 85 true 6 86,Qfg 5 89 85 true 2 7,Qeg 6 90 85 true 6 89,Qcg 4 88 85 true 15 [(.tmp 87)] [6],Qcg 7 91 85 true 15 [(.tmp 90)] [],Qbg 8 92 85 true .neq 88 91,Qa 9 93 85 92] [0,7,8,11,71,72,73,93]
def r151_19 : IC:=.region [] [Qf 0 94 10 7,Qd 1 95 94,Qc 2 96 56 [(.const (Qz 124)),(.tmp 95)] [],Qs 3 2 8 96 []] [8]
def r151_20 : IC:=.region [] [Qv 0 97 .add 73 (Qz 1),Qm 1 73 97] [0,7,8,11,71,72,73]
def r151_21 : IC:=.region [] [Qq 0 98 (.build [(Qz 0),(Qz 0)] []),Qs 1 2 8 98 []] [8]
noncomputable def i151 : IFn:=⟨4,(.seq r151_0 (.seq (.seq r151_1 (.seq r151_2 (.cond (.tmp 24) (.seq r151_3 .ret) (.skip)))) (.seq (.seq r151_4 (.seq r151_5 (.cond (.tmp 32) (.seq r151_6 .ret) (.skip)))) (.seq r151_7 (.seq (.seq r151_8 (.block 0 (.loop [0,1,7,8,11,48,49,50] (.seq r151_9 (.seq (.cond (.tmp 51) (.skip) (.exit 0)) (.seq (.block 1 (.seq r151_10 (.seq r151_11 (.cond (.tmp 60) (.seq r151_12 .ret) (.skip))))) r151_13)))))) (.seq (.seq r151_14 (.block 2 (.loop [0,7,8,11,71,72,73] (.seq r151_15 (.seq (.cond (.tmp 74) (.skip) (.exit 2)) (.seq (.block 3 (.seq r151_16 (.seq r151_17 (.seq r151_18 (.cond (.tmp 93) (.seq r151_19 .ret) (.skip)))))) r151_20)))))) (.seq r151_21 .ret))))))),[.cell 8 (some 2)]⟩
theorem c151 : chkFn Tryz.prog Tryz.f151 i151 = true:=by kernel_rfl
def r65_0 : IC:=.region [[(.str []),(.list 0 .full []),(Qz 0),(.str []),(.bool false),(.list 0 .full []),(.list 0 .full []),(Qz 0),(.list 0 .full []),(.bool false),(Qz 0)]] [Qq 0 6 (.alloc 0 [(.str []),(.list 0 .full []),(Qz 0),(.str []),(.bool false),(.list 0 .full []),(.list 0 .full []),(Qz 0),(.list 0 .full []),(.bool false),(Qz 0)]),Qk 1 7 (.bool false)] [0,1,2,6]
def r65_1 : IC:=.region [] [Qm 0 10 0,Qq 1 11 (.nilCheck (.tmp 10)),Qf 2 12 0 11,Qd 3 13 12,Qm 4 14 1,Qi 5 15 9 13 14,Qf 6 16 7 15,Qd 7 17 16,Qn 8 18 17,Qk 9 19 (Qz 0)] [2,6,17,18,19]
def r65_2 : IC:=.region [] [Qb 0 20 .lss 19 18] [2,6,17,18,19,20]
def r65_3 : IC:=.region [[(.str []),(.list 0 .full []),(Qz 0),(.str []),(.bool false),(.list 0 .full []),(.list 0 .full []),(Qz 0),(.list 0 .full []),(.bool false),(Qz 0)]] [Qi 0 21 11 17 19,Qe 1 22 11 21,Qq 2 9 (.alloc 0 [(.str []),(.list 0 .full []),(Qz 0),(.str []),(.bool false),(.list 0 .full []),(.list 0 .full []),(Qz 0),(.list 0 .full []),(.bool false),(Qz 0)]),Qs 3 11 9 22 []] [2,6,9,17,18,19]
def r65_4 : IC:=.region [] [Qf 0 23 0 9,Qd 1 24 23,Qf 2 25 1 9,Qd 3 26 25,Qc 4 27 17 [(.tmp 24),(.tmp 26)] [],Qm 5 28 2,Qb 6 29 .eql 27 28] [2,6,9,17,18,19,29]
def r65_5 : IC:=.region [] [Qe 0 30 11 9,Qs 1 11 6 30 [],Qk 2 7 (.bool true)] [6,7]
def r65_6 : IC:=.region [] [Qv 0 31 .add 19 (Qz 1),Qm 1 19 31] [2,6,17,18,19]
def r65_7 : IC:=.region [] [Qq 0 32 (.build [(.str []),(.list 0 .full []),(Qz 0),(.str []),(.bool false),(.list 0 .full []),(.list 0 .full []),(Qz 0),(.list 0 .full []),(.bool false),(Qz 0)] []),Qs 1 11 6 32 [],Qk 2 7 (.bool false)] [6,7]
noncomputable def i65 : IFn:=⟨3,(.seq r65_0 (.seq (.seq r65_1 (.block 0 (.loop [2,6,17,18,19] (.seq r65_2 (.seq (.cond (.tmp 20) (.skip) (.exit 0)) (.seq (.block 1 (.seq r65_3 (.seq r65_4 (.cond (.tmp 29) (.seq r65_5 .ret) (.skip))))) r65_6)))))) (.seq r65_7 .ret))),[.cell 6 (some 11),.tmp 7]⟩
theorem c65 : chkFn Tryz.prog Tryz.f65 i65 = true:=by kernel_rfl
def r30_0 : IC:=.region [[(.str []),(Qz 0),(.str []),(.bool false),(.list 0 .full []),(.list 0 .full []),(Qz 0),(.bool false),(Qz 0)]] [Qq 0 6 (.alloc 0 [(.str []),(Qz 0),(.str []),(.bool false),(.list 0 .full []),(.list 0 .full []),(Qz 0),(.bool false),(Qz 0)]),Qk 1 7 (.str []),Qk 2 8 (.bool false)] [0,1,2,6]
def r30_1 : IC:=.region [] [Qm 0 13 0,Qm 1 14 1,Qc 2 15 66 [(.tmp 13),(.tmp 14)] [],Qn 3 16 15,Qk 4 17 (Qz 0)] [0,2,6,15,16,17]
def r30_2 : IC:=.region [] [Qb 0 18 .lss 17 16] [0,2,6,15,16,17,18]
def r30_3 : IC:=.region [] [Qi 0 19 1 15 17,Qd 1 20 19,Qm 2 10 20] [0,2,6,10,15,16,17]
def r30_4 : IC:=.region [] [Qm 0 21 0,Qq 1 22 (.nilCheck (.tmp 21)),Qf 2 23 0 22,Qd 3 24 23,Qm 4 25 10,Qi 5 26 9 24 25,Qf 6 27 4 26,Qd 7 28 27,Qn 8 29 28,Qk 9 30 (Qz 0)] [0,2,6,10,15,16,17,28,29,30]
def r30_5 : IC:=.region [] [Qb 0 31 .lss 30 29] [0,2,6,10,15,16,17,28,29,30,31]
def r30_6 : IC:=.region [[(.str []),(Qz 0),(.str []),(.bool false),(.list 0 .full []),(.list 0 .full []),(Qz 0),(.bool false),(Qz 0)]] [Qi 0 32 9 28 30,Qe 1 33 9 32,Qq 2 12 (.alloc 0 [(.str []),(Qz 0),(.str []),(.bool false),(.list 0 .full []),(.list 0 .full []),(Qz 0),(.bool false),(Qz 0)]),Qs 3 9 12 33 []] [0,2,6,10,12,15,16,17,28,29,30]
def r30_7 : IC:=.region [] [Qf 0 34 0 12,Qd 1 35 34,Qm 2 36 2,Qb 3 37 .eql 35 36] [0,2,6,10,12,15,16,17,28,29,30,37]
def r30_8 : IC:=.region [] [Qe 0 38 9 12,Qm 1 39 0,Qq 2 40 (.nilCheck (.tmp 39)),Qf 3 41 0 40,Qd 4 42 41,Qm 5 43 10,Qi 6 44 9 42 43,Qf 7 45 0 44,Qd 8 46 45,Qs 9 9 6 38 [4,8],Qm 10 7 46,Qk 11 8 (.bool true)] [6,7,8]
def r30_9 : IC:=.region [] [Qv 0 47 .add 30 (Qz 1),Qm 1 30 47] [0,2,6,10,15,16,17,28,29,30]
def r30_10 : IC:=.region [] [Qv 0 48 .add 17 (Qz 1),Qm 1 17 48] [0,2,6,15,16,17]
def r30_11 : IC:=.region [] [Qq 0 49 (.build [(.str []),(Qz 0),(.str []),(.bool false),(.list 0 .full []),(.list 0 .full []),(Qz 0),(.bool false),(Qz 0)] []),Qs 1 9 6 49 [],Qk 2 7 (.str []),Qk 3 8 (.bool false)] [6,7,8]
noncomputable def i30 : IFn:=⟨3,(.seq r30_0 (.seq (.seq r30_1 (.block 0 (.loop [0,2,6,15,16,17] (.seq r30_2 (.seq (.cond (.tmp 18) (.skip) (.exit 0)) (.seq (.block 1 (.seq r30_3 (.seq r30_4 (.block 2 (.loop [0,2,6,10,15,16,17,28,29,30] (.seq r30_5 (.seq (.cond (.tmp 31) (.skip) (.exit 2)) (.seq (.block 3 (.seq r30_6 (.seq r30_7 (.cond (.tmp 37) (.seq r30_8 .ret) (.skip))))) r30_9)))))))) r30_10)))))) (.seq r30_11 .ret))),[.cell 6 (some 9),.tmp 7,.tmp 8]⟩
theorem c30 : chkFn Tryz.prog Tryz.f30 i30 = true:=by kernel_rfl
def r66_0 : IC:=.region [] [Qk 0 4 (.list 0 .full [])] [0,1]
def r66_1 : IC:=.region [] [Qk 0 5 (.list 0 .full [])] [0,1,5]
def r66_2 : IC:=.region [] [Qm 0 9 0,Qq 1 10 (.nilCheck (.tmp 9)),Qf 2 11 1 10,Qd 3 12 11,Qm 4 13 1,Qq 5 14 (.lookup (Qz 0) true (.tmp 12) (.tmp 13)),Qm 6 8 14,Qx 7 15 8 0,Qx 8 16 8 1,Qm 9 6 15,Qm 10 7 16] [0,5,6,7]
def r66_3 : IC:=.region [] [Qm 0 17 7] [0,5,6,17]
def r66_4 : IC:=.region [] [Qm 0 34 5,Qm 1 35 6,Qq 2 36 (.mkList 1 [(.tmp 35)]),Ql 3 37 (.append 1 8 (.tmp 34) (.tmp 36)) [],Qm 4 5 37] [0,5,6]
def r66_5 : IC:=.region [] [Qm 0 19 0,Qq 1 20 (.nilCheck (.tmp 19)),Qf 2 21 1 20,Qd 3 22 21,Qm 4 23 0,Qq 5 24 (.nilCheck (.tmp 23)),Qf 6 25 0 24,Qd 7 26 25,Qm 8 27 6,Qi 9 28 9 26 27,Qf 10 29 2 28,Qd 11 30 29,Qq 12 31 (.lookup (Qz 0) true (.tmp 22) (.tmp 30)),Qm 13 18 31,Qx 14 32 18 0,Qx 15 33 18 1,Qm 16 6 32,Qm 17 7 33] [0,5,6,7]
def r66_6 : IC:=.region [] [Qm 0 38 5,Qm 1 4 38] [4]
noncomputable def i66 : IFn:=⟨2,(.seq r66_0 (.seq r66_1 (.seq (.seq r66_2 (.block 0 (.loop [0,5,6,7] (.seq (.seq r66_3 (.cond (.tmp 17) (.skip) (.exit 0))) (.seq (.block 1 r66_4) r66_5))))) (.seq r66_6 .ret)))),[.tmp 4]⟩
theorem c66 : chkFn Tryz.prog Tryz.f66 i66 = true:=by kernel_rfl
def r26_0 : IC:=.region [[(.str []),(.str []),(.str []),(.list 0 .full []),(Qz 0),(.str []),(.bool false),(.list 0 .full []),(.list 0 .full []),(Qz 0),(.list 0 .full []),(.bool false),(Qz 0)]] [Qq 0 6 (.alloc 0 [(.str []),(.str []),(.str []),(.list 0 .full []),(Qz 0),(.str []),(.bool false),(.list 0 .full []),(.list 0 .full []),(Qz 0),(.list 0 .full []),(.bool false),(Qz 0)]),Qk 1 7 (.bool false)] [0,1,2,6]
def r26_1 : IC:=.region [] [Qm 0 12 0,Qm 1 13 1,Qc 2 14 64 [(.tmp 12),(.tmp 13)] [],Qn 3 15 14,Qk 4 16 (Qz 0)] [0,2,6,14,15,16]
def r26_2 : IC:=.region [] [Qb 0 17 .lss 16 15] [0,2,6,14,15,16,17]
def r26_3 : IC:=.region [] [Qi 0 18 1 14 16,Qd 1 19 18,Qm 2 9 19] [0,2,6,9,14,15,16]
def r26_4 : IC:=.region [[(.str []),(.list 0 .full []),(Qz 0),(.str []),(.bool false),(.list 0 .full []),(.list 0 .full []),(Qz 0),(.list 0 .full []),(.bool false),(Qz 0)]] [Qm 0 21 0,Qm 1 22 9,Qm 2 23 2,Qc 3 24 65 [(.tmp 21),(.tmp 22),(.tmp 23)] [],Qm 4 20 24,Qx 5 25 20 0,Qx 6 26 20 1,Qq 7 10 (.alloc 0 [(.str []),(.list 0 .full []),(Qz 0),(.str []),(.bool false),(.list 0 .full []),(.list 0 .full []),(Qz 0),(.list 0 .full []),(.bool false),(Qz 0)]),Qs 8 11 10 25 [],Qm 9 11 26] [0,2,6,9,10,11,14,15,16]
def r26_5 : IC:=.region [] [Qm 0 27 11] [0,2,6,9,10,14,15,16,27]
def r26_6 : IC:=.region [] [Qm 0 28 2,Qm 1 29 0,Qq 2 30 (.nilCheck (.tmp 29)),Qf 3 31 0 30,Qd 4 32 31,Qm 5 33 9,Qi 6 34 9 32 33,Qf 7 35 0 34,Qd 8 36 35,Qe 9 37 11 10,Qq 10 38 (.build [(.str []),(.str []),(.str []),(.list 0 .full []),(Qz 0),(.str []),(.bool false),(.list 0 .full []),(.list 0 .full []),(Qz 0),(.list 0 .full []),(.bool false),(Qz 0)] [(0,1,(.tmp 28)),(1,1,(.tmp 36)),(2,11,(.tmp 37))]),Qs 11 13 6 38 [],Qk 12 7 (.bool true)] [6,7]
def r26_7 : IC:=.region [] [Qv 0 39 .add 16 (Qz 1),Qm 1 16 39] [0,2,6,14,15,16]
def r26_8 : IC:=.region [] [Qq 0 40 (.build [(.str []),(.str []),(.str []),(.list 0 .full []),(Qz 0),(.str []),(.bool false),(.list 0 .full []),(.list 0 .full []),(Qz 0),(.list 0 .full []),(.bool false),(Qz 0)] []),Qs 1 13 6 40 [],Qk 2 7 (.bool false)] [6,7]
noncomputable def i26 : IFn:=⟨3,(.seq r26_0 (.seq (.seq r26_1 (.block 0 (.loop [0,2,6,14,15,16] (.seq r26_2 (.seq (.cond (.tmp 17) (.skip) (.exit 0)) (.seq (.block 1 (.seq r26_3 (.seq r26_4 (.seq r26_5 (.cond (.tmp 27) (.seq r26_6 .ret) (.skip)))))) r26_7)))))) (.seq r26_8 .ret))),[.cell 6 (some 13),.tmp 7]⟩
theorem c26 : chkFn Tryz.prog Tryz.f26 i26 = true:=by kernel_rfl
def r64_0 : IC:=.region [] [Qk 0 4 (.list 0 .full [])] [0,1]
def r64_1 : IC:=.region [] [Qm 0 8 0,Qq 1 9 (.nilCheck (.tmp 8)),Qf 2 10 1 9,Qd 3 11 10,Qm 4 12 1,Qq 5 13 (.lookup (Qz 0) true (.tmp 11) (.tmp 12)),Qm 6 7 13,Qx 7 14 7 0,Qx 8 15 7 1,Qm 9 5 14,Qm 10 6 15] [0,1,5,6]
def r64_2 : IC:=.region [] [Qm 0 16 6,Qu 1 17 16] [0,1,5,17]
def r64_3 : IC:=.region [] [Qk 0 4 (.list 0 .full [])] [4]
def r64_4 : IC:=.region [] [Qm 0 18 0,Qq 1 19 (.nilCheck (.tmp 18)),Qf 2 20 0 19,Qd 3 21 20,Qm 4 22 5,Qi 5 23 9 21 22,Qf 6 24 1 23,Qd 7 25 24] [0,1,5,25]
def r64_5 : IC:=.region [] [Qm 0 26 5,Qq 1 27 (.mkList 1 [(.tmp 26)]),Qm 2 28 0,Qq 3 29 (.nilCheck (.tmp 28)),Qf 4 30 2 29,Qd 5 31 30,Qm 6 32 5,Qi 7 33 1 31 32,Qd 8 34 33,Ql 9 35 (.append 1 8 (.tmp 27) (.tmp 34)) [],Qm 10 4 35] [4]
def r64_6 : IC:=.region [] [Qm 0 36 0,Qm 1 37 1,Qc 2 38 66 [(.tmp 36),(.tmp 37)] [],Qm 3 4 38] [4]
noncomputable def ifn64 : IFn:=⟨2,(.seq r64_0 (.seq r64_1 (.seq (.seq r64_2 (.cond (.tmp 17) (.seq r64_3 .ret) (.skip))) (.seq (.seq r64_4 (.cond (.tmp 25) (.seq r64_5 .ret) (.skip))) (.seq r64_6 .ret))))),[.tmp 4]⟩
theorem c64 : chkFn Tryz.prog Tryz.f64 ifn64 = true:=by kernel_rfl
def r15_0 : IC:=.region [] [Ql 0 1 (.box (.tmp 0)) [],Qk 1 2 (.str [])] [1]
def r15_1 : IC:=.region [] [Qf 0 3 0 1,Qd 1 4 3] [1,4]
def r15_2 : IC:=.region [] [Qv 0 6 .eql 4 (Qz 1),Qm 1 5 6] [1,4,5]
def r15_3 : IC:=.region [] [Qk 0 2 (.str [105,110,116])] [2]
def r15_4 : IC:=.region [] [Qv 0 8 .eql 4 (Qz 2),Qm 1 7 8] [1,4,7]
def r15_5 : IC:=.region [] [Qk 0 2 (.str [98,111,111,108])] [2]
def r15_6 : IC:=.region [] [Qv 0 10 .eql 4 (Qz 3),Qm 1 9 10] [1,4,9]
def r15_7 : IC:=.region [] [Qf 0 11 1 1,Qd 1 12 11,Qm 2 2 12] [2]
def r15_8 : IC:=.region [] [Qv 0 14 .eql 4 (Qz 4),Qm 1 13 14] [1,4,13]
def r15_9 : IC:=.region [] [Qf 0 15 3 1,Qd 1 16 15,Qn 2 17 16,Qv 3 18 .gtr 17 (Qz 0)] [1,18]
def r15_10 : IC:=.region [] [Qf 0 19 3 1,Qd 1 20 19,Qq 2 21 (.indexAddr 6 (.tmp 20) (.const (Qz 0))),Qe 3 22 6 21,Qc 4 23 52 [(.tmp 22)] [],Qv 5 24 .add 23 (.str [91,93]),Qm 6 2 24] [2]
def r15_11 : IC:=.region [] [Qk 0 2 (.str [91,93])] [2]
def r15_12 : IC:=.region [] [Qv 0 26 .eql 4 (Qz 5),Qm 1 25 26] [25]
def r15_13 : IC:=.region [] [Qk 0 2 (.str [110,117,108,108])] [2]
def r15_14 : IC:=.region [] [Qk 0 2 (.str [118,111,105,100])] [2]
noncomputable def i15 : IFn:=⟨1,(.seq r15_0 (.seq (.seq r15_1 (.block 0 (.seq r15_2 (.cond (.tmp 5) (.seq r15_3 .ret) (.seq r15_4 (.cond (.tmp 7) (.seq r15_5 .ret) (.seq r15_6 (.cond (.tmp 9) (.seq r15_7 .ret) (.seq r15_8 (.cond (.tmp 13) (.seq (.seq r15_9 (.cond (.tmp 18) (.seq r15_10 .ret) (.skip))) (.seq r15_11 .ret)) (.seq r15_12 (.cond (.tmp 25) (.seq r15_13 .ret) (.skip))))))))))))) (.seq r15_14 .ret))),[.tmp 2]⟩
theorem c15 : chkFn Tryz.prog Tryz.f15 i15 = true:=by kernel_rfl
def r17_0 : IC:=.region [] [Qk 0 4 (.str [])] [0,1]
def r17_1 : IC:=.region [] [Qk 0 5 (.list 0 .full [])] [0,1,5]
def r17_2 : IC:=.region [] [Qm 0 8 1,Qn 1 9 8,Qk 2 10 (Qz 0)] [0,5,8,9,10]
def r17_3 : IC:=.region [] [Qb 0 11 .lss 10 9] [0,5,8,9,10,11]
def r17_4 : IC:=.region [[(.str []),(Qz 0),(.str []),(.bool false),(.list 0 .full []),(.list 0 .full []),(Qz 0),(Qz 0)]] [Qi 0 12 8 8 10,Qe 1 13 8 12,Qq 2 7 (.alloc 0 [(.str []),(Qz 0),(.str []),(.bool false),(.list 0 .full []),(.list 0 .full []),(Qz 0),(Qz 0)]),Qs 3 8 7 13 []] [0,5,7,8,9,10]
def r17_5 : IC:=.region [] [Qm 0 14 5,Qf 1 15 1 7,Qe 2 16 6 15,Qc 3 17 15 [(.tmp 16)] [],Qq 4 18 (.mkList 1 [(.tmp 17)]),Ql 5 19 (.append 1 16 (.tmp 14) (.tmp 18)) [],Qm 6 5 19] [0,5,8,9,10]
def r17_6 : IC:=.region [] [Qv 0 20 .add 10 (Qz 1),Qm 1 10 20] [0,5,8,9,10]
def r17_7 : IC:=.region [] [Qm 0 21 0,Qv 1 22 .add 21 (.str [40]),Qm 2 23 5,Qc 3 24 54 [(.tmp 23),(.const (.str [44]))] [],Qb 4 25 .add 22 24,Qv 5 26 .add 25 (.str [41]),Qm 6 4 26] [4]
noncomputable def i17 : IFn:=⟨2,(.seq r17_0 (.seq r17_1 (.seq (.seq r17_2 (.block 0 (.loop [0,5,8,9,10] (.seq r17_3 (.seq (.cond (.tmp 11) (.skip) (.exit 0)) (.seq (.block 1 (.seq r17_4 r17_5)) r17_6)))))) (.seq r17_7 .ret)))),[.tmp 4]⟩
theorem c17 : chkFn Tryz.prog Tryz.f17 i17 = true:=by kernel_rfl
def r55_0 : IC:=.region [[(Qz 0),(Qz 0)]] [Ql 0 1 (.box (.tmp 0)) [],Qq 1 2 (.mov (.const .nilp)),Qq 2 3 (.alloc 0 [(Qz 0),(Qz 0)])] [1,3]
def r55_1 : IC:=.region [] [Qf 0 12 0 1,Qd 1 13 12,Ql 2 14 (.mkMap) [],Qq 3 15 (.build [(.list 0 .full []),.nilm,(.list 0 .full []),(.int .u32 0),(.int .i32 0),(.int .u32 0),(.list 0 .full [])] [(0,1,(.tmp 13)),(1,1,(.tmp 14))]),Ql 4 16 (.box (.tmp 15)) [],Qm 5 4 16] [3,4]
def r55_2 : IC:=.region [] [Qm 0 17 4,Qq 1 18 (.mkFunc 100 [(.tmp 17)] []),Qm 2 19 4,Qq 3 20 (.mkFunc 101 [(.tmp 19)] []),Qm 4 21 4,Qq 5 22 (.mkFunc 102 [(.tmp 21)] []),Qm 6 23 4,Qq 7 24 (.mkFunc 103 [(.tmp 23)] []),Qq 8 25 (.mkList 1 [(.tmp 18),(.tmp 20),(.tmp 22),(.tmp 24)]),Qn 9 26 25,Qk 10 27 (Qz 0)] [3,4,25,26,27]
def r55_3 : IC:=.region [] [Qb 0 28 .lss 27 26] [3,4,25,26,27,28]
def r55_4 : IC:=.region [] [Qi 0 29 1 25 27,Qd 1 30 29,Qm 2 6 30] [3,4,6,25,26,27]
def r55_5 : IC:=.region [[(Qz 0),(Qz 0)]] [Qm 0 31 6,Ql 1 32 (.call (.tmp 31) []) [],Qq 2 7 (.alloc 0 [(Qz 0),(Qz 0)]),Qs 3 2 7 32 []] [3,4,7,25,26,27]
def r55_6 : IC:=.region [] [Qf 0 33 0 7,Qd 1 34 33,Qv 2 35 .neq 34 (Qz 0)] [3,4,7,25,26,27,35]
def r55_7 : IC:=.region [] [Qe 0 36 2 7,Qq 1 2 (.mov (.const .nilp)),Qs 2 2 3 36 []] [2,3]
def r55_8 : IC:=.region [] [Qv 0 37 .add 27 (Qz 1),Qm 1 27 37] [3,4,25,26,27]
def r55_9 : IC:=.region [] [Qm 0 38 4,Qc 1 39 104 [(.tmp 38)] []] [3,4]
def r55_10 : IC:=.region [] [Qm 0 40 4,Qq 1 41 (.nilCheck (.tmp 40)),Qf 2 42 0 41,Qd 3 43 42,Qn 4 44 43,Qk 5 45 (Qz 0)] [3,4,44,45]
def r55_11 : IC:=.region [] [Qb 0 46 .lss 45 44] [3,4,44,45,46]
def r55_12 : IC:=.region [] [Qm 0 47 45,Qm 1 8 47] [3,4,8,44,45]
def r55_13 : IC:=.region [[(Qz 0),(Qz 0)]] [Qm 0 48 4,Qm 1 49 8,Qc 2 50 105 [(.tmp 48),(.tmp 49)] [],Qq 3 9 (.alloc 0 [(Qz 0),(Qz 0)]),Qs 4 2 9 50 []] [3,4,9,44,45]
def r55_14 : IC:=.region [] [Qf 0 51 0 9,Qd 1 52 51,Qv 2 53 .neq 52 (Qz 0)] [3,4,9,44,45,53]
def r55_15 : IC:=.region [] [Qe 0 54 2 9,Qq 1 2 (.mov (.const .nilp)),Qs 2 2 3 54 []] [2,3]
def r55_16 : IC:=.region [] [Qv 0 55 .add 45 (Qz 1),Qm 1 45 55] [3,4,44,45]
def r55_17 : IC:=.region [] [Qm 0 56 4,Qq 1 57 (.nilCheck (.tmp 56)),Qf 2 58 0 57,Qd 3 59 58,Qn 4 60 59,Qk 5 61 (Qz 0)] [3,4,60,61]
def r55_18 : IC:=.region [] [Qb 0 62 .lss 61 60] [3,4,60,61,62]
def r55_19 : IC:=.region [] [Qm 0 63 61,Qm 1 10 63] [3,4,10,60,61]
def r55_20 : IC:=.region [[(Qz 0),(Qz 0)]] [Qm 0 64 4,Qm 1 65 10,Qc 2 66 106 [(.tmp 64),(.tmp 65)] [],Qq 3 11 (.alloc 0 [(Qz 0),(Qz 0)]),Qs 4 2 11 66 []] [3,4,11,60,61]
def r55_21 : IC:=.region [] [Qf 0 67 0 11,Qd 1 68 67,Qv 2 69 .neq 68 (Qz 0)] [3,4,11,60,61,69]
def r55_22 : IC:=.region [] [Qe 0 70 2 11,Qq 1 2 (.mov (.const .nilp)),Qs 2 2 3 70 []] [2,3]
def r55_23 : IC:=.region [] [Qv 0 71 .add 61 (Qz 1),Qm 1 61 71] [3,4,60,61]
def r55_24 : IC:=.region [] [Qm 0 72 4,Qq 1 73 (.build [(Qz 0),(Qz 0)] []),Qm 2 2 72,Qs 3 2 3 73 []] [2,3]
noncomputable def i55 : IFn:=⟨1,(.seq r55_0 (.seq r55_1 (.seq (.seq r55_2 (.block 0 (.loop [3,4,25,26,27] (.seq r55_3 (.seq (.cond (.tmp 28) (.skip) (.exit 0)) (.seq (.block 1 (.seq r55_4 (.seq r55_5 (.seq r55_6 (.cond (.tmp 35) (.seq r55_7 .ret) (.skip)))))) r55_8)))))) (.seq r55_9 (.seq (.seq r55_10 (.block 2 (.loop [3,4,44,45] (.seq r55_11 (.seq (.cond (.tmp 46) (.skip) (.exit 2)) (.seq (.block 3 (.seq r55_12 (.seq r55_13 (.seq r55_14 (.cond (.tmp 53) (.seq r55_15 .ret) (.skip)))))) r55_16)))))) (.seq (.seq r55_17 (.block 4 (.loop [3,4,60,61] (.seq r55_18 (.seq (.cond (.tmp 62) (.skip) (.exit 4)) (.seq (.block 5 (.seq r55_19 (.seq r55_20 (.seq r55_21 (.cond (.tmp 69) (.seq r55_22 .ret) (.skip)))))) r55_23)))))) (.seq r55_24 .ret))))))),[.tmp 2,.cell 3 (some 2)]⟩
theorem c55 : chkFn Tryz.prog Tryz.f55 i55 = true:=by kernel_rfl
end Go.Proofs.YtmeakjgbjldkdaaGreat.Ai
namespace Go.Proofs.YtmeakjgbjldkdaaGreat.Ai
open Go
variable {pr : Prims} {F : Nat → Option IFn}
def RdOk (pr : Prims) (F : Nat → Option IFn) (x : Str) (p : Prg) (ok : Bool) : Prop:=
 (ok = true → okPrg p ∧ p.classes.length ≤ 70 ∧ wL wCls p.classes + wSms p.main ≤ 42000000) ∧
 ∀ (H : List Blk) (rw : List Nat),Det pr F 14 [.str x] ⟨H,rw⟩ (.ret (.tup [.agg (prgRow p),.bool ok])) ⟨H,rw⟩
structure LibC (pr : Prims) (F : Nat → Option IFn) : Prop extends LibS pr F where
 f19 : Has pr F 19 i19
 rd : ∀ x,∃ p ok,RdOk pr F x p ok
structure ReadOut where
 p : Prg
 ok : Bool
 rw : List Nat
def ReadOut.good (rw : List Nat) (o : ReadOut) : Prop:=Rx rw o.rw ∧ (o.ok = true → okPrg o.p ∧ o.p.classes.length ≤ 70 ∧ wL wCls o.p.classes + wSms o.p.main ≤ 42000000)
theorem take_own {H M : List Blk} {z b : Blk} : (hp (H ++ [z]) H.length b M).take H.length = H:=by
 unfold hp
 rw [List.take_set]
 simp [List.set_eq_of_length_le]
theorem load_own {kd : Nat} {H M : List Blk} {z : Blk} {vs : List AV} (hv : Row kd vs) : aload (some kd) (.ptr H.length 0) (hp (H ++ [z]) H.length (.cells vs) M) = some (.agg vs):=by
 have e1 : (hp (H ++ [z]) H.length (.cells vs) M)[H.length]? = some (.cells vs):=hp_get (by simp)
 have:=hv.load
 simp only [aload,e1]
 simpa only [aload,List.getElem?_cons_zero] using this
theorem read_end {H H1 M : List Blk} {rw rw' : List Nat} {p : Prg} {z : Blk} {vs : List AV} {c : Bool} (hH : H1 = H ++ [z]) (hv : vs = prgRow p) (hg : ReadOut.good rw ⟨p,c,rw'⟩) :
  fin [.cell 2 (some 2),.tmp 3] H.length (fun r S' => ∃ o : ReadOut,o.good rw ∧ r = .ret (.tup [.agg (prgRow o.p),.bool o.ok]) ∧ S' = ⟨H,o.rw⟩) .ret [(2,.ptr H.length 0),(3,.bool c)] ⟨hp H1 H.length (.cells vs) M,rw'⟩:=by
 subst hH hv
 have e2 : rvals [.cell 2 (some 2),.tmp 3] [(2,.ptr H.length 0),(3,.bool c)] (hp (H ++ [z]) H.length (.cells (prgRow p)) M) = some [.agg (prgRow p),.bool c]:=by
  show (match aload (some 2) (.ptr H.length 0) (hp (H ++ [z]) H.length (.cells (prgRow p)) M) with | some v => _ | none => _) = _
  rw [load_own (row_prg p)]
  first | done | rfl
 refine fin_tup e2 ?_ take_own ⟨⟨p,c,rw'⟩,hg,rfl,rfl⟩
 have this : Ai.belowL H.length (prgRow p) = true:=(row_prg p).below H.length
 simp only [Ai.belowL,this,Ai.below,Bool.and_self]
theorem det_read (L : LibS pr F) (h14 : Has pr F 14 i14) (H : List Blk) (rw : List Nat) (x : Str) : ∃ o : ReadOut,o.good rw ∧ Det pr F 14 [.str x] ⟨H,rw⟩ (.ret (.tup [.agg (prgRow o.p),.bool o.ok])) ⟨H,o.rw⟩:=by
 have hm:=L.hm
 suffices h : Wp pr F 14 [.str x] ⟨H,rw⟩ fun r S' => ∃ o : ReadOut,o.good rw ∧ r = .ret (.tup [.agg (prgRow o.p),.bool o.ok]) ∧ S' = ⟨H,o.rw⟩ by
  obtain ⟨r,S',hd,x,hp,rfl,rfl⟩:=h.det hm
  exact ⟨x,hp,hd⟩
 refine at_start hm h14.1 h14.2 rfl ?_
 refine' hGO
 obtain ⟨H1,hH1⟩ : ∃ H1,H1 = H ++ [Blk.cells [.list 0 .full [],.list 0 .full []]]:=⟨_,rfl⟩
 have hlen : H1.length = H.length + 1:=by rw [hH1]; simp
 have hlt : H.length < H1.length:=by omega
 have hget : hp H1 H.length (.cells [.list 0 .full [],.list 0 .full []]) [] = H ++ [Blk.cells [.list 0 .full [],.list 0 .full []]]:=by subst hH1; simp [hp]
 unfold r14_0
 show At pr F H.length (fin _ H.length _) _ _ _ _
 refine at_region hm (H:=hp H1 H.length (.cells [.list 0 .full [],.list 0 .full []]) []) (by rw [hget]; rfl) rfl ?_
 refine id_alloc ?_
 refine in_alloc (q:=H.length) rfl rfl (hp_get hlt) ?_
 have hR : Rx rw rw:=Rx.rfl
 refine' hG
 ·refine id_store ?_
  refine g_store rfl rfl rfl ?_
  refine s_n hlt (Nat.le_refl _) rfl rfl rfl ?_
  refine zrk ?_
  refine' hG
  exact read_end (p:=⟨[],[]⟩) hH1 (by simp [prgRow,smRows,lst]) ⟨hR,fun h => absurd h (by simp)⟩
 ·obtain ⟨o,⟨hR1,hg1,hg2⟩,hdet⟩:=det_program L (hp H1 H.length (.cells [.list 0 .full [],.list 0 .full []]) [.cells [.list 0 .full [],.list 0 .full []]]) rw x (by omega)
  obtain ⟨p,oc,oa,rw1⟩:=o
  obtain ⟨z,tg,hz,-,-⟩:=isL_lst (sz:=9) (rows:=p.classes.map clsRow)
  simp only [prgRow,hz] at hR1 hg1 hg2 hdet
  have hcan : canonL [.list z tg (p.classes.map clsRow),lst 7 (smRows p.main)] = prgRow p:=by rw [← hz]; exact (row_prg p).can
  have hlm : (p.classes.map clsRow).length = p.classes.length:=List.length_map _
  refine g_call rfl rfl rfl ?_
  refine ⟨_,_,hdet,?_⟩
  replace hR:=hR.trans hR1
  refine zrk ?_
  refine' hG
  all_goals refine id_store ?_
  all_goals refine g_store rfl rfl rfl ?_
  all_goals refine s_n hlt (Nat.le_refl _) rfl rfl rfl ?_
  ·refine zrk ?_
   refine' hG
   exact read_end hH1 hcan ⟨hR,fun _ => ⟨(hg1 (by assumption)).1,by simp only; omega,(hg1 (by assumption)).2.2⟩⟩
  ·refine zrk ?_
   refine' hG
   exact read_end hH1 hcan ⟨hR,fun h => by simp at h⟩
  ·refine zrk ?_
   refine' hG
   exact read_end hH1 hcan ⟨hR,fun h => by simp at h⟩
end Go.Proofs.YtmeakjgbjldkdaaGreat.Ai
namespace Go.Proofs.YtmeakjgbjldkdaaGreat.Ai
open Go
variable {pr : Prims} {F : Nat → Option IFn}
theorem at_first (hm : Mono pr) {zs : List AV} {items : List Item} {kp : List Nat} {k : List Fr} {e : Env} {H : List Blk} {rw : List Nat} {Q : Ex → Env → St → Prop} {d : Option Nat}
  (h : ∀ H1,H1 = H ++ [Blk.cells zs] → H1.length = H.length + 1 → H.length < H1.length → In pr F H.length Q H.length [⟨0,d,none,.q (.alloc 0 zs)⟩] items kp k (eput e d (.ptr H.length 0)) ⟨hp H1 H.length (.cells zs) [],rw⟩) :
  At pr F H.length Q (.region [zs] (⟨0,d,none,.q (.alloc 0 zs)⟩ :: items) kp) k e ⟨H,rw⟩:=by
 have hlen : (H ++ [Blk.cells zs]).length = H.length + 1:=by simp
 have hlt : H.length < (H ++ [Blk.cells zs]).length:=by omega
 have hget : hp (H ++ [Blk.cells zs]) H.length (.cells zs) [] = H ++ [Blk.cells zs]:=by simp [hp]
 refine at_region hm (H:=hp (H ++ [Blk.cells zs]) H.length (.cells zs) []) (by rw [hget]; rfl) rfl ?_
 exact in_alloc (q:=H.length) rfl rfl (hp_get hlt) (h _ rfl hlen hlt)
theorem fin_first {H H1 M : List Blk} {rw : List Nat} {z : Blk} {vs : List AV} {t kd : Nat} {e : Env} {Q : Res → St → Prop} (hH : H1 = H ++ [z]) (he : eget e t = some (.ptr H.length 0)) (hv : Row kd vs) (h : Q (.ret (.agg vs)) ⟨H,rw⟩) :
  fin [.cell t (some kd)] H.length Q .ret e ⟨hp H1 H.length (.cells vs) M,rw⟩:=by
 subst hH
 have e2 : rvals [.cell t (some kd)] e (hp (H ++ [z]) H.length (.cells vs) M) = some [.agg vs]:=by
  simp only [rvals,he,load_own hv]
 exact fin_ret e2 (hv.below _) take_own h
structure LibD (pr : Prims) (F : Nat → Option IFn) : Prop extends LibC pr F where
 f15 : Has pr F 15 i15
 f17 : Has pr F 17 i17
 f20 : Has pr F 20 i20
 f26 : Has pr F 26 i26
 f30 : Has pr F 30 i30
 f56 : Has pr F 56 i56
 f64 : Has pr F 64 ifn64
 f65 : Has pr F 65 i65
 f66 : Has pr F 66 i66
 f100 : Has pr F 100 i100
 f101 : Has pr F 101 i101
 f102 : Has pr F 102 i102
 f103 : Has pr F 103 i103
 f104 : Has pr F 104 i104
 f105 : Has pr F 105 i105
 f106 : Has pr F 106 i106
 f149 : Has pr F 149 i149
 f150 : Has pr F 150 i150
 f151 : Has pr F 151 i151
def fltRow (c a : Int) : List AV:=[.int .i64 c,.int .i64 a]
theorem row_flt (c a : Int) : Row 2 (fltRow c a):=⟨rfl,rfl,rfl⟩
theorem det_fault (L : LibD pr F) (H : List Blk) (rw : List Nat) (c a : Int) : Det pr F 56 [.int .i64 c,.int .i64 a] ⟨H,rw⟩ (.ret (.agg (fltRow c a))) ⟨H,rw⟩:=by
 have hm:=L.hm
 refine Det.of hm (at_start hm L.f56.1 L.f56.2 rfl ?_)
 refine' hGO
 unfold r56_0
 show At pr F H.length (fin _ H.length _) _ _ _ _
 refine at_first hm ?_
 intro H1 hH1 hlen hlt
 refine' hG
 refine id_store ?_
 refine g_store rfl rfl rfl ?_
 refine s_n hlt (Nat.le_refl _) rfl rfl rfl ?_
 refine zrk ?_
 refine' hG
 exact fin_first hH1 rfl (row_flt c a) ⟨rfl,rfl⟩
end Go.Proofs.YtmeakjgbjldkdaaGreat.Ai
namespace Go.Proofs.YtmeakjgbjldkdaaGreat.Ai
open Go
variable {pr : Prims} {F : Nat → Option IFn}
theorem lst_of_lt {sz i : Nat} {rows : List (List AV)} (h : i < rows.length) : lst sz rows = .list sz .dead rows:=by
 cases rows with
 | nil => simp at h
 | cons r rs => rfl
def Froz (H : List Blk) (n k : Nat) (c : Blk) : Prop:=∀ b M,(hp H n b M)[k]? = some c
theorem froz_first {H H1 : List Blk} {z c : Blk} {k : Nat} (hH : H1 = H ++ [z]) (hk : H[k]? = some c) : Froz H1 H.length k c:=by
 intro b M
 obtain ⟨hl,-⟩:=List.getElem?_eq_some_iff.1 hk
 subst hH
 unfold hp
 rw [List.getElem?_set_ne (by omega),List.append_assoc,List.getElem?_append_left hl]
 exact hk
theorem froz_n {H : List Blk} {n k : Nat} {c : Blk} (hne : n ≠ k) (hk : H[k]? = some c) : Froz H n k c:=by
 intro b M
 obtain ⟨hl,-⟩:=List.getElem?_eq_some_iff.1 hk
 unfold hp
 rw [List.getElem?_set_ne hne,List.getElem?_append_left hl]
 exact hk
section
variable {H M : List Blk} {n m : Nat} {b : Blk} {rw : List Nat} {L : AV → Prop}
theorem zlf0 {off : Nat} {cs : List AV} {u : AV} (h : L u) (hF : Froz H n m (.cells cs):=by assumption) (hu : cs[off]? = some u:=by rfl) : LdAt none (.ptr m off) ⟨hp H n b M,rw⟩ L:=l_ptr0 (hF _ _) hu h
theorem zlm0 {j off : Nat} {cs : List AV} {u : AV} (h : L u) (hlt : n < H.length:=by assumption) (hM : M[j]? = some (.cells cs):=by assumption) (hu : cs[off]? = some u:=by rfl) : LdAt none (.ptr (H.length + j) off) ⟨hp H n b M,rw⟩ L:=l_own0 hlt hM hu h
theorem zlfc {kd : Nat} {cs vs : List AV} (h : L (.agg vs)) (hF : Froz H n m (.cells cs):=by assumption) (hc : canonL cs = vs:=by rfl) (hl : cs.length = kd:=by rfl) : LdAt (some kd) (.ptr m 0) ⟨hp H n b M,rw⟩ L:=l_ptrC (hF _ _) hc hl h
end
section
variable {b0 base ix : Nat} {d : Option Nat} {g : Option (Nat × Bool)} {prev items : List Item} {kp : List Nat} {k : List Fr} {e : Env} {Q : Ex → Env → St → Prop} {S : St}
theorem id_len {x : Opd} (h : In pr F b0 Q base prev (⟨ix,d,g,.q (.len x)⟩ :: items) kp k e S) : In pr F b0 Q base prev (⟨ix,d,g,.q (.len x)⟩ :: items) kp k e S:=h
theorem g_lenlst {x : Opd} {sz : Nat} {rows : List (List AV)} (hw : wanted g (eget e) = some true) (hx : x.val (eget e) = some (lst sz rows)) (h : In pr F b0 Q base (⟨ix,d,g,.q (.len x)⟩ :: prev) items kp k (eput e d (.int .i64 (rows.length : Int))) S) : In pr F b0 Q base prev (⟨ix,d,g,.q (.len x)⟩ :: items) kp k e S:=by
 refine in_q hw ?_ h
 obtain ⟨z,tg,hz,-,-⟩:=isL_lst (sz:=sz) (rows:=rows)
 rw [hz] at hx
 simp only [qval,hx]
 rfl
end
end Go.Proofs.YtmeakjgbjldkdaaGreat.Ai
namespace Go.Proofs.YtmeakjgbjldkdaaGreat.Ai
open Go
section
variable {H M : List Blk} {n m : Nat} {b : Blk} {rw : List Nat} {L : AV → Prop} {zero : AV} {s : Str}
theorem k_ok {es : List (Str × AV)} (hF : Froz H n m (.map es)) (h1 : ∀ v,mlook es s = some v → L (.tup [v,.bool true])) (h2 : mlook es s = none → L (.tup [zero,.bool false])) : LkAt zero true (.map m) (.str s) ⟨hp H n b M,rw⟩ L:=by
 refine ⟨?_⟩
 have e:=hF b M
 simp only [e]
 cases hm : mlook es s with
 | some v => exact ⟨_,rfl,h1 v hm⟩
 | none => exact ⟨_,rfl,h2 hm⟩
theorem k_no {es : List (Str × AV)} (hF : Froz H n m (.map es)) (h1 : ∀ v,mlook es s = some v → L v) (h2 : mlook es s = none → L zero) : LkAt zero false (.map m) (.str s) ⟨hp H n b M,rw⟩ L:=by
 refine ⟨?_⟩
 have e:=hF b M
 simp only [e]
 cases hm : mlook es s with
 | some v => exact ⟨_,rfl,h1 v hm⟩
 | none => exact ⟨_,rfl,h2 hm⟩
end
end Go.Proofs.YtmeakjgbjldkdaaGreat.Ai
namespace Go.Proofs.YtmeakjgbjldkdaaGreat.Ai
open Go
variable {pr : Prims} {F : Nat → Option IFn}
structure TabB (H : List Blk) (n : Nat) (cs : List Cls) (z : Nat) (tg : Tag) (mp ab o1 o2 o3 sl : AV) : Prop where
 at_ : H[n]? = some (.cells [.list z tg (cs.map clsRow),mp,ab,o1,o2,o3,sl])
 sz : cs ≠ [] → z = 9
 few : cs.length ≤ 6000
 big : ∀ c ∈ cs,c.ctors.length ≤ 42000000 ∧ c.meths.length ≤ 42000000
def FewC (c : Cls) : Prop:=c.fields.length ≤ 64 ∧ c.invs.length ≤ 64 ∧ c.meths.length ≤ 64 ∧ c.above.length ≤ 64
def Few (cs : List Cls) : Prop:=∀ (i : Nat) (c : Cls),cs[i]? = some c → FewC c
theorem Few.mem {cs : List Cls} (h : Few cs) {c : Cls} (hc : c ∈ cs) : FewC c:=by
 obtain ⟨i,hi⟩:=List.getElem?_of_mem hc
 exact h i c hi
theorem det_few (L : LibD pr F) {H : List Blk} {rw : List Nat} {n z : Nat} {tg : Tag} {cs : List Cls} {mp ab o1 o2 o3 sl : AV} (T : TabB H n cs z tg mp ab o1 o2 o3 sl) : ∃ f : Int × Int,(f.1 = 0 → Few cs) ∧ Det pr F 100 [.ptr n 0] ⟨H,rw⟩ (.ret (.agg (fltRow f.1 f.2))) ⟨H,rw⟩:=by
 have hm:=L.hm
 suffices h : Wp pr F 100 [.ptr n 0] ⟨H,rw⟩ fun r S' => ∃ f : Int × Int,(f.1 = 0 → Few cs) ∧ r = .ret (.agg (fltRow f.1 f.2)) ∧ S' = ⟨H,rw⟩ by
  obtain ⟨r,S',hd,f,hf,rfl,rfl⟩:=h.det hm
  exact ⟨f,hf,hd⟩
 refine at_start hm L.f100.1 L.f100.2 rfl ?_
 refine' hGO
 unfold r100_0
 show At pr F H.length (fin _ H.length _) _ _ _ _
 refine at_first hm ?_
 intro H1 hH1 hlen hlt
 have hF:=froz_first hH1 T.at_
 have hfew:=T.few
 have hlm : (cs.map clsRow).length = cs.length:=List.length_map _
 refine' hG
 refine at_loop hm (fun mm e S' => ∃ (i : Nat) (J : List Blk),S' = ⟨hp H1 H.length (.cells [.int .i64 0,.int .i64 0]) J,rw⟩ ∧ i ≤ cs.length ∧ (∀ (k : Nat) (c : Cls),k < i → cs[k]? = some c → FewC c) ∧ mm = cs.length - i ∧ e = [(2,.ptr H.length 0),(12,.list z tg (cs.map clsRow)),(13,.int .i64 ((cs.map clsRow).length : Int)),(14,.int .i64 i)]) ?_ (m:=cs.length) ⟨0,[],rfl,by omega,fun k c h => by omega,rfl,rfl⟩
 rintro mm e S' ⟨i,J,rfl,hi,hfe,rfl,rfl⟩
 by_cases hlt2 : i < cs.length
 ·obtain ⟨c,hc⟩ : ∃ c,cs[i]? = some c:=⟨_,List.getElem?_eq_getElem hlt2⟩
  have hcr : (cs.map clsRow)[i]? = some (clsRow c):=by rw [List.getElem?_map,hc]; rfl
  have hz : z = 9:=T.sz (by intro h; rw [h] at hlt2; simp at hlt2)
  subst hz
  obtain ⟨hbc,hbm⟩:=T.big c (List.mem_of_getElem? hc)
  have hlx:=exRows_len c.invs
  refine' hG
  iterate 5
   rotate_left 1
  all_goals first
   | (refine g_call rfl rfl rfl ?_
      refine ⟨_,_,det_fault L _ _ _ _,?_⟩
      refine zrk ?_
      refine' hG
      refine id_store ?_
      refine g_store rfl rfl rfl ?_
      refine s_n hlt (Nat.le_refl _) rfl rfl rfl ?_
      refine zrk ?_
      refine' hG
      exact fin_first hH1 rfl (row_flt _ _) ⟨(_,_),fun h => by simp at h,rfl,rfl⟩)
   | skip
  have hfc : FewC c:=⟨by omega,by omega,by omega,by omega⟩
  refine at_loop hm (fun mm e S' => ∃ (q : Nat) (M : List Blk),S' = ⟨hp H1 H.length (.cells [.int .i64 0,.int .i64 0]) M,rw⟩ ∧ M[J.length]? = some (.cells (clsRow c)) ∧ q ≤ c.ctors.length ∧ mm = c.ctors.length - q ∧ e = [(2,.ptr H.length 0),(4,.ptr (H1.length + J.length) 0),(12,.list 9 tg (cs.map clsRow)),(13,.int .i64 ((cs.map clsRow).length : Int)),(14,.int .i64 i),(50,lst 5 (c.ctors.map ctrRow)),(51,.int .i64 ((c.ctors.map ctrRow).length : Int)),(52,.int .i64 q)]) ?_ (m:=c.ctors.length) ⟨0,_,rfl,at_bk0,by omega,rfl,rfl⟩
  rintro mm e S' ⟨q,M,rfl,hM,hq0,rfl,rfl⟩
  by_cases hq1 : q < c.ctors.length
  ·obtain ⟨ct,hct⟩ : ∃ ct,c.ctors[q]? = some ct:=⟨_,List.getElem?_eq_getElem hq1⟩
   have hctr : (c.ctors.map ctrRow)[q]? = some (ctrRow ct):=by rw [List.getElem?_map,hct]; rfl
   have hl5 : lst 5 (c.ctors.map ctrRow) = .list 5 .dead (c.ctors.map ctrRow):=lst_of_lt (i:=q) (by rw [List.length_map]; exact hq1)
   have hlc : (c.ctors.map ctrRow).length = c.ctors.length:=List.length_map _
   rw [hl5]
   refine' hG
   ·skip
    refine g_call rfl rfl rfl ?_
    refine ⟨_,_,det_fault L _ _ _ _,?_⟩
    refine zrk ?_
    refine' hG
    refine id_store ?_
    refine g_store rfl rfl rfl ?_
    refine s_n hlt (Nat.le_refl _) rfl rfl rfl ?_
    refine zrk ?_
    refine' hG
    exact fin_first hH1 rfl (row_flt _ _) ⟨(_,_),fun h => by simp at h,rfl,rfl⟩
   ·refine ⟨c.ctors.length - (q + 1),by omega,q + 1,M ++ [.cells (ctrRow ct)],rfl,?_,by omega,rfl,rfl⟩
    rw [List.getElem?_append_left (List.getElem?_eq_some_iff.1 hM).1]
    exact hM
  ·have hlc : (c.ctors.map ctrRow).length = c.ctors.length:=List.length_map _
   refine' hG
   refine at_loop hm (fun mm e S' => ∃ (q : Nat) (M : List Blk),S' = ⟨hp H1 H.length (.cells [.int .i64 0,.int .i64 0]) M,rw⟩ ∧ q ≤ c.meths.length ∧ mm = c.meths.length - q ∧ e = [(2,.ptr H.length 0),(12,.list 9 tg (cs.map clsRow)),(13,.int .i64 ((cs.map clsRow).length : Int)),(14,.int .i64 i),(65,lst 11 (c.meths.map mthRow)),(66,.int .i64 ((c.meths.map mthRow).length : Int)),(67,.int .i64 q)]) ?_ (m:=c.meths.length) ⟨0,_,rfl,by omega,rfl,rfl⟩
   clear hM
   rintro mm e S' ⟨q,M,rfl,hq0,rfl,rfl⟩
   have hlcm : (c.meths.map mthRow).length = c.meths.length:=List.length_map _
   by_cases hq1 : q < c.meths.length
   ·obtain ⟨ct,hct⟩ : ∃ ct,c.meths[q]? = some ct:=⟨_,List.getElem?_eq_getElem hq1⟩
    have hctr : (c.meths.map mthRow)[q]? = some (mthRow ct):=by rw [List.getElem?_map,hct]; rfl
    obtain ⟨nm1,ps1,⟨k1,t1,u1,e1,p1,a1⟩,bd1,ab1,at1⟩:=ct
    have hl5 : lst 11 (c.meths.map mthRow) = .list 11 .dead (c.meths.map mthRow):=lst_of_lt (i:=q) (by rw [List.length_map]; exact hq1)
    rw [hl5]
    refine' hG
    ·skip
     refine g_call rfl rfl rfl ?_
     refine ⟨_,_,det_fault L _ _ _ _,?_⟩
     refine zrk ?_
     refine' hG
     refine id_store ?_
     refine g_store rfl rfl rfl ?_
     refine s_n hlt (Nat.le_refl _) rfl rfl rfl ?_
     refine zrk ?_
     refine' hG
     exact fin_first hH1 rfl (row_flt _ _) ⟨(_,_),fun h => by simp at h,rfl,rfl⟩
    ·exact ⟨c.meths.length - (q + 1),by omega,q + 1,_,rfl,by omega,rfl,rfl⟩
   ·refine' hG
    refine ⟨cs.length - (i + 1),by omega,i + 1,M,rfl,by omega,?_,rfl,rfl⟩
    intro k d hk hd
    by_cases e2 : k = i
    ·subst e2
     rw [hc] at hd
     simp only [Option.some.injEq] at hd
     subst hd
     exact hfc
    ·exact hfe k d (by omega) hd
 ·refine' hG
  refine id_store ?_
  refine g_store rfl rfl rfl ?_
  refine s_n hlt (Nat.le_refl _) rfl rfl rfl ?_
  refine zrk ?_
  refine' hG
  exact fin_first hH1 rfl (row_flt 0 0) ⟨(0,0),fun _ k d hd => hfe k d (by have:=(List.getElem?_eq_some_iff.1 hd).1; omega) hd,rfl,rfl⟩
end Go.Proofs.YtmeakjgbjldkdaaGreat.Ai
