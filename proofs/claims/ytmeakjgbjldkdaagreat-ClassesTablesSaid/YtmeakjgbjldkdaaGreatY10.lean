/- A part of what is proved: R19, R20, R21, R22, L4, C1. No condition. -/
import Derived.Test.YtmeakjgbjldkdaaGreatY9
import Derived.Test.YtmeakjgbjldkdaaGreatProg
import Derived.KernelRfl
set_option maxRecDepth 100000
set_option maxHeartbeats 16000000
namespace Go.Proofs.YtmeakjgbjldkdaaGreat.Ai
open Go
variable {pr : Prims} {F : Nat → Option IFn}
theorem Lst.pushA {rw0 rw : List Nat} {sz by_ : Nat} {v : AV} {rows : List (List AV)} {row : List AV} {H : List Blk} (h : Lst rw0 sz v rows rw) (hx : Rx rw0 rw) (hb : (rows.length + 1) * by_ ≤ maxRow) (hl : rows.length + 1 ≤ maxRow) (hs : 0 < sz) :
  ∃ v' rw',aappend sz by_ v (.list sz .full [row]) ⟨H,rw⟩ = some (v',⟨H,rw'⟩) ∧ Lst rw0 sz v' (rows ++ [row]) rw' ∧ Rx rw0 rw' ∧ ∀ (sz2 : Nat) (v2 : AV) (rows2 : List (List AV)),Lst rw0 sz2 v2 rows2 rw → Disj v v2 → Lst rw0 sz2 v2 rows2 rw' ∧ Disj v' v2:=by
 obtain ⟨v',rw',h1,h2,h3⟩:=h.push (H:=H) (row:=row) hx hb hl hs
 refine ⟨v',rw',h1,h2,h3,fun sz2 v2 rows2 g hd => ?_⟩
 obtain ⟨v'',rw'',h4,-,-,h5,h6⟩:=h.push2 (H:=H) (row:=row) hx hb hl hs g hd
 rw [h1] at h4
 simp only [Option.some.injEq,Prod.mk.injEq,St.mk.injEq,true_and] at h4
 obtain ⟨rfl,rfl⟩:=h4
 exact ⟨h5,h6⟩
theorem ap_all {K : AV → St → Prop} {rw0 rw : List Nat} {sz by_ : Nat} {v : AV} {rows : List (List AV)} {row : List AV} {H : List Blk} (h : Lst rw0 sz v rows rw) (hx : Rx rw0 rw) (hb : (rows.length + 1) * by_ ≤ maxRow) (hl : rows.length + 1 ≤ maxRow) (hs : 0 < sz)
  (hk : ∀ v' rw',Lst rw0 sz v' (rows ++ [row]) rw' → Rx rw0 rw' → (∀ (sz2 : Nat) (v2 : AV) (rows2 : List (List AV)),Lst rw0 sz2 v2 rows2 rw → Disj v v2 → Lst rw0 sz2 v2 rows2 rw' ∧ Disj v' v2) → K v' ⟨H,rw'⟩) : ApAt sz by_ v (.list sz .full [row]) ⟨H,rw⟩ K:=by
 obtain ⟨v',rw',h1,h2,h3,h4⟩:=h.pushA (H:=H) (row:=row) hx hb hl hs
 exact ⟨_,_,h1,hk v' rw' h2 h3 h4⟩
theorem fin_p0 {H : List Blk} {n : Nat} {b c : Blk} {J : List Blk} {rw : List Nat} {e : Env} {Q : Res → St → Prop} (hn : n < H.length) (h : Q (.ret (.tup [])) ⟨hp H n b (c :: J),rw⟩) : fin [] (H.length + (J.length + 1)) Q .normal e ⟨hp H n b (c :: J),rw⟩:=by
 have:=fin_p (L:=[]) (e:=e) hn h
 rwa [List.append_nil] at this
structure ClsIn (rw0 rw : List Nat) (b : Nat) (c : Cls) (ab f i k m : AV) : Prop where
 rx : Rx rw0 rw
 ha : IsL 1 ab (c.above.map nmRow)
 hf : Lst rw0 9 f (c.fields.map fldRow) rw
 hi : Lst rw0 5 i (exRows c.invs) rw
 hk : Lst rw0 5 k (c.ctors.map ctrRow) rw
 hm : Lst rw0 11 m (c.meths.map mthRow) rw
 d1 : Disj f i
 d2 : Disj f k
 d3 : Disj f m
 d4 : Disj i k
 d5 : Disj i m
 d6 : Disj k m
 n1 : c.fields.length ≤ b
 n2 : c.invs.length ≤ b
 n3 : c.ctors.length ≤ b
 n4 : c.meths.length ≤ b
def clsCells (c : Cls) (ab f i k m : AV) : List AV:=[.str c.name,.bool c.iface,.str c.super,ab,f,i,k,m,.int .i64 c.at_]
theorem ClsIn.ext {rw0 rw rw' : List Nat} {b : Nat} {c : Cls} {ab f i k m : AV} (h : ClsIn rw0 rw b c ab f i k m) (hx : Rx rw rw') : ClsIn rw0 rw' b c ab f i k m:=
 ⟨h.rx.trans hx,h.ha,h.hf.ext hx,h.hi.ext hx,h.hk.ext hx,h.hm.ext hx,h.d1,h.d2,h.d3,h.d4,h.d5,h.d6,h.n1,h.n2,h.n3,h.n4⟩
theorem ClsIn.more {rw0 rw : List Nat} {b : Nat} {c : Cls} {ab f i k m : AV} (h : ClsIn rw0 rw b c ab f i k m) : ClsIn rw0 rw (b + 1) c ab f i k m:=
 ⟨h.rx,h.ha,h.hf,h.hi,h.hk,h.hm,h.d1,h.d2,h.d3,h.d4,h.d5,h.d6,by have:=h.n1; omega,by have:=h.n2; omega,by have:=h.n3; omega,by have:=h.n4; omega⟩
structure MemP (s : Src) (r r' : Rd) (c c' : Cls) : Prop where
 deep : r'.deep = r.deep
 name : c'.name = c.name
 iface : c'.iface = c.iface
 wt : r'.code = 0 → r.i < r'.i ∧ (wCls c' : Int) ≤ wCls c + 7000 * (r'.i - r.i)
 ok : r'.code = 0 → okCls c → okCls c'
def memPre (rw0 : List Nat) (b : Nat) (c : Cls) (rw : List Nat) (C : List AV) : Prop:=∃ ab f i k m,C = clsCells c ab f i k m ∧ ClsIn rw0 rw b c ab f i k m
def memPost (rw0 : List Nat) (b : Nat) (c : Cls) (s : Src) (r : Rd) (_ : List Nat) (_ : List AV) (r' : Rd) (rw' : List Nat) (C' : List AV) : Prop:=∃ c',MemP s r r' c c' ∧ memPre rw0 (b + 1) c' rw' C'
theorem rp_member (L : LibS pr F) (rw0 : List Nat) (b : Nat) (hb : b ≤ 7000) (c : Cls) : RP pr F (memPre rw0 b c) (memPost rw0 b c) 138 2000:=by
 have hm:=L.hm
 have cis0:=fun x => rq_is L.toLibR 0 (by omega) x
 have cis1:=fun x => rq_is L.toLibR 1 (by omega) x
 have cis2:=fun x => rq_is L.toLibR 2 (by omega) x
 have cpl:=rq_place L.toLibR
 have ctk:=fun x => rc_take L.toLibR x 2000
 have cen:=rc_enter L.toLibR 2000
 have cnd:=fun x => rc_need L.toLibR x 2000
 have cfl:=rc_fail L.toLibR 110 (by omega) 2000
 have cnm:=rc_name L.toLibR 2000
 have hex:=rc_expr L.toLibX
 have hexs:=rc_exprs L.toLibX
 have hty:=rc_typ L.toLibX
 have hbl:=rc_block L
 have hps:=rc_params L
 have hhd:=rc_head L
 refine rp_start hm L.f138.1 L.f138.2 rfl ?_
 intro H rw n s r C J hlt hsm hok _ _ _ _ _ hpre
 obtain ⟨ab,f,i,k,mm,rfl,hin⟩:=hpre
 unfold clsCells
 have hR : Rx rw rw:=Rx.rfl
 obtain ⟨szi,tagi,rfl,-,-⟩:=hin.hi.tag
 refine' hG
 ·rename Int => pl
  refine g_call rfl rfl rfl ?_; refine c_rc (cnm) hlt (by assumption) (by omega) (by omega) ?_; intro nm r1 rw_r1 hR' hok_r1 _ _ _ _ _ hP_nm; replace hR:=hR.trans hR'; (try replace hRL:=hRL.trans hR'); obtain ⟨_,_,hP_nm⟩:=hP_nm; refine zrk ?_
  refine' hG
  refine g_call rfl rfl rfl ?_; refine c_rc (hty) hlt (by assumption) (by omega) (by omega) ?_; intro t r2 rw_r2 hR' hok_r2 _ _ _ _ _ hP_t; replace hR:=hR.trans hR'; (try replace hRL:=hRL.trans hR'); obtain ⟨_,_,hP_t⟩:=hP_t; refine zrk ?_
  refine' hG
  refine id_load ?_
  refine g_load rfl rfl ?_
  refine l_ownR (vs:=fldRow ⟨nm,t,true,pl⟩) hlt at_bk1 (row_fld _) ?_
  refine' hG
  refine id_append ?_
  refine g_append rfl rfl rfl ?_
  refine ap_all (row:=fldRow ⟨nm,t,true,pl⟩) (hin.hf.ext hR) (hin.rx.trans hR) (by simp only [List.length_map,maxRow]; have:=hin.n1; omega) (by simp only [List.length_map,maxRow]; have:=hin.n1; omega) (by omega) ?_
  intro v' rw4 hv hR4 hoth
  obtain ⟨szv,tagv,rfl,-,-⟩:=hv.tag
  refine zrk ?_
  refine' hG
  refine fin_p hlt ?_
  obtain ⟨g2,e2⟩:=hoth _ _ _ (hin.hi.ext hR) hin.d1
  obtain ⟨g3,e3⟩:=hoth _ _ _ (hin.hk.ext hR) hin.d2
  obtain ⟨g4,e4⟩:=hoth _ _ _ (hin.hm.ext hR) hin.d3
  refine pend (Rok.nx (by assumption) (by omega) (by omega)) ⟨{c with fields:=c.fields ++ [⟨nm,t,true,pl⟩]},⟨by omega,rfl,rfl,?_,?_⟩,_,_,_,_,_,rfl,⟨hR4,hin.ha,by rw [List.map_append]; exact hv,g2,g3,g4,e2,e3,e4,hin.d4,hin.d5,hin.d6,by have:=hin.n1; simp; omega,by have:=hin.n2; simp only; omega,by have:=hin.n3; simp only; omega,by have:=hin.n4; simp only; omega⟩⟩
  ·intro h0
   simp only [wCls,wL_append,wL,wFld]
   omega
  ·intro h0 ho
   obtain ⟨o1,o2,o3,o4,o5,o6,o7⟩:=ho
   refine ⟨o1,o2,o3,?_,o5,o6,o7⟩
   intro x hx
   rcases List.mem_append.1 hx with hh | hh
   ·exact o4 x hh
   ·rw [List.mem_singleton] at hh
    subst hh
    exact ⟨hP_nm (by omega),hP_t (by omega)⟩
 ·rename Int => pl
  refine g_call rfl rfl rfl ?_; refine c_rc (cnm) hlt (by assumption) (by omega) (by omega) ?_; intro nm r1 rw_r1 hR' hok_r1 _ _ _ _ _ hP_nm; replace hR:=hR.trans hR'; (try replace hRL:=hRL.trans hR'); obtain ⟨_,_,hP_nm⟩:=hP_nm; refine zrk ?_
  refine' hG
  refine g_call rfl rfl rfl ?_; refine c_rc (hty) hlt (by assumption) (by omega) (by omega) ?_; intro t r2 rw_r2 hR' hok_r2 _ _ _ _ _ hP_t; replace hR:=hR.trans hR'; (try replace hRL:=hRL.trans hR'); obtain ⟨_,_,hP_t⟩:=hP_t; refine zrk ?_
  refine' hG
  refine id_load ?_
  refine g_load rfl rfl ?_
  refine l_ownR (vs:=fldRow ⟨nm,t,false,pl⟩) hlt at_bk1 (row_fld _) ?_
  refine' hG
  refine id_append ?_
  refine g_append rfl rfl rfl ?_
  refine ap_all (row:=fldRow ⟨nm,t,false,pl⟩) (hin.hf.ext hR) (hin.rx.trans hR) (by simp only [List.length_map,maxRow]; have:=hin.n1; omega) (by simp only [List.length_map,maxRow]; have:=hin.n1; omega) (by omega) ?_
  intro v' rw4 hv hR4 hoth
  obtain ⟨szv,tagv,rfl,-,-⟩:=hv.tag
  refine zrk ?_
  refine' hG
  refine fin_p hlt ?_
  obtain ⟨g2,e2⟩:=hoth _ _ _ (hin.hi.ext hR) hin.d1
  obtain ⟨g3,e3⟩:=hoth _ _ _ (hin.hk.ext hR) hin.d2
  obtain ⟨g4,e4⟩:=hoth _ _ _ (hin.hm.ext hR) hin.d3
  refine pend (Rok.nx (by assumption) (by omega) (by omega)) ⟨{c with fields:=c.fields ++ [⟨nm,t,false,pl⟩]},⟨by omega,rfl,rfl,?_,?_⟩,_,_,_,_,_,rfl,⟨hR4,hin.ha,by rw [List.map_append]; exact hv,g2,g3,g4,e2,e3,e4,hin.d4,hin.d5,hin.d6,by have:=hin.n1; simp; omega,by have:=hin.n2; simp only; omega,by have:=hin.n3; simp only; omega,by have:=hin.n4; simp only; omega⟩⟩
  ·intro h0
   simp only [wCls,wL_append,wL,wFld]
   omega
  ·intro h0 ho
   obtain ⟨o1,o2,o3,o4,o5,o6,o7⟩:=ho
   refine ⟨o1,o2,o3,?_,o5,o6,o7⟩
   intro x hx
   rcases List.mem_append.1 hx with hh | hh
   ·exact o4 x hh
   ·rw [List.mem_singleton] at hh
    subst hh
    exact ⟨hP_nm (by omega),hP_t (by omega)⟩
 ·rename Int => pl
  refine g_call rfl rfl rfl ?_; refine c_rc (cnm) hlt (by assumption) (by omega) (by omega) ?_; intro nm r1 rw_r1 hR' hok_r1 _ _ _ _ _ hP_nm; replace hR:=hR.trans hR'; (try replace hRL:=hRL.trans hR'); obtain ⟨_,_,hP_nm⟩:=hP_nm; refine zrk ?_
  refine' hG
  refine g_call rfl rfl rfl ?_; refine c_rc (hty) hlt (by assumption) (by omega) (by omega) ?_; intro t r2 rw_r2 hR' hok_r2 _ _ _ _ _ hP_t; replace hR:=hR.trans hR'; (try replace hRL:=hRL.trans hR'); obtain ⟨_,_,hP_t⟩:=hP_t; refine zrk ?_
  refine' hG
  refine id_load ?_
  refine g_load rfl rfl ?_
  refine l_ownR (vs:=fldRow ⟨nm,t,true,pl⟩) hlt at_bk1 (row_fld _) ?_
  refine' hG
  refine id_append ?_
  refine g_append rfl rfl rfl ?_
  refine ap_all (row:=fldRow ⟨nm,t,true,pl⟩) (hin.hf.ext hR) (hin.rx.trans hR) (by simp only [List.length_map,maxRow]; have:=hin.n1; omega) (by simp only [List.length_map,maxRow]; have:=hin.n1; omega) (by omega) ?_
  intro v' rw4 hv hR4 hoth
  obtain ⟨szv,tagv,rfl,-,-⟩:=hv.tag
  refine zrk ?_
  refine' hG
  refine fin_p hlt ?_
  obtain ⟨g2,e2⟩:=hoth _ _ _ (hin.hi.ext hR) hin.d1
  obtain ⟨g3,e3⟩:=hoth _ _ _ (hin.hk.ext hR) hin.d2
  obtain ⟨g4,e4⟩:=hoth _ _ _ (hin.hm.ext hR) hin.d3
  refine pend (Rok.nx (by assumption) (by omega) (by omega)) ⟨{c with fields:=c.fields ++ [⟨nm,t,true,pl⟩]},⟨by omega,rfl,rfl,?_,?_⟩,_,_,_,_,_,rfl,⟨hR4,hin.ha,by rw [List.map_append]; exact hv,g2,g3,g4,e2,e3,e4,hin.d4,hin.d5,hin.d6,by have:=hin.n1; simp; omega,by have:=hin.n2; simp only; omega,by have:=hin.n3; simp only; omega,by have:=hin.n4; simp only; omega⟩⟩
  ·intro h0
   simp only [wCls,wL_append,wL,wFld]
   omega
  ·intro h0 ho
   obtain ⟨o1,o2,o3,o4,o5,o6,o7⟩:=ho
   refine ⟨o1,o2,o3,?_,o5,o6,o7⟩
   intro x hx
   rcases List.mem_append.1 hx with hh | hh
   ·exact o4 x hh
   ·rw [List.mem_singleton] at hh
    subst hh
    exact ⟨hP_nm (by omega),hP_t (by omega)⟩
 ·rename Int => pl
  refine g_call rfl rfl rfl ?_; refine c_rc (cnm) hlt (by assumption) (by omega) (by omega) ?_; intro nm r1 rw_r1 hR' hok_r1 _ _ _ _ _ hP_nm; replace hR:=hR.trans hR'; (try replace hRL:=hRL.trans hR'); obtain ⟨_,_,hP_nm⟩:=hP_nm; refine zrk ?_
  refine' hG
  refine g_call rfl rfl rfl ?_; refine c_rc (hty) hlt (by assumption) (by omega) (by omega) ?_; intro t r2 rw_r2 hR' hok_r2 _ _ _ _ _ hP_t; replace hR:=hR.trans hR'; (try replace hRL:=hRL.trans hR'); obtain ⟨_,_,hP_t⟩:=hP_t; refine zrk ?_
  refine' hG
  refine id_load ?_
  refine g_load rfl rfl ?_
  refine l_ownR (vs:=fldRow ⟨nm,t,false,pl⟩) hlt at_bk1 (row_fld _) ?_
  refine' hG
  refine id_append ?_
  refine g_append rfl rfl rfl ?_
  refine ap_all (row:=fldRow ⟨nm,t,false,pl⟩) (hin.hf.ext hR) (hin.rx.trans hR) (by simp only [List.length_map,maxRow]; have:=hin.n1; omega) (by simp only [List.length_map,maxRow]; have:=hin.n1; omega) (by omega) ?_
  intro v' rw4 hv hR4 hoth
  obtain ⟨szv,tagv,rfl,-,-⟩:=hv.tag
  refine zrk ?_
  refine' hG
  refine fin_p hlt ?_
  obtain ⟨g2,e2⟩:=hoth _ _ _ (hin.hi.ext hR) hin.d1
  obtain ⟨g3,e3⟩:=hoth _ _ _ (hin.hk.ext hR) hin.d2
  obtain ⟨g4,e4⟩:=hoth _ _ _ (hin.hm.ext hR) hin.d3
  refine pend (Rok.nx (by assumption) (by omega) (by omega)) ⟨{c with fields:=c.fields ++ [⟨nm,t,false,pl⟩]},⟨by omega,rfl,rfl,?_,?_⟩,_,_,_,_,_,rfl,⟨hR4,hin.ha,by rw [List.map_append]; exact hv,g2,g3,g4,e2,e3,e4,hin.d4,hin.d5,hin.d6,by have:=hin.n1; simp; omega,by have:=hin.n2; simp only; omega,by have:=hin.n3; simp only; omega,by have:=hin.n4; simp only; omega⟩⟩
  ·intro h0
   simp only [wCls,wL_append,wL,wFld]
   omega
  ·intro h0 ho
   obtain ⟨o1,o2,o3,o4,o5,o6,o7⟩:=ho
   refine ⟨o1,o2,o3,?_,o5,o6,o7⟩
   intro x hx
   rcases List.mem_append.1 hx with hh | hh
   ·exact o4 x hh
   ·rw [List.mem_singleton] at hh
    subst hh
    exact ⟨hP_nm (by omega),hP_t (by omega)⟩
 ·refine g_call rfl rfl rfl ?_; refine c_rc (hex) hlt (by assumption) (by omega) (by omega) ?_; intro x1 r1 rw_r1 hR' hok_r1 _ _ _ _ _ hP_x1; replace hR:=hR.trans hR'; (try replace hRL:=hRL.trans hR'); obtain ⟨_,_,hP_x1⟩:=hP_x1; refine zrk ?_
  have e2 : (exRows c.invs).length = c.invs.length:=exRows_len _
  refine id_append1 ?_
  refine g_append1 rfl rfl rfl rfl rfl ⟨rfl,rfl,(row_ex x1).len,by simp only [closed1]; exact (row_ex x1).clo,rfl,rfl⟩ (row_ex x1).can ?_
  refine ap_all (hin.hi.ext hR) (hin.rx.trans hR) (by rw [e2]; simp only [maxRow]; have:=hin.n2; omega) (by rw [e2]; simp only [maxRow]; have:=hin.n2; omega) (by omega) ?_
  intro v' rw4 hv hR4 hoth
  obtain ⟨szv,tagv,rfl,-,-⟩:=hv.tag
  obtain ⟨g2,e2⟩:=hoth _ _ _ (hin.hf.ext hR) hin.d1.symm
  obtain ⟨g3,e3⟩:=hoth _ _ _ (hin.hk.ext hR) hin.d4
  obtain ⟨g4,e4⟩:=hoth _ _ _ (hin.hm.ext hR) hin.d5
  clear hR
  have hR:=Rx.rfl (rw:=rw4)
  refine zrk ?_
  refine' hG
  refine fin_p0 hlt ?_
  refine pend (Rok.nx (by assumption) (by omega) (by omega)) ⟨{c with invs:=c.invs ++ [x1]},⟨by omega,rfl,rfl,?_,?_⟩,_,_,_,_,_,rfl,ClsIn.ext ⟨hR4,hin.ha,g2,by rw [exRows_append]; exact hv,g3,g4,e2.symm,hin.d2,hin.d3,e3,e4,hin.d6,by have:=hin.n1; simp only; omega,by have:=hin.n2; simp; omega,by have:=hin.n3; simp only; omega,by have:=hin.n4; simp only; omega⟩ hR⟩
  ·intro h0
   simp only [wCls,wExs_append,wExs]
   omega
  ·intro h0 ho
   obtain ⟨o1,o2,o3,o4,o5,o6,o7⟩:=ho
   refine ⟨o1,o2,o3,o4,?_,o6,o7⟩
   rw [okExs_append]
   exact ⟨o5,okExs_1 (hP_x1 (by omega))⟩
 ·rename Int => pl
  refine g_call rfl rfl rfl ?_; refine c_rc (hps) hlt (by assumption) (by omega) (by omega) ?_; intro ps r1 rw_r1 hR' hok_r1 _ _ _ _ _ hP_ps; replace hR:=hR.trans hR'; (try replace hRL:=hRL.trans hR'); obtain ⟨_,_,hP_ps⟩:=hP_ps; refine zrk ?_
  refine' hG
  ·refine g_call rfl rfl rfl ?_; refine c_rc (hexs) hlt (by assumption) (by omega) (by omega) ?_; intro sp r2 rw_r2 hR' hok_r2 _ _ _ _ _ hP_sp; replace hR:=hR.trans hR'; (try replace hRL:=hRL.trans hR'); obtain ⟨_,_,hP_sp⟩:=hP_sp; refine zrk ?_
   refine' hG
   refine g_call rfl rfl rfl ?_; refine c_rc (hbl) hlt (by assumption) (by omega) (by omega) ?_; intro bl r4 rw_r4 hR' hok_r4 _ _ _ _ _ hP_bl; replace hR:=hR.trans hR'; (try replace hRL:=hRL.trans hR'); obtain ⟨_,_,hP_bl⟩:=hP_bl; refine zrk ?_
   refine' hG
   refine id_list ?_
   refine g_list rfl rfl ?_
   have hcc : canonL [ps.v,.bool true,sp.v,bl.v,.int .i64 pl] = ctrRow ⟨ps.xs,true,sp.xs,bl.xs,pl⟩:=by (simp only [canonL,ctrRow,LT.canon,List.map_cons,List.map_nil,canon_int,canon_bool]; try rfl)
   refine ls_1 (by rw [hcc]; exact row_ctr _) ?_
   refine id_append ?_
   refine g_append rfl rfl rfl ?_
   refine ap_all (hin.hk.ext hR) (hin.rx.trans hR) (by simp only [List.length_map,maxRow]; have:=hin.n3; omega) (by simp only [List.length_map,maxRow]; have:=hin.n3; omega) (by omega) ?_
   intro v' rw4 hv hR4 hoth
   rw [hcc] at hv
   obtain ⟨szv,tagv,rfl,-,-⟩:=hv.tag
   obtain ⟨g2,e2⟩:=hoth _ _ _ (hin.hf.ext hR) hin.d2.symm
   obtain ⟨g3,e3⟩:=hoth _ _ _ (hin.hi.ext hR) hin.d4.symm
   obtain ⟨g4,e4⟩:=hoth _ _ _ (hin.hm.ext hR) hin.d6
   refine zrk ?_
   refine' hG
   refine fin_p hlt ?_
   refine pend (Rok.nx (by assumption) (by omega) (by omega)) ⟨{c with ctors:=c.ctors ++ [⟨ps.xs,true,sp.xs,bl.xs,pl⟩]},⟨by omega,rfl,rfl,?_,?_⟩,_,_,_,_,_,rfl,⟨hR4,hin.ha,g2,g3,by rw [List.map_append]; exact hv,g4,hin.d1,e2.symm,hin.d3,e3.symm,hin.d5,e4,by have:=hin.n1; simp only; omega,by have:=hin.n2; simp only; omega,by have:=hin.n3; simp; omega,by have:=hin.n4; simp only; omega⟩⟩
   ·intro h0
    simp only [wCls,wL_append,wL,wCtr]
    omega
   ·intro h0 ho
    obtain ⟨o1,o2,o3,o4,o5,o6,o7⟩:=ho
    refine ⟨o1,o2,o3,o4,o5,?_,o7⟩
    intro x hx
    rcases List.mem_append.1 hx with hh | hh
    ·exact o6 x hh
    ·rw [List.mem_singleton] at hh
     subst hh
     exact ⟨hP_ps (by omega),hP_sp (by omega),hP_bl (by omega)⟩
  ·refine g_call rfl rfl rfl ?_; refine c_rc (hbl) hlt (by assumption) (by omega) (by omega) ?_; intro bl r4 rw_r4 hR' hok_r4 _ _ _ _ _ hP_bl; replace hR:=hR.trans hR'; (try replace hRL:=hRL.trans hR'); obtain ⟨_,_,hP_bl⟩:=hP_bl; refine zrk ?_
   refine' hG
   refine id_list ?_
   refine g_list rfl rfl ?_
   have hcc : canonL [ps.v,.bool false,.list 0 .full [],bl.v,.int .i64 pl] = ctrRow ⟨ps.xs,false,[],bl.xs,pl⟩:=by (simp only [canonL,ctrRow,exRows,lst_nil,LT.canon,List.map_cons,List.map_nil,canon_int,canon_bool,canon_nil]; try rfl)
   refine ls_1 (by rw [hcc]; exact row_ctr _) ?_
   refine id_append ?_
   refine g_append rfl rfl rfl ?_
   refine ap_all (hin.hk.ext hR) (hin.rx.trans hR) (by simp only [List.length_map,maxRow]; have:=hin.n3; omega) (by simp only [List.length_map,maxRow]; have:=hin.n3; omega) (by omega) ?_
   intro v' rw4 hv hR4 hoth
   rw [hcc] at hv
   obtain ⟨szv,tagv,rfl,-,-⟩:=hv.tag
   obtain ⟨g2,e2⟩:=hoth _ _ _ (hin.hf.ext hR) hin.d2.symm
   obtain ⟨g3,e3⟩:=hoth _ _ _ (hin.hi.ext hR) hin.d4.symm
   obtain ⟨g4,e4⟩:=hoth _ _ _ (hin.hm.ext hR) hin.d6
   refine zrk ?_
   refine' hG
   refine fin_p hlt ?_
   refine pend (Rok.nx (by assumption) (by omega) (by omega)) ⟨{c with ctors:=c.ctors ++ [⟨ps.xs,false,[],bl.xs,pl⟩]},⟨by omega,rfl,rfl,?_,?_⟩,_,_,_,_,_,rfl,⟨hR4,hin.ha,g2,g3,by rw [List.map_append]; exact hv,g4,hin.d1,e2.symm,hin.d3,e3.symm,hin.d5,e4,by have:=hin.n1; simp only; omega,by have:=hin.n2; simp only; omega,by have:=hin.n3; simp; omega,by have:=hin.n4; simp only; omega⟩⟩
   ·intro h0
    simp only [wCls,wL_append,wL,wCtr,wExs]
    omega
   ·intro h0 ho
    obtain ⟨o1,o2,o3,o4,o5,o6,o7⟩:=ho
    refine ⟨o1,o2,o3,o4,o5,?_,o7⟩
    intro x hx
    rcases List.mem_append.1 hx with hh | hh
    ·exact o6 x hh
    ·rw [List.mem_singleton] at hh
     subst hh
     exact ⟨hP_ps (by omega),okExs_nil,hP_bl (by omega)⟩
 ·refine g_call rfl rfl rfl ?_; refine c_rc (hhd) hlt (by assumption) (by omega) (by omega) ?_; intro m1 r1 rw_r1 hR' hok_r1 _ _ _ _ _ hP_m1; replace hR:=hR.trans hR'; (try replace hRL:=hRL.trans hR'); obtain ⟨_,_,hP_m1⟩:=hP_m1; refine zrk ?_
  obtain ⟨nm,ps,⟨kd,tn,nu,el,pd,ta⟩,bd,ab_,at_⟩:=m1
  simp only [mthRow,tyRow,List.cons_append,List.nil_append]
  obtain ⟨hb1,hb2,hok1⟩:=hP_m1
  simp only at hb1 hb2
  subst hb1 hb2
  refine' hG
  refine g_call rfl rfl rfl ?_; refine c_rc (hbl) hlt (by assumption) (by omega) (by omega) ?_; intro bl r4 rw_r4 hR' hok_r4 _ _ _ _ _ hP_bl; replace hR:=hR.trans hR'; (try replace hRL:=hRL.trans hR'); obtain ⟨_,_,hP_bl⟩:=hP_bl; refine zrk ?_
  refine' hG
  refine id_list ?_
  refine g_list rfl rfl ?_
  have hcc : canonL [AV.str nm,lst 8 (List.map parRow ps),AV.int IntKind.i64 kd,AV.str tn,AV.bool nu,lst 6 (tyRows el),lst 5 (exRows pd),AV.int IntKind.i64 ta,bl.v,AV.bool false,AV.int IntKind.i64 at_] = mthRow ⟨nm,ps,.mk kd tn nu el pd ta,bl.xs,false,at_⟩:=by (simp only [canonL,tyRow,mthRow,LT.canon,List.map_cons,List.map_nil,List.nil_append,List.cons_append,canon_lst,canon_str,canon_int,canon_bool]; try rfl)
  refine ls_1 (by rw [hcc]; exact row_mth _) ?_
  refine id_append ?_
  refine g_append rfl rfl rfl ?_
  refine ap_all (hin.hm.ext hR) (hin.rx.trans hR) (by simp only [List.length_map,maxRow]; have:=hin.n4; omega) (by simp only [List.length_map,maxRow]; have:=hin.n4; omega) (by omega) ?_
  intro v' rw4 hv hR4 hoth
  rw [hcc] at hv
  obtain ⟨szv,tagv,rfl,-,-⟩:=hv.tag
  obtain ⟨g2,e2⟩:=hoth _ _ _ (hin.hf.ext hR) hin.d3.symm
  obtain ⟨g3,e3⟩:=hoth _ _ _ (hin.hi.ext hR) hin.d5.symm
  obtain ⟨g4,e4⟩:=hoth _ _ _ (hin.hk.ext hR) hin.d6.symm
  refine zrk ?_
  refine' hG
  refine fin_p hlt ?_
  refine pend (Rok.nx (by assumption) (by omega) (by omega)) ⟨{c with meths:=c.meths ++ [⟨nm,ps,.mk kd tn nu el pd ta,bl.xs,false,at_⟩]},⟨by omega,rfl,rfl,?_,?_⟩,_,_,_,_,_,rfl,⟨hR4,hin.ha,g2,g3,g4,by rw [List.map_append]; exact hv,hin.d1,hin.d2,e2.symm,hin.d4,e3.symm,e4.symm,by have:=hin.n1; simp only; omega,by have:=hin.n2; simp only; omega,by have:=hin.n3; simp only; omega,by have:=hin.n4; simp; omega⟩⟩
  ·intro h0
   simp only [wMth,wSms] at *
   simp only [wCls,wL_append,wL,wMth]
   omega
  ·intro h0 ho
   obtain ⟨o1,o2,o3,o4,o5,o6,o7⟩:=ho
   refine ⟨o1,o2,o3,o4,o5,o6,?_⟩
   intro x hx
   rcases List.mem_append.1 hx with hh | hh
   ·exact o7 x hh
   ·rw [List.mem_singleton] at hh
    subst hh
    obtain ⟨q1,q2,q3,-⟩:=hok1 (by omega)
    exact ⟨q1,q2,q3,hP_bl (by omega)⟩
 ·refine fin_p0 hlt ?_
  exact pend (Rok.nx (by assumption) (by omega) (by omega)) ⟨c,⟨by omega,rfl,rfl,fun h => absurd h (by omega),fun h => absurd h (by omega)⟩,_,_,_,_,_,rfl,(hin.ext hR).more⟩
end Go.Proofs.YtmeakjgbjldkdaaGreat.Ai
namespace Go.Proofs.YtmeakjgbjldkdaaGreat.Ai
open Go
variable {pr : Prims} {F : Nat → Option IFn}
def clsP (_ : Src) (r : Rd) (c : Cls) (r' : Rd) : Prop:=r'.deep = r.deep ∧ (r'.code = 0 → r.i < r'.i ∧ (wCls c : Int) ≤ 7000 * (r'.i - r.i)) ∧ (r'.code = 0 → okCls c)
theorem ClsIn.can {rw0 rw : List Nat} {b : Nat} {c : Cls} {ab f i k m : AV} (h : ClsIn rw0 rw b c ab f i k m) : canonL [.str c.name,.bool c.iface,.str c.super,ab,f,i,k,m,.int .i64 c.at_] = clsRow c:=by
 have e1:=h.ha.canon
 have e2:=h.hf.isL.canon
 have e3:=h.hi.isL.canon
 have e4:=h.hk.isL.canon
 have e5:=h.hm.isL.canon
 simp only [canonL,List.map_cons,List.map_nil,e1,e2,e3,e4,e5,clsRow]
 rfl
theorem disj0 {v : AV} : Disj (.list 0 .full []) v:=fun a h => by simp [rowOf] at h
theorem memPre.of {rw0 rw : List Nat} {b : Nat} {c : Cls} {ab f i k m : AV} (h : ClsIn rw0 rw b c ab f i k m) : memPre rw0 b c rw [.str c.name,.bool c.iface,.str c.super,ab,f,i,k,m,.int .i64 c.at_]:=⟨ab,f,i,k,m,rfl,h⟩
theorem cls_loop (L : LibS pr F) {H : List Blk} {rw rwc : List Nat} {n : Nat} {s : Src} {r rc : Rd} {c : Cls} {ab f i k m : AV} (hlt : n < H.length) (hsm : s.toks.length ≤ 6000) (hd : rc.deep = r.deep) (hd1 : 101 ≤ r.deep + 2000) (hd2 : r.deep ≤ 200) (_hri : 0 ≤ r.i) (_hrl : r.i ≤ s.toks.length) (hok : Rok s rc) (hi : r.i ≤ rc.i) (hcd : rc.code = 0 → r.code = 0) (hR : Rx rw rwc) (hin : ClsIn rw rwc 0 c ab f i k m) (hw : rc.code = 0 → r.i < rc.i ∧ (wCls c : Int) ≤ 7000 * (rc.i - r.i)) (ho : rc.code = 0 → okCls c) :
  At pr F H.length (fin [.cell 2 (some 9)] H.length (REnd (fun x : Cls => AV.agg (clsRow x)) clsP H n s r rw)) (.loop [0,2,3] ((r91_9.seq (.cond (.tmp 33) .skip (.exit 0))).seq (.block 1 r91_10))) [.blk 0,.code (r91_11.seq .ret)]
   [(0,.ptr n 0),(2,.ptr (H.length + 0) 0),(3,.ptr (H.length + 1) 0)]
   ⟨hp H n (blk s rc) [.cells [.str [],.bool false,.str [],.list 0 .full [],.list 0 .full [],.list 0 .full [],.list 0 .full [],.list 0 .full [],.int .i64 0],.cells [.str c.name,.bool c.iface,.str c.super,ab,f,i,k,m,.int .i64 c.at_]],rwc⟩:=by
 have hm:=L.hm
 have cis0:=fun x => rq_is L.toLibR 0 (by omega) x
 have cis1:=fun x => rq_is L.toLibR 1 (by omega) x
 have cis2:=fun x => rq_is L.toLibR 2 (by omega) x
 have cpl:=rq_place L.toLibR
 have ctk:=fun x => rc_take L.toLibR x 2000
 have cen:=rc_enter L.toLibR 2000
 have cnd:=fun x => rc_need L.toLibR x 2000
 have cfl:=rc_fail L.toLibR 110 (by omega) 2000
 have cnm:=rc_name L.toLibR 2000
 have hlo:=hok.lo
 have hhi:=hok.hi
 refine at_loop hm (fun mm e S' => ∃ (r' : Rd) (rw' : List Nat) (c' : Cls) (ab' f' i' k' m' : AV) (b : Nat),S' = ⟨hp H n (blk s r') [.cells [.str [],.bool false,.str [],.list 0 .full [],.list 0 .full [],.list 0 .full [],.list 0 .full [],.list 0 .full [],.int .i64 0],.cells [.str c'.name,.bool c'.iface,.str c'.super,ab',f',i',k',m',.int .i64 c'.at_]],rw'⟩ ∧ Rok s r' ∧ r.i ≤ r'.i ∧ r'.deep = r.deep ∧ (r'.code = 0 → r.code = 0) ∧ Rx rw rw' ∧ ClsIn rw rw' b c' ab' f' i' k' m' ∧ (r'.code = 0 → (b : Int) ≤ r'.i) ∧
   (r'.code = 0 → r.i < r'.i ∧ (wCls c' : Int) ≤ 7000 * (r'.i - r.i)) ∧ (r'.code = 0 → okCls c') ∧ (mm : Int) = 2 * (s.toks.length - r'.i) + (if r'.code = 0 then 1 else 0) ∧
   e = [(0,.ptr n 0),(2,.ptr (H.length + 0) 0),(3,.ptr (H.length + 1) 0)]) ?_ (m:=(2 * (s.toks.length - rc.i) + (if rc.code = 0 then 1 else 0)).toNat) ⟨rc,rwc,c,ab,f,i,k,m,0,rfl,hok,hi,hd,hcd,hR,hin,fun _ => by omega,hw,ho,by split <;> omega,rfl⟩
 clear hR hd hok hi hcd hin hw ho hlo hhi
 rintro mm e S' ⟨r',rw',c',ab',f',i',k',m',b,rfl,hok',h2,h3,h4,hR,hin,h7,h8,h9,hmm,rfl⟩
 have h5:=hok'.lo
 have h6:=hok'.hi
 have hDlo:=hok'.dlo
 have hRL : Rx rw' rw':=Rx.rfl
 by_cases hc : r'.code = 0
 ·rw [if_pos hc] at hmm
  refine' hG
  ·rw [hin.can]
   refine fin_cell hlt rfl rfl (row_cls c').load ((row_cls _).below _) ?_
   exact rend c' hR rfl (Rok.nx (by assumption) (by omega) (by omega)) ⟨by omega,fun h => by have:=h8 hc; omega,fun h => h9 hc⟩
  ·refine g_call rfl rfl rfl ?_
   refine c_rp (rp_member L rw b (by have:=h7 hc; omega) c') hlt (by assumption) (by omega) (by omega) (memPre.of (hin.ext hRL)) ?_
   intro C' r1 rw1 hok1 _ _ _ _ _ hP
   obtain ⟨c2,⟨p1,p2,p3,p4,p5⟩,ab2,f2,i2,k2,m2,rfl,hin2⟩:=hP
   clear hR hRL
   have hR:=hin2.rx
   refine zrk ?_
   refine' hG
   have q7:=h7 hc
   have q8:=h8 hc
   refine ⟨(2 * (s.toks.length - r1.i) + (if r1.code = 0 then 1 else 0)).toNat,?_,r1,rw1,c2,ab2,f2,i2,k2,m2,b + 1,rfl,hok1,by omega,by omega,by omega,hR,hin2,?_,?_,?_,by split <;> omega,rfl⟩
   ·split
    ·have:=p4 (by assumption); omega
    ·omega
   ·intro h0; have:=p4 h0; omega
   ·intro h0; have:=p4 h0; omega
   ·intro h0; exact p5 h0 (h9 hc)
 ·refine' hG
  rw [hin.can]
  refine fin_cell hlt rfl rfl (row_cls c').load ((row_cls _).below _) ?_
  exact rend c' hR rfl (Rok.nx (by assumption) (by omega) (by omega)) ⟨by omega,fun h => absurd h (by omega),fun h => absurd h (by omega)⟩
theorem rc_class (L : LibS pr F) : RC pr F (fun x : Cls => AV.agg (clsRow x)) clsP 91 [] 2000:=by
 have hm:=L.hm
 have cis0:=fun x => rq_is L.toLibR 0 (by omega) x
 have cis1:=fun x => rq_is L.toLibR 1 (by omega) x
 have cis2:=fun x => rq_is L.toLibR 2 (by omega) x
 have cpl:=rq_place L.toLibR
 have ctk:=fun x => rc_take L.toLibR x 2000
 have cen:=rc_enter L.toLibR 2000
 have cnd:=fun x => rc_need L.toLibR x 2000
 have cfl:=rc_fail L.toLibR 110 (by omega) 2000
 have cnm:=rc_name L.toLibR 2000
 have hns:=rc_names L
 refine rc_start hm L.f91.1 L.f91.2 rfl ?_
 intro H rw n s r hlt hsm hok _ _ _ _ _
 have hR : Rx rw rw:=Rx.rfl
 clear cpl
 refine' hG
 refine g_call rfl rfl rfl ?_
 refine c_rq (rq_place L.toLibR) hlt (by assumption) ?_
 intro pl _
 refine zrk ?_
 refine' hG
 refine g_call rfl rfl rfl ?_; refine c_rc (cnm) hlt (by assumption) (by omega) (by omega) ?_; intro nm r1 rw_r1 hR' hok_r1 _ _ _ _ _ hP_nm; replace hR:=hR.trans hR'; (try replace hRL:=hRL.trans hR'); obtain ⟨_,_,hP_nm⟩:=hP_nm; refine zrk ?_
 refine' hG
 ·refine g_call rfl rfl rfl ?_; refine c_rc (cnm) hlt (by assumption) (by omega) (by omega) ?_; intro su r2 rw_r2 hR' hok_r2 _ _ _ _ _ hP_su; replace hR:=hR.trans hR'; (try replace hRL:=hRL.trans hR'); obtain ⟨_,_,hP_su⟩:=hP_su; refine zrk ?_
  refine' hG
  ·refine g_call rfl rfl rfl ?_; refine c_rc (hns) hlt (by assumption) (by omega) (by omega) ?_; intro ns r3 rw_r3 hR' hok_r3 _ _ _ _ _ hP_ns; replace hR:=hR.trans hR'; (try replace hRL:=hRL.trans hR'); obtain ⟨_,_,hP_ns⟩:=hP_ns; refine zrk ?_
   refine' hG
   refine cls_loop L (c:=⟨nm,false,su,ns.xs,[],[],[],[],pl⟩) hlt hsm (by omega) (by omega) (by omega) (by omega) (by omega) (by assumption) (by omega) (by omega) hR ⟨hR,ns.is,.nil,.nil,.nil,.nil,disj0,disj0,disj0,disj0,disj0,disj0,Nat.le_refl _,Nat.le_refl _,Nat.le_refl _,Nat.le_refl _⟩ ?_ ?_
   ·intro h0; simp only [wCls,wL,wExs]; omega
   ·exact fun h0 => ⟨hP_nm (by omega),.inr ⟨hP_su (by omega),rfl⟩,hP_ns (by omega),by simp,okExs_nil,by simp,by simp⟩
  ·skip
   refine cls_loop L (c:=⟨nm,false,su,[],[],[],[],[],pl⟩) hlt hsm (by omega) (by omega) (by omega) (by omega) (by omega) (by assumption) (by omega) (by omega) hR ⟨hR,IsL.nil,.nil,.nil,.nil,.nil,disj0,disj0,disj0,disj0,disj0,disj0,Nat.le_refl _,Nat.le_refl _,Nat.le_refl _,Nat.le_refl _⟩ ?_ ?_
   ·intro h0; simp only [wCls,wL,wExs]; omega
   ·exact fun h0 => ⟨hP_nm (by omega),.inr ⟨hP_su (by omega),rfl⟩,by simp,by simp,okExs_nil,by simp,by simp⟩
 ·refine g_call rfl rfl rfl ?_; refine c_rc (hns) hlt (by assumption) (by omega) (by omega) ?_; intro ns r3 rw_r3 hR' hok_r3 _ _ _ _ _ hP_ns; replace hR:=hR.trans hR'; (try replace hRL:=hRL.trans hR'); obtain ⟨_,_,hP_ns⟩:=hP_ns; refine zrk ?_
  refine' hG
  refine cls_loop L (c:=⟨nm,false,[],ns.xs,[],[],[],[],pl⟩) hlt hsm (by omega) (by omega) (by omega) (by omega) (by omega) (by assumption) (by omega) (by omega) hR ⟨hR,ns.is,.nil,.nil,.nil,.nil,disj0,disj0,disj0,disj0,disj0,disj0,Nat.le_refl _,Nat.le_refl _,Nat.le_refl _,Nat.le_refl _⟩ ?_ ?_
  ·intro h0; simp only [wCls,wL,wExs,List.length_nil]; omega
  ·exact fun h0 => ⟨hP_nm (by omega),.inl rfl,hP_ns (by omega),by simp,okExs_nil,by simp,by simp⟩
 ·skip
  refine cls_loop L (c:=⟨nm,false,[],[],[],[],[],[],pl⟩) hlt hsm (by omega) (by omega) (by omega) (by omega) (by omega) (by assumption) (by omega) (by omega) hR ⟨hR,IsL.nil,.nil,.nil,.nil,.nil,disj0,disj0,disj0,disj0,disj0,disj0,Nat.le_refl _,Nat.le_refl _,Nat.le_refl _,Nat.le_refl _⟩ ?_ ?_
  ·intro h0; simp only [wCls,wL,wExs,List.length_nil]; omega
  ·exact fun h0 => ⟨hP_nm (by omega),.inl rfl,by simp,by simp,okExs_nil,by simp,by simp⟩
end Go.Proofs.YtmeakjgbjldkdaaGreat.Ai
namespace Go.Proofs.YtmeakjgbjldkdaaGreat.Ai
open Go
variable {pr : Prims} {F : Nat → Option IFn}
theorem ifc_loop (L : LibS pr F) {H : List Blk} {rw rwc : List Nat} {n : Nat} {s : Src} {r rc : Rd} {c : Cls} {ab f i k m : AV} (hlt : n < H.length) (hsm : s.toks.length ≤ 6000) (hd : rc.deep = r.deep) (hd1 : 101 ≤ r.deep + 2000) (hd2 : r.deep ≤ 200) (_hri : 0 ≤ r.i) (_hrl : r.i ≤ s.toks.length) (hok : Rok s rc) (hi : r.i ≤ rc.i) (hcd : rc.code = 0 → r.code = 0) (hR : Rx rw rwc) (hin : ClsIn rw rwc 0 c ab f i k m) (hw : rc.code = 0 → r.i < rc.i ∧ (wCls c : Int) ≤ 7000 * (rc.i - r.i)) (ho : rc.code = 0 → okCls c) :
  At pr F H.length (fin [.cell 2 (some 9)] H.length (REnd (fun x : Cls => AV.agg (clsRow x)) clsP H n s r rw)) (.loop [0,2,3] ((r92_7.seq (.cond (.tmp 29) .skip (.exit 0))).seq (.block 1 (.seq r92_8 (.seq r92_9 (.seq r92_10 r92_11)))))) [.blk 0,.code (r92_12.seq .ret)]
   [(0,.ptr n 0),(2,.ptr (H.length + 0) 0),(3,.ptr (H.length + 1) 0)]
   ⟨hp H n (blk s rc) [.cells [.str [],.bool false,.str [],.list 0 .full [],.list 0 .full [],.list 0 .full [],.list 0 .full [],.list 0 .full [],.int .i64 0],.cells [.str c.name,.bool c.iface,.str c.super,ab,f,i,k,m,.int .i64 c.at_]],rwc⟩:=by
 have hm:=L.hm
 have cis0:=fun x => rq_is L.toLibR 0 (by omega) x
 have cis1:=fun x => rq_is L.toLibR 1 (by omega) x
 have cis2:=fun x => rq_is L.toLibR 2 (by omega) x
 have cpl:=rq_place L.toLibR
 have ctk:=fun x => rc_take L.toLibR x 2000
 have cen:=rc_enter L.toLibR 2000
 have cnd:=fun x => rc_need L.toLibR x 2000
 have cfl:=rc_fail L.toLibR 110 (by omega) 2000
 have cnm:=rc_name L.toLibR 2000
 have hhd:=rc_head L
 have hlo:=hok.lo
 have hhi:=hok.hi
 refine at_loop hm (fun mm e S' => ∃ (r' : Rd) (rw' : List Nat) (c' : Cls) (ab' f' i' k' m' : AV) (b : Nat) (J : List Blk),S' = ⟨hp H n (blk s r') (.cells [.str [],.bool false,.str [],.list 0 .full [],.list 0 .full [],.list 0 .full [],.list 0 .full [],.list 0 .full [],.int .i64 0] :: .cells [.str c'.name,.bool c'.iface,.str c'.super,ab',f',i',k',m',.int .i64 c'.at_] :: J),rw'⟩ ∧ Rok s r' ∧ r.i ≤ r'.i ∧ r'.deep = r.deep ∧ (r'.code = 0 → r.code = 0) ∧ Rx rw rw' ∧ ClsIn rw rw' b c' ab' f' i' k' m' ∧ (r'.code = 0 → (b : Int) ≤ r'.i) ∧
   (r'.code = 0 → r.i < r'.i ∧ (wCls c' : Int) ≤ 7000 * (r'.i - r.i)) ∧ (r'.code = 0 → okCls c') ∧ (mm : Int) = 2 * (s.toks.length - r'.i) + (if r'.code = 0 then 1 else 0) ∧
   e = [(0,.ptr n 0),(2,.ptr (H.length + 0) 0),(3,.ptr (H.length + 1) 0)]) ?_ (m:=(2 * (s.toks.length - rc.i) + (if rc.code = 0 then 1 else 0)).toNat) ⟨rc,rwc,c,ab,f,i,k,m,0,[],rfl,hok,hi,hd,hcd,hR,hin,fun _ => by omega,hw,ho,by split <;> omega,rfl⟩
 clear hR hd hok hi hcd hin hw ho hlo hhi
 rintro mm e S' ⟨r',rw',c',ab',f',i',k',m',b,J,rfl,hok',h2,h3,h4,hR,hin,h7,h8,h9,hmm,rfl⟩
 have h5:=hok'.lo
 have h6:=hok'.hi
 have hDlo:=hok'.dlo
 have hRL : Rx rw' rw':=Rx.rfl
 by_cases hc : r'.code = 0
 ·rw [if_pos hc] at hmm
  refine' hG
  ·rw [hin.can]
   refine fin_cell hlt rfl rfl (row_cls c').load ((row_cls _).below _) ?_
   exact rend c' hR rfl (Rok.nx (by assumption) (by omega) (by omega)) ⟨by omega,fun h => by have:=h8 hc; omega,fun h => h9 hc⟩
  ·refine g_call rfl rfl rfl ?_; refine c_rc (hhd) hlt (by assumption) (by omega) (by omega) ?_; intro m1 r1 rw_r1 hR' hok_r1 _ _ _ _ _ hP_m1; replace hR:=hR.trans hR'; (try replace hRL:=hRL.trans hR'); obtain ⟨_,_,hP_m1⟩:=hP_m1; refine zrk ?_
   obtain ⟨nm,ps,⟨kd,tn,nu,el,pd,ta⟩,bd,ab_,at_⟩:=m1
   simp only [mthRow,tyRow,List.cons_append,List.nil_append]
   obtain ⟨hb1,hb2,hok1⟩:=hP_m1
   simp only at hb1 hb2
   subst hb1 hb2
   refine' hG
   refine id_list ?_
   refine g_list rfl rfl ?_
   have hcc : canonL [AV.str nm,lst 8 (List.map parRow ps),AV.int IntKind.i64 kd,AV.str tn,AV.bool nu,lst 6 (tyRows el),lst 5 (exRows pd),AV.int IntKind.i64 ta,lst 7 (smRows []),AV.bool true,AV.int IntKind.i64 at_] = mthRow ⟨nm,ps,.mk kd tn nu el pd ta,[],true,at_⟩:=by (simp only [canonL,tyRow,mthRow,smRows,lst_nil,List.map_cons,List.map_nil,List.nil_append,List.cons_append,canon_lst,canon_str,canon_int,canon_bool,canon_nil]; try rfl)
   refine ls_1 (by rw [hcc]; exact row_mth _) ?_
   have hin:=hin.ext hRL
   have q7:=h7 hc
   refine id_append ?_
   refine g_append rfl rfl rfl ?_
   refine ap_all hin.hm hin.rx (by simp only [List.length_map,maxRow]; have:=hin.n4; omega) (by simp only [List.length_map,maxRow]; have:=hin.n4; omega) (by omega) ?_
   intro v' rw4 hv hR4 hoth
   rw [hcc] at hv
   obtain ⟨szv,tagv,rfl,-,-⟩:=hv.tag
   obtain ⟨g2,e2⟩:=hoth _ _ _ hin.hf hin.d3.symm
   obtain ⟨g3,e3⟩:=hoth _ _ _ hin.hi hin.d5.symm
   obtain ⟨g4,e4⟩:=hoth _ _ _ hin.hk hin.d6.symm
   refine zrk ?_
   refine' hG
   have q8:=h8 hc
   refine ⟨(2 * (s.toks.length - rc.i) + (if rc.code = 0 then 1 else 0)).toNat,?_,rc,rw4,{c' with meths:=c'.meths ++ [⟨nm,ps,.mk kd tn nu el pd ta,[],true,at_⟩]},_,_,_,_,_,b + 1,_,rfl,by assumption,by omega,by omega,by omega,hR4,⟨hR4,hin.ha,g2,g3,g4,by rw [List.map_append]; exact hv,hin.d1,hin.d2,e2.symm,hin.d4,e3.symm,e4.symm,by have:=hin.n1; simp only; omega,by have:=hin.n2; simp only; omega,by have:=hin.n3; simp only; omega,by have:=hin.n4; simp; omega⟩,?_,?_,?_,by split <;> omega,rfl⟩
   ·split <;> omega
   ·intro h0; omega
   ·intro h0
    simp only [wCls,wMth,wSms] at *
    simp only [wL_append,wL,wMth,wSms]
    omega
   ·intro h0
    obtain ⟨o1,o2,o3,o4,o5,o6,o7⟩:=h9 hc
    refine ⟨o1,o2,o3,o4,o5,o6,?_⟩
    intro x hx
    rcases List.mem_append.1 hx with hh | hh
    ·exact o7 x hh
    ·rw [List.mem_singleton] at hh
     subst hh
     obtain ⟨q1,q2,q3,-⟩:=hok1 (by omega)
     exact ⟨q1,q2,q3,trivial⟩
 ·refine' hG
  rw [hin.can]
  refine fin_cell hlt rfl rfl (row_cls c').load ((row_cls _).below _) ?_
  exact rend c' hR rfl (Rok.nx (by assumption) (by omega) (by omega)) ⟨by omega,fun h => absurd h (by omega),fun h => absurd h (by omega)⟩
theorem rc_iface (L : LibS pr F) : RC pr F (fun x : Cls => AV.agg (clsRow x)) clsP 92 [] 2000:=by
 have hm:=L.hm
 have cis0:=fun x => rq_is L.toLibR 0 (by omega) x
 have cis1:=fun x => rq_is L.toLibR 1 (by omega) x
 have cis2:=fun x => rq_is L.toLibR 2 (by omega) x
 have cpl:=rq_place L.toLibR
 have ctk:=fun x => rc_take L.toLibR x 2000
 have cen:=rc_enter L.toLibR 2000
 have cnd:=fun x => rc_need L.toLibR x 2000
 have cfl:=rc_fail L.toLibR 110 (by omega) 2000
 have cnm:=rc_name L.toLibR 2000
 have hns:=rc_names L
 refine rc_start hm L.f92.1 L.f92.2 rfl ?_
 intro H rw n s r hlt hsm hok _ _ _ _ _
 have hR : Rx rw rw:=Rx.rfl
 clear cpl
 refine' hG
 refine g_call rfl rfl rfl ?_
 refine c_rq (rq_place L.toLibR) hlt (by assumption) ?_
 intro pl _
 refine zrk ?_
 refine' hG
 refine g_call rfl rfl rfl ?_; refine c_rc (cnm) hlt (by assumption) (by omega) (by omega) ?_; intro nm r1 rw_r1 hR' hok_r1 _ _ _ _ _ hP_nm; replace hR:=hR.trans hR'; (try replace hRL:=hRL.trans hR'); obtain ⟨_,_,hP_nm⟩:=hP_nm; refine zrk ?_
 refine' hG
 ·refine g_call rfl rfl rfl ?_; refine c_rc (hns) hlt (by assumption) (by omega) (by omega) ?_; intro ns r3 rw_r3 hR' hok_r3 _ _ _ _ _ hP_ns; replace hR:=hR.trans hR'; (try replace hRL:=hRL.trans hR'); obtain ⟨_,_,hP_ns⟩:=hP_ns; refine zrk ?_
  refine' hG
  refine ifc_loop L (c:=⟨nm,true,[],ns.xs,[],[],[],[],pl⟩) hlt hsm (by omega) (by omega) (by omega) (by omega) (by omega) (by assumption) (by omega) (by omega) hR ⟨hR,ns.is,.nil,.nil,.nil,.nil,disj0,disj0,disj0,disj0,disj0,disj0,Nat.le_refl _,Nat.le_refl _,Nat.le_refl _,Nat.le_refl _⟩ ?_ ?_
  ·intro h0; simp only [wCls,wL,wExs,List.length_nil]; omega
  ·exact fun h0 => ⟨hP_nm (by omega),.inl rfl,hP_ns (by omega),by simp,okExs_nil,by simp,by simp⟩
 ·refine ifc_loop L (c:=⟨nm,true,[],[],[],[],[],[],pl⟩) hlt hsm (by omega) (by omega) (by omega) (by omega) (by omega) (by assumption) (by omega) (by omega) hR ⟨hR,IsL.nil,.nil,.nil,.nil,.nil,disj0,disj0,disj0,disj0,disj0,disj0,Nat.le_refl _,Nat.le_refl _,Nat.le_refl _,Nat.le_refl _⟩ ?_ ?_
  ·intro h0; simp only [wCls,wL,wExs,List.length_nil]; omega
  ·exact fun h0 => ⟨hP_nm (by omega),.inl rfl,by simp,by simp,okExs_nil,by simp,by simp⟩
end Go.Proofs.YtmeakjgbjldkdaaGreat.Ai
namespace Go.Proofs.YtmeakjgbjldkdaaGreat.Ai
open Go
variable {pr : Prims} {F : Nat → Option IFn}
structure PrgOut where
 p : Prg
 code : Int
 at_ : Int
 rw : List Nat
def PrgOut.good (rw : List Nat) (o : PrgOut) : Prop:=Rx rw o.rw ∧ (o.code = 0 → okPrg o.p ∧ o.p.classes.length ≤ 6000 ∧ wL wCls o.p.classes + wSms o.p.main ≤ 42000000) ∧ (o.code ≠ 0 → o.p = ⟨[],[]⟩)
theorem hp_J {H : List Blk} {n : Nat} {b c d : Blk} {M : List Blk} (hlt : n < H.length) : hp (hp H n b [c]) H.length d M = hp H n b (d :: M):=by
 unfold hp
 rw [← List.set_append_left _ _ (by simp; omega),List.set_comm _ _ (by omega),List.append_assoc,List.set_append_right _ _ (by omega),Nat.sub_self]
 rfl
theorem prg_end {H H1 M : List Blk} {rw rw' : List Nat} {p : Prg} {z : Blk} {vs : List AV} {c a : Int} (hH : H1 = H ++ [z]) (hv : vs = prgRow p) (hg : PrgOut.good rw ⟨p,c,a,rw'⟩) :
  fin [.cell 2 (some 2),.tmp 3,.tmp 4] H.length (fun r S' => ∃ o : PrgOut,o.good rw ∧ r = .ret (.tup [.agg (prgRow o.p),.int .i64 o.code,.int .i64 o.at_]) ∧ S' = ⟨H,o.rw⟩) .ret [(2,.ptr H.length 0),(3,.int .i64 c),(4,.int .i64 a)] ⟨hp H1 H.length (.cells vs) M,rw'⟩:=by
 subst hH hv
 have e1 : (hp (H ++ [z]) H.length (.cells (prgRow p)) M)[H.length]? = some (.cells (prgRow p)):=hp_get (by simp)
 have e2 : rvals [.cell 2 (some 2),.tmp 3,.tmp 4] [(2,.ptr H.length 0),(3,.int .i64 c),(4,.int .i64 a)] (hp (H ++ [z]) H.length (.cells (prgRow p)) M) = some [.agg (prgRow p),.int .i64 c,.int .i64 a]:=by
  have e3 : aload (some 2) (.ptr H.length 0) (hp (H ++ [z]) H.length (.cells (prgRow p)) M) = some (.agg (prgRow p)):=by
   have:=(row_prg p).load
   simp only [aload,e1]
   simpa only [aload,List.getElem?_cons_zero] using this
  show (match aload (some 2) (.ptr H.length 0) (hp (H ++ [z]) H.length (.cells (prgRow p)) M) with | some v => _ | none => _) = _
  rw [e3]
 refine fin_tup e2 ?_ ?_ ⟨⟨p,c,a,rw'⟩,hg,rfl,rfl⟩
 ·have this : Ai.belowL H.length (prgRow p) = true:=(row_prg p).below H.length
  simp only [Ai.belowL,this,Ai.below,Bool.and_self]
 ·unfold hp
  rw [List.take_set]
  simp [List.set_eq_of_length_le]
theorem c_rcJ {K : AV → St → Prop} {H : List Blk} {rw : List Nat} {n : Nat} {b : Blk} {s : Src} {r : Rd} {M : List Blk} {α : Type} {enc : α → AV} {post : Src → Rd → α → Rd → Prop} {fn : Nat} {args : List AV} {m : Int} (hlt : n < H.length) (hc : RC pr F enc post fn args m) (hok : Rok s r) (hd : 101 ≤ r.deep + m) (hd2 : r.deep ≤ 200)
  (h : ∀ (x : α) (r' : Rd) (rw' : List Nat),Rx rw rw' → Rok s r' → 0 ≤ r'.i → r'.i ≤ s.toks.length → 0 ≤ r'.deep → r.i ≤ r'.i → (r'.code = 0 → r.code = 0) → post s r x r' → K (enc x) ⟨hp H n b (blk s r' :: M),rw'⟩) :
  ClAt pr F fn (.ptr (H.length + 0) 0 :: args) ⟨hp H n b (blk s r :: M),rw⟩ K:=by
 obtain ⟨o,⟨hn,hR,hp'⟩,hdet⟩:=hc (hp H n b [blk s r]) rw H.length s r M (by rw [hp_len]; simp) hok hd hd2
 rw [hp_J hlt,hp_J hlt] at hdet
 exact ⟨_,_,hdet,h o.x o.r o.rw hR ⟨hn.lo,hn.hi,hn.dlo,hn.dhi⟩ hn.lo hn.hi hn.dlo hn.mono hn.code hp'⟩
theorem c_rqJ {K : AV → St → Prop} {H : List Blk} {rw : List Nat} {n : Nat} {b : Blk} {s : Src} {r : Rd} {M : List Blk} {α : Type} {enc : α → AV} {post : Src → Rd → α → Prop} {fn : Nat} {args : List AV} (hlt : n < H.length) (hc : RQ pr F enc post fn args) (hok : Rok s r)
  (h : ∀ (x : α),post s r x → K (enc x) ⟨hp H n b (blk s r :: M),rw⟩) :
  ClAt pr F fn (.ptr (H.length + 0) 0 :: args) ⟨hp H n b (blk s r :: M),rw⟩ K:=by
 obtain ⟨x,hp',hdet⟩:=hc (hp H n b [blk s r]) rw H.length s r M (by rw [hp_len]; simp) hok
 rw [hp_J hlt] at hdet
 exact ⟨_,_,hdet,h x hp'⟩
theorem s_n {b0 n kd : Nat} {H M : List Blk} {rw : List Nat} {b : Blk} {vs cs : List AV} {K : St → Prop} (hlt : n < H.length) (hb0 : b0 ≤ n) (hb : b = .cells cs) (hc : cs.length = kd) (hv : vs.length = kd) (h : K ⟨hp H n (.cells vs) M,rw⟩) : StAt b0 kd (.ptr n 0) (.agg vs) ⟨hp H n b M,rw⟩ K:=by
 refine ⟨_,?_,h⟩
 unfold storeV
 simp only [hp_get hlt,hb]
 rw [if_pos ⟨hv,rfl,by omega,.inl hb0⟩,hp_set,overlay_all (by rw [hc]; exact hv.symm)]
 rfl
theorem LV.get {sz : Nat} {v : AV} {rows : List (List AV)} (h : LV sz v rows) : ∃ z tag,v = .list z tag rows ∧ (rows ≠ [] → z = sz):=by
 rcases h with ⟨tag,rfl⟩ | ⟨rfl,rfl⟩
 ·exact ⟨_,_,rfl,fun _ => rfl⟩
 ·exact ⟨_,_,rfl,fun h => absurd rfl h⟩
section
variable {b0 base ix : Nat} {d : Option Nat} {g : Option (Nat × Bool)} {prev items : List Item} {kp : List Nat} {k : List Fr} {e : Env} {Q : Ex → Env → St → Prop}
theorem g_box {x : Opd} {re : List Nat} {v : AV} {H M M' : List Blk} {n q : Nat} {b : Blk} {rw : List Nat} (hlt : n < H.length) (hw : wanted g (eget e) = some true) (hx : x.val (eget e) = some v) (hv : v.okv = true) (hM : M ++ [.cells v.cells] = M') (hq : M.length = q)
  (h : recheck prev re (eput e d (.ptr (H.length + q) 0)) (hp H n b M') base = true ∧ In pr F b0 Q base (⟨ix,d,g,.l (.box x) re⟩ :: prev) items kp k (eput e d (.ptr (H.length + q) 0)) ⟨hp H n b M',rw⟩) :
  In pr F b0 Q base prev (⟨ix,d,g,.l (.box x) re⟩ :: items) kp k e ⟨hp H n b M,rw⟩:=by
 subst hM hq
 refine in_l hw ?_ h.1 h.2
 simp only [lval,hx,hv,if_true,hp_len,hp_app hlt]
end
theorem det_program (L : LibS pr F) (H : List Blk) (rw : List Nat) (x : Str) (hx : x.length ≤ 6000) : ∃ o : PrgOut,o.good rw ∧ Det pr F 51 [.str x] ⟨H,rw⟩ (.ret (.tup [.agg (prgRow o.p),.int .i64 o.code,.int .i64 o.at_])) ⟨H,o.rw⟩:=by
 have hm:=L.hm
 suffices h : Wp pr F 51 [.str x] ⟨H,rw⟩ fun r S' => ∃ o : PrgOut,o.good rw ∧ r = .ret (.tup [.agg (prgRow o.p),.int .i64 o.code,.int .i64 o.at_]) ∧ S' = ⟨H,o.rw⟩ by
  obtain ⟨r,S',hd,x,hp,rfl,rfl⟩:=h.det hm
  exact ⟨x,hp,hd⟩
 have cis0:=fun x => rq_is L.toLibR 0 (by omega) x
 have cis1:=fun x => rq_is L.toLibR 1 (by omega) x
 have cis2:=fun x => rq_is L.toLibR 2 (by omega) x
 have cpl:=rq_place L.toLibR
 have ctk:=fun x => rc_take L.toLibR x 2000
 have cen:=rc_enter L.toLibR 2000
 have cnd:=fun x => rc_need L.toLibR x 2000
 have cfl:=rc_fail L.toLibR 110 (by omega) 2000
 have cnm:=rc_name L.toLibR 2000
 have hcl:=rc_class L
 have hif:=rc_iface L
 have hbl:=rc_block L
 refine at_start hm L.f51.1 L.f51.2 rfl ?_
 refine' hGO
 obtain ⟨H1,hH1⟩ : ∃ H1,H1 = H ++ [Blk.cells [.list 0 .full [],.list 0 .full []]]:=⟨_,rfl⟩
 have hlen : H1.length = H.length + 1:=by rw [hH1]; simp
 have hlt : H.length < H1.length:=by omega
 have hget : hp H1 H.length (.cells [.list 0 .full [],.list 0 .full []]) [] = H ++ [Blk.cells [.list 0 .full [],.list 0 .full []]]:=by subst hH1; simp [hp]
 unfold r51_0
 refine at_region hm (H:=hp H1 H.length (.cells [.list 0 .full [],.list 0 .full []]) []) (by rw [hget]; rfl) rfl ?_
 refine id_alloc ?_
 refine in_alloc (q:=H.length) rfl rfl (hp_get hlt) ?_
 have hR : Rx rw rw:=Rx.rfl
 refine' hG
 obtain ⟨⟨lv,le,la,toks,rw1⟩,⟨hR1,hlv,htk,htx⟩,hdet⟩:=det_tokens L.toLibL (hp H1 H.length (.cells [.list 0 .full [],.list 0 .full []]) []) rw x hx
 simp only at hR1 hlv htk htx hdet
 obtain ⟨sz,tag,rfl,hsz⟩:=hlv.get
 refine g_call rfl rfl rfl ?_
 refine ⟨_,_,hdet,?_⟩
 replace hR:=hR.trans hR1
 refine zrk ?_
 refine' hG
 ·refine id_store ?_
  refine g_store rfl rfl rfl ?_
  refine s_n hlt (Nat.le_refl _) rfl rfl rfl ?_
  refine zrk ?_
  refine' hG
  exact prg_end (p:=⟨[],[]⟩) hH1 (by simp [prgRow,smRows,lst]) ⟨hR,fun h => absurd h (by simp only; omega),fun _ => rfl⟩
 ·obtain ⟨s,hs⟩ : ∃ s : Src,s = ⟨toks,sz,tag,x.length,fun h => hsz (by simpa using h),htk,htx⟩:=⟨_,rfl⟩
  have hsm : s.toks.length ≤ 6000:=s.small
  have hok : Rok s ⟨0,0,0,0⟩:=⟨by simp only; omega,by simp only; omega,by simp only; omega,by simp only; omega⟩
  refine g_box (v:=.agg [.list sz tag (toks.map Tok.row),.int .i64 0,.int .i64 x.length,.int .i64 0,.int .i64 0,.int .i64 0]) (M':=[blk s ⟨0,0,0,0⟩]) hlt rfl rfl rfl (by subst hs; rfl) (q:=0) rfl ?_
  refine zrk ?_
  refine' hG
  refine at_loop hm (fun mm e S' => ∃ (r' : Rd) (rw' : List Nat) (cv : AV) (cs : List Cls),S' = ⟨hp H1 H.length (.cells [.list 0 .full [],.list 0 .full []]) [blk s r',.cells [cv,.list 0 .full []]],rw'⟩ ∧ Rok s r' ∧ r'.deep = 0 ∧ Rx rw rw' ∧ Lst rw 9 cv (cs.map clsRow) rw' ∧ ((cs.length : Int) ≤ r'.i + 1) ∧ (r'.code = 0 → (cs.length : Int) ≤ r'.i ∧ (wL wCls cs : Int) ≤ 7000 * r'.i) ∧ (r'.code = 0 → ∀ c ∈ cs,okCls c) ∧ (mm : Int) = 2 * (s.toks.length - r'.i) + (if r'.code = 0 then 1 else 0) ∧
   e = [(2,.ptr H.length 0),(8,.ptr (H1.length + 0) 0),(9,.ptr (H1.length + 1) 0)]) ?_ (m:=2 * s.toks.length + 1) ⟨⟨0,0,0,0⟩,rw1,_,[],rfl,hok,rfl,hR,.nil,by simp,fun _ => ⟨by simp,by simp [wL]⟩,by simp,by simp,rfl⟩
  clear hR hok
  rintro mm e S' ⟨r',rw',cv,cs,rfl,hok',h2,hR,hl1,h3,h4,h5,hmm,rfl⟩
  have q1:=hok'.lo
  have q2:=hok'.hi
  have q3:=hok'.dlo
  have hRL : Rx rw' rw':=Rx.rfl
  obtain ⟨szv,tagv,rfl,-,-⟩:=hl1.tag
  refine' hG
  refine g_call rfl rfl rfl ?_
  refine c_rqJ hlt (cis0 _) hok' ?_
  intro b1 hb1
  cases b1 with
  | true =>
   have hc0 : r'.code = 0:=hb1.1
   have hi0 : r'.i + ((0 : Nat) : Int) < s.toks.length:=hb1.2
   refine zrk ?_
   refine' hG
   refine g_call rfl rfl rfl ?_
   refine c_rqJ hlt (cis0 _) hok' ?_
   intro b2 hb2
   cases b2 with
   | true =>
    refine zrk ?_
    refine' hG
    refine g_call rfl rfl rfl ?_
    refine c_rcJ hlt hcl hok' (by omega) (by omega) ?_
    intro c1 r1 rw2 hR1 hok1 _ _ _ _ _ hP
    obtain ⟨p1,p2,p3⟩:=hP
    replace hR:=hR.trans hR1
    refine zrk ?_
    refine' hG
    refine id_append ?_
    refine g_append rfl rfl rfl ?_
    refine ap_lst (hl1.ext hR1) hR (by simp only [List.length_map,maxRow]; omega) (by simp only [List.length_map,maxRow]; omega) (by omega) ?_
    intro l4 rw4 hl4 hR4
    obtain ⟨szw,tagw,rfl,-,-⟩:=hl4.tag
    refine zrk ?_
    refine' hG
    refine ⟨(2 * (s.toks.length - r1.i) + (if r1.code = 0 then 1 else 0)).toNat,?_,r1,rw4,_,cs ++ [c1],rfl,hok1,by omega,hR4,by rw [List.map_append]; exact hl4,by simp; omega,?_,?_,by split <;> omega,rfl⟩
    ·rw [if_pos hc0] at hmm
     split <;> omega
    ·intro h0
     rw [wL_append]
     simp only [wL,List.length_append,List.length_cons,List.length_nil]
     have:=h4 hc0
     have:=p2 h0
     omega
    ·intro h0 y hy
     rcases List.mem_append.1 hy with hh | hh
     ·exact h5 hc0 y hh
     ·rw [List.mem_singleton] at hh
      subst hh
      exact p3 h0
   | false =>
    refine zrk ?_
    refine' hG
    refine g_call rfl rfl rfl ?_
    refine c_rcJ hlt hif hok' (by omega) (by omega) ?_
    intro c1 r1 rw2 hR1 hok1 _ _ _ _ _ hP
    obtain ⟨p1,p2,p3⟩:=hP
    replace hR:=hR.trans hR1
    refine zrk ?_
    refine' hG
    refine id_append ?_
    refine g_append rfl rfl rfl ?_
    refine ap_lst (hl1.ext hR1) hR (by simp only [List.length_map,maxRow]; omega) (by simp only [List.length_map,maxRow]; omega) (by omega) ?_
    intro l4 rw4 hl4 hR4
    obtain ⟨szw,tagw,rfl,-,-⟩:=hl4.tag
    refine zrk ?_
    refine' hG
    refine ⟨(2 * (s.toks.length - r1.i) + (if r1.code = 0 then 1 else 0)).toNat,?_,r1,rw4,_,cs ++ [c1],rfl,hok1,by omega,hR4,by rw [List.map_append]; exact hl4,by simp; omega,?_,?_,by split <;> omega,rfl⟩
    ·rw [if_pos hc0] at hmm
     split <;> omega
    ·intro h0
     rw [wL_append]
     simp only [wL,List.length_append,List.length_cons,List.length_nil]
     have:=h4 hc0
     have:=p2 h0
     omega
    ·intro h0 y hy
     rcases List.mem_append.1 hy with hh | hh
     ·exact h5 hc0 y hh
     ·rw [List.mem_singleton] at hh
      subst hh
      exact p3 h0
  | false =>
   refine zrk ?_
   refine' hG
   refine g_call rfl rfl rfl ?_
   refine c_rqJ hlt (cis0 _) hok' ?_
   intro b3 hb3
   cases b3 with
   | true =>
    have hc0 : r'.code = 0:=hb3.1
    have hi0 : r'.i + ((0 : Nat) : Int) < s.toks.length:=hb3.2
    refine zrk ?_
    refine' hG
    refine g_call rfl rfl rfl ?_
    refine c_rqJ hlt (cis0 _) hok' ?_
    intro b2 hb2
    cases b2 with
    | true =>
     refine zrk ?_
     refine' hG
     refine g_call rfl rfl rfl ?_
     refine c_rcJ hlt hcl hok' (by omega) (by omega) ?_
     intro c1 r1 rw2 hR1 hok1 _ _ _ _ _ hP
     obtain ⟨p1,p2,p3⟩:=hP
     replace hR:=hR.trans hR1
     refine zrk ?_
     refine' hG
     refine id_append ?_
     refine g_append rfl rfl rfl ?_
     refine ap_lst (hl1.ext hR1) hR (by simp only [List.length_map,maxRow]; omega) (by simp only [List.length_map,maxRow]; omega) (by omega) ?_
     intro l4 rw4 hl4 hR4
     obtain ⟨szw,tagw,rfl,-,-⟩:=hl4.tag
     refine zrk ?_
     refine' hG
     refine ⟨(2 * (s.toks.length - r1.i) + (if r1.code = 0 then 1 else 0)).toNat,?_,r1,rw4,_,cs ++ [c1],rfl,hok1,by omega,hR4,by rw [List.map_append]; exact hl4,by simp; omega,?_,?_,by split <;> omega,rfl⟩
     ·rw [if_pos hc0] at hmm
      split <;> omega
     ·intro h0
      rw [wL_append]
      simp only [wL,List.length_append,List.length_cons,List.length_nil]
      have:=h4 hc0
      have:=p2 h0
      omega
     ·intro h0 y hy
      rcases List.mem_append.1 hy with hh | hh
      ·exact h5 hc0 y hh
      ·rw [List.mem_singleton] at hh
       subst hh
       exact p3 h0
    | false =>
     refine zrk ?_
     refine' hG
     refine g_call rfl rfl rfl ?_
     refine c_rcJ hlt hif hok' (by omega) (by omega) ?_
     intro c1 r1 rw2 hR1 hok1 _ _ _ _ _ hP
     obtain ⟨p1,p2,p3⟩:=hP
     replace hR:=hR.trans hR1
     refine zrk ?_
     refine' hG
     refine id_append ?_
     refine g_append rfl rfl rfl ?_
     refine ap_lst (hl1.ext hR1) hR (by simp only [List.length_map,maxRow]; omega) (by simp only [List.length_map,maxRow]; omega) (by omega) ?_
     intro l4 rw4 hl4 hR4
     obtain ⟨szw,tagw,rfl,-,-⟩:=hl4.tag
     refine zrk ?_
     refine' hG
     refine ⟨(2 * (s.toks.length - r1.i) + (if r1.code = 0 then 1 else 0)).toNat,?_,r1,rw4,_,cs ++ [c1],rfl,hok1,by omega,hR4,by rw [List.map_append]; exact hl4,by simp; omega,?_,?_,by split <;> omega,rfl⟩
     ·rw [if_pos hc0] at hmm
      split <;> omega
     ·intro h0
      rw [wL_append]
      simp only [wL,List.length_append,List.length_cons,List.length_nil]
      have:=h4 hc0
      have:=p2 h0
      omega
     ·intro h0 y hy
      rcases List.mem_append.1 hy with hh | hh
      ·exact h5 hc0 y hh
      ·rw [List.mem_singleton] at hh
       subst hh
       exact p3 h0
   | false =>
    refine zrk ?_
    refine' hG
    refine g_call rfl rfl rfl ?_
    refine c_rcJ hlt (cnd _) hok' (by omega) (by omega) ?_
    intro _ r1 rw2 hR1 hok1 _ _ _ _ _ hP
    obtain ⟨n1,n2⟩:=hP
    replace hR:=hR.trans hR1
    refine zrk ?_
    refine' hG
    refine g_call rfl rfl rfl ?_
    refine c_rcJ hlt hbl hok1 (by omega) (by omega) ?_
    intro bl r2 rw3 hR2 hok2 _ _ _ _ _ hP
    obtain ⟨b1,b2,b3⟩:=hP
    replace hR:=hR.trans hR2
    refine zrk ?_
    refine' hG
    ·refine g_call rfl rfl rfl ?_
     refine c_rcJ hlt cfl hok2 (by omega) (by omega) ?_
     intro _ r3 rw4 hR3 hok3 _ _ _ _ _ hP
     obtain ⟨f1,f2,f3⟩:=hP
     replace hR:=hR.trans hR3
     refine zrk ?_
     refine' hG
     refine id_store ?_
     refine g_store rfl rfl rfl ?_
     refine s_n hlt (Nat.le_refl _) rfl rfl rfl ?_
     refine zrk ?_
     refine' hG
     exact prg_end (p:=⟨[],[]⟩) hH1 (by simp [prgRow,smRows,lst]) ⟨hR,fun h => absurd h (by simp only; omega),fun _ => rfl⟩
    ·skip
     refine id_store ?_
     refine g_store rfl rfl rfl ?_
     refine s_n hlt (Nat.le_refl _) rfl rfl rfl ?_
     refine zrk ?_
     refine' hG
     exact prg_end (p:=⟨[],[]⟩) hH1 (by simp [prgRow,smRows,lst]) ⟨hR,fun h => absurd h (by simp only; omega),fun _ => rfl⟩
    ·have e1:=hl1.isL.canon
     have e2:=bl.is.canon
     have hcan : canonL [.list szv tagv (cs.map clsRow),bl.v] = prgRow ⟨cs,bl.xs⟩:=by simp only [canonL,List.map_cons,List.map_nil,e1,e2,prgRow]
     refine id_store ?_
     refine g_store rfl rfl rfl ?_
     refine s_n hlt (Nat.le_refl _) rfl rfl rfl ?_
     refine zrk ?_
     refine' hG
     have w1:=h4 (by omega)
     have w2:=b2 (by omega)
     exact prg_end (p:=⟨cs,bl.xs⟩) hH1 hcan ⟨hR,fun _ => ⟨⟨h5 (by omega),b3 (by omega)⟩,by simp only; omega,by simp only; omega⟩,fun h => absurd rfl h⟩
end Go.Proofs.YtmeakjgbjldkdaaGreat.Ai
namespace Go.Proofs.YtmeakjgbjldkdaaGreat.Ai
open Go
set_option maxRecDepth 100000
set_option maxHeartbeats 16000000
def F14a : {l : List IC // Tr.fn Tr.TT Tryz.f14 0 [[0,2],[0,2,9],[2,3],[2,4,5],[2,3]] = l}:=⟨_,by cbv⟩
def r14_0 : IC:=Tr.pk F14a.1 0
def r14_1 : IC:=Tr.pk F14a.1 1
def r14_2 : IC:=Tr.pk F14a.1 2
def r14_3 : IC:=Tr.pk F14a.1 3
def r14_4 : IC:=Tr.pk F14a.1 4
noncomputable def i14 : IFn:=⟨1,(.seq r14_0 (.seq (.seq r14_1 (.cond (.tmp 9) (.seq r14_2 .ret) (.skip))) (.seq r14_3 (.seq r14_4 .ret)))),[.cell 2 (some 2),.tmp 3]⟩
theorem c14 : chkFn Tryz.prog Tryz.f14 i14 = true:=by kernel_rfl
def F19a : {l : List IC // Tr.fn Tr.TT Tryz.f19 0 [[0],[4,5],[4,14],[2,3],[4,6,7],[4,6,22],[2,3],[2,3]] = l}:=⟨_,by cbv⟩
def r19_0 : IC:=Tr.pk F19a.1 0
def r19_1 : IC:=Tr.pk F19a.1 1
def r19_2 : IC:=Tr.pk F19a.1 2
def r19_3 : IC:=Tr.pk F19a.1 3
def r19_4 : IC:=Tr.pk F19a.1 4
def r19_5 : IC:=Tr.pk F19a.1 5
def r19_6 : IC:=Tr.pk F19a.1 6
def r19_7 : IC:=Tr.pk F19a.1 7
noncomputable def i19 : IFn:=⟨1,(.seq r19_0 (.seq r19_1 (.seq (.seq r19_2 (.cond (.tmp 14) (.seq r19_3 .ret) (.skip))) (.seq r19_4 (.seq (.seq r19_5 (.cond (.tmp 22) (.seq r19_6 .ret) (.skip))) (.seq r19_7 .ret)))))),[.tmp 2,.tmp 3]⟩
theorem c19 : chkFn Tryz.prog Tryz.f19 i19 = true:=by kernel_rfl
def F56a : {l : List IC // Tr.fn Tr.TT Tryz.f56 0 [[0,1,4],[4]] = l}:=⟨_,by cbv⟩
def r56_0 : IC:=Tr.pk F56a.1 0
def r56_1 : IC:=Tr.pk F56a.1 1
noncomputable def i56 : IFn:=⟨2,(.seq r56_0 (.seq r56_1 .ret)),[.cell 4 (some 2)]⟩
theorem c56 : chkFn Tryz.prog Tryz.f56 i56 = true:=by kernel_rfl
def F100a : {l : List IC // Tr.fn Tr.TT Tryz.f100 0 [[0,2],[2,12,13,14],[2,12,13,14,15],[2,3,4,12,13,14],[2,4,12,13,14,20],[2],[2,4,12,13,14,45],[2],[2,4,12,13,14,50,51,52],[2,4,12,13,14,50,51,52,53],[2,4,6,12,13,14,50,51,52],[2,4,6,12,13,14,50,51,52,59],[2],[2,4,12,13,14,50,51,52],[2,12,13,14,65,66,67],[2,12,13,14,65,66,67,68],[2,8,12,13,14,65,66,67],[2,8,12,13,14,65,66,67,74],[2],[2,12,13,14,65,66,67],[2,12,13,14],[2]] = l}:=⟨_,by cbv⟩
def r100_0 : IC:=Tr.pk F100a.1 0
def r100_1 : IC:=Tr.pk F100a.1 1
def r100_2 : IC:=Tr.pk F100a.1 2
def r100_3 : IC:=Tr.pk F100a.1 3
def r100_4 : IC:=Tr.pk F100a.1 4
def r100_5 : IC:=Tr.pk F100a.1 5
def r100_6 : IC:=Tr.pk F100a.1 6
def r100_7 : IC:=Tr.pk F100a.1 7
def r100_8 : IC:=Tr.pk F100a.1 8
def r100_9 : IC:=Tr.pk F100a.1 9
def r100_10 : IC:=Tr.pk F100a.1 10
def r100_11 : IC:=Tr.pk F100a.1 11
def r100_12 : IC:=Tr.pk F100a.1 12
def r100_13 : IC:=Tr.pk F100a.1 13
def r100_14 : IC:=Tr.pk F100a.1 14
def r100_15 : IC:=Tr.pk F100a.1 15
def r100_16 : IC:=Tr.pk F100a.1 16
def r100_17 : IC:=Tr.pk F100a.1 17
def r100_18 : IC:=Tr.pk F100a.1 18
def r100_19 : IC:=Tr.pk F100a.1 19
def r100_20 : IC:=Tr.pk F100a.1 20
def r100_21 : IC:=Tr.pk F100a.1 21
noncomputable def i100 : IFn:=⟨1,(.seq r100_0 (.seq (.seq r100_1 (.block 0 (.loop [2,12,13,14] (.seq r100_2 (.seq (.cond (.tmp 15) (.skip) (.exit 0)) (.seq (.block 1 (.seq r100_3 (.seq (.seq r100_4 (.cond (.tmp 20) (.seq r100_5 .ret) (.skip))) (.seq (.seq r100_6 (.cond (.tmp 45) (.seq r100_7 .ret) (.skip))) (.seq (.seq r100_8 (.block 2 (.loop [2,4,12,13,14,50,51,52] (.seq r100_9 (.seq (.cond (.tmp 53) (.skip) (.exit 2)) (.seq (.block 3 (.seq r100_10 (.seq r100_11 (.cond (.tmp 59) (.seq r100_12 .ret) (.skip))))) r100_13)))))) (.seq r100_14 (.block 4 (.loop [2,12,13,14,65,66,67] (.seq r100_15 (.seq (.cond (.tmp 68) (.skip) (.exit 4)) (.seq (.block 5 (.seq r100_16 (.seq r100_17 (.cond (.tmp 74) (.seq r100_18 .ret) (.skip))))) r100_19))))))))))) r100_20)))))) (.seq r100_21 .ret))),[.cell 2 (some 2)]⟩
theorem c100 : chkFn Tryz.prog Tryz.f100 i100 = true:=by kernel_rfl
def F101a : {l : List IC // Tr.fn Tr.TT Tryz.f101 0 [[0,2],[0,2,10,11,12],[0,2,10,11,12,13],[0,2,3,4,10,11,12],[0,2,3,4,6,10,11,12],[0,2,3,4,10,11,12,27],[2],[0,2,10,11,12],[0,2,10,11,12],[2]] = l}:=⟨_,by cbv⟩
def r101_0 : IC:=Tr.pk F101a.1 0
def r101_1 : IC:=Tr.pk F101a.1 1
def r101_2 : IC:=Tr.pk F101a.1 2
def r101_3 : IC:=Tr.pk F101a.1 3
def r101_4 : IC:=Tr.pk F101a.1 4
def r101_5 : IC:=Tr.pk F101a.1 5
def r101_6 : IC:=Tr.pk F101a.1 6
def r101_7 : IC:=Tr.pk F101a.1 7
def r101_8 : IC:=Tr.pk F101a.1 8
def r101_9 : IC:=Tr.pk F101a.1 9
noncomputable def i101 : IFn:=⟨1,(.seq r101_0 (.seq (.seq r101_1 (.block 0 (.loop [0,2,10,11,12] (.seq r101_2 (.seq (.cond (.tmp 13) (.skip) (.exit 0)) (.seq (.block 1 (.seq r101_3 (.seq (.seq r101_4 (.seq r101_5 (.cond (.tmp 27) (.seq r101_6 .ret) (.skip)))) r101_7))) r101_8)))))) (.seq r101_9 .ret))),[.cell 2 (some 2)]⟩
theorem c101 : chkFn Tryz.prog Tryz.f101 i101 = true:=by kernel_rfl
def F102a : {l : List IC // Tr.fn Tr.TT Tryz.f102 0 [[0,2],[0,2,14,15,16],[0,2,14,15,16,17],[0,2,4,14,15,16],[0,2,4,14,15,16,22],[0,2,4,5,6,14,15,16],[0,2,4,5,14,15,16,34],[2],[0,2,4,14,15,16,45],[2],[0,2,4,14,15,16,50,51,52],[0,2,4,14,15,16,50,51,52,53],[0,2,4,8,14,15,16,50,51,52],[0,2,4,9,10,14,15,16,50,51,52],[0,2,4,9,14,15,16,50,51,52,66],[2],[0,2,4,14,15,16,50,51,52,78],[2],[0,2,4,14,15,16,50,51,52],[0,2,14,15,16],[2]] = l}:=⟨_,by cbv⟩
def r102_0 : IC:=Tr.pk F102a.1 0
def r102_1 : IC:=Tr.pk F102a.1 1
def r102_2 : IC:=Tr.pk F102a.1 2
def r102_3 : IC:=Tr.pk F102a.1 3
def r102_4 : IC:=Tr.pk F102a.1 4
def r102_5 : IC:=Tr.pk F102a.1 5
def r102_6 : IC:=Tr.pk F102a.1 6
def r102_7 : IC:=Tr.pk F102a.1 7
def r102_8 : IC:=Tr.pk F102a.1 8
def r102_9 : IC:=Tr.pk F102a.1 9
def r102_10 : IC:=Tr.pk F102a.1 10
def r102_11 : IC:=Tr.pk F102a.1 11
def r102_12 : IC:=Tr.pk F102a.1 12
def r102_13 : IC:=Tr.pk F102a.1 13
def r102_14 : IC:=Tr.pk F102a.1 14
def r102_15 : IC:=Tr.pk F102a.1 15
def r102_16 : IC:=Tr.pk F102a.1 16
def r102_17 : IC:=Tr.pk F102a.1 17
def r102_18 : IC:=Tr.pk F102a.1 18
def r102_19 : IC:=Tr.pk F102a.1 19
def r102_20 : IC:=Tr.pk F102a.1 20
noncomputable def i102 : IFn:=⟨1,(.seq r102_0 (.seq (.seq r102_1 (.block 0 (.loop [0,2,14,15,16] (.seq r102_2 (.seq (.cond (.tmp 17) (.skip) (.exit 0)) (.seq (.block 1 (.seq r102_3 (.seq (.seq r102_4 (.cond (.tmp 22) (.seq r102_5 (.seq (.seq r102_6 (.cond (.tmp 34) (.seq r102_7 .ret) (.skip))) (.seq r102_8 (.cond (.tmp 45) (.seq r102_9 .ret) (.skip))))) (.skip))) (.seq r102_10 (.block 2 (.loop [0,2,4,14,15,16,50,51,52] (.seq r102_11 (.seq (.cond (.tmp 53) (.skip) (.exit 2)) (.seq (.block 3 (.seq r102_12 (.seq r102_13 (.seq (.seq r102_14 (.cond (.tmp 66) (.seq r102_15 .ret) (.skip))) (.seq r102_16 (.cond (.tmp 78) (.seq r102_17 .ret) (.skip))))))) r102_18))))))))) r102_19)))))) (.seq r102_20 .ret))),[.cell 2 (some 2)]⟩
theorem c102 : chkFn Tryz.prog Tryz.f102 i102 = true:=by kernel_rfl
def F103a : {l : List IC // Tr.fn Tr.TT Tryz.f103 0 [[0,2],[0,2,8,9,10],[0,2,8,9,10,11],[0,2,3,4,8,9,10],[0,2,4,8,9,10,20],[2],[0,2,8,9,10],[2]] = l}:=⟨_,by cbv⟩
def r103_0 : IC:=Tr.pk F103a.1 0
def r103_1 : IC:=Tr.pk F103a.1 1
def r103_2 : IC:=Tr.pk F103a.1 2
def r103_3 : IC:=Tr.pk F103a.1 3
def r103_4 : IC:=Tr.pk F103a.1 4
def r103_5 : IC:=Tr.pk F103a.1 5
def r103_6 : IC:=Tr.pk F103a.1 6
def r103_7 : IC:=Tr.pk F103a.1 7
noncomputable def i103 : IFn:=⟨1,(.seq r103_0 (.seq (.seq r103_1 (.block 0 (.loop [0,2,8,9,10] (.seq r103_2 (.seq (.cond (.tmp 11) (.skip) (.exit 0)) (.seq (.block 1 (.seq r103_3 (.seq r103_4 (.cond (.tmp 20) (.seq r103_5 .ret) (.skip))))) r103_6)))))) (.seq r103_7 .ret))),[.cell 2 (some 2)]⟩
theorem c103 : chkFn Tryz.prog Tryz.f103 i103 = true:=by kernel_rfl
def F104a : {l : List IC // Tr.fn Tr.TT Tryz.f104 0 [[0,10,11],[0,10,11,12],[0,2,10,11],[0,2,3,10,11],[0,3,10,11,16,17,18],[0,3,10,11,16,17,18,19],[0,3,4,5,10,11,16,17,18],[0,3,4,10,11,16,17,18,23],[0,3,10,11,16,17,18],[0,3,10,11,16,17,18],[0,10,11],[0,10,11]] = l}:=⟨_,by cbv⟩
def r104_0 : IC:=Tr.pk F104a.1 0
def r104_1 : IC:=Tr.pk F104a.1 1
def r104_2 : IC:=Tr.pk F104a.1 2
def r104_3 : IC:=Tr.pk F104a.1 3
def r104_4 : IC:=Tr.pk F104a.1 4
def r104_5 : IC:=Tr.pk F104a.1 5
def r104_6 : IC:=Tr.pk F104a.1 6
def r104_7 : IC:=Tr.pk F104a.1 7
def r104_8 : IC:=Tr.pk F104a.1 8
def r104_9 : IC:=Tr.pk F104a.1 9
def r104_10 : IC:=Tr.pk F104a.1 10
def r104_11 : IC:=Tr.pk F104a.1 11
noncomputable def i104 : IFn:=⟨1,(.seq r104_0 (.block 0 (.loop [0,10,11] (.seq r104_1 (.seq (.cond (.tmp 12) (.skip) (.exit 0)) (.seq (.block 1 (.seq r104_2 (.seq r104_3 (.seq (.seq r104_4 (.block 2 (.loop [0,3,10,11,16,17,18] (.seq r104_5 (.seq (.cond (.tmp 19) (.skip) (.exit 2)) (.seq (.block 3 (.seq r104_6 (.seq r104_7 (.cond (.tmp 23) r104_8 (.skip))))) r104_9)))))) r104_10)))) r104_11)))))),[]⟩
theorem c104 : chkFn Tryz.prog Tryz.f104 i104 = true:=by kernel_rfl
def F105a : {l : List IC // Tr.fn Tr.TT Tryz.f105 0 [[0,1,4],[0,1,4,5],[0,1,4,5,28,29,30],[0,1,4,5,28,29,30,31],[0,1,4,5,6,7,28,29,30],[0,1,4,5,7,28,29,30,38,39,40],[0,1,4,5,7,28,29,30,38,39,40,41],[0,1,4,5,7,9,28,29,30,38,39,40],[0,1,4,5,7,28,29,30,38,39,40,48],[4],[0,1,4,5,7,28,29,30,38,39,40],[0,1,4,5,7,12,28,29,30],[0,1,4,5,7,28,29,30,63],[4],[0,1,4,5,13,28,29,30],[0,1,4,5,13,28,29,30,73],[4],[0,1,4,5,28,29,30],[0,1,4,5,77,78,79],[0,1,4,5,77,78,79,80],[0,1,4,5,14,15,77,78,79],[0,1,4,5,15,77,78,79,85],[4],[0,1,4,5,16,77,78,79],[0,1,4,5,16,77,78,79,95],[4],[0,1,4,5,77,78,79],[0,1,4,99,100,101],[0,1,4,99,100,101,102],[0,1,4,17,18,99,100,101],[0,1,4,19,99,100,101],[0,1,4,19,99,100,101,113],[4],[0,1,4,99,100,101],[4]] = l}:=⟨_,by cbv⟩
def r105_0 : IC:=Tr.pk F105a.1 0
def r105_1 : IC:=Tr.pk F105a.1 1
def r105_2 : IC:=Tr.pk F105a.1 2
def r105_3 : IC:=Tr.pk F105a.1 3
def r105_4 : IC:=Tr.pk F105a.1 4
def r105_5 : IC:=Tr.pk F105a.1 5
def r105_6 : IC:=Tr.pk F105a.1 6
def r105_7 : IC:=Tr.pk F105a.1 7
def r105_8 : IC:=Tr.pk F105a.1 8
def r105_9 : IC:=Tr.pk F105a.1 9
def r105_10 : IC:=Tr.pk F105a.1 10
def r105_11 : IC:=Tr.pk F105a.1 11
def r105_12 : IC:=Tr.pk F105a.1 12
def r105_13 : IC:=Tr.pk F105a.1 13
def r105_14 : IC:=Tr.pk F105a.1 14
def r105_15 : IC:=Tr.pk F105a.1 15
def r105_16 : IC:=Tr.pk F105a.1 16
def r105_17 : IC:=Tr.pk F105a.1 17
def r105_18 : IC:=Tr.pk F105a.1 18
def r105_19 : IC:=Tr.pk F105a.1 19
def r105_20 : IC:=Tr.pk F105a.1 20
def r105_21 : IC:=Tr.pk F105a.1 21
def r105_22 : IC:=Tr.pk F105a.1 22
def r105_23 : IC:=Tr.pk F105a.1 23
def r105_24 : IC:=Tr.pk F105a.1 24
def r105_25 : IC:=Tr.pk F105a.1 25
def r105_26 : IC:=Tr.pk F105a.1 26
def r105_27 : IC:=Tr.pk F105a.1 27
def r105_28 : IC:=Tr.pk F105a.1 28
def r105_29 : IC:=Tr.pk F105a.1 29
def r105_30 : IC:=Tr.pk F105a.1 30
def r105_31 : IC:=Tr.pk F105a.1 31
def r105_32 : IC:=Tr.pk F105a.1 32
def r105_33 : IC:=Tr.pk F105a.1 33
def r105_34 : IC:=Tr.pk F105a.1 34
noncomputable def i105 : IFn:=⟨2,(.seq r105_0 (.seq r105_1 (.seq (.seq r105_2 (.block 0 (.loop [0,1,4,5,28,29,30] (.seq r105_3 (.seq (.cond (.tmp 31) (.skip) (.exit 0)) (.seq (.block 1 (.seq r105_4 (.seq (.seq r105_5 (.block 2 (.loop [0,1,4,5,7,28,29,30,38,39,40] (.seq r105_6 (.seq (.cond (.tmp 41) (.skip) (.exit 2)) (.seq (.block 3 (.seq r105_7 (.seq r105_8 (.cond (.tmp 48) (.seq r105_9 .ret) (.skip))))) r105_10)))))) (.seq (.seq r105_11 (.seq r105_12 (.cond (.tmp 63) (.seq r105_13 .ret) (.skip)))) (.seq r105_14 (.seq r105_15 (.cond (.tmp 73) (.seq r105_16 .ret) (.skip)))))))) r105_17)))))) (.seq (.seq r105_18 (.block 4 (.loop [0,1,4,5,77,78,79] (.seq r105_19 (.seq (.cond (.tmp 80) (.skip) (.exit 4)) (.seq (.block 5 (.seq r105_20 (.seq (.seq r105_21 (.cond (.tmp 85) (.seq r105_22 .ret) (.skip))) (.seq r105_23 (.seq r105_24 (.cond (.tmp 95) (.seq r105_25 .ret) (.skip))))))) r105_26)))))) (.seq (.seq r105_27 (.block 6 (.loop [0,1,4,99,100,101] (.seq r105_28 (.seq (.cond (.tmp 102) (.skip) (.exit 6)) (.seq (.block 7 (.seq r105_29 (.seq r105_30 (.seq r105_31 (.cond (.tmp 113) (.seq r105_32 .ret) (.skip)))))) r105_33)))))) (.seq r105_34 .ret)))))),[.cell 4 (some 2)]⟩
theorem c105 : chkFn Tryz.prog Tryz.f105 i105 = true:=by kernel_rfl
def F106a : {l : List IC // Tr.fn Tr.TT Tryz.f106 0 [[0,1,4],[0,1,4,5],[0,4,5,25,26,27],[0,4,5,25,26,27,28],[0,4,5,7,25,26,27],[0,4,5,7,25,26,27,39],[0,4,5,25,26,27,47,48,49],[0,4,5,25,26,27,47,48,49,50],[0,4,5,9,25,26,27,47,48,49],[0,4,5,9,10,11,25,26,27,47,48,49],[0,4,5,9,10,25,26,27,47,48,49,66],[4],[0,4,5,25,26,27,47,48,49,77],[4],[0,4,5,25,26,27,47,48,49],[0,4,5,25,26,27],[4]] = l}:=⟨_,by cbv⟩
def r106_0 : IC:=Tr.pk F106a.1 0
def r106_1 : IC:=Tr.pk F106a.1 1
def r106_2 : IC:=Tr.pk F106a.1 2
def r106_3 : IC:=Tr.pk F106a.1 3
def r106_4 : IC:=Tr.pk F106a.1 4
def r106_5 : IC:=Tr.pk F106a.1 5
def r106_6 : IC:=Tr.pk F106a.1 6
def r106_7 : IC:=Tr.pk F106a.1 7
def r106_8 : IC:=Tr.pk F106a.1 8
def r106_9 : IC:=Tr.pk F106a.1 9
def r106_10 : IC:=Tr.pk F106a.1 10
def r106_11 : IC:=Tr.pk F106a.1 11
def r106_12 : IC:=Tr.pk F106a.1 12
def r106_13 : IC:=Tr.pk F106a.1 13
def r106_14 : IC:=Tr.pk F106a.1 14
def r106_15 : IC:=Tr.pk F106a.1 15
def r106_16 : IC:=Tr.pk F106a.1 16
noncomputable def i106 : IFn:=⟨2,(.seq r106_0 (.seq r106_1 (.seq (.seq r106_2 (.block 0 (.loop [0,4,5,25,26,27] (.seq r106_3 (.seq (.cond (.tmp 28) (.skip) (.exit 0)) (.seq (.block 1 (.seq r106_4 (.seq (.seq r106_5 (.cond (.tmp 39) (.exit 1) (.skip))) (.seq r106_6 (.block 2 (.loop [0,4,5,25,26,27,47,48,49] (.seq r106_7 (.seq (.cond (.tmp 50) (.skip) (.exit 2)) (.seq (.block 3 (.seq r106_8 (.seq r106_9 (.seq (.seq r106_10 (.cond (.tmp 66) (.seq r106_11 .ret) (.skip))) (.seq r106_12 (.cond (.tmp 77) (.seq r106_13 .ret) (.skip))))))) r106_14))))))))) r106_15)))))) (.seq r106_16 .ret)))),[.cell 4 (some 2)]⟩
theorem c106 : chkFn Tryz.prog Tryz.f106 i106 = true:=by kernel_rfl
def F149a : {l : List IC // Tr.fn Tr.TT Tryz.f149 0 [[0,1],[0,1,5],[0,5,6],[0,5,6,19],[0,5,6,7],[0,5,6,7],[0,5,6,7,29],[0,5,6,7],[0,5,6],[4]] = l}:=⟨_,by cbv⟩
def r149_0 : IC:=Tr.pk F149a.1 0
def r149_1 : IC:=Tr.pk F149a.1 1
def r149_2 : IC:=Tr.pk F149a.1 2
def r149_3 : IC:=Tr.pk F149a.1 3
def r149_4 : IC:=Tr.pk F149a.1 4
def r149_5 : IC:=Tr.pk F149a.1 5
def r149_6 : IC:=Tr.pk F149a.1 6
def r149_7 : IC:=Tr.pk F149a.1 7
def r149_8 : IC:=Tr.pk F149a.1 8
def r149_9 : IC:=Tr.pk F149a.1 9
noncomputable def i149 : IFn:=⟨2,(.seq r149_0 (.seq r149_1 (.seq r149_2 (.seq (.block 0 (.loop [0,5,6] (.seq (.seq r149_3 (.cond (.tmp 19) (.skip) (.exit 0))) (.block 1 (.seq r149_4 (.seq r149_5 (.seq r149_6 (.cond (.tmp 29) (.seq r149_7 r149_8) (.skip))))))))) (.seq r149_9 .ret))))),[.tmp 4]⟩
theorem c149 : chkFn Tryz.prog Tryz.f149 i149 = true:=by kernel_rfl
def F20a : {l : List IC // Tr.fn Tr.TT Tryz.f20 0 [[0,3,4],[0,3,4,12],[0,3,4,6],[0,3,4,24],[4],[0,4,29,30,31],[0,4,29,30,31,32],[0,4,8,29,30,31],[0,4,9,29,30,31],[0,4,9,29,30,31,40],[4],[0,4,29,30,31],[4]] = l}:=⟨_,by cbv⟩
def r20_0 : IC:=Tr.pk F20a.1 0
def r20_1 : IC:=Tr.pk F20a.1 1
def r20_2 : IC:=Tr.pk F20a.1 2
def r20_3 : IC:=Tr.pk F20a.1 3
def r20_4 : IC:=Tr.pk F20a.1 4
def r20_5 : IC:=Tr.pk F20a.1 5
def r20_6 : IC:=Tr.pk F20a.1 6
def r20_7 : IC:=Tr.pk F20a.1 7
def r20_8 : IC:=Tr.pk F20a.1 8
def r20_9 : IC:=Tr.pk F20a.1 9
def r20_10 : IC:=Tr.pk F20a.1 10
def r20_11 : IC:=Tr.pk F20a.1 11
def r20_12 : IC:=Tr.pk F20a.1 12
noncomputable def i20 : IFn:=⟨2,(.seq r20_0 (.seq (.seq r20_1 (.cond (.tmp 12) (.seq r20_2 (.seq r20_3 (.cond (.tmp 24) (.seq r20_4 .ret) (.skip)))) (.skip))) (.seq (.seq r20_5 (.block 0 (.loop [0,4,29,30,31] (.seq r20_6 (.seq (.cond (.tmp 32) (.skip) (.exit 0)) (.seq (.block 1 (.seq r20_7 (.seq r20_8 (.seq r20_9 (.cond (.tmp 40) (.seq r20_10 .ret) (.skip)))))) r20_11)))))) (.seq r20_12 .ret)))),[.cell 4 (some 2)]⟩
theorem c20 : chkFn Tryz.prog Tryz.f20 i20 = true:=by kernel_rfl
def F150a : {l : List IC // Tr.fn Tr.TT Tryz.f150 0 [[0,1,4],[0,1,4,10,11,12],[0,1,4,10,11,12,13],[0,1,4,5,6,10,11,12],[0,1,4,6,10,11,12,19,20,21],[0,1,4,6,10,11,12,19,20,21,22],[0,1,4,6,8,10,11,12,19,20,21],[0,1,4,6,10,11,12,19,20,21,29],[4],[0,1,4,6,10,11,12,19,20,21],[0,1,4,9,10,11,12],[0,1,4,9,10,11,12,40],[4],[0,1,4,10,11,12],[4]] = l}:=⟨_,by cbv⟩
def r150_0 : IC:=Tr.pk F150a.1 0
def r150_1 : IC:=Tr.pk F150a.1 1
def r150_2 : IC:=Tr.pk F150a.1 2
def r150_3 : IC:=Tr.pk F150a.1 3
def r150_4 : IC:=Tr.pk F150a.1 4
def r150_5 : IC:=Tr.pk F150a.1 5
def r150_6 : IC:=Tr.pk F150a.1 6
def r150_7 : IC:=Tr.pk F150a.1 7
def r150_8 : IC:=Tr.pk F150a.1 8
def r150_9 : IC:=Tr.pk F150a.1 9
def r150_10 : IC:=Tr.pk F150a.1 10
def r150_11 : IC:=Tr.pk F150a.1 11
def r150_12 : IC:=Tr.pk F150a.1 12
def r150_13 : IC:=Tr.pk F150a.1 13
def r150_14 : IC:=Tr.pk F150a.1 14
noncomputable def i150 : IFn:=⟨2,(.seq r150_0 (.seq (.seq r150_1 (.block 0 (.loop [0,1,4,10,11,12] (.seq r150_2 (.seq (.cond (.tmp 13) (.skip) (.exit 0)) (.seq (.block 1 (.seq r150_3 (.seq (.seq r150_4 (.block 2 (.loop [0,1,4,6,10,11,12,19,20,21] (.seq r150_5 (.seq (.cond (.tmp 22) (.skip) (.exit 2)) (.seq (.block 3 (.seq r150_6 (.seq r150_7 (.cond (.tmp 29) (.seq r150_8 .ret) (.skip))))) r150_9)))))) (.seq r150_10 (.seq r150_11 (.cond (.tmp 40) (.seq r150_12 .ret) (.skip))))))) r150_13)))))) (.seq r150_14 .ret))),[.cell 4 (some 2)]⟩
theorem c150 : chkFn Tryz.prog Tryz.f150 i150 = true:=by kernel_rfl
def F151a : {l : List IC // Tr.fn Tr.TT Tryz.f151 0 [[0,1,2,7,8],[0,1,2,7,8,9],[0,1,2,7,8,9,24],[8],[0,1,2,7,8,10],[0,1,2,7,8,10,32],[8],[0,1,2,7,8,11],[0,1,7,8,11,48,49,50],[0,1,7,8,11,48,49,50,51],[0,1,7,8,11,13,48,49,50],[0,1,7,8,11,48,49,50,60],[8],[0,1,7,8,11,48,49,50],[0,7,8,11,71,72,73],[0,7,8,11,71,72,73,74],[0,7,8,11,15,71,72,73],[0,7,8,11,16,17,71,72,73],[0,7,8,11,71,72,73,93],[8],[0,7,8,11,71,72,73],[8]] = l}:=⟨_,by cbv⟩
def r151_0 : IC:=Tr.pk F151a.1 0
def r151_1 : IC:=Tr.pk F151a.1 1
def r151_2 : IC:=Tr.pk F151a.1 2
def r151_3 : IC:=Tr.pk F151a.1 3
def r151_4 : IC:=Tr.pk F151a.1 4
def r151_5 : IC:=Tr.pk F151a.1 5
def r151_6 : IC:=Tr.pk F151a.1 6
def r151_7 : IC:=Tr.pk F151a.1 7
def r151_8 : IC:=Tr.pk F151a.1 8
def r151_9 : IC:=Tr.pk F151a.1 9
def r151_10 : IC:=Tr.pk F151a.1 10
def r151_11 : IC:=Tr.pk F151a.1 11
def r151_12 : IC:=Tr.pk F151a.1 12
def r151_13 : IC:=Tr.pk F151a.1 13
def r151_14 : IC:=Tr.pk F151a.1 14
def r151_15 : IC:=Tr.pk F151a.1 15
def r151_16 : IC:=Tr.pk F151a.1 16
def r151_17 : IC:=Tr.pk F151a.1 17
def r151_18 : IC:=Tr.pk F151a.1 18
def r151_19 : IC:=Tr.pk F151a.1 19
def r151_20 : IC:=Tr.pk F151a.1 20
def r151_21 : IC:=Tr.pk F151a.1 21
noncomputable def i151 : IFn:=⟨4,(.seq r151_0 (.seq (.seq r151_1 (.seq r151_2 (.cond (.tmp 24) (.seq r151_3 .ret) (.skip)))) (.seq (.seq r151_4 (.seq r151_5 (.cond (.tmp 32) (.seq r151_6 .ret) (.skip)))) (.seq r151_7 (.seq (.seq r151_8 (.block 0 (.loop [0,1,7,8,11,48,49,50] (.seq r151_9 (.seq (.cond (.tmp 51) (.skip) (.exit 0)) (.seq (.block 1 (.seq r151_10 (.seq r151_11 (.cond (.tmp 60) (.seq r151_12 .ret) (.skip))))) r151_13)))))) (.seq (.seq r151_14 (.block 2 (.loop [0,7,8,11,71,72,73] (.seq r151_15 (.seq (.cond (.tmp 74) (.skip) (.exit 2)) (.seq (.block 3 (.seq r151_16 (.seq r151_17 (.seq r151_18 (.cond (.tmp 93) (.seq r151_19 .ret) (.skip)))))) r151_20)))))) (.seq r151_21 .ret))))))),[.cell 8 (some 2)]⟩
theorem c151 : chkFn Tryz.prog Tryz.f151 i151 = true:=by kernel_rfl
def F65a : {l : List IC // Tr.fn Tr.TT Tryz.f65 0 [[0,1,2,6],[2,6,17,18,19],[2,6,17,18,19,20],[2,6,9,17,18,19],[2,6,9,17,18,19,29],[6,7],[2,6,17,18,19],[6,7]] = l}:=⟨_,by cbv⟩
def r65_0 : IC:=Tr.pk F65a.1 0
def r65_1 : IC:=Tr.pk F65a.1 1
def r65_2 : IC:=Tr.pk F65a.1 2
def r65_3 : IC:=Tr.pk F65a.1 3
def r65_4 : IC:=Tr.pk F65a.1 4
def r65_5 : IC:=Tr.pk F65a.1 5
def r65_6 : IC:=Tr.pk F65a.1 6
def r65_7 : IC:=Tr.pk F65a.1 7
noncomputable def i65 : IFn:=⟨3,(.seq r65_0 (.seq (.seq r65_1 (.block 0 (.loop [2,6,17,18,19] (.seq r65_2 (.seq (.cond (.tmp 20) (.skip) (.exit 0)) (.seq (.block 1 (.seq r65_3 (.seq r65_4 (.cond (.tmp 29) (.seq r65_5 .ret) (.skip))))) r65_6)))))) (.seq r65_7 .ret))),[.cell 6 (some 11),.tmp 7]⟩
theorem c65 : chkFn Tryz.prog Tryz.f65 i65 = true:=by kernel_rfl
def F30a : {l : List IC // Tr.fn Tr.TT Tryz.f30 0 [[0,1,2,6],[0,2,6,15,16,17],[0,2,6,15,16,17,18],[0,2,6,10,15,16,17],[0,2,6,10,15,16,17,28,29,30],[0,2,6,10,15,16,17,28,29,30,31],[0,2,6,10,12,15,16,17,28,29,30],[0,2,6,10,12,15,16,17,28,29,30,37],[6,7,8],[0,2,6,10,15,16,17,28,29,30],[0,2,6,15,16,17],[6,7,8]] = l}:=⟨_,by cbv⟩
def r30_0 : IC:=Tr.pk F30a.1 0
def r30_1 : IC:=Tr.pk F30a.1 1
def r30_2 : IC:=Tr.pk F30a.1 2
def r30_3 : IC:=Tr.pk F30a.1 3
def r30_4 : IC:=Tr.pk F30a.1 4
def r30_5 : IC:=Tr.pk F30a.1 5
def r30_6 : IC:=Tr.pk F30a.1 6
def r30_7 : IC:=Tr.pk F30a.1 7
def r30_8 : IC:=Tr.pk F30a.1 8
def r30_9 : IC:=Tr.pk F30a.1 9
def r30_10 : IC:=Tr.pk F30a.1 10
def r30_11 : IC:=Tr.pk F30a.1 11
noncomputable def i30 : IFn:=⟨3,(.seq r30_0 (.seq (.seq r30_1 (.block 0 (.loop [0,2,6,15,16,17] (.seq r30_2 (.seq (.cond (.tmp 18) (.skip) (.exit 0)) (.seq (.block 1 (.seq r30_3 (.seq r30_4 (.block 2 (.loop [0,2,6,10,15,16,17,28,29,30] (.seq r30_5 (.seq (.cond (.tmp 31) (.skip) (.exit 2)) (.seq (.block 3 (.seq r30_6 (.seq r30_7 (.cond (.tmp 37) (.seq r30_8 .ret) (.skip))))) r30_9)))))))) r30_10)))))) (.seq r30_11 .ret))),[.cell 6 (some 9),.tmp 7,.tmp 8]⟩
theorem c30 : chkFn Tryz.prog Tryz.f30 i30 = true:=by kernel_rfl
def F66a : {l : List IC // Tr.fn Tr.TT Tryz.f66 0 [[0,1],[0,1,5],[0,5,6,7],[0,5,6,17],[0,5,6],[0,5,6,7],[4]] = l}:=⟨_,by cbv⟩
def r66_0 : IC:=Tr.pk F66a.1 0
def r66_1 : IC:=Tr.pk F66a.1 1
def r66_2 : IC:=Tr.pk F66a.1 2
def r66_3 : IC:=Tr.pk F66a.1 3
def r66_4 : IC:=Tr.pk F66a.1 4
def r66_5 : IC:=Tr.pk F66a.1 5
def r66_6 : IC:=Tr.pk F66a.1 6
noncomputable def i66 : IFn:=⟨2,(.seq r66_0 (.seq r66_1 (.seq (.seq r66_2 (.block 0 (.loop [0,5,6,7] (.seq (.seq r66_3 (.cond (.tmp 17) (.skip) (.exit 0))) (.seq (.block 1 r66_4) r66_5))))) (.seq r66_6 .ret)))),[.tmp 4]⟩
theorem c66 : chkFn Tryz.prog Tryz.f66 i66 = true:=by kernel_rfl
def F26a : {l : List IC // Tr.fn Tr.TT Tryz.f26 0 [[0,1,2,6],[0,2,6,14,15,16],[0,2,6,14,15,16,17],[0,2,6,9,14,15,16],[0,2,6,9,10,11,14,15,16],[0,2,6,9,10,14,15,16,27],[6,7],[0,2,6,14,15,16],[6,7]] = l}:=⟨_,by cbv⟩
def r26_0 : IC:=Tr.pk F26a.1 0
def r26_1 : IC:=Tr.pk F26a.1 1
def r26_2 : IC:=Tr.pk F26a.1 2
def r26_3 : IC:=Tr.pk F26a.1 3
def r26_4 : IC:=Tr.pk F26a.1 4
def r26_5 : IC:=Tr.pk F26a.1 5
def r26_6 : IC:=Tr.pk F26a.1 6
def r26_7 : IC:=Tr.pk F26a.1 7
def r26_8 : IC:=Tr.pk F26a.1 8
noncomputable def i26 : IFn:=⟨3,(.seq r26_0 (.seq (.seq r26_1 (.block 0 (.loop [0,2,6,14,15,16] (.seq r26_2 (.seq (.cond (.tmp 17) (.skip) (.exit 0)) (.seq (.block 1 (.seq r26_3 (.seq r26_4 (.seq r26_5 (.cond (.tmp 27) (.seq r26_6 .ret) (.skip)))))) r26_7)))))) (.seq r26_8 .ret))),[.cell 6 (some 13),.tmp 7]⟩
theorem c26 : chkFn Tryz.prog Tryz.f26 i26 = true:=by kernel_rfl
def F64a : {l : List IC // Tr.fn Tr.TT Tryz.f64 0 [[0,1],[0,1,5,6],[0,1,5,17],[4],[0,1,5,25],[4],[4]] = l}:=⟨_,by cbv⟩
def r64_0 : IC:=Tr.pk F64a.1 0
def r64_1 : IC:=Tr.pk F64a.1 1
def r64_2 : IC:=Tr.pk F64a.1 2
def r64_3 : IC:=Tr.pk F64a.1 3
def r64_4 : IC:=Tr.pk F64a.1 4
def r64_5 : IC:=Tr.pk F64a.1 5
def r64_6 : IC:=Tr.pk F64a.1 6
noncomputable def ifn64 : IFn:=⟨2,(.seq r64_0 (.seq r64_1 (.seq (.seq r64_2 (.cond (.tmp 17) (.seq r64_3 .ret) (.skip))) (.seq (.seq r64_4 (.cond (.tmp 25) (.seq r64_5 .ret) (.skip))) (.seq r64_6 .ret))))),[.tmp 4]⟩
theorem c64 : chkFn Tryz.prog Tryz.f64 ifn64 = true:=by kernel_rfl
def F15a : {l : List IC // Tr.fn Tr.TT Tryz.f15 0 [[1],[1,4],[1,4,5],[2],[1,4,7],[2],[1,4,9],[2],[1,4,13],[1,18],[2],[2],[25],[2],[2]] = l}:=⟨_,by cbv⟩
def r15_0 : IC:=Tr.pk F15a.1 0
def r15_1 : IC:=Tr.pk F15a.1 1
def r15_2 : IC:=Tr.pk F15a.1 2
def r15_3 : IC:=Tr.pk F15a.1 3
def r15_4 : IC:=Tr.pk F15a.1 4
def r15_5 : IC:=Tr.pk F15a.1 5
def r15_6 : IC:=Tr.pk F15a.1 6
def r15_7 : IC:=Tr.pk F15a.1 7
def r15_8 : IC:=Tr.pk F15a.1 8
def r15_9 : IC:=Tr.pk F15a.1 9
def r15_10 : IC:=Tr.pk F15a.1 10
def r15_11 : IC:=Tr.pk F15a.1 11
def r15_12 : IC:=Tr.pk F15a.1 12
def r15_13 : IC:=Tr.pk F15a.1 13
def r15_14 : IC:=Tr.pk F15a.1 14
noncomputable def i15 : IFn:=⟨1,(.seq r15_0 (.seq (.seq r15_1 (.block 0 (.seq r15_2 (.cond (.tmp 5) (.seq r15_3 .ret) (.seq r15_4 (.cond (.tmp 7) (.seq r15_5 .ret) (.seq r15_6 (.cond (.tmp 9) (.seq r15_7 .ret) (.seq r15_8 (.cond (.tmp 13) (.seq (.seq r15_9 (.cond (.tmp 18) (.seq r15_10 .ret) (.skip))) (.seq r15_11 .ret)) (.seq r15_12 (.cond (.tmp 25) (.seq r15_13 .ret) (.skip))))))))))))) (.seq r15_14 .ret))),[.tmp 2]⟩
theorem c15 : chkFn Tryz.prog Tryz.f15 i15 = true:=by kernel_rfl
def F17a : {l : List IC // Tr.fn Tr.TT Tryz.f17 0 [[0,1],[0,1,5],[0,5,8,9,10],[0,5,8,9,10,11],[0,5,7,8,9,10],[0,5,8,9,10],[0,5,8,9,10],[4]] = l}:=⟨_,by cbv⟩
def r17_0 : IC:=Tr.pk F17a.1 0
def r17_1 : IC:=Tr.pk F17a.1 1
def r17_2 : IC:=Tr.pk F17a.1 2
def r17_3 : IC:=Tr.pk F17a.1 3
def r17_4 : IC:=Tr.pk F17a.1 4
def r17_5 : IC:=Tr.pk F17a.1 5
def r17_6 : IC:=Tr.pk F17a.1 6
def r17_7 : IC:=Tr.pk F17a.1 7
noncomputable def i17 : IFn:=⟨2,(.seq r17_0 (.seq r17_1 (.seq (.seq r17_2 (.block 0 (.loop [0,5,8,9,10] (.seq r17_3 (.seq (.cond (.tmp 11) (.skip) (.exit 0)) (.seq (.block 1 (.seq r17_4 r17_5)) r17_6)))))) (.seq r17_7 .ret)))),[.tmp 4]⟩
theorem c17 : chkFn Tryz.prog Tryz.f17 i17 = true:=by kernel_rfl
def F55a : {l : List IC // Tr.fn Tr.TT Tryz.f55 0 [[1,3],[3,4],[3,4,25,26,27],[3,4,25,26,27,28],[3,4,6,25,26,27],[3,4,7,25,26,27],[3,4,7,25,26,27,35],[2,3],[3,4,25,26,27],[3,4],[3,4,44,45],[3,4,44,45,46],[3,4,8,44,45],[3,4,9,44,45],[3,4,9,44,45,53],[2,3],[3,4,44,45],[3,4,60,61],[3,4,60,61,62],[3,4,10,60,61],[3,4,11,60,61],[3,4,11,60,61,69],[2,3],[3,4,60,61],[2,3]] = l}:=⟨_,by cbv⟩
def r55_0 : IC:=Tr.pk F55a.1 0
def r55_1 : IC:=Tr.pk F55a.1 1
def r55_3 : IC:=Tr.pk F55a.1 3
def r55_4 : IC:=Tr.pk F55a.1 4
def r55_5 : IC:=Tr.pk F55a.1 5
def r55_6 : IC:=Tr.pk F55a.1 6
def r55_7 : IC:=Tr.pk F55a.1 7
def r55_8 : IC:=Tr.pk F55a.1 8
def r55_9 : IC:=Tr.pk F55a.1 9
def r55_10 : IC:=Tr.pk F55a.1 10
def r55_11 : IC:=Tr.pk F55a.1 11
def r55_12 : IC:=Tr.pk F55a.1 12
def r55_13 : IC:=Tr.pk F55a.1 13
def r55_14 : IC:=Tr.pk F55a.1 14
def r55_15 : IC:=Tr.pk F55a.1 15
def r55_16 : IC:=Tr.pk F55a.1 16
def r55_17 : IC:=Tr.pk F55a.1 17
def r55_18 : IC:=Tr.pk F55a.1 18
def r55_19 : IC:=Tr.pk F55a.1 19
def r55_20 : IC:=Tr.pk F55a.1 20
def r55_21 : IC:=Tr.pk F55a.1 21
def r55_22 : IC:=Tr.pk F55a.1 22
def r55_23 : IC:=Tr.pk F55a.1 23
def r55_24 : IC:=Tr.pk F55a.1 24
end Go.Proofs.YtmeakjgbjldkdaaGreat.Ai
namespace Go.Proofs.YtmeakjgbjldkdaaGreat.Ai
open Go
variable {pr : Prims} {F : Nat → Option IFn}
def RdOk (pr : Prims) (F : Nat → Option IFn) (x : Str) (p : Prg) (ok : Bool) : Prop:=
 (ok = true → okPrg p ∧ p.classes.length ≤ 70 ∧ wL wCls p.classes + wSms p.main ≤ 42000000) ∧
 ∀ (H : List Blk) (rw : List Nat),Det pr F 14 [.str x] ⟨H,rw⟩ (.ret (.tup [.agg (prgRow p),.bool ok])) ⟨H,rw⟩
structure LibC (pr : Prims) (F : Nat → Option IFn) : Prop extends LibS pr F where
 f19 : Has pr F 19 i19
 rd : ∀ x,∃ p ok,RdOk pr F x p ok
structure ReadOut where
 p : Prg
 ok : Bool
 rw : List Nat
def ReadOut.good (rw : List Nat) (o : ReadOut) : Prop:=Rx rw o.rw ∧ (o.ok = true → okPrg o.p ∧ o.p.classes.length ≤ 70 ∧ wL wCls o.p.classes + wSms o.p.main ≤ 42000000)
theorem take_own {H M : List Blk} {z b : Blk} : (hp (H ++ [z]) H.length b M).take H.length = H:=by
 unfold hp
 rw [List.take_set]
 simp [List.set_eq_of_length_le]
theorem load_own {kd : Nat} {H M : List Blk} {z : Blk} {vs : List AV} (hv : Row kd vs) : aload (some kd) (.ptr H.length 0) (hp (H ++ [z]) H.length (.cells vs) M) = some (.agg vs):=by
 have e1 : (hp (H ++ [z]) H.length (.cells vs) M)[H.length]? = some (.cells vs):=hp_get (by simp)
 have:=hv.load
 simp only [aload,e1]
 simpa only [aload,List.getElem?_cons_zero] using this
theorem read_end {H H1 M : List Blk} {rw rw' : List Nat} {p : Prg} {z : Blk} {vs : List AV} {c : Bool} (hH : H1 = H ++ [z]) (hv : vs = prgRow p) (hg : ReadOut.good rw ⟨p,c,rw'⟩) :
  fin [.cell 2 (some 2),.tmp 3] H.length (fun r S' => ∃ o : ReadOut,o.good rw ∧ r = .ret (.tup [.agg (prgRow o.p),.bool o.ok]) ∧ S' = ⟨H,o.rw⟩) .ret [(2,.ptr H.length 0),(3,.bool c)] ⟨hp H1 H.length (.cells vs) M,rw'⟩:=by
 subst hH hv
 have e2 : rvals [.cell 2 (some 2),.tmp 3] [(2,.ptr H.length 0),(3,.bool c)] (hp (H ++ [z]) H.length (.cells (prgRow p)) M) = some [.agg (prgRow p),.bool c]:=by
  show (match aload (some 2) (.ptr H.length 0) (hp (H ++ [z]) H.length (.cells (prgRow p)) M) with | some v => _ | none => _) = _
  rw [load_own (row_prg p)]
  first | done | rfl
 refine fin_tup e2 ?_ take_own ⟨⟨p,c,rw'⟩,hg,rfl,rfl⟩
 have this : Ai.belowL H.length (prgRow p) = true:=(row_prg p).below H.length
 simp only [Ai.belowL,this,Ai.below,Bool.and_self]
theorem det_read (L : LibS pr F) (h14 : Has pr F 14 i14) (H : List Blk) (rw : List Nat) (x : Str) : ∃ o : ReadOut,o.good rw ∧ Det pr F 14 [.str x] ⟨H,rw⟩ (.ret (.tup [.agg (prgRow o.p),.bool o.ok])) ⟨H,o.rw⟩:=by
 have hm:=L.hm
 suffices h : Wp pr F 14 [.str x] ⟨H,rw⟩ fun r S' => ∃ o : ReadOut,o.good rw ∧ r = .ret (.tup [.agg (prgRow o.p),.bool o.ok]) ∧ S' = ⟨H,o.rw⟩ by
  obtain ⟨r,S',hd,x,hp,rfl,rfl⟩:=h.det hm
  exact ⟨x,hp,hd⟩
 refine at_start hm h14.1 h14.2 rfl ?_
 refine' hGO
 obtain ⟨H1,hH1⟩ : ∃ H1,H1 = H ++ [Blk.cells [.list 0 .full [],.list 0 .full []]]:=⟨_,rfl⟩
 have hlen : H1.length = H.length + 1:=by rw [hH1]; simp
 have hlt : H.length < H1.length:=by omega
 have hget : hp H1 H.length (.cells [.list 0 .full [],.list 0 .full []]) [] = H ++ [Blk.cells [.list 0 .full [],.list 0 .full []]]:=by subst hH1; simp [hp]
 unfold r14_0
 show At pr F H.length (fin _ H.length _) _ _ _ _
 refine at_region hm (H:=hp H1 H.length (.cells [.list 0 .full [],.list 0 .full []]) []) (by rw [hget]; rfl) rfl ?_
 refine id_alloc ?_
 refine in_alloc (q:=H.length) rfl rfl (hp_get hlt) ?_
 have hR : Rx rw rw:=Rx.rfl
 refine' hG
 ·refine id_store ?_
  refine g_store rfl rfl rfl ?_
  refine s_n hlt (Nat.le_refl _) rfl rfl rfl ?_
  refine zrk ?_
  refine' hG
  exact read_end (p:=⟨[],[]⟩) hH1 (by simp [prgRow,smRows,lst]) ⟨hR,fun h => absurd h (by simp)⟩
 ·obtain ⟨o,⟨hR1,hg1,hg2⟩,hdet⟩:=det_program L (hp H1 H.length (.cells [.list 0 .full [],.list 0 .full []]) [.cells [.list 0 .full [],.list 0 .full []]]) rw x (by omega)
  obtain ⟨p,oc,oa,rw1⟩:=o
  obtain ⟨z,tg,hz,-,-⟩:=isL_lst (sz:=9) (rows:=p.classes.map clsRow)
  simp only [prgRow,hz] at hR1 hg1 hg2 hdet
  have hcan : canonL [.list z tg (p.classes.map clsRow),lst 7 (smRows p.main)] = prgRow p:=by rw [← hz]; exact (row_prg p).can
  have hlm : (p.classes.map clsRow).length = p.classes.length:=List.length_map _
  refine g_call rfl rfl rfl ?_
  refine ⟨_,_,hdet,?_⟩
  replace hR:=hR.trans hR1
  refine zrk ?_
  refine' hG
  all_goals refine id_store ?_
  all_goals refine g_store rfl rfl rfl ?_
  all_goals refine s_n hlt (Nat.le_refl _) rfl rfl rfl ?_
  ·refine zrk ?_
   refine' hG
   exact read_end hH1 hcan ⟨hR,fun _ => ⟨(hg1 (by assumption)).1,by simp only; omega,(hg1 (by assumption)).2.2⟩⟩
  ·refine zrk ?_
   refine' hG
   exact read_end hH1 hcan ⟨hR,fun h => by simp at h⟩
  ·refine zrk ?_
   refine' hG
   exact read_end hH1 hcan ⟨hR,fun h => by simp at h⟩
end Go.Proofs.YtmeakjgbjldkdaaGreat.Ai
