/- A part of what is proved: R14, R15, R16, R17, R18, R19, R20, R21. No condition. -/
import Derived.Test.YtmeakjgbjldkdaaGreatVa9
set_option maxRecDepth 100000
set_option maxHeartbeats 16000000
namespace Go.Proofs.YtmeakjgbjldkdaaGreat.Ai
open Go
variable {pr : Prims} {F : Nat → Option IFn}
structure OutC where
 C : List AV
 r : Rd
 rw : List Nat
def RP (pr : Prims) (F : Nat → Option IFn) (pre : List Nat → List AV → Prop) (post : Src → Rd → List Nat → List AV → Rd → List Nat → List AV → Prop) (f : Nat) (m : Int) : Prop:=
 ∀ (H : List Blk) (rw : List Nat) (n : Nat) (s : Src) (r : Rd) (C : List AV) (J : List Blk),n < H.length → Rok s r → 101 ≤ r.deep + m → r.deep ≤ 200 → pre rw C →
  ∃ o : OutC,(Nx s r o.r ∧ post s r rw C o.r o.rw o.C) ∧ Det pr F f [.ptr n 0,.ptr (H.length + 0) 0] ⟨hp H n (blk s r) (.cells C :: J),rw⟩ (.ret (.tup [])) ⟨hp H n (blk s o.r) (.cells o.C :: J),o.rw⟩
def PEnd (post : Src → Rd → List Nat → List AV → Rd → List Nat → List AV → Prop) (H : List Blk) (n : Nat) (s : Src) (r : Rd) (rw : List Nat) (C : List AV) (J : List Blk) (q : Res) (S' : St) : Prop:=
 ∃ o : OutC,(Nx s r o.r ∧ post s r rw C o.r o.rw o.C) ∧ q = .ret (.tup []) ∧ S' = ⟨hp H n (blk s o.r) (.cells o.C :: J),o.rw⟩
theorem pend {post : Src → Rd → List Nat → List AV → Rd → List Nat → List AV → Prop} {H : List Blk} {n : Nat} {s : Src} {r r' : Rd} {rw rw' : List Nat} {C C' : List AV} {J : List Blk} (hn : Nx s r r') (hp' : post s r rw C r' rw' C') : PEnd post H n s r rw C J (.ret (.tup [])) ⟨hp H n (blk s r') (.cells C' :: J),rw'⟩:=
 ⟨⟨C',r',rw'⟩,⟨hn,hp'⟩,rfl,rfl⟩
theorem rp_start (hm : Mono pr) {pre : List Nat → List AV → Prop} {post : Src → Rd → List Nat → List AV → Rd → List Nat → List AV → Prop} {f na : Nat} {c : IC} {res : List RVar} {m : Int} (h1 : pr f = none) (h2 : F f = some ⟨na,c,res⟩) (h3 : 2 = na)
  (h : ∀ (H : List Blk) (rw : List Nat) (n : Nat) (s : Src) (r : Rd) (C : List AV) (J : List Blk),n < H.length → s.toks.length ≤ 6000 → Rok s r → 0 ≤ r.i → r.i ≤ s.toks.length → 0 ≤ r.deep → r.deep ≤ 200 → 101 ≤ r.deep + m → pre rw C →
   At pr F (H.length + (J.length + 1)) (fin res (H.length + (J.length + 1)) (PEnd post H n s r rw C J)) c [] (args0 [.ptr n 0,.ptr (H.length + 0) 0]) ⟨hp H n (blk s r) (.cells C :: J),rw⟩) : RP pr F pre post f m:=by
 intro H rw n s r C J hlt hr hd hd2 hpre
 have hw : Wp pr F f [.ptr n 0,.ptr (H.length + 0) 0] ⟨hp H n (blk s r) (.cells C :: J),rw⟩ (PEnd post H n s r rw C J):=by
  refine at_start hm h1 h2 (by simp [← h3]) ?_
  have:=h H rw n s r C J hlt s.small hr hr.lo hr.hi hr.dlo hd2 hd hpre
  rw [show (St.heap ⟨hp H n (blk s r) (.cells C :: J),rw⟩).length = H.length + (J.length + 1) by simp [hp_len]]
  exact this
 obtain ⟨q,S',hd,o,hp,rfl,rfl⟩:=hw.det hm
 exact ⟨o,hp,hd⟩
theorem c_rp {K : AV → St → Prop} {H : List Blk} {rw : List Nat} {n : Nat} {s : Src} {r : Rd} {c0 : Blk} {C : List AV} {J : List Blk} {pre : List Nat → List AV → Prop} {post : Src → Rd → List Nat → List AV → Rd → List Nat → List AV → Prop} {fn : Nat} {m : Int} (hc : RP pr F pre post fn m) (hlt : n < H.length) (hok : Rok s r) (hd : 101 ≤ r.deep + m) (hd2 : r.deep ≤ 200) (hpre : pre rw C)
  (h : ∀ (C' : List AV) (r' : Rd) (rw' : List Nat),Rok s r' → 0 ≤ r'.i → r'.i ≤ s.toks.length → 0 ≤ r'.deep → r.i ≤ r'.i → (r'.code = 0 → r.code = 0) → post s r rw C r' rw' C' → K (.tup []) ⟨hp H n (blk s r') (c0 :: .cells C' :: J),rw'⟩) :
  ClAt pr F fn [.ptr n 0,.ptr (H.length + 1) 0] ⟨hp H n (blk s r) (c0 :: .cells C :: J),rw⟩ K:=by
 obtain ⟨o,⟨hn,hp'⟩,hdet⟩:=hc (H ++ [c0]) rw n s r C J (by simp; omega) hok hd hd2 hpre
 have e : ∀ (b : Blk) (L : List Blk),hp (H ++ [c0]) n b L = hp H n b (c0 :: L):=by intro b L; simp [hp]
 rw [e,e] at hdet
 have e2 : (H ++ [c0]).length + 0 = H.length + 1:=by simp
 rw [e2] at hdet
 exact ⟨_,_,hdet,h o.C o.r o.rw ⟨hn.lo,hn.hi,hn.dlo,hn.dhi⟩ hn.lo hn.hi hn.dlo hn.mono hn.code hp'⟩
theorem hp_takeJ {H : List Blk} {n : Nat} {b c : Blk} {J L : List Blk} (_hn : n < H.length) : (hp H n b (c :: (J ++ L))).take (H.length + (J.length + 1)) = hp H n b (c :: J):=by
 unfold hp
 have e : H ++ c :: (J ++ L) = (H ++ c :: J) ++ L:=by simp
 have e2 : H.length + (J.length + 1) = (H ++ c :: J).length:=by simp
 rw [List.take_set,e,e2,List.take_left]
theorem fin_p {H : List Blk} {n : Nat} {b c : Blk} {J L : List Blk} {rw : List Nat} {e : Env} {Q : Res → St → Prop} (hn : n < H.length) (h : Q (.ret (.tup [])) ⟨hp H n b (c :: J),rw⟩) : fin [] (H.length + (J.length + 1)) Q .normal e ⟨hp H n b (c :: (J ++ L)),rw⟩:=
 fin_none' (hp_takeJ hn) h
structure OthP (s : Src) (r : Rd) (r' : Rd) (C' : List AV) (t : Sm) : Prop where
 deep : r'.deep = r.deep
 can : canonL C' = smRow t
 len : C'.length = 7
 wt : r'.code = 0 → r.i < r'.i ∧ (wSm t : Int) ≤ 7000 * (r'.i - r.i)
 ok : r'.code = 0 → okSm t
def othPre (_ : List Nat) (C : List AV) : Prop:=∃ a,C = [.str [],.str [],.list 0 .full [],.list 0 .full [],.list 0 .full [],.list 0 .full [],.int .i64 a]
def othPost (s : Src) (r : Rd) (rw : List Nat) (_ : List AV) (r' : Rd) (rw' : List Nat) (C' : List AV) : Prop:=Rx rw rw' ∧ ∃ t,OthP s r r' C' t
theorem ap_x {K : AV → St → Prop} {rw0 rw : List Nat} {v : AV} {xs : List Xp} {x : Xp} {H : List Blk} (h : Lst rw0 5 v (exRows xs) rw) (hx : Rx rw0 rw) (hl : xs.length ≤ 10000) (hk : ∀ (l : LT 5 exRows) (rw' : List Nat),l.xs = xs ++ [x] → Rx rw0 rw' → K l.v ⟨H,rw'⟩) : ApAt 5 88 v (.list 5 .full [exRow x]) ⟨H,rw⟩ K:=by
 have e:=exRows_len xs
 refine ap_lst h hx (by rw [e]; simp only [maxRow]; omega) (by rw [e]; simp only [maxRow]; omega) (by omega) ?_
 intro v' rw' h1 h2
 exact hk ⟨v',xs ++ [x],by rw [exRows_append]; exact h1.isL⟩ rw' rfl h2
theorem ok_sm {k nm : Str} {ty : List Ty} {exs : List Xp} {body els : List Sm} {a : Int} (h : okKind k nm ty exs body els) (h1 : okTys ty) (h2 : okExs exs) (h3 : okSms body) (h4 : okSms els) : okSm (.mk k nm ty exs body els a):=by
 rw [okSm]; exact ⟨h,h1,h2,h3,h4⟩
theorem okSms_nil : okSms []:=by rw [okSms]; trivial
theorem okExs_3 {a b c : Xp} (h : okEx a) (h' : okEx b) (h'' : okEx c) : okExs [a,b,c]:=by rw [okExs,okExs,okExs,okExs]; exact ⟨h,h',h'',trivial⟩
theorem args_var {op nm : Str} {args : List Xp} {ty : List Ty} {a : Int} (h : okEx (.mk op nm args ty a)) (ho : op = [118,97,114]) : Nm nm:=by
 subst ho
 rw [okEx] at h
 obtain ⟨h,-,-⟩:=h
 unfold okOp at h
 rcases h with h | h | h | h | h | h | h | h | h | h | h
 all_goals first
  | exact h.2.2.2
  | (exfalso; revert h; simp [levelF])
theorem args_field {op nm : Str} {args : List Xp} {ty : List Ty} {a : Int} (h : okEx (.mk op nm args ty a)) (ho : op = [102,105,101,108,100]) : ∃ x,args = [x] ∧ okEx x:=by
 subst ho
 rw [okEx] at h
 obtain ⟨h,h2,-⟩:=h
 unfold okOp at h
 rcases h with h | h | h | h | h | h | h | h | h | h | h
 all_goals first
  | (obtain ⟨-,⟨x,rfl⟩,-⟩:=h; exact ⟨x,rfl,h2.1⟩)
  | (exfalso; revert h; simp [levelF])
theorem args_index {op nm : Str} {args : List Xp} {ty : List Ty} {a : Int} (h : okEx (.mk op nm args ty a)) (ho : op = [105,110,100,101,120]) : ∃ x y,args = [x,y] ∧ okEx x ∧ okEx y:=by
 subst ho
 rw [okEx] at h
 obtain ⟨h,h2,-⟩:=h
 unfold okOp at h
 rcases h with h | h | h | h | h | h | h | h | h | h | h
 all_goals first
  | (obtain ⟨-,⟨x,y,rfl⟩,-⟩:=h; exact ⟨x,y,rfl,h2.1,h2.2.1⟩)
  | (exfalso; revert h; simp [])
theorem rp_other (L : LibS pr F) : RP pr F othPre othPost 197 2000:=by
 have hm:=L.hm
 have cis0:=fun x => rq_is L.toLibR 0 (by omega) x
 have cis1:=fun x => rq_is L.toLibR 1 (by omega) x
 have cis2:=fun x => rq_is L.toLibR 2 (by omega) x
 have cpl:=rq_place L.toLibR
 have ctk:=fun x => rc_take L.toLibR x 2000
 have cen:=rc_enter L.toLibR 2000
 have cnd:=fun x => rc_need L.toLibR x 2000
 have cfl:=rc_fail L.toLibR 110 (by omega) 2000
 have cnm:=rc_name L.toLibR 2000
 have hex:=rc_expr L.toLibX
 refine rp_start hm L.f197.1 L.f197.2 rfl ?_
 intro H rw n s r C J hlt hsm hok _ _ _ _ _ hpre
 obtain ⟨a,rfl⟩:=hpre
 have hR : Rx rw rw:=Rx.rfl
 refine' hG
 refine g_call rfl rfl rfl ?_; refine c_rc (hex) hlt (by assumption) (by omega) (by omega) ?_; intro x1 r1 rw_r1 hR' hok_r1 _ _ _ _ _ hP_x1; replace hR:=hR.trans hR'; (try replace hRL:=hRL.trans hR'); obtain ⟨_,_,hP_x1⟩:=hP_x1; refine zrk ?_
 obtain ⟨op,nm,args,ty,pos⟩:=x1
 refine' hG
 ·refine g_call rfl rfl rfl ?_; refine c_rc (hex) hlt (by assumption) (by omega) (by omega) ?_; intro x2 r2 rw_r2 hR' hok_r2 _ _ _ _ _ hP_x2; replace hR:=hR.trans hR'; (try replace hRL:=hRL.trans hR'); obtain ⟨_,_,hP_x2⟩:=hP_x2; refine zrk ?_
  refine id_append1 ?_
  refine g_append1 rfl rfl rfl rfl rfl ⟨rfl,rfl,(row_ex x2).len,by simp only [closed1]; exact (row_ex x2).clo,rfl,rfl⟩ (row_ex x2).can ?_
  refine ap_x (xs:=[]) .nil hR (by simp) ?_
  intro l3 rw3 hl3 hR3
  replace hR:=hR3
  refine zrk ?_
  refine' hG
  refine fin_p hlt ?_
  refine pend (Rok.nx (by assumption) (by omega) (by omega)) ⟨hR,.mk [115,101,116] nm [] [x2] [] [] a,⟨by omega,by ((simp only [canonL,smRow,exRows,tyRows,smRows,lst_nil,LT.canon,List.map_cons,List.map_nil,canon_str,canon_int,canon_nil]; try rfl); rw [hl3]; rfl),rfl,?_,?_⟩⟩
  ·simp only [wSm,wSms,wEx,wExs,wTys,List.length_nil,List.length_cons] at *; omega
  ·exact fun h => ok_sm (.inr (.inl ⟨rfl,rfl,⟨_,rfl⟩,rfl,rfl⟩)) okTys_nil (okExs_1 (hP_x2 (by omega))) okSms_nil okSms_nil
 ·obtain ⟨x,rfl,hx⟩:=args_field (hP_x1 (by omega)) (by assumption)
  refine' hG
  refine g_call rfl rfl rfl ?_; refine c_rc (hex) hlt (by assumption) (by omega) (by omega) ?_; intro x2 r2 rw_r2 hR' hok_r2 _ _ _ _ _ hP_x2; replace hR:=hR.trans hR'; (try replace hRL:=hRL.trans hR'); obtain ⟨_,_,hP_x2⟩:=hP_x2; refine zrk ?_
  refine id_append1 ?_
  refine g_append1 rfl rfl rfl rfl rfl ⟨rfl,rfl,(row_ex x2).len,by simp only [closed1]; exact (row_ex x2).clo,rfl,rfl⟩ (row_ex x2).can ?_
  refine ap_x (xs:=[x]) (.lit (by simp [])) hR (by simp) ?_
  intro l3 rw3 hl3 hR3
  replace hR:=hR3
  refine zrk ?_
  refine' hG
  refine fin_p hlt ?_
  refine pend (Rok.nx (by assumption) (by omega) (by omega)) ⟨hR,.mk [102,105,101,108,100] nm [] [x,x2] [] [] a,⟨by omega,by ((simp only [canonL,smRow,exRows,tyRows,smRows,lst_nil,LT.canon,List.map_cons,List.map_nil,canon_str,canon_int,canon_nil]; try rfl); rw [hl3]; rfl),rfl,?_,?_⟩⟩
  ·simp only [wSm,wSms,wEx,wExs,wTys,List.length_nil,List.length_cons] at *; omega
  ·exact fun h => ok_sm (.inr (.inr (.inl ⟨rfl,rfl,⟨_,_,rfl⟩,rfl,rfl⟩))) okTys_nil (okExs_2 hx (hP_x2 (by omega))) okSms_nil okSms_nil
 ·obtain ⟨x,y,rfl,hx,hy⟩:=args_index (hP_x1 (by omega)) (by assumption)
  refine' hG
  refine g_call rfl rfl rfl ?_; refine c_rc (hex) hlt (by assumption) (by omega) (by omega) ?_; intro x2 r2 rw_r2 hR' hok_r2 _ _ _ _ _ hP_x2; replace hR:=hR.trans hR'; (try replace hRL:=hRL.trans hR'); obtain ⟨_,_,hP_x2⟩:=hP_x2; refine zrk ?_
  refine id_append1 ?_
  refine g_append1 rfl rfl rfl rfl rfl ⟨rfl,rfl,(row_ex x2).len,by simp only [closed1]; exact (row_ex x2).clo,rfl,rfl⟩ (row_ex x2).can ?_
  refine ap_x (xs:=[x,y]) (.lit (by simp [])) hR (by simp) ?_
  intro l3 rw3 hl3 hR3
  replace hR:=hR3
  refine zrk ?_
  refine' hG
  refine fin_p hlt ?_
  refine pend (Rok.nx (by assumption) (by omega) (by omega)) ⟨hR,.mk [101,108,101,109] [] [] [x,y,x2] [] [] a,⟨by omega,by ((simp only [canonL,smRow,exRows,tyRows,smRows,lst_nil,LT.canon,List.map_cons,List.map_nil,canon_str,canon_int,canon_nil]; try rfl); rw [hl3]; rfl),rfl,?_,?_⟩⟩
  ·simp only [wSm,wSms,wEx,wExs,wTys,List.length_nil,List.length_cons] at *; omega
  ·exact fun h => ok_sm (.inr (.inr (.inr (.inl ⟨rfl,rfl,⟨_,_,_,rfl⟩,rfl,rfl⟩)))) okTys_nil (okExs_3 hx hy (hP_x2 (by omega))) okSms_nil okSms_nil
 ·refine g_call rfl rfl rfl ?_; refine c_rc (hex) hlt (by assumption) (by omega) (by omega) ?_; intro x2 r2 rw_r2 hR' hok_r2 _ _ _ _ _ hP_x2; replace hR:=hR.trans hR'; (try replace hRL:=hRL.trans hR'); obtain ⟨_,_,hP_x2⟩:=hP_x2; refine zrk ?_
  refine id_append1 ?_
  refine g_append1 rfl rfl rfl rfl rfl ⟨rfl,rfl,(row_ex x2).len,by simp only [closed1]; exact (row_ex x2).clo,rfl,rfl⟩ (row_ex x2).can ?_
  refine ap_x (xs:=[.mk op nm args ty pos]) (.lit (by simp [])) hR (by simp) ?_
  intro l3 rw3 hl3 hR3
  replace hR:=hR3
  refine zrk ?_
  refine' hG
  refine fin_p hlt ?_
  refine pend (Rok.nx (by assumption) (by omega) (by omega)) ⟨hR,.mk [100,111] [] [] [.mk op nm args ty pos,x2] [] [] a,⟨by omega,by ((simp only [canonL,exRow,smRow,exRows,tyRows,smRows,lst_nil,LT.canon,List.map_cons,List.map_nil,canon_str,canon_int,canon_nil]; try rfl); rw [hl3]; rfl),rfl,?_,?_⟩⟩
  ·simp only [wSm,wSms,wEx,wExs,wTys,List.length_nil,List.length_cons] at *; omega
  ·intro h; omega
 ·refine fin_p hlt ?_
  refine pend (Rok.nx (by assumption) (by omega) (by omega)) ⟨hR,.mk [100,111] [] [] [.mk op nm args ty pos] [] [] a,⟨by omega,by (simp only [canonL,exRow,smRow,exRows,tyRows,smRows,lst_nil,List.map_cons,List.map_nil,canon_str,canon_int,canon_nil]; try rfl),rfl,?_,?_⟩⟩
  ·simp only [wSm,wSms,wEx,wExs,wTys,List.length_nil,List.length_cons] at *; omega
  ·exact fun h => ok_sm (.inr (.inr (.inr (.inr (.inr (.inr (.inr ⟨.inr (.inr rfl),rfl,rfl,⟨_,rfl⟩,rfl,rfl⟩))))))) okTys_nil (okExs_1 (hP_x1 (by omega))) okSms_nil okSms_nil
end Go.Proofs.YtmeakjgbjldkdaaGreat.Ai
namespace Go.Proofs.YtmeakjgbjldkdaaGreat.Ai
open Go
variable {pr : Prims} {F : Nat → Option IFn}
abbrev LS:=LT (α:=Sm) 7 smRows
def blkP (_ : Src) (r : Rd) (l : LS) (r' : Rd) : Prop:=r'.deep = r.deep ∧ (r'.code = 0 → r.i < r'.i ∧ (wSms l.xs : Int) ≤ 7000 * (r'.i - r.i)) ∧ (r'.code = 0 → okSms l.xs)
def smP (_ : Src) (r : Rd) (t : Sm) (r' : Rd) : Prop:=r'.deep = r.deep ∧ (r'.code = 0 → r.i < r'.i ∧ (wSm t : Int) ≤ 7000 * (r'.i - r.i)) ∧ (r'.code = 0 → okSm t)
theorem smRows_append (a b : List Sm) : smRows (a ++ b) = smRows a ++ smRows b:=by simp [smRows_map]
theorem block_of (L : LibS pr F) {m : Int} (hst : RC pr F (fun x : Sm => AV.agg (smRow x)) smP 141 [] m) : RC pr F LT.v blkP 94 [] (m + 1):=by
 have hm:=L.hm
 have cis0:=fun x => rq_is L.toLibR 0 (by omega) x
 have cis1:=fun x => rq_is L.toLibR 1 (by omega) x
 have cis2:=fun x => rq_is L.toLibR 2 (by omega) x
 have cpl:=rq_place L.toLibR
 have ctk:=fun x => rc_take L.toLibR x 2000
 have cen:=rc_enter L.toLibR 2000
 have cnd:=fun x => rc_need L.toLibR x 2000
 have cfl:=rc_fail L.toLibR 110 (by omega) 2000
 have cnm:=rc_name L.toLibR 2000
 refine rc_start hm L.f94.1 L.f94.2 rfl ?_
 intro H rw n s r hlt hsm hok _ _ _ _ _
 have hR : Rx rw rw:=Rx.rfl
 refine' hG
 ·refine at_loop hm (fun m e S' => ∃ (r' : Rd) (rw' : List Nat) (l : AV) (xs : List Sm),S' = ⟨hp H n (blk s r') [],rw'⟩ ∧ Rok s r' ∧ r.i ≤ r'.i ∧ r'.deep = r.deep + 1 ∧ (r'.code = 0 → r.code = 0) ∧ Rx rw rw' ∧ Lst rw 7 l (smRows xs) rw' ∧ (xs.length : Int) ≤ r'.i + 1 ∧
   (r'.code = 0 → r.i < r'.i ∧ (xs.length : Int) ≤ r'.i ∧ (wSms xs : Int) ≤ 7000 * (r'.i - r.i)) ∧ (r'.code = 0 → okSms xs) ∧ (m : Int) = 2 * (s.toks.length - r'.i) + (if r'.code = 0 then 1 else 0) ∧
   e = [(0,.ptr n 0),(3,l)]) ?_ (m:=(2 * (s.toks.length - rc.i) + (if rc.code = 0 then 1 else 0)).toNat) ⟨rc,rwc,_,[],rfl,by assumption,by omega,by omega,by omega,hR,.nil,by simp; omega,fun _ => ⟨by omega,by simp; omega,by simp [wSms]; omega⟩,fun _ => okSms_nil,by split <;> omega,rfl⟩
  clear hR
  rintro m' e S' ⟨r',rw',l,xs,rfl,hok',h2,h3,h4,hR,hl1,hxl,h8,h9,hmm,rfl⟩
  have h5:=hok'.lo
  have h6:=hok'.hi
  have h7:=hok'.dlo
  have hRL : Rx rw' rw':=Rx.rfl
  by_cases hc : r'.code = 0
  ·rw [if_pos hc] at hmm
   have e2 : (smRows xs).length = xs.length:=smRows_len xs
   refine' hG
   ·refine fin_ret rfl ?_ (hp_take hlt) ?_
    ·exact hl1.isL.below _
    ·exact rend (enc:=LT.v) ⟨l,xs,hl1.isL⟩ hR rfl (Rok.nx (by assumption) (by omega) (by omega)) ⟨by omega,fun h => by have:=h8 hc; simp only; omega,fun h => h9 hc⟩
   ·refine g_call rfl rfl rfl ?_; refine c_rc (hst) hlt (by assumption) (by omega) (by omega) ?_; intro t1 r1 rw_r1 hR' hok_r1 _ _ _ _ _ hP_t1; replace hR:=hR.trans hR'; (try replace hRL:=hRL.trans hR'); obtain ⟨_,_,hP_t1⟩:=hP_t1; refine zrk ?_
    refine' hG
    refine id_append ?_
    refine g_append rfl rfl rfl ?_
    refine ap_lst (hl1.ext hRL) hR (by rw [e2]; simp only [maxRow]; omega) (by rw [e2]; simp only [maxRow]; omega) (by omega) ?_
    intro l4 rw4 hl4 hR4
    refine zrk ?_
    refine' hG
    refine ⟨(2 * (s.toks.length - r1.i) + (if r1.code = 0 then 1 else 0)).toNat,?_,r1,rw4,l4,xs ++ [t1],rfl,hok_r1,by omega,by omega,by omega,hR4,by rw [smRows_append]; exact hl4,by simp; omega,?_,?_,by split <;> omega,rfl⟩
    ·split <;> omega
    ·intro h0
     rw [wSms_append]
     simp only [wSms,List.length_append,List.length_cons,List.length_nil]
     omega
    ·intro h0
     rw [okSms_append]
     exact ⟨h9 hc,by rw [okSms]; exact ⟨hP_t1 h0,okSms_nil⟩⟩
  ·refine' hG
   refine fin_ret rfl ?_ (hp_take hlt) ?_
   ·exact hl1.isL.below _
   ·exact rend (enc:=LT.v) ⟨l,xs,hl1.isL⟩ hR rfl (Rok.nx (by assumption) (by omega) (by omega)) ⟨by omega,fun h => absurd h (by omega),fun h => absurd h (by omega)⟩
 ·refine fin_ret rfl rfl (hp_take hlt) ?_
  exact rend (LT.nil (by simp [smRows])) hR rfl (Rok.nx (by assumption) (by omega) (by omega)) ⟨by omega,fun h => by omega,fun h => by omega⟩
end Go.Proofs.YtmeakjgbjldkdaaGreat.Ai
namespace Go.Proofs.YtmeakjgbjldkdaaGreat.Ai
open Go
variable {pr : Prims} {F : Nat → Option IFn}
theorem ok_if {c : Xp} {b e : List Sm} {a : Int} (h : okEx c) (hb : okSms b) (he : okSms e) : okSm (.mk [105,102] [] [] [c] b e a):=
 ok_sm (.inr (.inr (.inr (.inr (.inl ⟨rfl,rfl,rfl,⟨_,rfl⟩⟩))))) okTys_nil (okExs_1 h) hb he
theorem okSms_1 {a : Sm} (h : okSm a) : okSms [a]:=by rw [okSms]; exact ⟨h,okSms_nil⟩
theorem choice_of (L : LibS pr F) {m : Int} (hb : RC pr F LT.v blkP 94 [] m) (hc : RC pr F (fun x : Sm => AV.agg (smRow x)) smP 196 [] (m - 1)) : RC pr F (fun x : Sm => AV.agg (smRow x)) smP 196 [] m:=by
 have hm:=L.hm
 have cis0:=fun x => rq_is L.toLibR 0 (by omega) x
 have cis1:=fun x => rq_is L.toLibR 1 (by omega) x
 have cis2:=fun x => rq_is L.toLibR 2 (by omega) x
 have cpl:=rq_place L.toLibR
 have ctk:=fun x => rc_take L.toLibR x 2000
 have cen:=rc_enter L.toLibR 2000
 have cnd:=fun x => rc_need L.toLibR x 2000
 have cfl:=rc_fail L.toLibR 110 (by omega) 2000
 have cnm:=rc_name L.toLibR 2000
 have hex:=rc_expr L.toLibX
 refine rc_start hm L.f196.1 L.f196.2 rfl ?_
 intro H rw n s r hlt hsm hok _ _ _ _ _
 have hR : Rx rw rw:=Rx.rfl
 refine' hG
 refine g_call rfl rfl rfl ?_; refine c_rc (hex) hlt (by assumption) (by omega) (by omega) ?_; intro c1 r1 rw_r1 hR' hok_r1 _ _ _ _ _ hP_c1; replace hR:=hR.trans hR'; (try replace hRL:=hRL.trans hR'); obtain ⟨_,_,hP_c1⟩:=hP_c1; refine zrk ?_
 refine' hG
 refine g_call rfl rfl rfl ?_; refine c_rc (hb) hlt (by assumption) (by omega) (by omega) ?_; intro b1 r2 rw_r2 hR' hok_r2 _ _ _ _ _ hP_b1; replace hR:=hR.trans hR'; (try replace hRL:=hRL.trans hR'); obtain ⟨_,_,hP_b1⟩:=hP_b1; refine zrk ?_
 refine' hG
 ·refine g_call rfl rfl rfl ?_; refine c_rc (hc) hlt (by assumption) (by omega) (by omega) ?_; intro e1 r3 rw_r3 hR' hok_r3 _ _ _ _ _ hP_e1; replace hR:=hR.trans hR'; (try replace hRL:=hRL.trans hR'); obtain ⟨_,_,hP_e1⟩:=hP_e1; refine zrk ?_
  refine' hG
  refine fin_cell hlt rfl rfl (v:=.agg (smRow (.mk [105,102] [] [] [c1] b1.xs [e1] _))) (by (simp only [aload,canonL,smRow,exRows,tyRows,smRows,lst_nil,LT.canon,List.getElem?_cons_zero,List.take_succ_cons,List.take_zero,List.drop_zero,List.map_cons,List.map_nil,List.length_cons,List.length_nil,Nat.reduceAdd,Nat.zero_add,Nat.le_refl,if_true,canon_lst,canon_str,canon_int,canon_nil]; try rfl)) ((row_sm _).below _) ?_
  refine rend (.mk [105,102] [] [] [c1] b1.xs [e1] _) hR rfl (Rok.nx (by assumption) (by omega) (by omega)) ⟨by omega,?_,?_⟩
  ·simp only [wSm,wSms,wExs,wTys,List.length_nil,List.length_cons]; omega
  ·exact fun h => ok_if (hP_c1 (by omega)) (hP_b1 (by omega)) (okSms_1 (hP_e1 (by omega)))
 ·refine fin_cell hlt rfl rfl (v:=.agg (smRow (.mk [105,102] [] [] [c1] b1.xs [] _))) (by (simp only [aload,canonL,smRow,exRows,tyRows,smRows,lst_nil,LT.canon,List.getElem?_cons_zero,List.take_succ_cons,List.take_zero,List.drop_zero,List.map_cons,List.map_nil,List.length_cons,List.length_nil,Nat.reduceAdd,Nat.zero_add,Nat.le_refl,if_true,canon_lst,canon_str,canon_int,canon_nil]; try rfl)) ((row_sm _).below _) ?_
  refine rend (.mk [105,102] [] [] [c1] b1.xs [] _) hR rfl (Rok.nx (by assumption) (by omega) (by omega)) ⟨by omega,?_,?_⟩
  ·simp only [wSm,wSms,wExs,wTys,List.length_nil,List.length_cons]; omega
  ·intro h; omega
 ·refine g_call rfl rfl rfl ?_; refine c_rc (hb) hlt (by assumption) (by omega) (by omega) ?_; intro b2 r3 rw_r3 hR' hok_r3 _ _ _ _ _ hP_b2; replace hR:=hR.trans hR'; (try replace hRL:=hRL.trans hR'); obtain ⟨_,_,hP_b2⟩:=hP_b2; refine zrk ?_
  refine' hG
  refine fin_cell hlt rfl rfl (v:=.agg (smRow (.mk [105,102] [] [] [c1] b1.xs b2.xs _))) (by (simp only [aload,canonL,smRow,exRows,tyRows,lst_nil,LT.canon,List.getElem?_cons_zero,List.take_succ_cons,List.take_zero,List.drop_zero,List.map_cons,List.map_nil,List.length_cons,List.length_nil,Nat.reduceAdd,Nat.zero_add,Nat.le_refl,if_true,canon_lst,canon_str,canon_int,canon_nil]; try rfl)) ((row_sm _).below _) ?_
  refine rend (.mk [105,102] [] [] [c1] b1.xs b2.xs _) hR rfl (Rok.nx (by assumption) (by omega) (by omega)) ⟨by omega,?_,?_⟩
  ·simp only [wSm,wExs,wTys,List.length_nil,List.length_cons]; omega
  ·exact fun h => ok_if (hP_c1 (by omega)) (hP_b1 (by omega)) (hP_b2 (by omega))
 ·refine fin_cell hlt rfl rfl (v:=.agg (smRow (.mk [105,102] [] [] [c1] b1.xs [] _))) (by (simp only [aload,canonL,smRow,exRows,tyRows,smRows,lst_nil,LT.canon,List.getElem?_cons_zero,List.take_succ_cons,List.take_zero,List.drop_zero,List.map_cons,List.map_nil,List.length_cons,List.length_nil,Nat.reduceAdd,Nat.zero_add,Nat.le_refl,if_true,canon_lst,canon_str,canon_int,canon_nil]; try rfl)) ((row_sm _).below _) ?_
  refine rend (.mk [105,102] [] [] [c1] b1.xs [] _) hR rfl (Rok.nx (by assumption) (by omega) (by omega)) ⟨by omega,?_,?_⟩
  ·simp only [wSm,wSms,wExs,wTys,List.length_nil,List.length_cons]; omega
  ·exact fun h => ok_if (hP_c1 (by omega)) (hP_b1 (by omega)) okSms_nil
end Go.Proofs.YtmeakjgbjldkdaaGreat.Ai
namespace Go.Proofs.YtmeakjgbjldkdaaGreat.Ai
open Go
variable {pr : Prims} {F : Nat → Option IFn}
def isTP (k : Nat) (x : Str) (s : Src) (r : Rd) : Bool → Prop
 | true => r.code = 0 ∧ (r.i + k < s.toks.length ∧ ∀ t : Tok,s.toks[r.i.toNat + k]? = some t → t.text = x)
 | false => True ∧ True
theorem rq_isT (L : LibR pr F) (k : Nat) (hk : k ≤ 5) (x : Str) : RQ pr F AV.bool (isTP k x) 90 [.int .i64 k,.str x]:=by
 intro H rw n s r M hlt hr
 refine ⟨isF s r k x,?_,det_is (S:=⟨_,_⟩) L (hp_get hlt) hr k hk x⟩
 cases h : isF s r k x with
 | true =>
  have:=isF_lt h
  have h0:=hr.lo
  refine ⟨this.1,by omega,fun t ht => ?_⟩
  unfold isF at h
  rw [ht] at h
  simp at h
  exact h.2.2
 | false => exact ⟨trivial,trivial⟩
theorem ok_let {nm : Str} {ty : List Ty} {x : Xp} {a : Int} (h : Nm nm) (hl : ty.length ≤ 1) (ht : okTys ty) (hx : okEx x) : okSm (.mk [108,101,116] nm ty [x] [] [] a):=
 ok_sm (.inl ⟨rfl,h,hl,⟨_,rfl⟩,rfl,rfl⟩) ht (okExs_1 hx) okSms_nil okSms_nil
theorem ok_while {c : Xp} {l : List Xp} {b : List Sm} {a : Int} (h : okExs (c :: l)) (hb : okSms b) : okSm (.mk [119,104,105,108,101] [] [] (c :: l) b [] a):=
 ok_sm (.inr (.inr (.inr (.inr (.inr (.inl ⟨rfl,rfl,rfl,⟨_,_,rfl⟩,rfl⟩)))))) okTys_nil h hb okSms_nil
theorem ok_ret {l : List Xp} {a : Int} (hl : l.length ≤ 1) (h : okExs l) : okSm (.mk [114,101,116,117,114,110] [] [] l [] [] a):=
 ok_sm (.inr (.inr (.inr (.inr (.inr (.inr (.inl ⟨rfl,rfl,rfl,hl,rfl,rfl⟩))))))) okTys_nil h okSms_nil okSms_nil
theorem ok_ap {k : Str} {x : Xp} {a : Int} (hk : k = [97,115,115,101,114,116] ∨ k = [112,114,105,110,116]) (h : okEx x) : okSm (.mk k [] [] [x] [] [] a):=
 ok_sm (.inr (.inr (.inr (.inr (.inr (.inr (.inr ⟨hk.elim .inl (fun h => .inr (.inl h)),rfl,rfl,⟨_,rfl⟩,rfl,rfl⟩))))))) okTys_nil (okExs_1 h) okSms_nil okSms_nil
theorem stmt_of (L : LibS pr F) {m : Int} (hb : RC pr F LT.v blkP 94 [] m) (hc : RC pr F (fun x : Sm => AV.agg (smRow x)) smP 196 [] m) : RC pr F (fun x : Sm => AV.agg (smRow x)) smP 141 [] m:=by
 have hm:=L.hm
 have cis0:=fun x => rq_is L.toLibR 0 (by omega) x
 have cis1:=fun x => rq_is L.toLibR 1 (by omega) x
 have cis2:=fun x => rq_is L.toLibR 2 (by omega) x
 have cpl:=rq_place L.toLibR
 have ctk:=fun x => rc_take L.toLibR x 2000
 have cen:=rc_enter L.toLibR 2000
 have cnd:=fun x => rc_need L.toLibR x 2000
 have cfl:=rc_fail L.toLibR 110 (by omega) 2000
 have cnm:=rc_name L.toLibR 2000
 clear cis0
 have cis0:=fun x => rq_isT L.toLibR 0 (by omega) x
 have hex:=rc_expr L.toLibX
 have hty:=rc_typ L.toLibX
 have hot:=rp_other L
 refine rc_start hm L.f141.1 L.f141.2 rfl ?_
 intro H rw n s r hlt hsm hok _ _ _ _ _
 have hR : Rx rw rw:=Rx.rfl
 refine' hG
 ·refine g_call rfl rfl rfl ?_; refine c_rc (cnm) hlt (by assumption) (by omega) (by omega) ?_; intro nm r1 rw_r1 hR' hok_r1 _ _ _ _ _ hP_nm; replace hR:=hR.trans hR'; (try replace hRL:=hRL.trans hR'); obtain ⟨_,_,hP_nm⟩:=hP_nm; refine zrk ?_
  refine' hG
  ·refine g_call rfl rfl rfl ?_; refine c_rc (hty) hlt (by assumption) (by omega) (by omega) ?_; intro t1 r2 rw_r2 hR' hok_r2 _ _ _ _ _ hP_t1; replace hR:=hR.trans hR'; (try replace hRL:=hRL.trans hR'); obtain ⟨_,_,hP_t1⟩:=hP_t1; refine zrk ?_
   refine' hG
   refine g_call rfl rfl rfl ?_; refine c_rc (hex) hlt (by assumption) (by omega) (by omega) ?_; intro x1 r3 rw_r3 hR' hok_r3 _ _ _ _ _ hP_x1; replace hR:=hR.trans hR'; (try replace hRL:=hRL.trans hR'); obtain ⟨_,_,hP_x1⟩:=hP_x1; refine zrk ?_
   refine' hG
   refine fin_cell hlt rfl rfl (v:=.agg (smRow (.mk [108,101,116] nm [t1] [x1] [] [] _))) (by (simp only [aload,canonL,smRow,exRows,tyRows,smRows,lst_nil,List.getElem?_cons_zero,List.take_succ_cons,List.take_zero,List.drop_zero,List.map_cons,List.map_nil,List.length_cons,List.length_nil,Nat.reduceAdd,Nat.zero_add,Nat.le_refl,if_true,canon_str,canon_int,canon_nil]; try rfl)) ((row_sm _).below _) ?_
   refine rend (.mk [108,101,116] nm [t1] [x1] [] [] _) hR rfl (Rok.nx (by assumption) (by omega) (by omega)) ⟨by omega,?_,?_⟩
   ·simp only [wSm,wSms,wExs,wTys,List.length_nil,List.length_cons]; omega
   ·exact fun h => ok_let (hP_nm (by omega)) (by simp) (okTys_1 (hP_t1 (by omega))) (hP_x1 (by omega))
  ·refine g_call rfl rfl rfl ?_; refine c_rc (hex) hlt (by assumption) (by omega) (by omega) ?_; intro x1 r3 rw_r3 hR' hok_r3 _ _ _ _ _ hP_x1; replace hR:=hR.trans hR'; (try replace hRL:=hRL.trans hR'); obtain ⟨_,_,hP_x1⟩:=hP_x1; refine zrk ?_
   refine' hG
   refine fin_cell hlt rfl rfl (v:=.agg (smRow (.mk [108,101,116] nm [] [x1] [] [] _))) (by (simp only [aload,canonL,smRow,exRows,tyRows,smRows,lst_nil,List.getElem?_cons_zero,List.take_succ_cons,List.take_zero,List.drop_zero,List.map_cons,List.map_nil,List.length_cons,List.length_nil,Nat.reduceAdd,Nat.zero_add,Nat.le_refl,if_true,canon_str,canon_int,canon_nil]; try rfl)) ((row_sm _).below _) ?_
   refine rend (.mk [108,101,116] nm [] [x1] [] [] _) hR rfl (Rok.nx (by assumption) (by omega) (by omega)) ⟨by omega,?_,?_⟩
   ·simp only [wSm,wSms,wExs,wTys,List.length_nil,List.length_cons]; omega
   ·exact fun h => ok_let (hP_nm (by omega)) (by simp) okTys_nil (hP_x1 (by omega))
 ·refine g_call rfl rfl rfl ?_; refine c_rc (hc) hlt (by assumption) (by omega) (by omega) ?_; intro t1 r1 rw_r1 hR' hok_r1 _ _ _ _ _ hP_t1; replace hR:=hR.trans hR'; (try replace hRL:=hRL.trans hR'); obtain ⟨_,_,hP_t1⟩:=hP_t1; refine zrk ?_
  refine' hG
  refine fin_cell hlt rfl rfl (row_sm t1).load ((row_sm _).below _) ?_
  exact rend t1 hR rfl (Rok.nx (by assumption) (by omega) (by omega)) ⟨by omega,by omega,fun h => hP_t1 (by omega)⟩
 ·refine g_call rfl rfl rfl ?_; refine c_rc (hex) hlt (by assumption) (by omega) (by omega) ?_; intro c1 r1 rw_r1 hR' hok_r1 _ _ _ _ _ hP_c1; replace hR:=hR.trans hR'; (try replace hRL:=hRL.trans hR'); obtain ⟨_,_,hP_c1⟩:=hP_c1; refine zrk ?_
  refine' hG
  rename Int => pl
  refine at_loop hm (fun m e S' => ∃ (r' : Rd) (rw' : List Nat) (v : AV) (xs : List Xp),S' = ⟨hp H n (blk s r') [.cells (smRow (.mk [] [] [] [] [] [] 0)),.cells [.str [119,104,105,108,101],.str [],.list 0 .full [],v,.list 0 .full [],.list 0 .full [],.int .i64 pl]],rw'⟩ ∧ Rok s r' ∧ r.i ≤ r'.i ∧ r'.deep = r.deep ∧ (r'.code = 0 → r.code = 0) ∧ Rx rw rw' ∧ Lst rw 5 v (exRows (c1 :: xs)) rw' ∧ (xs.length : Int) ≤ r'.i ∧
   (r'.code = 0 → r.i < r'.i ∧ (wExs (c1 :: xs) + 6 : Int) ≤ 7000 * (r'.i - r.i)) ∧ (r'.code = 0 → okExs (c1 :: xs)) ∧ (m : Int) = s.toks.length - r'.i ∧
   e = [(0,.ptr n 0),(2,.ptr (H.length + 0) 0),(3,.ptr (H.length + 1) 0)]) ?_ (m:=(s.toks.length - rc.i).toNat) ⟨rc,rwc,_,[],rfl,by assumption,by omega,by omega,by omega,hR,.lit (by simp []),by simp; omega,by simp only [wExs]; omega,fun h => okExs_1 (hP_c1 (by omega)),by omega,rfl⟩
  clear hR
  rintro m' e S' ⟨r',rw',v,xs,rfl,hok',h2,h3,h4,hR,hl1,hxl,h8,h9,hmm,rfl⟩
  have h5:=hok'.lo
  have h6:=hok'.hi
  have h7:=hok'.dlo
  have hRL : Rx rw' rw':=Rx.rfl
  have hcan:=hl1.isL.canon
  have e2 : (exRows (c1 :: xs)).length = xs.length + 1:=by rw [exRows_len]; simp
  obtain ⟨sz,tag,rfl,hs1,-⟩:=hl1.tag
  have hs2:=hs1 (by simp [exRows])
  subst hs2
  refine' hG
  ·refine g_call rfl rfl rfl ?_; refine c_rc (hex) hlt (by assumption) (by omega) (by omega) ?_; intro x2 r2 rw_r2 hR' hok_r2 _ _ _ _ _ hP_x2; replace hR:=hR.trans hR'; (try replace hRL:=hRL.trans hR'); obtain ⟨_,_,hP_x2⟩:=hP_x2; refine zrk ?_
   refine id_append1 ?_
   refine g_append1 rfl rfl rfl rfl rfl ⟨rfl,rfl,(row_ex x2).len,by simp only [closed1]; exact (row_ex x2).clo,rfl,rfl⟩ (row_ex x2).can ?_
   refine ap_lst (hl1.ext hRL) hR (by rw [e2]; simp only [maxRow]; omega) (by rw [e2]; simp only [maxRow]; omega) (by omega) ?_
   intro l4 rw4 hl4 hR4
   obtain ⟨sz4,tag4,rfl,hs4,-⟩:=hl4.tag
   refine zrk ?_
   refine' hG
   refine ⟨(s.toks.length - r2.i).toNat,by omega,r2,rw4,_,xs ++ [x2],rfl,hok_r2,by omega,by omega,by omega,hR4,by rw [← List.cons_append,exRows_append]; exact hl4,by simp; omega,?_,?_,by omega,rfl⟩
   ·intro h0
    have:=h8 (by omega)
    rw [← List.cons_append,wExs_append]
    simp only [wExs] at *
    omega
   ·intro h0
    rw [← List.cons_append,okExs_append]
    exact ⟨h9 (by omega),okExs_1 (hP_x2 h0)⟩
  ·refine g_call rfl rfl rfl ?_; refine c_rc (hb) hlt (by assumption) (by omega) (by omega) ?_; intro b1 r2 rw_r2 hR' hok_r2 _ _ _ _ _ hP_b1; replace hR:=hR.trans hR'; (try replace hRL:=hRL.trans hR'); obtain ⟨_,_,hP_b1⟩:=hP_b1; refine zrk ?_
   refine' hG
   simp only [exRows] at hcan
   refine fin_cell hlt rfl rfl (v:=.agg (smRow (.mk [119,104,105,108,101] [] [] (c1 :: xs) b1.xs [] pl))) (by simp only [aload,canonL,smRow,exRows,tyRows,smRows,lst_nil,LT.canon,List.getElem?_cons_zero,List.take_succ_cons,List.take_zero,List.drop_zero,List.map_cons,List.map_nil,List.length_cons,List.length_nil,Nat.reduceAdd,Nat.zero_add,Nat.le_refl,if_true,canon_lst,canon_str,canon_int,canon_nil]; simp only [hcan,canon_lst]) ((row_sm _).below _) ?_
   refine rend (.mk [119,104,105,108,101] [] [] (c1 :: xs) b1.xs [] pl) hR rfl (Rok.nx (by assumption) (by omega) (by omega)) ⟨by omega,?_,?_⟩
   ·intro h0
    have:=h8 (by omega)
    simp only [wSm,wSms,wTys,List.length_nil,List.length_cons]
    omega
   ·exact fun h => ok_while (h9 (by omega)) (hP_b1 (by omega))
 ·refine fin_cell hlt rfl rfl (v:=.agg (smRow (.mk [114,101,116,117,114,110] [] [] [] [] [] _))) (by (simp only [aload,canonL,smRow,exRows,tyRows,smRows,lst_nil,List.getElem?_cons_zero,List.take_succ_cons,List.take_zero,List.drop_zero,List.map_cons,List.map_nil,List.length_cons,List.length_nil,Nat.reduceAdd,Nat.zero_add,Nat.le_refl,if_true,canon_str,canon_int,canon_nil]; try rfl)) ((row_sm _).below _) ?_
  refine rend (.mk [114,101,116,117,114,110] [] [] [] [] [] _) hR rfl (Rok.nx (by assumption) (by omega) (by omega)) ⟨by omega,?_,?_⟩
  ·simp only [wSm,wSms,wExs,wTys,List.length_nil,List.length_cons]; omega
  ·exact fun h => ok_ret (by simp) okExs_nil
 ·refine g_call rfl rfl rfl ?_; refine c_rc (hex) hlt (by assumption) (by omega) (by omega) ?_; intro x1 r1 rw_r1 hR' hok_r1 _ _ _ _ _ hP_x1; replace hR:=hR.trans hR'; (try replace hRL:=hRL.trans hR'); obtain ⟨_,_,hP_x1⟩:=hP_x1; refine zrk ?_
  refine' hG
  refine fin_cell hlt rfl rfl (v:=.agg (smRow (.mk [114,101,116,117,114,110] [] [] [x1] [] [] _))) (by (simp only [aload,canonL,smRow,exRows,tyRows,smRows,lst_nil,List.getElem?_cons_zero,List.take_succ_cons,List.take_zero,List.drop_zero,List.map_cons,List.map_nil,List.length_cons,List.length_nil,Nat.reduceAdd,Nat.zero_add,Nat.le_refl,if_true,canon_str,canon_int,canon_nil]; try rfl)) ((row_sm _).below _) ?_
  refine rend (.mk [114,101,116,117,114,110] [] [] [x1] [] [] _) hR rfl (Rok.nx (by assumption) (by omega) (by omega)) ⟨by omega,?_,?_⟩
  ·simp only [wSm,wSms,wExs,wTys,List.length_nil,List.length_cons]; omega
  ·exact fun h => ok_ret (by simp) (okExs_1 (hP_x1 (by omega)))
 ·refine g_call rfl rfl rfl ?_; refine c_rc (hex) hlt (by assumption) (by omega) (by omega) ?_; intro x1 r1 rw_r1 hR' hok_r1 _ _ _ _ _ hP_x1; replace hR:=hR.trans hR'; (try replace hRL:=hRL.trans hR'); obtain ⟨_,_,hP_x1⟩:=hP_x1; refine zrk ?_
  refine' hG
  refine fin_cell hlt rfl rfl (v:=.agg (smRow (.mk tk.text [] [] [x1] [] [] _))) (by (simp only [aload,canonL,smRow,exRows,tyRows,smRows,lst_nil,List.getElem?_cons_zero,List.take_succ_cons,List.take_zero,List.drop_zero,List.map_cons,List.map_nil,List.length_cons,List.length_nil,Nat.reduceAdd,Nat.zero_add,Nat.le_refl,if_true,canon_str,canon_int,canon_nil]; try rfl)) ((row_sm _).below _) ?_
  refine rend (.mk tk.text [] [] [x1] [] [] _) hR rfl (Rok.nx (by assumption) (by omega) (by omega)) ⟨by omega,?_,?_⟩
  ·simp only [wSm,wSms,wExs,wTys,List.length_nil]; omega
  ·exact fun h => ok_ap (.inl ((‹_ ∧ ∀ t : Tok,s.toks[_]? = some t → t.text = [97,115,115,101,114,116]›).2 tk htk2)) (hP_x1 (by omega))
 ·refine g_call rfl rfl rfl ?_; refine c_rc (hex) hlt (by assumption) (by omega) (by omega) ?_; intro x1 r1 rw_r1 hR' hok_r1 _ _ _ _ _ hP_x1; replace hR:=hR.trans hR'; (try replace hRL:=hRL.trans hR'); obtain ⟨_,_,hP_x1⟩:=hP_x1; refine zrk ?_
  refine' hG
  refine fin_cell hlt rfl rfl (v:=.agg (smRow (.mk tk.text [] [] [x1] [] [] _))) (by (simp only [aload,canonL,smRow,exRows,tyRows,smRows,lst_nil,List.getElem?_cons_zero,List.take_succ_cons,List.take_zero,List.drop_zero,List.map_cons,List.map_nil,List.length_cons,List.length_nil,Nat.reduceAdd,Nat.zero_add,Nat.le_refl,if_true,canon_str,canon_int,canon_nil]; try rfl)) ((row_sm _).below _) ?_
  refine rend (.mk tk.text [] [] [x1] [] [] _) hR rfl (Rok.nx (by assumption) (by omega) (by omega)) ⟨by omega,?_,?_⟩
  ·simp only [wSm,wSms,wExs,wTys,List.length_nil]; omega
  ·exact fun h => ok_ap (.inr ((‹_ ∧ ∀ t : Tok,s.toks[_]? = some t → t.text = [112,114,105,110,116]›).2 tk htk2)) (hP_x1 (by omega))
 ·refine g_call rfl rfl rfl ?_
  refine c_rp hot hlt (by assumption) (by omega) (by omega) ⟨_,rfl⟩ ?_
  intro C r1 rw1 hok1 _ _ _ _ _ hP
  obtain ⟨hR',t,hP⟩:=hP
  obtain ⟨h1,h2,h3,h4,h5⟩:=hP
  replace hR:=hR.trans hR'
  refine zrk ?_
  refine' hG
  refine fin_cell hlt rfl rfl (row_sm t).load ((row_sm _).below _) ?_
  exact rend t hR rfl (Rok.nx (by assumption) (by omega) (by omega)) ⟨by omega,by omega,fun h => h5 (by omega)⟩
end Go.Proofs.YtmeakjgbjldkdaaGreat.Ai
namespace Go.Proofs.YtmeakjgbjldkdaaGreat.Ai
open Go
variable {pr : Prims} {F : Nat → Option IFn}
theorem stmts_all (L : LibS pr F) : ∀ k : Nat,RC pr F (fun x : Sm => AV.agg (smRow x)) smP 141 [] (k - 100) ∧ RC pr F (fun x : Sm => AV.agg (smRow x)) smP 196 [] (k - 100) ∧ RC pr F LT.v blkP 94 [] (k - 100)
 | 0 => ⟨rc_low (by omega),rc_low (by omega),rc_low (by omega)⟩
 | k + 1 => by
  obtain ⟨h1,h2,-⟩:=stmts_all L k
  have e : (((k + 1 : Nat) : Int) - 100) = ((k : Int) - 100) + 1:=by omega
  have hb : RC pr F LT.v blkP 94 [] (((k + 1 : Nat) : Int) - 100):=by rw [e]; exact block_of L h1
  have hc : RC pr F (fun x : Sm => AV.agg (smRow x)) smP 196 [] (((k + 1 : Nat) : Int) - 100):=choice_of L hb (by rw [show (((k + 1 : Nat) : Int) - 100 - 1) = (k : Int) - 100 by omega]; exact h2)
  exact ⟨stmt_of L hb hc,hc,hb⟩
theorem rc_block (L : LibS pr F) : RC pr F LT.v blkP 94 [] 2000:=by
 have:=(stmts_all L 2100).2.2
 exact rc_mono this (by omega)
end Go.Proofs.YtmeakjgbjldkdaaGreat.Ai
namespace Go.Proofs.YtmeakjgbjldkdaaGreat.Ai
open Go
variable {pr : Prims} {F : Nat → Option IFn}
theorem Lst.pushA {rw0 rw : List Nat} {sz by_ : Nat} {v : AV} {rows : List (List AV)} {row : List AV} {H : List Blk} (h : Lst rw0 sz v rows rw) (hx : Rx rw0 rw) (hb : (rows.length + 1) * by_ ≤ maxRow) (hl : rows.length + 1 ≤ maxRow) (hs : 0 < sz) :
  ∃ v' rw',aappend sz by_ v (.list sz .full [row]) ⟨H,rw⟩ = some (v',⟨H,rw'⟩) ∧ Lst rw0 sz v' (rows ++ [row]) rw' ∧ Rx rw0 rw' ∧ ∀ (sz2 : Nat) (v2 : AV) (rows2 : List (List AV)),Lst rw0 sz2 v2 rows2 rw → Disj v v2 → Lst rw0 sz2 v2 rows2 rw' ∧ Disj v' v2:=by
 obtain ⟨v',rw',h1,h2,h3⟩:=h.push (H:=H) (row:=row) hx hb hl hs
 refine ⟨v',rw',h1,h2,h3,fun sz2 v2 rows2 g hd => ?_⟩
 obtain ⟨v'',rw'',h4,-,-,h5,h6⟩:=h.push2 (H:=H) (row:=row) hx hb hl hs g hd
 rw [h1] at h4
 simp only [Option.some.injEq,Prod.mk.injEq,St.mk.injEq,true_and] at h4
 obtain ⟨rfl,rfl⟩:=h4
 exact ⟨h5,h6⟩
theorem ap_all {K : AV → St → Prop} {rw0 rw : List Nat} {sz by_ : Nat} {v : AV} {rows : List (List AV)} {row : List AV} {H : List Blk} (h : Lst rw0 sz v rows rw) (hx : Rx rw0 rw) (hb : (rows.length + 1) * by_ ≤ maxRow) (hl : rows.length + 1 ≤ maxRow) (hs : 0 < sz)
  (hk : ∀ v' rw',Lst rw0 sz v' (rows ++ [row]) rw' → Rx rw0 rw' → (∀ (sz2 : Nat) (v2 : AV) (rows2 : List (List AV)),Lst rw0 sz2 v2 rows2 rw → Disj v v2 → Lst rw0 sz2 v2 rows2 rw' ∧ Disj v' v2) → K v' ⟨H,rw'⟩) : ApAt sz by_ v (.list sz .full [row]) ⟨H,rw⟩ K:=by
 obtain ⟨v',rw',h1,h2,h3,h4⟩:=h.pushA (H:=H) (row:=row) hx hb hl hs
 exact ⟨_,_,h1,hk v' rw' h2 h3 h4⟩
theorem fin_p0 {H : List Blk} {n : Nat} {b c : Blk} {J : List Blk} {rw : List Nat} {e : Env} {Q : Res → St → Prop} (hn : n < H.length) (h : Q (.ret (.tup [])) ⟨hp H n b (c :: J),rw⟩) : fin [] (H.length + (J.length + 1)) Q .normal e ⟨hp H n b (c :: J),rw⟩:=by
 have:=fin_p (L:=[]) (e:=e) hn h
 rwa [List.append_nil] at this
structure ClsIn (rw0 rw : List Nat) (b : Nat) (c : Cls) (ab f i k m : AV) : Prop where
 rx : Rx rw0 rw
 ha : IsL 1 ab (c.above.map nmRow)
 hf : Lst rw0 9 f (c.fields.map fldRow) rw
 hi : Lst rw0 5 i (exRows c.invs) rw
 hk : Lst rw0 5 k (c.ctors.map ctrRow) rw
 hm : Lst rw0 11 m (c.meths.map mthRow) rw
 d1 : Disj f i
 d2 : Disj f k
 d3 : Disj f m
 d4 : Disj i k
 d5 : Disj i m
 d6 : Disj k m
 n1 : c.fields.length ≤ b
 n2 : c.invs.length ≤ b
 n3 : c.ctors.length ≤ b
 n4 : c.meths.length ≤ b
def clsCells (c : Cls) (ab f i k m : AV) : List AV:=[.str c.name,.bool c.iface,.str c.super,ab,f,i,k,m,.int .i64 c.at_]
theorem ClsIn.ext {rw0 rw rw' : List Nat} {b : Nat} {c : Cls} {ab f i k m : AV} (h : ClsIn rw0 rw b c ab f i k m) (hx : Rx rw rw') : ClsIn rw0 rw' b c ab f i k m:=
 ⟨h.rx.trans hx,h.ha,h.hf.ext hx,h.hi.ext hx,h.hk.ext hx,h.hm.ext hx,h.d1,h.d2,h.d3,h.d4,h.d5,h.d6,h.n1,h.n2,h.n3,h.n4⟩
theorem ClsIn.more {rw0 rw : List Nat} {b : Nat} {c : Cls} {ab f i k m : AV} (h : ClsIn rw0 rw b c ab f i k m) : ClsIn rw0 rw (b + 1) c ab f i k m:=
 ⟨h.rx,h.ha,h.hf,h.hi,h.hk,h.hm,h.d1,h.d2,h.d3,h.d4,h.d5,h.d6,by have:=h.n1; omega,by have:=h.n2; omega,by have:=h.n3; omega,by have:=h.n4; omega⟩
structure MemP (s : Src) (r r' : Rd) (c c' : Cls) : Prop where
 deep : r'.deep = r.deep
 name : c'.name = c.name
 iface : c'.iface = c.iface
 wt : r'.code = 0 → r.i < r'.i ∧ (wCls c' : Int) ≤ wCls c + 7000 * (r'.i - r.i)
 ok : r'.code = 0 → okCls c → okCls c'
def memPre (rw0 : List Nat) (b : Nat) (c : Cls) (rw : List Nat) (C : List AV) : Prop:=∃ ab f i k m,C = clsCells c ab f i k m ∧ ClsIn rw0 rw b c ab f i k m
def memPost (rw0 : List Nat) (b : Nat) (c : Cls) (s : Src) (r : Rd) (_ : List Nat) (_ : List AV) (r' : Rd) (rw' : List Nat) (C' : List AV) : Prop:=∃ c',MemP s r r' c c' ∧ memPre rw0 (b + 1) c' rw' C'
theorem rp_member (L : LibS pr F) (rw0 : List Nat) (b : Nat) (hb : b ≤ 7000) (c : Cls) : RP pr F (memPre rw0 b c) (memPost rw0 b c) 138 2000:=by
 have hm:=L.hm
 have cis0:=fun x => rq_is L.toLibR 0 (by omega) x
 have cis1:=fun x => rq_is L.toLibR 1 (by omega) x
 have cis2:=fun x => rq_is L.toLibR 2 (by omega) x
 have cpl:=rq_place L.toLibR
 have ctk:=fun x => rc_take L.toLibR x 2000
 have cen:=rc_enter L.toLibR 2000
 have cnd:=fun x => rc_need L.toLibR x 2000
 have cfl:=rc_fail L.toLibR 110 (by omega) 2000
 have cnm:=rc_name L.toLibR 2000
 have hex:=rc_expr L.toLibX
 have hexs:=rc_exprs L.toLibX
 have hty:=rc_typ L.toLibX
 have hbl:=rc_block L
 have hps:=rc_params L
 have hhd:=rc_head L
 refine rp_start hm L.f138.1 L.f138.2 rfl ?_
 intro H rw n s r C J hlt hsm hok _ _ _ _ _ hpre
 obtain ⟨ab,f,i,k,mm,rfl,hin⟩:=hpre
 unfold clsCells
 have hR : Rx rw rw:=Rx.rfl
 obtain ⟨szi,tagi,rfl,-,-⟩:=hin.hi.tag
 refine' hG
 ·rename Int => pl
  refine g_call rfl rfl rfl ?_; refine c_rc (cnm) hlt (by assumption) (by omega) (by omega) ?_; intro nm r1 rw_r1 hR' hok_r1 _ _ _ _ _ hP_nm; replace hR:=hR.trans hR'; (try replace hRL:=hRL.trans hR'); obtain ⟨_,_,hP_nm⟩:=hP_nm; refine zrk ?_
  refine' hG
  refine g_call rfl rfl rfl ?_; refine c_rc (hty) hlt (by assumption) (by omega) (by omega) ?_; intro t r2 rw_r2 hR' hok_r2 _ _ _ _ _ hP_t; replace hR:=hR.trans hR'; (try replace hRL:=hRL.trans hR'); obtain ⟨_,_,hP_t⟩:=hP_t; refine zrk ?_
  refine' hG
  refine id_load ?_
  refine g_load rfl rfl ?_
  refine l_ownR (vs:=fldRow ⟨nm,t,true,pl⟩) hlt at_bk1 (row_fld _) ?_
  refine' hG
  refine id_append ?_
  refine g_append rfl rfl rfl ?_
  refine ap_all (row:=fldRow ⟨nm,t,true,pl⟩) (hin.hf.ext hR) (hin.rx.trans hR) (by simp only [List.length_map,maxRow]; have:=hin.n1; omega) (by simp only [List.length_map,maxRow]; have:=hin.n1; omega) (by omega) ?_
  intro v' rw4 hv hR4 hoth
  obtain ⟨szv,tagv,rfl,-,-⟩:=hv.tag
  refine zrk ?_
  refine' hG
  refine fin_p hlt ?_
  obtain ⟨g2,e2⟩:=hoth _ _ _ (hin.hi.ext hR) hin.d1
  obtain ⟨g3,e3⟩:=hoth _ _ _ (hin.hk.ext hR) hin.d2
  obtain ⟨g4,e4⟩:=hoth _ _ _ (hin.hm.ext hR) hin.d3
  refine pend (Rok.nx (by assumption) (by omega) (by omega)) ⟨{c with fields:=c.fields ++ [⟨nm,t,true,pl⟩]},⟨by omega,rfl,rfl,?_,?_⟩,_,_,_,_,_,rfl,⟨hR4,hin.ha,by rw [List.map_append]; exact hv,g2,g3,g4,e2,e3,e4,hin.d4,hin.d5,hin.d6,by have:=hin.n1; simp; omega,by have:=hin.n2; simp only; omega,by have:=hin.n3; simp only; omega,by have:=hin.n4; simp only; omega⟩⟩
  ·intro h0
   simp only [wCls,wL_append,wL,wFld]
   omega
  ·intro h0 ho
   obtain ⟨o1,o2,o3,o4,o5,o6,o7⟩:=ho
   refine ⟨o1,o2,o3,?_,o5,o6,o7⟩
   intro x hx
   rcases List.mem_append.1 hx with hh | hh
   ·exact o4 x hh
   ·rw [List.mem_singleton] at hh
    subst hh
    exact ⟨hP_nm (by omega),hP_t (by omega)⟩
 ·rename Int => pl
  refine g_call rfl rfl rfl ?_; refine c_rc (cnm) hlt (by assumption) (by omega) (by omega) ?_; intro nm r1 rw_r1 hR' hok_r1 _ _ _ _ _ hP_nm; replace hR:=hR.trans hR'; (try replace hRL:=hRL.trans hR'); obtain ⟨_,_,hP_nm⟩:=hP_nm; refine zrk ?_
  refine' hG
  refine g_call rfl rfl rfl ?_; refine c_rc (hty) hlt (by assumption) (by omega) (by omega) ?_; intro t r2 rw_r2 hR' hok_r2 _ _ _ _ _ hP_t; replace hR:=hR.trans hR'; (try replace hRL:=hRL.trans hR'); obtain ⟨_,_,hP_t⟩:=hP_t; refine zrk ?_
  refine' hG
  refine id_load ?_
  refine g_load rfl rfl ?_
  refine l_ownR (vs:=fldRow ⟨nm,t,false,pl⟩) hlt at_bk1 (row_fld _) ?_
  refine' hG
  refine id_append ?_
  refine g_append rfl rfl rfl ?_
  refine ap_all (row:=fldRow ⟨nm,t,false,pl⟩) (hin.hf.ext hR) (hin.rx.trans hR) (by simp only [List.length_map,maxRow]; have:=hin.n1; omega) (by simp only [List.length_map,maxRow]; have:=hin.n1; omega) (by omega) ?_
  intro v' rw4 hv hR4 hoth
  obtain ⟨szv,tagv,rfl,-,-⟩:=hv.tag
  refine zrk ?_
  refine' hG
  refine fin_p hlt ?_
  obtain ⟨g2,e2⟩:=hoth _ _ _ (hin.hi.ext hR) hin.d1
  obtain ⟨g3,e3⟩:=hoth _ _ _ (hin.hk.ext hR) hin.d2
  obtain ⟨g4,e4⟩:=hoth _ _ _ (hin.hm.ext hR) hin.d3
  refine pend (Rok.nx (by assumption) (by omega) (by omega)) ⟨{c with fields:=c.fields ++ [⟨nm,t,false,pl⟩]},⟨by omega,rfl,rfl,?_,?_⟩,_,_,_,_,_,rfl,⟨hR4,hin.ha,by rw [List.map_append]; exact hv,g2,g3,g4,e2,e3,e4,hin.d4,hin.d5,hin.d6,by have:=hin.n1; simp; omega,by have:=hin.n2; simp only; omega,by have:=hin.n3; simp only; omega,by have:=hin.n4; simp only; omega⟩⟩
  ·intro h0
   simp only [wCls,wL_append,wL,wFld]
   omega
  ·intro h0 ho
   obtain ⟨o1,o2,o3,o4,o5,o6,o7⟩:=ho
   refine ⟨o1,o2,o3,?_,o5,o6,o7⟩
   intro x hx
   rcases List.mem_append.1 hx with hh | hh
   ·exact o4 x hh
   ·rw [List.mem_singleton] at hh
    subst hh
    exact ⟨hP_nm (by omega),hP_t (by omega)⟩
 ·rename Int => pl
  refine g_call rfl rfl rfl ?_; refine c_rc (cnm) hlt (by assumption) (by omega) (by omega) ?_; intro nm r1 rw_r1 hR' hok_r1 _ _ _ _ _ hP_nm; replace hR:=hR.trans hR'; (try replace hRL:=hRL.trans hR'); obtain ⟨_,_,hP_nm⟩:=hP_nm; refine zrk ?_
  refine' hG
  refine g_call rfl rfl rfl ?_; refine c_rc (hty) hlt (by assumption) (by omega) (by omega) ?_; intro t r2 rw_r2 hR' hok_r2 _ _ _ _ _ hP_t; replace hR:=hR.trans hR'; (try replace hRL:=hRL.trans hR'); obtain ⟨_,_,hP_t⟩:=hP_t; refine zrk ?_
  refine' hG
  refine id_load ?_
  refine g_load rfl rfl ?_
  refine l_ownR (vs:=fldRow ⟨nm,t,true,pl⟩) hlt at_bk1 (row_fld _) ?_
  refine' hG
  refine id_append ?_
  refine g_append rfl rfl rfl ?_
  refine ap_all (row:=fldRow ⟨nm,t,true,pl⟩) (hin.hf.ext hR) (hin.rx.trans hR) (by simp only [List.length_map,maxRow]; have:=hin.n1; omega) (by simp only [List.length_map,maxRow]; have:=hin.n1; omega) (by omega) ?_
  intro v' rw4 hv hR4 hoth
  obtain ⟨szv,tagv,rfl,-,-⟩:=hv.tag
  refine zrk ?_
  refine' hG
  refine fin_p hlt ?_
  obtain ⟨g2,e2⟩:=hoth _ _ _ (hin.hi.ext hR) hin.d1
  obtain ⟨g3,e3⟩:=hoth _ _ _ (hin.hk.ext hR) hin.d2
  obtain ⟨g4,e4⟩:=hoth _ _ _ (hin.hm.ext hR) hin.d3
  refine pend (Rok.nx (by assumption) (by omega) (by omega)) ⟨{c with fields:=c.fields ++ [⟨nm,t,true,pl⟩]},⟨by omega,rfl,rfl,?_,?_⟩,_,_,_,_,_,rfl,⟨hR4,hin.ha,by rw [List.map_append]; exact hv,g2,g3,g4,e2,e3,e4,hin.d4,hin.d5,hin.d6,by have:=hin.n1; simp; omega,by have:=hin.n2; simp only; omega,by have:=hin.n3; simp only; omega,by have:=hin.n4; simp only; omega⟩⟩
  ·intro h0
   simp only [wCls,wL_append,wL,wFld]
   omega
  ·intro h0 ho
   obtain ⟨o1,o2,o3,o4,o5,o6,o7⟩:=ho
   refine ⟨o1,o2,o3,?_,o5,o6,o7⟩
   intro x hx
   rcases List.mem_append.1 hx with hh | hh
   ·exact o4 x hh
   ·rw [List.mem_singleton] at hh
    subst hh
    exact ⟨hP_nm (by omega),hP_t (by omega)⟩
 ·rename Int => pl
  refine g_call rfl rfl rfl ?_; refine c_rc (cnm) hlt (by assumption) (by omega) (by omega) ?_; intro nm r1 rw_r1 hR' hok_r1 _ _ _ _ _ hP_nm; replace hR:=hR.trans hR'; (try replace hRL:=hRL.trans hR'); obtain ⟨_,_,hP_nm⟩:=hP_nm; refine zrk ?_
  refine' hG
  refine g_call rfl rfl rfl ?_; refine c_rc (hty) hlt (by assumption) (by omega) (by omega) ?_; intro t r2 rw_r2 hR' hok_r2 _ _ _ _ _ hP_t; replace hR:=hR.trans hR'; (try replace hRL:=hRL.trans hR'); obtain ⟨_,_,hP_t⟩:=hP_t; refine zrk ?_
  refine' hG
  refine id_load ?_
  refine g_load rfl rfl ?_
  refine l_ownR (vs:=fldRow ⟨nm,t,false,pl⟩) hlt at_bk1 (row_fld _) ?_
  refine' hG
  refine id_append ?_
  refine g_append rfl rfl rfl ?_
  refine ap_all (row:=fldRow ⟨nm,t,false,pl⟩) (hin.hf.ext hR) (hin.rx.trans hR) (by simp only [List.length_map,maxRow]; have:=hin.n1; omega) (by simp only [List.length_map,maxRow]; have:=hin.n1; omega) (by omega) ?_
  intro v' rw4 hv hR4 hoth
  obtain ⟨szv,tagv,rfl,-,-⟩:=hv.tag
  refine zrk ?_
  refine' hG
  refine fin_p hlt ?_
  obtain ⟨g2,e2⟩:=hoth _ _ _ (hin.hi.ext hR) hin.d1
  obtain ⟨g3,e3⟩:=hoth _ _ _ (hin.hk.ext hR) hin.d2
  obtain ⟨g4,e4⟩:=hoth _ _ _ (hin.hm.ext hR) hin.d3
  refine pend (Rok.nx (by assumption) (by omega) (by omega)) ⟨{c with fields:=c.fields ++ [⟨nm,t,false,pl⟩]},⟨by omega,rfl,rfl,?_,?_⟩,_,_,_,_,_,rfl,⟨hR4,hin.ha,by rw [List.map_append]; exact hv,g2,g3,g4,e2,e3,e4,hin.d4,hin.d5,hin.d6,by have:=hin.n1; simp; omega,by have:=hin.n2; simp only; omega,by have:=hin.n3; simp only; omega,by have:=hin.n4; simp only; omega⟩⟩
  ·intro h0
   simp only [wCls,wL_append,wL,wFld]
   omega
  ·intro h0 ho
   obtain ⟨o1,o2,o3,o4,o5,o6,o7⟩:=ho
   refine ⟨o1,o2,o3,?_,o5,o6,o7⟩
   intro x hx
   rcases List.mem_append.1 hx with hh | hh
   ·exact o4 x hh
   ·rw [List.mem_singleton] at hh
    subst hh
    exact ⟨hP_nm (by omega),hP_t (by omega)⟩
 ·refine g_call rfl rfl rfl ?_; refine c_rc (hex) hlt (by assumption) (by omega) (by omega) ?_; intro x1 r1 rw_r1 hR' hok_r1 _ _ _ _ _ hP_x1; replace hR:=hR.trans hR'; (try replace hRL:=hRL.trans hR'); obtain ⟨_,_,hP_x1⟩:=hP_x1; refine zrk ?_
  have e2 : (exRows c.invs).length = c.invs.length:=exRows_len _
  refine id_append1 ?_
  refine g_append1 rfl rfl rfl rfl rfl ⟨rfl,rfl,(row_ex x1).len,by simp only [closed1]; exact (row_ex x1).clo,rfl,rfl⟩ (row_ex x1).can ?_
  refine ap_all (hin.hi.ext hR) (hin.rx.trans hR) (by rw [e2]; simp only [maxRow]; have:=hin.n2; omega) (by rw [e2]; simp only [maxRow]; have:=hin.n2; omega) (by omega) ?_
  intro v' rw4 hv hR4 hoth
  obtain ⟨szv,tagv,rfl,-,-⟩:=hv.tag
  obtain ⟨g2,e2⟩:=hoth _ _ _ (hin.hf.ext hR) hin.d1.symm
  obtain ⟨g3,e3⟩:=hoth _ _ _ (hin.hk.ext hR) hin.d4
  obtain ⟨g4,e4⟩:=hoth _ _ _ (hin.hm.ext hR) hin.d5
  clear hR
  have hR:=Rx.rfl (rw:=rw4)
  refine zrk ?_
  refine' hG
  refine fin_p0 hlt ?_
  refine pend (Rok.nx (by assumption) (by omega) (by omega)) ⟨{c with invs:=c.invs ++ [x1]},⟨by omega,rfl,rfl,?_,?_⟩,_,_,_,_,_,rfl,ClsIn.ext ⟨hR4,hin.ha,g2,by rw [exRows_append]; exact hv,g3,g4,e2.symm,hin.d2,hin.d3,e3,e4,hin.d6,by have:=hin.n1; simp only; omega,by have:=hin.n2; simp; omega,by have:=hin.n3; simp only; omega,by have:=hin.n4; simp only; omega⟩ hR⟩
  ·intro h0
   simp only [wCls,wExs_append,wExs]
   omega
  ·intro h0 ho
   obtain ⟨o1,o2,o3,o4,o5,o6,o7⟩:=ho
   refine ⟨o1,o2,o3,o4,?_,o6,o7⟩
   rw [okExs_append]
   exact ⟨o5,okExs_1 (hP_x1 (by omega))⟩
 ·rename Int => pl
  refine g_call rfl rfl rfl ?_; refine c_rc (hps) hlt (by assumption) (by omega) (by omega) ?_; intro ps r1 rw_r1 hR' hok_r1 _ _ _ _ _ hP_ps; replace hR:=hR.trans hR'; (try replace hRL:=hRL.trans hR'); obtain ⟨_,_,hP_ps⟩:=hP_ps; refine zrk ?_
  refine' hG
  ·refine g_call rfl rfl rfl ?_; refine c_rc (hexs) hlt (by assumption) (by omega) (by omega) ?_; intro sp r2 rw_r2 hR' hok_r2 _ _ _ _ _ hP_sp; replace hR:=hR.trans hR'; (try replace hRL:=hRL.trans hR'); obtain ⟨_,_,hP_sp⟩:=hP_sp; refine zrk ?_
   refine' hG
   refine g_call rfl rfl rfl ?_; refine c_rc (hbl) hlt (by assumption) (by omega) (by omega) ?_; intro bl r4 rw_r4 hR' hok_r4 _ _ _ _ _ hP_bl; replace hR:=hR.trans hR'; (try replace hRL:=hRL.trans hR'); obtain ⟨_,_,hP_bl⟩:=hP_bl; refine zrk ?_
   refine' hG
   refine id_list ?_
   refine g_list rfl rfl ?_
   have hcc : canonL [ps.v,.bool true,sp.v,bl.v,.int .i64 pl] = ctrRow ⟨ps.xs,true,sp.xs,bl.xs,pl⟩:=by (simp only [canonL,ctrRow,LT.canon,List.map_cons,List.map_nil,canon_int,canon_bool]; try rfl)
   refine ls_1 (by rw [hcc]; exact row_ctr _) ?_
   refine id_append ?_
   refine g_append rfl rfl rfl ?_
   refine ap_all (hin.hk.ext hR) (hin.rx.trans hR) (by simp only [List.length_map,maxRow]; have:=hin.n3; omega) (by simp only [List.length_map,maxRow]; have:=hin.n3; omega) (by omega) ?_
   intro v' rw4 hv hR4 hoth
   rw [hcc] at hv
   obtain ⟨szv,tagv,rfl,-,-⟩:=hv.tag
   obtain ⟨g2,e2⟩:=hoth _ _ _ (hin.hf.ext hR) hin.d2.symm
   obtain ⟨g3,e3⟩:=hoth _ _ _ (hin.hi.ext hR) hin.d4.symm
   obtain ⟨g4,e4⟩:=hoth _ _ _ (hin.hm.ext hR) hin.d6
   refine zrk ?_
   refine' hG
   refine fin_p hlt ?_
   refine pend (Rok.nx (by assumption) (by omega) (by omega)) ⟨{c with ctors:=c.ctors ++ [⟨ps.xs,true,sp.xs,bl.xs,pl⟩]},⟨by omega,rfl,rfl,?_,?_⟩,_,_,_,_,_,rfl,⟨hR4,hin.ha,g2,g3,by rw [List.map_append]; exact hv,g4,hin.d1,e2.symm,hin.d3,e3.symm,hin.d5,e4,by have:=hin.n1; simp only; omega,by have:=hin.n2; simp only; omega,by have:=hin.n3; simp; omega,by have:=hin.n4; simp only; omega⟩⟩
   ·intro h0
    simp only [wCls,wL_append,wL,wCtr]
    omega
   ·intro h0 ho
    obtain ⟨o1,o2,o3,o4,o5,o6,o7⟩:=ho
    refine ⟨o1,o2,o3,o4,o5,?_,o7⟩
    intro x hx
    rcases List.mem_append.1 hx with hh | hh
    ·exact o6 x hh
    ·rw [List.mem_singleton] at hh
     subst hh
     exact ⟨hP_ps (by omega),hP_sp (by omega),hP_bl (by omega)⟩
  ·refine g_call rfl rfl rfl ?_; refine c_rc (hbl) hlt (by assumption) (by omega) (by omega) ?_; intro bl r4 rw_r4 hR' hok_r4 _ _ _ _ _ hP_bl; replace hR:=hR.trans hR'; (try replace hRL:=hRL.trans hR'); obtain ⟨_,_,hP_bl⟩:=hP_bl; refine zrk ?_
   refine' hG
   refine id_list ?_
   refine g_list rfl rfl ?_
   have hcc : canonL [ps.v,.bool false,.list 0 .full [],bl.v,.int .i64 pl] = ctrRow ⟨ps.xs,false,[],bl.xs,pl⟩:=by (simp only [canonL,ctrRow,exRows,lst_nil,LT.canon,List.map_cons,List.map_nil,canon_int,canon_bool,canon_nil]; try rfl)
   refine ls_1 (by rw [hcc]; exact row_ctr _) ?_
   refine id_append ?_
   refine g_append rfl rfl rfl ?_
   refine ap_all (hin.hk.ext hR) (hin.rx.trans hR) (by simp only [List.length_map,maxRow]; have:=hin.n3; omega) (by simp only [List.length_map,maxRow]; have:=hin.n3; omega) (by omega) ?_
   intro v' rw4 hv hR4 hoth
   rw [hcc] at hv
   obtain ⟨szv,tagv,rfl,-,-⟩:=hv.tag
   obtain ⟨g2,e2⟩:=hoth _ _ _ (hin.hf.ext hR) hin.d2.symm
   obtain ⟨g3,e3⟩:=hoth _ _ _ (hin.hi.ext hR) hin.d4.symm
   obtain ⟨g4,e4⟩:=hoth _ _ _ (hin.hm.ext hR) hin.d6
   refine zrk ?_
   refine' hG
   refine fin_p hlt ?_
   refine pend (Rok.nx (by assumption) (by omega) (by omega)) ⟨{c with ctors:=c.ctors ++ [⟨ps.xs,false,[],bl.xs,pl⟩]},⟨by omega,rfl,rfl,?_,?_⟩,_,_,_,_,_,rfl,⟨hR4,hin.ha,g2,g3,by rw [List.map_append]; exact hv,g4,hin.d1,e2.symm,hin.d3,e3.symm,hin.d5,e4,by have:=hin.n1; simp only; omega,by have:=hin.n2; simp only; omega,by have:=hin.n3; simp; omega,by have:=hin.n4; simp only; omega⟩⟩
   ·intro h0
    simp only [wCls,wL_append,wL,wCtr,wExs]
    omega
   ·intro h0 ho
    obtain ⟨o1,o2,o3,o4,o5,o6,o7⟩:=ho
    refine ⟨o1,o2,o3,o4,o5,?_,o7⟩
    intro x hx
    rcases List.mem_append.1 hx with hh | hh
    ·exact o6 x hh
    ·rw [List.mem_singleton] at hh
     subst hh
     exact ⟨hP_ps (by omega),okExs_nil,hP_bl (by omega)⟩
 ·refine g_call rfl rfl rfl ?_; refine c_rc (hhd) hlt (by assumption) (by omega) (by omega) ?_; intro m1 r1 rw_r1 hR' hok_r1 _ _ _ _ _ hP_m1; replace hR:=hR.trans hR'; (try replace hRL:=hRL.trans hR'); obtain ⟨_,_,hP_m1⟩:=hP_m1; refine zrk ?_
  obtain ⟨nm,ps,⟨kd,tn,nu,el,pd,ta⟩,bd,ab_,at_⟩:=m1
  simp only [mthRow,tyRow,List.cons_append,List.nil_append]
  obtain ⟨hb1,hb2,hok1⟩:=hP_m1
  simp only at hb1 hb2
  subst hb1 hb2
  refine' hG
  refine g_call rfl rfl rfl ?_; refine c_rc (hbl) hlt (by assumption) (by omega) (by omega) ?_; intro bl r4 rw_r4 hR' hok_r4 _ _ _ _ _ hP_bl; replace hR:=hR.trans hR'; (try replace hRL:=hRL.trans hR'); obtain ⟨_,_,hP_bl⟩:=hP_bl; refine zrk ?_
  refine' hG
  refine id_list ?_
  refine g_list rfl rfl ?_
  have hcc : canonL [AV.str nm,lst 8 (List.map parRow ps),AV.int IntKind.i64 kd,AV.str tn,AV.bool nu,lst 6 (tyRows el),lst 5 (exRows pd),AV.int IntKind.i64 ta,bl.v,AV.bool false,AV.int IntKind.i64 at_] = mthRow ⟨nm,ps,.mk kd tn nu el pd ta,bl.xs,false,at_⟩:=by (simp only [canonL,tyRow,mthRow,LT.canon,List.map_cons,List.map_nil,List.nil_append,List.cons_append,canon_lst,canon_str,canon_int,canon_bool]; try rfl)
  refine ls_1 (by rw [hcc]; exact row_mth _) ?_
  refine id_append ?_
  refine g_append rfl rfl rfl ?_
  refine ap_all (hin.hm.ext hR) (hin.rx.trans hR) (by simp only [List.length_map,maxRow]; have:=hin.n4; omega) (by simp only [List.length_map,maxRow]; have:=hin.n4; omega) (by omega) ?_
  intro v' rw4 hv hR4 hoth
  rw [hcc] at hv
  obtain ⟨szv,tagv,rfl,-,-⟩:=hv.tag
  obtain ⟨g2,e2⟩:=hoth _ _ _ (hin.hf.ext hR) hin.d3.symm
  obtain ⟨g3,e3⟩:=hoth _ _ _ (hin.hi.ext hR) hin.d5.symm
  obtain ⟨g4,e4⟩:=hoth _ _ _ (hin.hk.ext hR) hin.d6.symm
  refine zrk ?_
  refine' hG
  refine fin_p hlt ?_
  refine pend (Rok.nx (by assumption) (by omega) (by omega)) ⟨{c with meths:=c.meths ++ [⟨nm,ps,.mk kd tn nu el pd ta,bl.xs,false,at_⟩]},⟨by omega,rfl,rfl,?_,?_⟩,_,_,_,_,_,rfl,⟨hR4,hin.ha,g2,g3,g4,by rw [List.map_append]; exact hv,hin.d1,hin.d2,e2.symm,hin.d4,e3.symm,e4.symm,by have:=hin.n1; simp only; omega,by have:=hin.n2; simp only; omega,by have:=hin.n3; simp only; omega,by have:=hin.n4; simp; omega⟩⟩
  ·intro h0
   simp only [wMth,wSms] at *
   simp only [wCls,wL_append,wL,wMth]
   omega
  ·intro h0 ho
   obtain ⟨o1,o2,o3,o4,o5,o6,o7⟩:=ho
   refine ⟨o1,o2,o3,o4,o5,o6,?_⟩
   intro x hx
   rcases List.mem_append.1 hx with hh | hh
   ·exact o7 x hh
   ·rw [List.mem_singleton] at hh
    subst hh
    obtain ⟨q1,q2,q3,-⟩:=hok1 (by omega)
    exact ⟨q1,q2,q3,hP_bl (by omega)⟩
 ·refine fin_p0 hlt ?_
  exact pend (Rok.nx (by assumption) (by omega) (by omega)) ⟨c,⟨by omega,rfl,rfl,fun h => absurd h (by omega),fun h => absurd h (by omega)⟩,_,_,_,_,_,rfl,(hin.ext hR).more⟩
end Go.Proofs.YtmeakjgbjldkdaaGreat.Ai
namespace Go.Proofs.YtmeakjgbjldkdaaGreat.Ai
open Go
variable {pr : Prims} {F : Nat → Option IFn}
def clsP (_ : Src) (r : Rd) (c : Cls) (r' : Rd) : Prop:=r'.deep = r.deep ∧ (r'.code = 0 → r.i < r'.i ∧ (wCls c : Int) ≤ 7000 * (r'.i - r.i)) ∧ (r'.code = 0 → okCls c)
theorem ClsIn.can {rw0 rw : List Nat} {b : Nat} {c : Cls} {ab f i k m : AV} (h : ClsIn rw0 rw b c ab f i k m) : canonL [.str c.name,.bool c.iface,.str c.super,ab,f,i,k,m,.int .i64 c.at_] = clsRow c:=by
 have e1:=h.ha.canon
 have e2:=h.hf.isL.canon
 have e3:=h.hi.isL.canon
 have e4:=h.hk.isL.canon
 have e5:=h.hm.isL.canon
 simp only [canonL,List.map_cons,List.map_nil,e1,e2,e3,e4,e5,clsRow]
 rfl
theorem disj0 {v : AV} : Disj (.list 0 .full []) v:=fun a h => by simp [rowOf] at h
theorem memPre.of {rw0 rw : List Nat} {b : Nat} {c : Cls} {ab f i k m : AV} (h : ClsIn rw0 rw b c ab f i k m) : memPre rw0 b c rw [.str c.name,.bool c.iface,.str c.super,ab,f,i,k,m,.int .i64 c.at_]:=⟨ab,f,i,k,m,rfl,h⟩
theorem cls_loop (L : LibS pr F) {H : List Blk} {rw rwc : List Nat} {n : Nat} {s : Src} {r rc : Rd} {c : Cls} {ab f i k m : AV} (hlt : n < H.length) (hsm : s.toks.length ≤ 6000) (hd : rc.deep = r.deep) (hd1 : 101 ≤ r.deep + 2000) (hd2 : r.deep ≤ 200) (_hri : 0 ≤ r.i) (_hrl : r.i ≤ s.toks.length) (hok : Rok s rc) (hi : r.i ≤ rc.i) (hcd : rc.code = 0 → r.code = 0) (hR : Rx rw rwc) (hin : ClsIn rw rwc 0 c ab f i k m) (hw : rc.code = 0 → r.i < rc.i ∧ (wCls c : Int) ≤ 7000 * (rc.i - r.i)) (ho : rc.code = 0 → okCls c) :
  At pr F H.length (fin [.cell 2 (some 9)] H.length (REnd (fun x : Cls => AV.agg (clsRow x)) clsP H n s r rw)) (.loop [0,2,3] ((r91_9.seq (.cond (.tmp 33) .skip (.exit 0))).seq (.block 1 r91_10))) [.blk 0,.code (r91_11.seq .ret)]
   [(0,.ptr n 0),(2,.ptr (H.length + 0) 0),(3,.ptr (H.length + 1) 0)]
   ⟨hp H n (blk s rc) [.cells [.str [],.bool false,.str [],.list 0 .full [],.list 0 .full [],.list 0 .full [],.list 0 .full [],.list 0 .full [],.int .i64 0],.cells [.str c.name,.bool c.iface,.str c.super,ab,f,i,k,m,.int .i64 c.at_]],rwc⟩:=by
 have hm:=L.hm
 have cis0:=fun x => rq_is L.toLibR 0 (by omega) x
 have cis1:=fun x => rq_is L.toLibR 1 (by omega) x
 have cis2:=fun x => rq_is L.toLibR 2 (by omega) x
 have cpl:=rq_place L.toLibR
 have ctk:=fun x => rc_take L.toLibR x 2000
 have cen:=rc_enter L.toLibR 2000
 have cnd:=fun x => rc_need L.toLibR x 2000
 have cfl:=rc_fail L.toLibR 110 (by omega) 2000
 have cnm:=rc_name L.toLibR 2000
 have hlo:=hok.lo
 have hhi:=hok.hi
 refine at_loop hm (fun mm e S' => ∃ (r' : Rd) (rw' : List Nat) (c' : Cls) (ab' f' i' k' m' : AV) (b : Nat),S' = ⟨hp H n (blk s r') [.cells [.str [],.bool false,.str [],.list 0 .full [],.list 0 .full [],.list 0 .full [],.list 0 .full [],.list 0 .full [],.int .i64 0],.cells [.str c'.name,.bool c'.iface,.str c'.super,ab',f',i',k',m',.int .i64 c'.at_]],rw'⟩ ∧ Rok s r' ∧ r.i ≤ r'.i ∧ r'.deep = r.deep ∧ (r'.code = 0 → r.code = 0) ∧ Rx rw rw' ∧ ClsIn rw rw' b c' ab' f' i' k' m' ∧ (r'.code = 0 → (b : Int) ≤ r'.i) ∧
   (r'.code = 0 → r.i < r'.i ∧ (wCls c' : Int) ≤ 7000 * (r'.i - r.i)) ∧ (r'.code = 0 → okCls c') ∧ (mm : Int) = 2 * (s.toks.length - r'.i) + (if r'.code = 0 then 1 else 0) ∧
   e = [(0,.ptr n 0),(2,.ptr (H.length + 0) 0),(3,.ptr (H.length + 1) 0)]) ?_ (m:=(2 * (s.toks.length - rc.i) + (if rc.code = 0 then 1 else 0)).toNat) ⟨rc,rwc,c,ab,f,i,k,m,0,rfl,hok,hi,hd,hcd,hR,hin,fun _ => by omega,hw,ho,by split <;> omega,rfl⟩
 clear hR hd hok hi hcd hin hw ho hlo hhi
 rintro mm e S' ⟨r',rw',c',ab',f',i',k',m',b,rfl,hok',h2,h3,h4,hR,hin,h7,h8,h9,hmm,rfl⟩
 have h5:=hok'.lo
 have h6:=hok'.hi
 have hDlo:=hok'.dlo
 have hRL : Rx rw' rw':=Rx.rfl
 by_cases hc : r'.code = 0
 ·rw [if_pos hc] at hmm
  refine' hG
  ·rw [hin.can]
   refine fin_cell hlt rfl rfl (row_cls c').load ((row_cls _).below _) ?_
   exact rend c' hR rfl (Rok.nx (by assumption) (by omega) (by omega)) ⟨by omega,fun h => by have:=h8 hc; omega,fun h => h9 hc⟩
  ·refine g_call rfl rfl rfl ?_
   refine c_rp (rp_member L rw b (by have:=h7 hc; omega) c') hlt (by assumption) (by omega) (by omega) (memPre.of (hin.ext hRL)) ?_
   intro C' r1 rw1 hok1 _ _ _ _ _ hP
   obtain ⟨c2,⟨p1,p2,p3,p4,p5⟩,ab2,f2,i2,k2,m2,rfl,hin2⟩:=hP
   clear hR hRL
   have hR:=hin2.rx
   refine zrk ?_
   refine' hG
   have q7:=h7 hc
   have q8:=h8 hc
   refine ⟨(2 * (s.toks.length - r1.i) + (if r1.code = 0 then 1 else 0)).toNat,?_,r1,rw1,c2,ab2,f2,i2,k2,m2,b + 1,rfl,hok1,by omega,by omega,by omega,hR,hin2,?_,?_,?_,by split <;> omega,rfl⟩
   ·split
    ·have:=p4 (by assumption); omega
    ·omega
   ·intro h0; have:=p4 h0; omega
   ·intro h0; have:=p4 h0; omega
   ·intro h0; exact p5 h0 (h9 hc)
 ·refine' hG
  rw [hin.can]
  refine fin_cell hlt rfl rfl (row_cls c').load ((row_cls _).below _) ?_
  exact rend c' hR rfl (Rok.nx (by assumption) (by omega) (by omega)) ⟨by omega,fun h => absurd h (by omega),fun h => absurd h (by omega)⟩
theorem rc_class (L : LibS pr F) : RC pr F (fun x : Cls => AV.agg (clsRow x)) clsP 91 [] 2000:=by
 have hm:=L.hm
 have cis0:=fun x => rq_is L.toLibR 0 (by omega) x
 have cis1:=fun x => rq_is L.toLibR 1 (by omega) x
 have cis2:=fun x => rq_is L.toLibR 2 (by omega) x
 have cpl:=rq_place L.toLibR
 have ctk:=fun x => rc_take L.toLibR x 2000
 have cen:=rc_enter L.toLibR 2000
 have cnd:=fun x => rc_need L.toLibR x 2000
 have cfl:=rc_fail L.toLibR 110 (by omega) 2000
 have cnm:=rc_name L.toLibR 2000
 have hns:=rc_names L
 refine rc_start hm L.f91.1 L.f91.2 rfl ?_
 intro H rw n s r hlt hsm hok _ _ _ _ _
 have hR : Rx rw rw:=Rx.rfl
 clear cpl
 refine' hG
 refine g_call rfl rfl rfl ?_
 refine c_rq (rq_place L.toLibR) hlt (by assumption) ?_
 intro pl _
 refine zrk ?_
 refine' hG
 refine g_call rfl rfl rfl ?_; refine c_rc (cnm) hlt (by assumption) (by omega) (by omega) ?_; intro nm r1 rw_r1 hR' hok_r1 _ _ _ _ _ hP_nm; replace hR:=hR.trans hR'; (try replace hRL:=hRL.trans hR'); obtain ⟨_,_,hP_nm⟩:=hP_nm; refine zrk ?_
 refine' hG
 ·refine g_call rfl rfl rfl ?_; refine c_rc (cnm) hlt (by assumption) (by omega) (by omega) ?_; intro su r2 rw_r2 hR' hok_r2 _ _ _ _ _ hP_su; replace hR:=hR.trans hR'; (try replace hRL:=hRL.trans hR'); obtain ⟨_,_,hP_su⟩:=hP_su; refine zrk ?_
  refine' hG
  ·refine g_call rfl rfl rfl ?_; refine c_rc (hns) hlt (by assumption) (by omega) (by omega) ?_; intro ns r3 rw_r3 hR' hok_r3 _ _ _ _ _ hP_ns; replace hR:=hR.trans hR'; (try replace hRL:=hRL.trans hR'); obtain ⟨_,_,hP_ns⟩:=hP_ns; refine zrk ?_
   refine' hG
   refine cls_loop L (c:=⟨nm,false,su,ns.xs,[],[],[],[],pl⟩) hlt hsm (by omega) (by omega) (by omega) (by omega) (by omega) (by assumption) (by omega) (by omega) hR ⟨hR,ns.is,.nil,.nil,.nil,.nil,disj0,disj0,disj0,disj0,disj0,disj0,Nat.le_refl _,Nat.le_refl _,Nat.le_refl _,Nat.le_refl _⟩ ?_ ?_
   ·intro h0; simp only [wCls,wL,wExs]; omega
   ·exact fun h0 => ⟨hP_nm (by omega),.inr (hP_su (by omega)),hP_ns (by omega),by simp,okExs_nil,by simp,by simp⟩
  ·skip
   refine cls_loop L (c:=⟨nm,false,su,[],[],[],[],[],pl⟩) hlt hsm (by omega) (by omega) (by omega) (by omega) (by omega) (by assumption) (by omega) (by omega) hR ⟨hR,IsL.nil,.nil,.nil,.nil,.nil,disj0,disj0,disj0,disj0,disj0,disj0,Nat.le_refl _,Nat.le_refl _,Nat.le_refl _,Nat.le_refl _⟩ ?_ ?_
   ·intro h0; simp only [wCls,wL,wExs]; omega
   ·exact fun h0 => ⟨hP_nm (by omega),.inr (hP_su (by omega)),by simp,by simp,okExs_nil,by simp,by simp⟩
 ·refine g_call rfl rfl rfl ?_; refine c_rc (hns) hlt (by assumption) (by omega) (by omega) ?_; intro ns r3 rw_r3 hR' hok_r3 _ _ _ _ _ hP_ns; replace hR:=hR.trans hR'; (try replace hRL:=hRL.trans hR'); obtain ⟨_,_,hP_ns⟩:=hP_ns; refine zrk ?_
  refine' hG
  refine cls_loop L (c:=⟨nm,false,[],ns.xs,[],[],[],[],pl⟩) hlt hsm (by omega) (by omega) (by omega) (by omega) (by omega) (by assumption) (by omega) (by omega) hR ⟨hR,ns.is,.nil,.nil,.nil,.nil,disj0,disj0,disj0,disj0,disj0,disj0,Nat.le_refl _,Nat.le_refl _,Nat.le_refl _,Nat.le_refl _⟩ ?_ ?_
  ·intro h0; simp only [wCls,wL,wExs,List.length_nil]; omega
  ·exact fun h0 => ⟨hP_nm (by omega),.inl rfl,hP_ns (by omega),by simp,okExs_nil,by simp,by simp⟩
 ·skip
  refine cls_loop L (c:=⟨nm,false,[],[],[],[],[],[],pl⟩) hlt hsm (by omega) (by omega) (by omega) (by omega) (by omega) (by assumption) (by omega) (by omega) hR ⟨hR,IsL.nil,.nil,.nil,.nil,.nil,disj0,disj0,disj0,disj0,disj0,disj0,Nat.le_refl _,Nat.le_refl _,Nat.le_refl _,Nat.le_refl _⟩ ?_ ?_
  ·intro h0; simp only [wCls,wL,wExs,List.length_nil]; omega
  ·exact fun h0 => ⟨hP_nm (by omega),.inl rfl,by simp,by simp,okExs_nil,by simp,by simp⟩
end Go.Proofs.YtmeakjgbjldkdaaGreat.Ai
namespace Go.Proofs.YtmeakjgbjldkdaaGreat.Ai
open Go
variable {pr : Prims} {F : Nat → Option IFn}
theorem ifc_loop (L : LibS pr F) {H : List Blk} {rw rwc : List Nat} {n : Nat} {s : Src} {r rc : Rd} {c : Cls} {ab f i k m : AV} (hlt : n < H.length) (hsm : s.toks.length ≤ 6000) (hd : rc.deep = r.deep) (hd1 : 101 ≤ r.deep + 2000) (hd2 : r.deep ≤ 200) (_hri : 0 ≤ r.i) (_hrl : r.i ≤ s.toks.length) (hok : Rok s rc) (hi : r.i ≤ rc.i) (hcd : rc.code = 0 → r.code = 0) (hR : Rx rw rwc) (hin : ClsIn rw rwc 0 c ab f i k m) (hw : rc.code = 0 → r.i < rc.i ∧ (wCls c : Int) ≤ 7000 * (rc.i - r.i)) (ho : rc.code = 0 → okCls c) :
  At pr F H.length (fin [.cell 2 (some 9)] H.length (REnd (fun x : Cls => AV.agg (clsRow x)) clsP H n s r rw)) (.loop [0,2,3] ((r92_7.seq (.cond (.tmp 29) .skip (.exit 0))).seq (.block 1 (.seq r92_8 (.seq r92_9 (.seq r92_10 r92_11)))))) [.blk 0,.code (r92_12.seq .ret)]
   [(0,.ptr n 0),(2,.ptr (H.length + 0) 0),(3,.ptr (H.length + 1) 0)]
   ⟨hp H n (blk s rc) [.cells [.str [],.bool false,.str [],.list 0 .full [],.list 0 .full [],.list 0 .full [],.list 0 .full [],.list 0 .full [],.int .i64 0],.cells [.str c.name,.bool c.iface,.str c.super,ab,f,i,k,m,.int .i64 c.at_]],rwc⟩:=by
 have hm:=L.hm
 have cis0:=fun x => rq_is L.toLibR 0 (by omega) x
 have cis1:=fun x => rq_is L.toLibR 1 (by omega) x
 have cis2:=fun x => rq_is L.toLibR 2 (by omega) x
 have cpl:=rq_place L.toLibR
 have ctk:=fun x => rc_take L.toLibR x 2000
 have cen:=rc_enter L.toLibR 2000
 have cnd:=fun x => rc_need L.toLibR x 2000
 have cfl:=rc_fail L.toLibR 110 (by omega) 2000
 have cnm:=rc_name L.toLibR 2000
 have hhd:=rc_head L
 have hlo:=hok.lo
 have hhi:=hok.hi
 refine at_loop hm (fun mm e S' => ∃ (r' : Rd) (rw' : List Nat) (c' : Cls) (ab' f' i' k' m' : AV) (b : Nat) (J : List Blk),S' = ⟨hp H n (blk s r') (.cells [.str [],.bool false,.str [],.list 0 .full [],.list 0 .full [],.list 0 .full [],.list 0 .full [],.list 0 .full [],.int .i64 0] :: .cells [.str c'.name,.bool c'.iface,.str c'.super,ab',f',i',k',m',.int .i64 c'.at_] :: J),rw'⟩ ∧ Rok s r' ∧ r.i ≤ r'.i ∧ r'.deep = r.deep ∧ (r'.code = 0 → r.code = 0) ∧ Rx rw rw' ∧ ClsIn rw rw' b c' ab' f' i' k' m' ∧ (r'.code = 0 → (b : Int) ≤ r'.i) ∧
   (r'.code = 0 → r.i < r'.i ∧ (wCls c' : Int) ≤ 7000 * (r'.i - r.i)) ∧ (r'.code = 0 → okCls c') ∧ (mm : Int) = 2 * (s.toks.length - r'.i) + (if r'.code = 0 then 1 else 0) ∧
   e = [(0,.ptr n 0),(2,.ptr (H.length + 0) 0),(3,.ptr (H.length + 1) 0)]) ?_ (m:=(2 * (s.toks.length - rc.i) + (if rc.code = 0 then 1 else 0)).toNat) ⟨rc,rwc,c,ab,f,i,k,m,0,[],rfl,hok,hi,hd,hcd,hR,hin,fun _ => by omega,hw,ho,by split <;> omega,rfl⟩
 clear hR hd hok hi hcd hin hw ho hlo hhi
 rintro mm e S' ⟨r',rw',c',ab',f',i',k',m',b,J,rfl,hok',h2,h3,h4,hR,hin,h7,h8,h9,hmm,rfl⟩
 have h5:=hok'.lo
 have h6:=hok'.hi
 have hDlo:=hok'.dlo
 have hRL : Rx rw' rw':=Rx.rfl
 by_cases hc : r'.code = 0
 ·rw [if_pos hc] at hmm
  refine' hG
  ·rw [hin.can]
   refine fin_cell hlt rfl rfl (row_cls c').load ((row_cls _).below _) ?_
   exact rend c' hR rfl (Rok.nx (by assumption) (by omega) (by omega)) ⟨by omega,fun h => by have:=h8 hc; omega,fun h => h9 hc⟩
  ·refine g_call rfl rfl rfl ?_; refine c_rc (hhd) hlt (by assumption) (by omega) (by omega) ?_; intro m1 r1 rw_r1 hR' hok_r1 _ _ _ _ _ hP_m1; replace hR:=hR.trans hR'; (try replace hRL:=hRL.trans hR'); obtain ⟨_,_,hP_m1⟩:=hP_m1; refine zrk ?_
   obtain ⟨nm,ps,⟨kd,tn,nu,el,pd,ta⟩,bd,ab_,at_⟩:=m1
   simp only [mthRow,tyRow,List.cons_append,List.nil_append]
   obtain ⟨hb1,hb2,hok1⟩:=hP_m1
   simp only at hb1 hb2
   subst hb1 hb2
   refine' hG
   refine id_list ?_
   refine g_list rfl rfl ?_
   have hcc : canonL [AV.str nm,lst 8 (List.map parRow ps),AV.int IntKind.i64 kd,AV.str tn,AV.bool nu,lst 6 (tyRows el),lst 5 (exRows pd),AV.int IntKind.i64 ta,lst 7 (smRows []),AV.bool true,AV.int IntKind.i64 at_] = mthRow ⟨nm,ps,.mk kd tn nu el pd ta,[],true,at_⟩:=by (simp only [canonL,tyRow,mthRow,smRows,lst_nil,List.map_cons,List.map_nil,List.nil_append,List.cons_append,canon_lst,canon_str,canon_int,canon_bool,canon_nil]; try rfl)
   refine ls_1 (by rw [hcc]; exact row_mth _) ?_
   have hin:=hin.ext hRL
   have q7:=h7 hc
   refine id_append ?_
   refine g_append rfl rfl rfl ?_
   refine ap_all hin.hm hin.rx (by simp only [List.length_map,maxRow]; have:=hin.n4; omega) (by simp only [List.length_map,maxRow]; have:=hin.n4; omega) (by omega) ?_
   intro v' rw4 hv hR4 hoth
   rw [hcc] at hv
   obtain ⟨szv,tagv,rfl,-,-⟩:=hv.tag
   obtain ⟨g2,e2⟩:=hoth _ _ _ hin.hf hin.d3.symm
   obtain ⟨g3,e3⟩:=hoth _ _ _ hin.hi hin.d5.symm
   obtain ⟨g4,e4⟩:=hoth _ _ _ hin.hk hin.d6.symm
   refine zrk ?_
   refine' hG
   have q8:=h8 hc
   refine ⟨(2 * (s.toks.length - rc.i) + (if rc.code = 0 then 1 else 0)).toNat,?_,rc,rw4,{c' with meths:=c'.meths ++ [⟨nm,ps,.mk kd tn nu el pd ta,[],true,at_⟩]},_,_,_,_,_,b + 1,_,rfl,by assumption,by omega,by omega,by omega,hR4,⟨hR4,hin.ha,g2,g3,g4,by rw [List.map_append]; exact hv,hin.d1,hin.d2,e2.symm,hin.d4,e3.symm,e4.symm,by have:=hin.n1; simp only; omega,by have:=hin.n2; simp only; omega,by have:=hin.n3; simp only; omega,by have:=hin.n4; simp; omega⟩,?_,?_,?_,by split <;> omega,rfl⟩
   ·split <;> omega
   ·intro h0; omega
   ·intro h0
    simp only [wCls,wMth,wSms] at *
    simp only [wL_append,wL,wMth,wSms]
    omega
   ·intro h0
    obtain ⟨o1,o2,o3,o4,o5,o6,o7⟩:=h9 hc
    refine ⟨o1,o2,o3,o4,o5,o6,?_⟩
    intro x hx
    rcases List.mem_append.1 hx with hh | hh
    ·exact o7 x hh
    ·rw [List.mem_singleton] at hh
     subst hh
     obtain ⟨q1,q2,q3,-⟩:=hok1 (by omega)
     exact ⟨q1,q2,q3,trivial⟩
 ·refine' hG
  rw [hin.can]
  refine fin_cell hlt rfl rfl (row_cls c').load ((row_cls _).below _) ?_
  exact rend c' hR rfl (Rok.nx (by assumption) (by omega) (by omega)) ⟨by omega,fun h => absurd h (by omega),fun h => absurd h (by omega)⟩
theorem rc_iface (L : LibS pr F) : RC pr F (fun x : Cls => AV.agg (clsRow x)) clsP 92 [] 2000:=by
 have hm:=L.hm
 have cis0:=fun x => rq_is L.toLibR 0 (by omega) x
 have cis1:=fun x => rq_is L.toLibR 1 (by omega) x
 have cis2:=fun x => rq_is L.toLibR 2 (by omega) x
 have cpl:=rq_place L.toLibR
 have ctk:=fun x => rc_take L.toLibR x 2000
 have cen:=rc_enter L.toLibR 2000
 have cnd:=fun x => rc_need L.toLibR x 2000
 have cfl:=rc_fail L.toLibR 110 (by omega) 2000
 have cnm:=rc_name L.toLibR 2000
 have hns:=rc_names L
 refine rc_start hm L.f92.1 L.f92.2 rfl ?_
 intro H rw n s r hlt hsm hok _ _ _ _ _
 have hR : Rx rw rw:=Rx.rfl
 clear cpl
 refine' hG
 refine g_call rfl rfl rfl ?_
 refine c_rq (rq_place L.toLibR) hlt (by assumption) ?_
 intro pl _
 refine zrk ?_
 refine' hG
 refine g_call rfl rfl rfl ?_; refine c_rc (cnm) hlt (by assumption) (by omega) (by omega) ?_; intro nm r1 rw_r1 hR' hok_r1 _ _ _ _ _ hP_nm; replace hR:=hR.trans hR'; (try replace hRL:=hRL.trans hR'); obtain ⟨_,_,hP_nm⟩:=hP_nm; refine zrk ?_
 refine' hG
 ·refine g_call rfl rfl rfl ?_; refine c_rc (hns) hlt (by assumption) (by omega) (by omega) ?_; intro ns r3 rw_r3 hR' hok_r3 _ _ _ _ _ hP_ns; replace hR:=hR.trans hR'; (try replace hRL:=hRL.trans hR'); obtain ⟨_,_,hP_ns⟩:=hP_ns; refine zrk ?_
  refine' hG
  refine ifc_loop L (c:=⟨nm,true,[],ns.xs,[],[],[],[],pl⟩) hlt hsm (by omega) (by omega) (by omega) (by omega) (by omega) (by assumption) (by omega) (by omega) hR ⟨hR,ns.is,.nil,.nil,.nil,.nil,disj0,disj0,disj0,disj0,disj0,disj0,Nat.le_refl _,Nat.le_refl _,Nat.le_refl _,Nat.le_refl _⟩ ?_ ?_
  ·intro h0; simp only [wCls,wL,wExs,List.length_nil]; omega
  ·exact fun h0 => ⟨hP_nm (by omega),.inl rfl,hP_ns (by omega),by simp,okExs_nil,by simp,by simp⟩
 ·refine ifc_loop L (c:=⟨nm,true,[],[],[],[],[],[],pl⟩) hlt hsm (by omega) (by omega) (by omega) (by omega) (by omega) (by assumption) (by omega) (by omega) hR ⟨hR,IsL.nil,.nil,.nil,.nil,.nil,disj0,disj0,disj0,disj0,disj0,disj0,Nat.le_refl _,Nat.le_refl _,Nat.le_refl _,Nat.le_refl _⟩ ?_ ?_
  ·intro h0; simp only [wCls,wL,wExs,List.length_nil]; omega
  ·exact fun h0 => ⟨hP_nm (by omega),.inl rfl,by simp,by simp,okExs_nil,by simp,by simp⟩
end Go.Proofs.YtmeakjgbjldkdaaGreat.Ai
