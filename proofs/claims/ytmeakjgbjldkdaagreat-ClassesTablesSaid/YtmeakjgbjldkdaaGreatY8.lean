/- A part of what is proved: R1, R2, R3, R4, R5, R6, R7, R8, R9. No condition. -/
import Derived.Test.YtmeakjgbjldkdaaGreatY7
set_option maxRecDepth 100000
set_option maxHeartbeats 16000000
namespace Go.Proofs.YtmeakjgbjldkdaaGreat.Ai
open Go
variable {pr : Prims} {F : Nat → Option IFn}
structure Out (α : Type) where
 x : α
 r : Rd
 rw : List Nat
structure Nx (s : Src) (r r' : Rd) : Prop where
 lo : 0 ≤ r'.i
 hi : r'.i ≤ s.toks.length
 dlo : 0 ≤ r'.deep
 dhi : r'.deep ≤ 1000
 mono : r.i ≤ r'.i
 code : r'.code = 0 → r.code = 0
def RC (pr : Prims) (F : Nat → Option IFn) {α : Type} (enc : α → AV) (post : Src → Rd → α → Rd → Prop) (f : Nat) (args : List AV) (m : Int) : Prop:=
 ∀ (H : List Blk) (rw : List Nat) (n : Nat) (s : Src) (r : Rd) (M : List Blk),n < H.length → Rok s r → 101 ≤ r.deep + m → r.deep ≤ 200 →
  ∃ o : Out α,(Nx s r o.r ∧ Rx rw o.rw ∧ post s r o.x o.r) ∧ Det pr F f (.ptr n 0 :: args) ⟨hp H n (blk s r) M,rw⟩ (.ret (enc o.x)) ⟨hp H n (blk s o.r) M,o.rw⟩
theorem hp_hp {H : List Blk} {n : Nat} {b b' : Blk} {L : List Blk} : hp (hp H n b L) n b' [] = hp H n b' L:=by simp [hp]
theorem at_start_hp (hp_ : Mono pr) {f : Nat} {na : Nat} {c : IC} {res : List RVar} {vs : List AV} {H : List Blk} {rw : List Nat} {n : Nat} {b : Blk} {Q : Res → St → Prop} (h1 : pr f = none) (h2 : F f = some ⟨na,c,res⟩) (h3 : vs.length = na) (hn : H = hp H n b [])
  (h : At pr F H.length (fin res H.length Q) c [] (args0 vs) ⟨hp H n b [],rw⟩) : Wp pr F f vs ⟨H,rw⟩ Q:=by
 refine at_start hp_ h1 h2 h3 ?_
 rw [← hn] at h
 exact h
def REnd {α : Type} (enc : α → AV) (post : Src → Rd → α → Rd → Prop) (H : List Blk) (n : Nat) (s : Src) (r : Rd) (rw : List Nat) (q : Res) (S' : St) : Prop:=
 ∃ o : Out α,(Nx s r o.r ∧ Rx rw o.rw ∧ post s r o.x o.r) ∧ q = .ret (enc o.x) ∧ S' = ⟨hp H n (blk s o.r) [],o.rw⟩
theorem rend {α : Type} {enc : α → AV} {post : Src → Rd → α → Rd → Prop} {H : List Blk} {n : Nat} {s : Src} {r r' : Rd} {rw rw' : List Nat} {v : AV} (x : α) (hR : Rx rw rw') (hx : v = enc x) (hn : Nx s r r') (hp' : post s r x r') : REnd enc post H n s r rw (.ret v) ⟨hp H n (blk s r') [],rw'⟩:=
 ⟨⟨x,r',rw'⟩,⟨hn,hR,hp'⟩,by rw [hx],rfl⟩
theorem rc_start (hm : Mono pr) {α : Type} {enc : α → AV} {post : Src → Rd → α → Rd → Prop} {f na : Nat} {c : IC} {res : List RVar} {args : List AV} {m : Int} (h1 : pr f = none) (h2 : F f = some ⟨na,c,res⟩) (h3 : args.length + 1 = na)
  (h : ∀ (H : List Blk) (rw : List Nat) (n : Nat) (s : Src) (r : Rd),n < H.length → s.toks.length ≤ 6000 → Rok s r → 0 ≤ r.i → r.i ≤ s.toks.length → 0 ≤ r.deep → r.deep ≤ 200 → 101 ≤ r.deep + m →
   At pr F H.length (fin res H.length (REnd enc post H n s r rw)) c [] (args0 (.ptr n 0 :: args)) ⟨hp H n (blk s r) [],rw⟩) : RC pr F enc post f args m:=by
 intro H0 rw n s r M hlt hr hd hd2
 have hw : Wp pr F f (.ptr n 0 :: args) ⟨hp H0 n (blk s r) M,rw⟩ fun q S' => ∃ o : Out α,(Nx s r o.r ∧ Rx rw o.rw ∧ post s r o.x o.r) ∧ q = .ret (enc o.x) ∧ S' = ⟨hp H0 n (blk s o.r) M,o.rw⟩:=by
  refine at_start_hp hm h1 h2 (by simp [h3]) (n:=n) (b:=blk s r) (by rw [hp_hp]) ?_
  have:=h (hp H0 n (blk s r) M) rw n s r (by rw [hp_len]; omega) s.small hr hr.lo hr.hi hr.dlo hd2 hd
  unfold REnd at this
  simpa only [hp_hp] using this
 obtain ⟨q,S',hd,o,hp,rfl,rfl⟩:=hw.det hm
 exact ⟨o,hp,hd⟩
def RQ (pr : Prims) (F : Nat → Option IFn) {α : Type} (enc : α → AV) (post : Src → Rd → α → Prop) (f : Nat) (args : List AV) : Prop:=
 ∀ (H : List Blk) (rw : List Nat) (n : Nat) (s : Src) (r : Rd) (M : List Blk),n < H.length → Rok s r →
  ∃ x : α,post s r x ∧ Det pr F f (.ptr n 0 :: args) ⟨hp H n (blk s r) M,rw⟩ (.ret (enc x)) ⟨hp H n (blk s r) M,rw⟩
theorem c_rc {K : AV → St → Prop} {H : List Blk} {rw : List Nat} {n : Nat} {s : Src} {r : Rd} {M : List Blk} {α : Type} {enc : α → AV} {post : Src → Rd → α → Rd → Prop} {fn : Nat} {args : List AV} {m : Int} (hc : RC pr F enc post fn args m) (hlt : n < H.length) (hok : Rok s r) (hd : 101 ≤ r.deep + m) (hd2 : r.deep ≤ 200)
  (h : ∀ (x : α) (r' : Rd) (rw' : List Nat),Rx rw rw' → Rok s r' → 0 ≤ r'.i → r'.i ≤ s.toks.length → 0 ≤ r'.deep → r.i ≤ r'.i → (r'.code = 0 → r.code = 0) → post s r x r' → K (enc x) ⟨hp H n (blk s r') M,rw'⟩) :
  ClAt pr F fn (.ptr n 0 :: args) ⟨hp H n (blk s r) M,rw⟩ K:=by
 obtain ⟨o,⟨hn,hR,hp'⟩,hdet⟩:=hc H rw n s r M hlt hok hd hd2
 exact ⟨_,_,hdet,h o.x o.r o.rw hR ⟨hn.lo,hn.hi,hn.dlo,hn.dhi⟩ hn.lo hn.hi hn.dlo hn.mono hn.code hp'⟩
theorem c_rcb {K : AV → St → Prop} {H : List Blk} {rw : List Nat} {n : Nat} {s : Src} {r : Rd} {M : List Blk} {enc : Bool → AV} {post : Src → Rd → Bool → Rd → Prop} {fn : Nat} {args : List AV} {m : Int} (hc : RC pr F enc post fn args m) (hlt : n < H.length) (hok : Rok s r) (hd : 101 ≤ r.deep + m) (hd2 : r.deep ≤ 200)
  (h : ∀ (r' : Rd) (rw' : List Nat),Rx rw rw' → Rok s r' → 0 ≤ r'.i → r'.i ≤ s.toks.length → 0 ≤ r'.deep → r.i ≤ r'.i → (r'.code = 0 → r.code = 0) → post s r true r' → K (enc true) ⟨hp H n (blk s r') M,rw'⟩)
  (h' : ∀ (r' : Rd) (rw' : List Nat),Rx rw rw' → Rok s r' → 0 ≤ r'.i → r'.i ≤ s.toks.length → 0 ≤ r'.deep → r.i ≤ r'.i → (r'.code = 0 → r.code = 0) → post s r false r' → K (enc false) ⟨hp H n (blk s r') M,rw'⟩) :
  ClAt pr F fn (.ptr n 0 :: args) ⟨hp H n (blk s r) M,rw⟩ K:=by
 refine c_rc hc hlt hok hd hd2 fun x => ?_
 cases x with
 | true => exact h
 | false => exact h'
theorem c_rq {K : AV → St → Prop} {H : List Blk} {rw : List Nat} {n : Nat} {s : Src} {r : Rd} {M : List Blk} {α : Type} {enc : α → AV} {post : Src → Rd → α → Prop} {fn : Nat} {args : List AV} (hc : RQ pr F enc post fn args) (hlt : n < H.length) (hok : Rok s r)
  (h : ∀ (x : α),post s r x → K (enc x) ⟨hp H n (blk s r) M,rw⟩) : ClAt pr F fn (.ptr n 0 :: args) ⟨hp H n (blk s r) M,rw⟩ K:=by
 obtain ⟨x,hp',hdet⟩:=hc H rw n s r M hlt hok
 exact ⟨_,_,hdet,h x hp'⟩
theorem c_rqb {K : AV → St → Prop} {H : List Blk} {rw : List Nat} {n : Nat} {s : Src} {r : Rd} {M : List Blk} {enc : Bool → AV} {post : Src → Rd → Bool → Prop} {fn : Nat} {args : List AV} (hc : RQ pr F enc post fn args) (hlt : n < H.length) (hok : Rok s r)
  (h : post s r true → K (enc true) ⟨hp H n (blk s r) M,rw⟩) (h' : post s r false → K (enc false) ⟨hp H n (blk s r) M,rw⟩) : ClAt pr F fn (.ptr n 0 :: args) ⟨hp H n (blk s r) M,rw⟩ K:=by
 refine c_rq hc hlt hok fun x => ?_
 cases x with
 | true => exact h
 | false => exact h'
section
variable {K : St → Prop} {L : AV → Prop} {H : List Blk} {rw : List Nat} {n : Nat} {b : Blk} {s : Src} {r : Rd} {M M' : List Blk}
theorem s_rI {b0 : Nat} {v : Int} (hlt : n < H.length) (hok : Rok s r) (hv : 0 ≤ v ∧ v ≤ s.toks.length) (h : ∀ r' : Rd,Rok s r' → 0 ≤ r'.i → r'.i ≤ s.toks.length → r'.i = v → r'.deep = r.deep → r'.code = r.code → K ⟨hp H n (blk s r') M,rw⟩) :
  StAt b0 1 (.ptr n (0 + 1)) (.int .i64 v) ⟨hp H n (blk s r) M,rw⟩ K:=by
 have hv0 : 0 ≤ v:=hv.1
 refine ⟨_,?_,h {r with i:=v} ⟨hv0,hv.2,hok.dlo,hok.dhi⟩ hv0 hv.2 rfl rfl rfl⟩
 unfold storeV
 simp only [hp_get hlt]
 simp [blk,AV.cells,AV.okv,Ai.below,overlay,hp_set]
theorem s_rDeep {b0 : Nat} {v : Int} (hlt : n < H.length) (hok : Rok s r) (hv : 0 ≤ v ∧ v ≤ 1000) (h : ∀ r' : Rd,Rok s r' → 0 ≤ r'.i → r'.i ≤ s.toks.length → r'.i = r.i → r'.deep = v → r'.code = r.code → K ⟨hp H n (blk s r') M,rw⟩) :
  StAt b0 1 (.ptr n (0 + 3)) (.int .i64 v) ⟨hp H n (blk s r) M,rw⟩ K:=by
 refine ⟨_,?_,h {r with deep:=v} ⟨hok.lo,hok.hi,hv.1,hv.2⟩ hok.lo hok.hi rfl rfl rfl⟩
 unfold storeV
 simp only [hp_get hlt]
 simp [blk,AV.cells,AV.okv,Ai.below,overlay,hp_set]
end
theorem row_tok (t : Tok) : Row 3 (Tok.row t):=⟨rfl,rfl,rfl⟩
theorem i_tok {K : AV → Prop} {s : Src} {i : Int} (hlo : 0 ≤ i) (hi : i < s.toks.length) (h : ∀ t : Tok,t.text.length ≤ 6000 → s.toks[i.toNat]? = some t → K (.ref (Tok.row t))) : IaAt 3 (.list s.sz s.tag (s.toks.map Tok.row)) (.int .i64 i) K:=by
 have hlt : i.toNat < s.toks.length:=by omega
 have e1 : s.toks[i.toNat]? = some s.toks[i.toNat]:=List.getElem?_eq_getElem hlt
 have hsz:=s.hsz (by intro h; rw [h] at hlt; simp at hlt)
 rw [hsz]
 refine i_list (m:=i.toNat) (r:=Tok.row s.toks[i.toNat]) ?_ (by omega) (h _ (s.txt _ (List.getElem_mem hlt)).1 e1)
 rw [List.getElem?_map,e1]; rfl
structure LibX (pr : Prims) (F : Nat → Option IFn) : Prop extends LibR pr F where
 f192 : Has pr F 192 i192
 f193 : Has pr F 193 i193
 f195 : Has pr F 195 i195
 f201 : Has pr F 201 i201
 f227 : Has pr F 227 i227
 f228 : Has pr F 228 i228
 f244 : Has pr F 244 i244
 f245 : Has pr F 245 i245
 f253 : Has pr F 253 i253
theorem Rok.nx {s : Src} {r r' : Rd} (h : Rok s r') (h1 : r.i ≤ r'.i) (h2 : r'.code = 0 → r.code = 0) : Nx s r r':=⟨h.lo,h.hi,h.dlo,h.dhi,h1,h2⟩
def isP (k : Nat) (s : Src) (r : Rd) : Bool → Prop
 | true => r.code = 0 ∧ r.i + k < s.toks.length
 | false => True ∧ True
def placeP (_ : Src) (_ : Rd) (_ : Int) : Prop:=True
def failP (_ : Src) (r : Rd) (_ : Unit) (r' : Rd) : Prop:=r'.code ≠ 0 ∧ r'.i = r.i ∧ r'.deep = r.deep
def takeP (_ : Src) (r : Rd) : Bool → Rd → Prop
 | true,r' => r'.deep = r.deep ∧ r'.code = r.code ∧ r.code = 0 ∧ r'.i = r.i + 1
 | false,r' => r'.deep = r.deep ∧ r'.code = r.code ∧ r'.i = r.i
def needP (_ : Src) (r : Rd) (_ : Unit) (r' : Rd) : Prop:=r'.deep = r.deep ∧ (r'.code = 0 → r'.i = r.i + 1)
def enterP (_ : Src) (r : Rd) : Bool → Rd → Prop
 | true,r' => r'.deep = r.deep + 1 ∧ r'.i = r.i ∧ r'.code = 0 ∧ r.code = 0 ∧ r.deep < 100
 | false,r' => r'.deep = r.deep + 1 ∧ r'.i = r.i ∧ r'.code ≠ 0
def nameP (_ : Src) (r : Rd) (x : Str) (r' : Rd) : Prop:=r'.deep = r.deep ∧ (x.length ≤ 40 ∧ (r'.code = 0 → r'.i = r.i + 1)) ∧ (r'.code = 0 → Nm x)
theorem rq_is (L : LibR pr F) (k : Nat) (hk : k ≤ 5) (x : Str) : RQ pr F AV.bool (isP k) 90 [.int .i64 k,.str x]:=by
 intro H rw n s r M hlt hr
 refine ⟨isF s r k x,?_,det_is (S:=⟨_,_⟩) L (hp_get hlt) hr k hk x⟩
 cases h : isF s r k x with
 | true =>
  have:=isF_lt h
  have h0:=hr.lo
  exact ⟨this.1,by omega⟩
 | false => exact ⟨trivial,trivial⟩
theorem rq_place (L : LibR pr F) : RQ pr F (AV.int .i64) placeP 134 []:=fun _ _rw _ s r _ hlt hr =>
 ⟨placeF s r,trivial,det_place (S:=⟨_,_⟩) L (hp_get hlt) hr⟩
theorem rc_fail (L : LibR pr F) (c : Int) (hc : c ≠ 0) (m : Int) : RC pr F (fun _ : Unit => AV.tup []) failP 95 [.int .i64 c] m:=by
 intro H rw n s r M hlt hr _ _
 have hA:=Adv.fail hr hc
 refine ⟨⟨(),failF s r c,rw⟩,⟨(hr.fail c).nx hA.mono hA.code,Rx.rfl,fail_code hc,enter_fail.2,enter_fail.1⟩,?_⟩
 have:=det_fail (rw:=rw) L (hp_get (L:=M) hlt) hr c
 rwa [hp_set] at this
theorem rc_take (L : LibR pr F) (x : Str) (m : Int) : RC pr F AV.bool takeP 136 [.str x] m:=by
 intro H rw n s r M hlt hr _ _
 have hA:=Adv.take hr x
 have hcode : (takeF s r x).code = r.code:=by unfold takeF; split <;> rfl
 refine ⟨⟨isF s r 0 x,takeF s r x,rw⟩,⟨(hr.take x).nx hA.mono hA.code,Rx.rfl,?_⟩,?_⟩
 ·simp only
  cases h : isF s r 0 x with
  | true =>
   have:=isF_lt h
   exact ⟨hA.deep,hcode,this.1,by unfold takeF; rw [if_pos h]⟩
  | false => exact ⟨hA.deep,hcode,by unfold takeF; rw [if_neg (by rw [h]; simp)]⟩
 ·have:=det_take (rw:=rw) L (hp_get (L:=M) hlt) hr x
  rwa [hp_set] at this
theorem rc_need (L : LibR pr F) (x : Str) (m : Int) : RC pr F (fun _ : Unit => AV.tup []) needP 93 [.str x] m:=by
 intro H rw n s r M hlt hr _ _
 have hA:=Adv.need hr x
 refine ⟨⟨(),needF s r x,rw⟩,⟨(hr.need x).nx hA.mono hA.code,Rx.rfl,hA.deep,fun h => ?_⟩,?_⟩
 ·have:=(need_code h).2
  simp only at this ⊢
  rw [this]
 ·have:=det_need (rw:=rw) L (hp_get (L:=M) hlt) hr x
  rwa [hp_set] at this
theorem rc_enter (L : LibR pr F) (m : Int) : RC pr F AV.bool enterP 140 [] m:=by
 intro H rw n s r M hlt hr _ hd
 have he:=@enterF_deep s r
 have hre:=hr.enter (by omega)
 refine ⟨⟨(enterF s r).code == 0,enterF s r,rw⟩,⟨hre.nx (by omega) (fun h => (enterF_code h).1),Rx.rfl,?_⟩,?_⟩
 ·simp only
  cases h : ((enterF s r).code == 0) with
  | true =>
   rw [beq_iff_eq] at h
   have:=enterF_code h
   exact ⟨he.1,he.2,h,this.1,this.2.1⟩
  | false =>
   rw [beq_eq_false_iff_ne] at h
   exact ⟨he.1,he.2,h⟩
 ·have:=det_enter (rw:=rw) L (hp_get (L:=M) hlt) hr
  rwa [hp_set] at this
theorem rc_name (L : LibR pr F) (m : Int) : RC pr F AV.str nameP 135 [] m:=by
 intro H rw n s r M hlt hr _ _
 obtain ⟨o,⟨hA,hl,hc⟩,hd⟩:=det_nm (rw:=rw) L (hp_get (b:=blk s r) (L:=M) hlt) hr
 refine ⟨⟨o.x,o.r,rw⟩,⟨hA.ok.nx hA.mono hA.code,Rx.rfl,hA.deep,⟨hl,fun h => ?_⟩,fun h => (hc h).1⟩,?_⟩
 ·have:=(hc h).2
  simp only
  rw [this]
 ·rwa [hp_set] at hd
end Go.Proofs.YtmeakjgbjldkdaaGreat.Ai
namespace Go.Proofs.YtmeakjgbjldkdaaGreat.Ai
open Go
variable {pr : Prims} {F : Nat → Option IFn}
def exP (_ : Src) (r : Rd) (x : Xp) (r' : Rd) : Prop:=r'.deep = r.deep ∧ (r'.code = 0 → r.i < r'.i ∧ (wEx x : Int) ≤ 7000 * (r'.i - r.i)) ∧ (r'.code = 0 → okEx x)
theorem expr_of_level (L : LibX pr F) {m : Int} (hl : RC pr F (fun x : Xp => AV.agg (exRow x)) exP 228 [.int .i64 0] m) : RC pr F (fun x : Xp => AV.agg (exRow x)) exP 193 [] (m + 1):=by
 have hm:=L.hm
 have cis0:=fun x => rq_is L.toLibR 0 (by omega) x
 have cis1:=fun x => rq_is L.toLibR 1 (by omega) x
 have cis2:=fun x => rq_is L.toLibR 2 (by omega) x
 have cpl:=rq_place L.toLibR
 have ctk:=fun x => rc_take L.toLibR x 2000
 have cen:=rc_enter L.toLibR 2000
 have cnd:=fun x => rc_need L.toLibR x 2000
 have cfl:=rc_fail L.toLibR 110 (by omega) 2000
 have cnm:=rc_name L.toLibR 2000
 refine rc_start hm L.f193.1 L.f193.2 rfl ?_
 intro H rw n s r hlt hsm hok _ _ _ _ _
 have hR : Rx rw rw:=Rx.rfl
 refine' hG
 ·refine g_call rfl rfl rfl ?_; refine c_rc (hl) hlt (by assumption) (by omega) (by omega) ?_; intro x1 r1 rw_r1 hR' hok_r1 _ _ _ _ _ hP_x1; replace hR:=hR.trans hR'; (try replace hRL:=hRL.trans hR'); obtain ⟨_,_,hP_x1⟩:=hP_x1; refine zrk ?_
  refine' hG
  refine fin_cell hlt rfl rfl (row_ex x1).load ((row_ex _).below _) ?_
  exact rend x1 hR rfl ⟨by omega,by omega,by omega,by omega,by omega,by omega⟩ ⟨by omega,by omega,fun h => hP_x1 (by omega)⟩
 ·refine fin_cell hlt rfl rfl (row_ex (.mk [] [] [] [] 0)).load ((row_ex _).below _) ?_
  exact rend (.mk [] [] [] [] 0) hR rfl ⟨by omega,by omega,by omega,by omega,by omega,by omega⟩ ⟨by omega,by omega,fun h => by omega⟩
end Go.Proofs.YtmeakjgbjldkdaaGreat.Ai
namespace Go.Proofs.YtmeakjgbjldkdaaGreat.Ai
open Go
variable {pr : Prims} {F : Nat → Option IFn}
theorem det_Level (L : LibX pr F) (S : St) (x : Str) : Det pr F 201 [.str x] S (.ret (.int .i64 (levelF x))) S:=by
 have hm:=L.hm
 obtain ⟨H,rw⟩:=S
 refine Det.of hm (at_start hm L.f201.1 L.f201.2 rfl ?_)
 refine' hG
 all_goals
  refine fin_ret rfl rfl (List.take_length) ⟨?_,rfl⟩
  simp only [Res.ret.injEq,AV.int.injEq,true_and,levelF]
 all_goals first | (subst hq; rfl) | simp only [*,or_self,if_false]
def nextP (k : Int) (s : Src) (r : Rd) (x : Str) : Prop:=x ≠ [] → r.code = 0 ∧ r.i < s.toks.length ∧ x.length ≤ 6000 ∧ levelF x = k
theorem rq_next (L : LibX pr F) (k : Int) : RQ pr F AV.str (nextP k) 245 [.int .i64 k]:=by
 intro H rw n s r M hlt hr
 have hm:=L.hm
 refine det_of_ex (r:=fun x => .ret (AV.str x)) hm ?_
 have hn : (hp H n (blk s r) M)[n]? = some (blk s r):=hp_get hlt
 generalize hp H n (blk s r) M = H' at hn
 refine at_start hm L.f245.1 L.f245.2 rfl ?_
 have hsm:=s.small
 have hnone : nextP k s r []:=fun h => absurd rfl h
 obtain ⟨j,hj⟩:=Int.eq_ofNat_of_zero_le hr.lo
 have hn1:=hn
 simp only [blk,hj] at hn1
 by_cases h0 : r.code = 0
 ·rw [h0] at hn1
  by_cases h1 : j < s.toks.length
  ·have e1 : s.toks[j]? = some s.toks[j]:=List.getElem?_eq_getElem h1
   have e2 : (s.toks.map Tok.row)[j]? = some (Tok.row s.toks[j]):=by rw [List.getElem?_map,e1]; rfl
   have hsz:=s.hsz (by intro h; rw [h] at h1; simp at h1)
   rw [hsz] at hn1
   have hd1:=det_Level L ⟨H',rw⟩ s.toks[j].text
   by_cases hq : levelF s.toks[j].text = k
   ·have hsome : nextP k s r s.toks[j].text:=fun _ => ⟨h0,by omega,(s.txt _ (List.getElem_mem h1)).1,hq⟩
    refine' hG
    exact fin_ret rfl rfl (List.take_length) ⟨_,hsome,rfl,rfl⟩
   ·refine' hG
    exact fin_ret rfl rfl (List.take_length) ⟨_,hnone,rfl,rfl⟩
  ·refine' hG
   exact fin_ret rfl rfl (List.take_length) ⟨_,hnone,rfl,rfl⟩
 ·refine' hG
  exact fin_ret rfl rfl (List.take_length) ⟨_,hnone,rfl,rfl⟩
def signs (l : List (Str × Int)) : List Xp:=l.map fun p => .mk p.1 [] [] [] p.2
def wS : List (Str × Int) → Nat
 | [] => 0
 | p :: l => 1 + p.1.length + wS l
theorem wS_append (a b : List (Str × Int)) : wS (a ++ b) = wS a + wS b:=by
 induction a with
 | nil => simp [wS]
 | cons x xs ih => simp [wS,ih]; omega
theorem signs_get {ss : List (Str × Int)} {i : Nat} {p : Str × Int} (h : ss[i]? = some p) : (exRows (signs ss))[i]? = some (exRow (.mk p.1 [] [] [] p.2)):=by
 simp [exRows_map,signs,h]
theorem xs_get {xs : List Xp} {i : Nat} {x : Xp} (h : xs[i]? = some x) : (exRows xs)[i]? = some (exRow x):=by
 simp [exRows_map,h]
theorem wExs_split (xs : List Xp) (i : Nat) (x : Xp) (h : xs[i]? = some x) : wExs (xs.take (i + 1)) = wExs (xs.take i) + wEx x ∧ wExs (xs.drop i) = wEx x + wExs (xs.drop (i + 1)):=by
 induction xs generalizing i with
 | nil => simp at h
 | cons y ys ih =>
  cases i with
  | zero => simp at h; subst h; simp [wExs]
  | succ i =>
   simp only [List.getElem?_cons_succ] at h
   have:=ih i h
   simp only [List.take_succ_cons,wExs,List.drop_succ_cons]
   exact ⟨by omega,this.2⟩
theorem wS_split (xs : List (Str × Int)) (i : Nat) (x : Str × Int) (h : xs[i]? = some x) : wS (xs.take (i + 1)) = wS (xs.take i) + (1 + x.1.length) ∧ wS (xs.drop i) = 1 + x.1.length + wS (xs.drop (i + 1)):=by
 induction xs generalizing i with
 | nil => simp at h
 | cons y ys ih =>
  cases i with
  | zero => simp at h; subst h; simp [wS]
  | succ i =>
   simp only [List.getElem?_cons_succ] at h
   have:=ih i h
   simp only [List.take_succ_cons,wS,List.drop_succ_cons]
   exact ⟨by omega,this.2⟩
noncomputable def levelTail : IC:=(.seq (.seq r228_9 (.cond (.tmp 57) (.seq r228_10 (.seq (.seq r228_11 (.block 2 (.loop [4,5,6,7,8] (.seq (.seq r228_12 (.cond (.tmp 68) (.skip) (.exit 2))) (.seq (.block 3 r228_13) r228_14))))) (.seq r228_15 .ret))) (.skip))) (.seq r228_16 (.seq (.seq r228_17 (.block 4 (.loop [4,5,6,9,10] (.seq (.seq r228_18 (.cond (.tmp 95) (.skip) (.exit 4))) (.seq (.block 5 r228_19) r228_20))))) (.seq r228_21 .ret))))
end Go.Proofs.YtmeakjgbjldkdaaGreat.Ai
namespace Go.Proofs.YtmeakjgbjldkdaaGreat.Ai
open Go
variable {pr : Prims} {F : Nat → Option IFn}
theorem level6 (L : LibX pr F) {m : Int} (hl : RC pr F (fun x : Xp => AV.agg (exRow x)) exP 244 [] m) : RC pr F (fun x : Xp => AV.agg (exRow x)) exP 228 [.int .i64 6] m:=by
 have hm:=L.hm
 have cis0:=fun x => rq_is L.toLibR 0 (by omega) x
 have cis1:=fun x => rq_is L.toLibR 1 (by omega) x
 have cis2:=fun x => rq_is L.toLibR 2 (by omega) x
 have cpl:=rq_place L.toLibR
 have ctk:=fun x => rc_take L.toLibR x 2000
 have cen:=rc_enter L.toLibR 2000
 have cnd:=fun x => rc_need L.toLibR x 2000
 have cfl:=rc_fail L.toLibR 110 (by omega) 2000
 have cnm:=rc_name L.toLibR 2000
 refine rc_start hm L.f228.1 L.f228.2 rfl ?_
 intro H rw n s r hlt hsm hok _ _ _ _ _
 have hR : Rx rw rw:=Rx.rfl
 refine' hG
 refine g_call rfl rfl rfl ?_; refine c_rc (hl) hlt (by assumption) (by omega) (by omega) ?_; intro x1 r1 rw_r1 hR' hok_r1 _ _ _ _ _ hP_x1; replace hR:=hR.trans hR'; (try replace hRL:=hRL.trans hR'); obtain ⟨_,_,hP_x1⟩:=hP_x1; refine zrk ?_
 refine' hG
 refine fin_cell hlt rfl rfl (row_ex x1).load ((row_ex _).below _) ?_
 exact rend x1 hR rfl (hok_r1.nx (by omega) (by omega)) ⟨by omega,by omega,hP_x1⟩
structure LevelEnd (k : Int) (s : Src) (r : Rd) (rw : List Nat) (r' : Rd) (rw' : List Nat) (xs : List Xp) (ss : List (Str × Int)) : Prop where
 ok : Rok s r'
 mono : r.i ≤ r'.i
 deep : r'.deep = r.deep
 code : r'.code = 0 → r.code = 0
 rx : Rx rw rw'
 len : xs.length = ss.length + 1
 few : (ss.length : Int) ≤ r'.i - r.i
 wt : r'.code = 0 → r.i < r'.i ∧ (wExs xs + wS ss : Int) ≤ 7000 * (r'.i - r.i)
 okx : r'.code = 0 → okExs xs
 oks : ∀ p ∈ ss,levelF p.1 = k
theorem okExs_get {xs : List Xp} {i : Nat} {x : Xp} (h : okExs xs) (hx : xs[i]? = some x) : okEx x:=by
 induction xs generalizing i with
 | nil => simp at hx
 | cons y ys ih =>
  cases i with
  | zero => simp at hx; subst hx; exact h.1
  | succ i => exact ih h.2 (by simpa using hx)
theorem ok_bin {k : Int} (hk : 0 ≤ k) {op : Str} {a b : Xp} {at_ : Int} (h : levelF op = k) (ha : okEx a) (hb : okEx b) : okEx (.mk op [] [a,b] [] at_):=by
 simp only [okEx,okExs,okTys,and_true]
 refine ⟨?_,ha,hb⟩
 unfold okOp
 iterate 10 apply Or.inr
 exact ⟨by omega,⟨a,b,rfl⟩,rfl,rfl⟩
theorem level_tail (hm : Mono pr) {H : List Blk} {n : Nat} (hlt : n < H.length) {s : Src} {r r' : Rd} {rw rw' : List Nat} {xs : List Xp} {ss : List (Str × Int)} (hr : Rok s r) (k : Int) (hk0 : 0 ≤ k) (h : LevelEnd k s r rw r' rw' xs ss) (tag tag2 : Tag) (sz2 : Nat) (hsz : ss ≠ [] → sz2 = 5) :
  At pr F H.length (fin [RVar.cell 4 (some 5)] H.length (REnd (fun x : Xp => AV.agg (exRow x)) exP H n s r rw)) levelTail []
   [(0,.ptr n 0),(1,.int .i64 k),(4,.ptr (H.length + 0) 0),(5,.list 5 tag (exRows xs)),(6,.list sz2 tag2 (exRows (signs ss))),(32,.bool false)] ⟨hp H n (blk s r') [.cells (exRow (.mk [] [] [] [] 0))],rw'⟩:=by
 have hsm:=s.small
 have e1 : (exRows (signs ss)).length = ss.length:=by simp [exRows_len,signs]
 have e2 : (exRows xs).length = xs.length:=exRows_len xs
 have hlen:=h.len
 have hfew:=h.few
 have hi1:=h.ok.hi
 have hi0:=h.mono
 have hi2:=hr.lo
 have hend : ∀ u : Xp,wEx u = wExs xs + wS ss → (r'.code = 0 → okEx u) → REnd (fun x : Xp => AV.agg (exRow x)) exP H n s r rw (.ret (.agg (exRow u))) ⟨hp H n (blk s r') [],rw'⟩:=by
  intro u hu ho
  have hd:=h.deep
  have hw:=h.wt
  have hcd:=h.code
  exact rend u h.rx rfl (h.ok.nx (by omega) hcd) ⟨hd,fun h0 => by have:=hw h0; omega,ho⟩
 unfold levelTail
 by_cases hk : k = 0
 ·obtain ⟨x,hx⟩ : ∃ x,xs[ss.length]? = some x:=⟨_,List.getElem?_eq_getElem (by omega)⟩
  have hx2:=xs_get hx
  refine' hG
  refine at_loop hm (fun m e S' => ∃ (u : Xp) (C : List AV),canonL C = exRow u ∧ C.length = 5 ∧ S' = ⟨hp H n (blk s r') [.cells (exRow (.mk [] [] [] [] 0)),.cells C],rw'⟩ ∧ m ≤ ss.length ∧ wEx u = wExs (xs.drop m) + wS (ss.drop m) ∧ (r'.code = 0 → okEx u) ∧
   e = [(4,.ptr (H.length + 0) 0),(5,.list 5 tag (exRows xs)),(6,.list sz2 tag2 (exRows (signs ss))),(7,.ptr (H.length + 1) 0),(8,.int .i64 ((m : Int) - 1))]) ?_ (m:=ss.length) ⟨x,exRow x,(row_ex x).can,(row_ex x).len,rfl,Nat.le_refl _,?_,fun h0 => okExs_get (h.okx h0) hx,?_⟩
  ·rintro m e S' ⟨u,C,hC,hCl,rfl,hms,hu,hou,rfl⟩
   by_cases h0 : m = 0
   ·subst h0
    refine' hG
    refine fin_cell hlt rfl rfl (row_ex u).load ((row_ex _).below _) (hend u ?_ hou)
    rw [hu]; simp
   ·obtain ⟨j,rfl⟩ : ∃ j,m = j + 1:=⟨m - 1,by omega⟩
    have hsz2 : sz2 = 5:=hsz (by intro h; rw [h] at hms; simp at hms)
    subst hsz2
    obtain ⟨y,hy⟩ : ∃ x,xs[j]? = some x:=⟨_,List.getElem?_eq_getElem (by omega)⟩
    obtain ⟨p,hp'⟩ : ∃ x,ss[j]? = some x:=⟨_,List.getElem?_eq_getElem (by omega)⟩
    have hy2:=xs_get hy
    have hp2:=signs_get hp'
    refine' hG
    refine ⟨j,by omega,.mk p.1 [] [y,u] [] p.2,_,?_,rfl,rfl,by omega,?_,?_,?_⟩
    ·simp only [overlay,canonL,cells_int,cells_str,cells_list,exRow,exRows,tyRows,lst_nil,List.take_succ_cons,List.take_zero,List.drop_succ_cons,List.drop_zero,List.map_cons,List.map_nil,List.nil_append,List.append_nil,List.cons_append,List.length_cons,List.length_nil,Nat.reduceAdd,Nat.zero_add,canon_str,canon_int,canon_nil]
     rfl
    ·have h1:=(wExs_split xs j y hy).2
     have h2:=(wS_split ss j p hp').2
     simp only [wEx,wExs,wTys,List.length_nil]
     omega
    ·intro h0
     exact ok_bin hk0 (h.oks p (List.mem_of_getElem? hp')) (okExs_get (h.okx h0) hy) (hou h0)
    ·rw [show (((j + 1 : Nat) : Int) - 1 - 1) = (j : Int) - 1 by omega]
     rfl
  ·have:=(wExs_split xs ss.length x hx).2
   rw [this]
   have e3 : xs.drop (ss.length + 1) = []:=List.drop_eq_nil_of_le (by omega)
   have e4 : ss.drop ss.length = []:=List.drop_eq_nil_of_le (by omega)
   rw [e3,e4]
   rfl
  ·simp only [e1]
   rfl
 ·obtain ⟨x,hx⟩ : ∃ x,xs[0]? = some x:=⟨_,List.getElem?_eq_getElem (by omega)⟩
  have hx2:=xs_get hx
  refine' hG
  refine at_loop hm (fun m e S' => ∃ (u : Xp) (C : List AV) (i : Nat),canonL C = exRow u ∧ C.length = 5 ∧ S' = ⟨hp H n (blk s r') [.cells (exRow (.mk [] [] [] [] 0)),.cells C],rw'⟩ ∧ m + i = ss.length ∧ wEx u = wExs (xs.take (i + 1)) + wS (ss.take i) ∧ (r'.code = 0 → okEx u) ∧
   e = [(4,.ptr (H.length + 0) 0),(5,.list 5 tag (exRows xs)),(6,.list sz2 tag2 (exRows (signs ss))),(9,.ptr (H.length + 1) 0),(10,.int .i64 i)]) ?_ (m:=ss.length) ⟨x,exRow x,0,(row_ex x).can,(row_ex x).len,rfl,rfl,?_,fun h0 => okExs_get (h.okx h0) hx,rfl⟩
  ·rintro m e S' ⟨u,C,i,hC,hCl,rfl,hms,hu,hou,rfl⟩
   by_cases h0 : i < ss.length
   ·have hsz2 : sz2 = 5:=hsz (by intro h; rw [h] at h0; simp at h0)
    subst hsz2
    obtain ⟨y,hy⟩ : ∃ x,xs[i + 1]? = some x:=⟨_,List.getElem?_eq_getElem (by omega)⟩
    obtain ⟨p,hp'⟩ : ∃ x,ss[i]? = some x:=⟨_,List.getElem?_eq_getElem (by omega)⟩
    have hy2:=xs_get hy
    have hp2:=signs_get hp'
    refine' hG
    refine ⟨m - 1,by omega,.mk p.1 [] [u,y] [] p.2,_,i + 1,?_,rfl,rfl,by omega,?_,?_,rfl⟩
    ·simp only [overlay,canonL,cells_int,cells_str,cells_list,exRow,exRows,tyRows,lst_nil,List.take_succ_cons,List.take_zero,List.drop_succ_cons,List.drop_zero,List.map_cons,List.map_nil,List.nil_append,List.append_nil,List.cons_append,List.length_cons,List.length_nil,Nat.reduceAdd,Nat.zero_add,canon_str,canon_int,canon_nil]
     rfl
    ·have h1:=(wExs_split xs (i + 1) y hy).1
     have h2:=(wS_split ss i p hp').1
     simp only [wEx,wExs,wTys,List.length_nil]
     omega
    ·intro h0
     exact ok_bin hk0 (h.oks p (List.mem_of_getElem? hp')) (hou h0) (okExs_get (h.okx h0) hy)
   ·have hi : i = ss.length:=by omega
    subst hi
    refine' hG
    refine fin_cell hlt rfl rfl (row_ex u).load ((row_ex _).below _) (hend u ?_ hou)
    rw [hu,List.take_of_length_le (by omega),List.take_of_length_le (by omega)]
  ·have:=(wExs_split xs 0 x hx).1
   simp only [wS,List.take_zero,wExs] at this ⊢
   omega
end Go.Proofs.YtmeakjgbjldkdaaGreat.Ai
namespace Go.Proofs.YtmeakjgbjldkdaaGreat.Ai
open Go
variable {pr : Prims} {F : Nat → Option IFn}
theorem ap_lst {K : AV → St → Prop} {rw0 rw : List Nat} {sz by_ : Nat} {v : AV} {rows : List (List AV)} {row : List AV} {H : List Blk} (h : Lst rw0 sz v rows rw) (hx : Rx rw0 rw) (hb : (rows.length + 1) * by_ ≤ maxRow) (hl : rows.length + 1 ≤ maxRow) (hs : 0 < sz)
  (hk : ∀ v' rw',Lst rw0 sz v' (rows ++ [row]) rw' → Rx rw0 rw' → K v' ⟨H,rw'⟩) : ApAt sz by_ v (.list sz .full [row]) ⟨H,rw⟩ K:=by
 obtain ⟨v',rw',h1,h2,h3⟩:=h.push (H:=H) (row:=row) hx hb hl hs
 exact ⟨_,_,h1,hk v' rw' h2 h3⟩
theorem ap_lst2 {K : AV → St → Prop} {rw0 rw : List Nat} {sz by_ : Nat} {v : AV} {rows : List (List AV)} {row : List AV} {H : List Blk} (h : Lst rw0 sz v rows rw) (hx : Rx rw0 rw) (hb : (rows.length + 1) * by_ ≤ maxRow) (hl : rows.length + 1 ≤ maxRow) (hs : 0 < sz)
  {sz2 : Nat} {v2 : AV} {rows2 : List (List AV)} (h2 : Lst rw0 sz2 v2 rows2 rw) (hd : Disj v v2)
  (hk : ∀ v' rw',Lst rw0 sz v' (rows ++ [row]) rw' → Rx rw0 rw' → Lst rw0 sz2 v2 rows2 rw' → Disj v' v2 → K v' ⟨H,rw'⟩) : ApAt sz by_ v (.list sz .full [row]) ⟨H,rw⟩ K:=by
 obtain ⟨v',rw',h1,h3,h4,h5,h6⟩:=h.push2 (H:=H) (row:=row) hx hb hl hs h2 hd
 exact ⟨_,_,h1,hk v' rw' h3 h4 h5 h6⟩
theorem levelk (L : LibX pr F) {m : Int} (k : Int) (hk0 : 0 ≤ k) (hk5 : k ≤ 5) (hl : RC pr F (fun x : Xp => AV.agg (exRow x)) exP 228 [.int .i64 (k + 1)] m) : RC pr F (fun x : Xp => AV.agg (exRow x)) exP 228 [.int .i64 k] m:=by
 have hm:=L.hm
 have cis0:=fun x => rq_is L.toLibR 0 (by omega) x
 have cis1:=fun x => rq_is L.toLibR 1 (by omega) x
 have cis2:=fun x => rq_is L.toLibR 2 (by omega) x
 have cpl:=rq_place L.toLibR
 have ctk:=fun x => rc_take L.toLibR x 2000
 have cen:=rc_enter L.toLibR 2000
 have cnd:=fun x => rc_need L.toLibR x 2000
 have cfl:=rc_fail L.toLibR 110 (by omega) 2000
 have cnm:=rc_name L.toLibR 2000
 refine rc_start hm L.f228.1 L.f228.2 rfl ?_
 intro H rw n s r hlt hsm hok _ _ _ _ _
 have hR : Rx rw rw:=Rx.rfl
 refine' hG
 refine g_call rfl rfl rfl ?_; refine c_rc (hl) hlt (by assumption) (by omega) (by omega) ?_; intro x0 r0 rw_r0 hR' hok_r0 _ _ _ _ _ hP_x0; replace hR:=hR.trans hR'; (try replace hRL:=hRL.trans hR'); obtain ⟨_,_,hP_x0⟩:=hP_x0; refine zrk ?_
 have ht:=fun (r' : Rd) (rw' : List Nat) (xs : List Xp) (ss : List (Str × Int)) (h : LevelEnd k s r rw r' rw' xs ss) (tag tag2 : Tag) (sz2 : Nat) (hsz : ss ≠ [] → sz2 = 5) => level_tail (pr:=pr) (F:=F) hm hlt hok k hk0 h tag tag2 sz2 hsz
 refine' hG
 change At pr F H.length _ (IC.loop _ _) [Fr.blk 0,Fr.code levelTail] _ _
 generalize levelTail = T at ht ⊢
 refine at_loop hm (fun m e S' => ∃ (r' : Rd) (rw' : List Nat) (l sg : AV) (xs : List Xp) (ss : List (Str × Int)),S' = ⟨hp H n (blk s r') [.cells (exRow (.mk [] [] [] [] 0))],rw'⟩ ∧ LevelEnd k s r rw r' rw' xs ss ∧
   Lst rw 5 l (exRows xs) rw' ∧ Lst rw 5 sg (exRows (signs ss)) rw' ∧ Disj l sg ∧ (m : Int) = s.toks.length - r'.i ∧
   e = [(0,.ptr n 0),(1,.int .i64 k),(4,.ptr (H.length + 0) 0),(5,l),(6,sg)]) ?_ (m:=(s.toks.length - r0.i).toNat) ⟨r0,rw_r0,_,_,[x0],[],rfl,⟨hok_r0,by omega,by omega,by omega,hR,rfl,by simp; omega,?_,fun h => ⟨hP_x0 h,trivial⟩,by simp⟩,.lit (by simp [exRows]),.nil,fun a ha => by simp [rowOf] at ha,by omega,rfl⟩
 ·rintro m' e S' ⟨r',rw',l,sg,xs,ss,rfl,hend,hl1,hs1,hdj,hmm,rfl⟩
  have hx:=rq_next L k
  have hok':=hend.ok
  have hA1:=hok'.hi
  have hA2:=hend.mono
  have hA3:=hend.deep
  have hA4:=hend.code
  have hR2:=hend.rx
  have hfew:=hend.few
  have hlen:=hend.len
  have hwt:=hend.wt
  clear hok_r0 hP_x0 hR cpl
  have e1 : (exRows (signs ss)).length = ss.length:=by simp [exRows_len,signs]
  have e2 : (exRows xs).length = xs.length:=exRows_len xs
  obtain ⟨sz',tag,rfl,hsz1,hsz2⟩:=hs1.tag
  obtain ⟨sz1,tag1,rfl,hsz3,-⟩:=hl1.tag
  have hsz4 : sz1 = 5:=hsz3 (by intro h; rw [← exRows_len,h] at hlen; simp at hlen)
  subst hsz4
  have hsz5 : ss ≠ [] → sz' = 5:=fun h => hsz1 (by intro h2; rw [h2] at e1; simp at e1; exact h (List.eq_nil_of_length_eq_zero e1.symm))
  obtain ⟨x,hxP,hd⟩:=hx H rw' n s r' [.cells (exRow (.mk [] [] [] [] 0))] hlt hok'
  have next : ∀ (pl : Int) (r1 : Rd) (rw3 rw4 : List Nat) (x1 : Xp),r'.code = 0 → x.length ≤ 6000 → levelF x = k → Rok s r1 → r'.i + 1 ≤ r1.i → r1.deep = r'.deep → Rx rw rw4 → (r1.code = 0 → r'.i + 1 < r1.i ∧ (wEx x1 : Int) ≤ 7000 * (r1.i - (r'.i + 1))) → (r1.code = 0 → okEx x1) → LevelEnd k s r rw r1 rw4 (xs ++ [x1]) (ss ++ [(x,pl)]):=by
   intro pl r1 rw3 rw4 x1 h0 hx6 hxk ok1 hi1 hd1 hR4 hw1 ho1
   refine ⟨ok1,by omega,by omega,fun _ => hA4 h0,hR4,by simp; omega,by simp; omega,fun h1 => ?_,fun h1 => ?_,?_⟩
   ·have:=hw1 h1
    have:=hwt h0
    rw [wExs_append,wS_append]
    simp only [wExs,wS]
    omega
   ·rw [okExs_append]
    exact ⟨hend.okx h0,ho1 h1,trivial⟩
   ·intro p hp
    rcases List.mem_append.1 hp with h | h
    ·exact hend.oks p h
    ·rw [List.mem_singleton] at h
     subst h
     exact hxk
  by_cases hxe : x = []
  ·refine' hG
   exact ht r' rw' xs ss hend tag1 tag sz' hsz5
  ·obtain ⟨hx1,hx2,hx3,hx4⟩:=hxP hxe
   by_cases hk3 : k = 3 ∧ ss.length ≠ 0
   ·obtain ⟨hk3,hse⟩:=hk3
    refine' hG
    exact ht r' rw' xs ss hend tag1 tag sz' hsz5
   ·by_cases hk3' : k = 3
    ·have hse : ss.length = 0:=by omega
     clear hk3
     refine' hG
     refine g_call rfl rfl rfl ?_
     refine c_rq (rq_place L.toLibR) hlt (by assumption) ?_
     intro pl _
     refine zrk ?_
     refine' hG
     refine g_append rfl rfl rfl ?_
     refine ap_lst2 (row:=exRow (.mk x [] [] [] pl)) hs1 hR2 (by rw [e1]; simp only [maxRow]; omega) (by rw [e1]; simp only [maxRow]; omega) (by omega) hl1 hdj.symm ?_
     intro sg2 rw2 hs2 hR3 hl2 hdj2
     refine zrk ?_
     refine' hG
     refine g_call rfl rfl rfl ?_
     refine c_rc hl hlt (by assumption) (by omega) (by omega) ?_
     intro x1 r1 rw3 hR4 hok1 _ _ _ _ _ hP1
     obtain ⟨hP1,hP2,hP3⟩:=hP1
     refine zrk ?_
     refine' hG
     refine g_append rfl rfl rfl ?_
     refine ap_lst2 (hl2.ext hR4) (hR3.trans hR4) (by rw [e2]; simp only [maxRow]; omega) (by rw [e2]; simp only [maxRow]; omega) (by omega) (hs2.ext hR4) hdj2.symm ?_
     intro l4 rw4 hl4 hR5 hs4 hdj4
     refine zrk ?_
     refine' hG
     refine ⟨(s.toks.length - r1.i).toNat,by omega,r1,rw4,l4,sg2,xs ++ [x1],ss ++ [(x,pl)],rfl,next pl r1 rw3 rw4 x1 hx1 hx3 hx4 hok1 (by omega) (by omega) hR5 (fun h => by have:=hP2 h; omega) hP3,by rw [exRows_append]; exact hl4,?_,hdj4,by omega,rfl⟩
     rw [show exRows (signs (ss ++ [(x,pl)])) = exRows (signs ss) ++ [exRow (.mk x [] [] [] pl)] by simp [signs,exRows_map]]
     exact hs4
    ·clear hk3
     refine' hG
     refine g_call rfl rfl rfl ?_
     refine c_rq (rq_place L.toLibR) hlt (by assumption) ?_
     intro pl _
     refine zrk ?_
     refine' hG
     refine g_append rfl rfl rfl ?_
     refine ap_lst2 (row:=exRow (.mk x [] [] [] pl)) hs1 hR2 (by rw [e1]; simp only [maxRow]; omega) (by rw [e1]; simp only [maxRow]; omega) (by omega) hl1 hdj.symm ?_
     intro sg2 rw2 hs2 hR3 hl2 hdj2
     refine zrk ?_
     refine' hG
     refine g_call rfl rfl rfl ?_
     refine c_rc hl hlt (by assumption) (by omega) (by omega) ?_
     intro x1 r1 rw3 hR4 hok1 _ _ _ _ _ hP1
     obtain ⟨hP1,hP2,hP3⟩:=hP1
     refine zrk ?_
     refine' hG
     refine g_append rfl rfl rfl ?_
     refine ap_lst2 (hl2.ext hR4) (hR3.trans hR4) (by rw [e2]; simp only [maxRow]; omega) (by rw [e2]; simp only [maxRow]; omega) (by omega) (hs2.ext hR4) hdj2.symm ?_
     intro l4 rw4 hl4 hR5 hs4 hdj4
     refine zrk ?_
     refine' hG
     refine ⟨(s.toks.length - r1.i).toNat,by omega,r1,rw4,l4,sg2,xs ++ [x1],ss ++ [(x,pl)],rfl,next pl r1 rw3 rw4 x1 hx1 hx3 hx4 hok1 (by omega) (by omega) hR5 (fun h => by have:=hP2 h; omega) hP3,by rw [exRows_append]; exact hl4,?_,hdj4,by omega,rfl⟩
     rw [show exRows (signs (ss ++ [(x,pl)])) = exRows (signs ss) ++ [exRow (.mk x [] [] [] pl)] by simp [signs,exRows_map]]
     exact hs4
 ·intro h
  simp only [wExs,wS]
  omega
end Go.Proofs.YtmeakjgbjldkdaaGreat.Ai
namespace Go.Proofs.YtmeakjgbjldkdaaGreat.Ai
open Go
variable {pr : Prims} {F : Nat → Option IFn}
abbrev LX:=LT (α:=Xp) 5 exRows
def LT.nil {α : Type} {sz : Nat} {rows : List α → List (List AV)} (h : rows [] = []) : LT sz rows:=⟨.list 0 .full [],[],by rw [h]; exact IsL.nil⟩
def exsP (_ : Src) (r : Rd) (l : LX) (r' : Rd) : Prop:=r'.deep = r.deep ∧ ((l.xs.length : Int) ≤ r'.i - r.i + 1 ∧ (r'.code = 0 → r.i < r'.i ∧ (wExs l.xs : Int) ≤ 7000 * (r'.i - r.i))) ∧ (r'.code = 0 → okExs l.xs)
def predP (_ : Src) (r : Rd) (l : LX) (r' : Rd) : Prop:=r'.deep = r.deep ∧ (r'.code = 0 → (wExs l.xs : Int) ≤ 7000 * (r'.i - r.i)) ∧ (r'.code = 0 → okExs l.xs ∧ l.xs.length ≤ 1)
theorem exprs_of (L : LibX pr F) {m : Int} (hl : RC pr F (fun x : Xp => AV.agg (exRow x)) exP 193 [] m) : RC pr F LT.v exsP 195 [] m:=by
 have hm:=L.hm
 have cis0:=fun x => rq_is L.toLibR 0 (by omega) x
 have cis1:=fun x => rq_is L.toLibR 1 (by omega) x
 have cis2:=fun x => rq_is L.toLibR 2 (by omega) x
 have cpl:=rq_place L.toLibR
 have ctk:=fun x => rc_take L.toLibR x 2000
 have cen:=rc_enter L.toLibR 2000
 have cnd:=fun x => rc_need L.toLibR x 2000
 have cfl:=rc_fail L.toLibR 110 (by omega) 2000
 have cnm:=rc_name L.toLibR 2000
 refine rc_start hm L.f195.1 L.f195.2 rfl ?_
 intro H rw n s r hlt hsm hok _ _ _ _ _
 have hR : Rx rw rw:=Rx.rfl
 refine' hG
 ·refine fin_ret rfl rfl (hp_take hlt) ?_
  exact rend (LT.nil rfl) hR rfl (Rok.nx (by assumption) (by omega) (by omega)) ⟨by omega,by simp only [LT.nil,wExs,List.length_nil]; omega,fun _ => trivial⟩
 ·refine at_loop hm (fun m e S' => ∃ (r' : Rd) (rw' : List Nat) (l : AV) (xs : List Xp),S' = ⟨hp H n (blk s r') [],rw'⟩ ∧ Rok s r' ∧ r.i ≤ r'.i ∧ r'.deep = r.deep ∧ (r'.code = 0 → r.code = 0) ∧ Rx rw rw' ∧ Lst rw 5 l (exRows xs) rw' ∧ (xs.length : Int) ≤ r'.i - r.i + 1 ∧
   (r'.code = 0 → (xs.length : Int) ≤ r'.i - r.i ∧ (wExs xs : Int) ≤ 7000 * (r'.i - r.i)) ∧ (r'.code = 0 → okExs xs) ∧ (m : Int) = 2 * (s.toks.length - r'.i) + (if r'.code = 0 then 1 else 0) ∧
   e = [(0,.ptr n 0),(3,l)]) ?_ (m:=(2 * (s.toks.length - rc.i) + (if rc.code = 0 then 1 else 0)).toNat) ⟨rc,rwc,_,[],rfl,by assumption,by omega,by omega,by omega,hR,.nil,by simp; omega,fun _ => ⟨by simp; omega,by simp [wExs]; omega⟩,fun _ => trivial,by split <;> omega,rfl⟩
  rintro m' e S' ⟨r',rw',l,xs,rfl,hok',hA2,hA3,hA4,hR2,hl1,hxl,hwt,hoks,hmm,rfl⟩
  have e2 : (exRows xs).length = xs.length:=exRows_len xs
  have hA1:=hok'.hi
  have hA0:=hok'.lo
  clear hR
  have hR:=hR2
  by_cases hc : r'.code = 0
  ·obtain ⟨hw1,hw2⟩:=hwt hc
   rw [if_pos hc] at hmm
   refine' hG
   refine g_call rfl rfl rfl ?_; refine c_rc (hl) hlt (by assumption) (by omega) (by omega) ?_; intro x1 r1 rw_r1 hR' hok_r1 _ _ _ _ _ hP_x1; replace hR:=hR.trans hR'; (try replace hRL:=hRL.trans hR'); obtain ⟨_,_,hP_x1⟩:=hP_x1; refine zrk ?_
   refine' hG
   refine g_append rfl rfl rfl ?_
   refine ap_lst (hl1.ext (by assumption)) hR (by rw [e2]; simp only [maxRow]; omega) (by rw [e2]; simp only [maxRow]; omega) (by omega) ?_
   intro l4 rw4 hl4 hR4
   refine zrk ?_
   have hrow : exRows (xs ++ [x1]) = exRows xs ++ [exRow x1]:=exRows_append xs [x1]
   rw [← hrow] at hl4
   have hR:=hR4
   have hwx : wExs (xs ++ [x1]) = wExs xs + wEx x1:=by rw [wExs_append]; simp [wExs]
   have hox : r1.code = 0 → okExs (xs ++ [x1]):=fun h => by rw [okExs_append]; exact ⟨hoks hc,hP_x1 h,trivial⟩
   have hlx : (xs ++ [x1]).length = xs.length + 1:=by simp
   refine' hG
   ·refine fin_ret rfl ?_ (hp_take hlt) ?_
    ·exact hl4.isL.below _
    ·exact rend (enc:=LT.v) ⟨l4,xs ++ [x1],hl4.isL⟩ hR rfl (Rok.nx (by assumption) (by omega) (by omega)) ⟨by omega,by simp only [hwx,hlx]; omega,fun h => hox (by omega)⟩
   ·refine ⟨(2 * (s.toks.length - rc.i) + (if rc.code = 0 then 1 else 0)).toNat,?_,rc,rwc,l4,xs ++ [x1],rfl,by assumption,by omega,by omega,by omega,hR,hl4.ext (Rx.trans (by assumption) hR'),by rw [hlx]; omega,?_,fun h => hox (by omega),by split <;> omega,rfl⟩
    ·split <;> omega
    ·intro h0
     rw [hwx,hlx]
     omega
  ·refine' hG
   refine fin_ret rfl ?_ (hp_take hlt) ?_
   ·exact hl1.isL.below _
   ·exact rend (enc:=LT.v) ⟨l,xs,hl1.isL⟩ hR rfl (Rok.nx (by assumption) (by omega) (by omega)) ⟨by omega,⟨hxl,fun h => absurd h hc⟩,fun h => absurd h hc⟩
theorem pred_of (L : LibX pr F) {m : Int} (hl : RC pr F (fun x : Xp => AV.agg (exRow x)) exP 193 [] m) : RC pr F LT.v predP 227 [] m:=by
 have hm:=L.hm
 have cis0:=fun x => rq_is L.toLibR 0 (by omega) x
 have cis1:=fun x => rq_is L.toLibR 1 (by omega) x
 have cis2:=fun x => rq_is L.toLibR 2 (by omega) x
 have cpl:=rq_place L.toLibR
 have ctk:=fun x => rc_take L.toLibR x 2000
 have cen:=rc_enter L.toLibR 2000
 have cnd:=fun x => rc_need L.toLibR x 2000
 have cfl:=rc_fail L.toLibR 110 (by omega) 2000
 have cnm:=rc_name L.toLibR 2000
 refine rc_start hm L.f227.1 L.f227.2 rfl ?_
 intro H rw n s r hlt hsm hok _ _ _ _ _
 have hR : Rx rw rw:=Rx.rfl
 refine' hG
 ·refine g_call rfl rfl rfl ?_; refine c_rc (hl) hlt (by assumption) (by omega) (by omega) ?_; intro x1 r1 rw_r1 hR' hok_r1 _ _ _ _ _ hP_x1; replace hR:=hR.trans hR'; (try replace hRL:=hRL.trans hR'); obtain ⟨_,_,hP_x1⟩:=hP_x1; refine zrk ?_
  refine' hG
  refine fin_ret rfl rfl (hp_take hlt) ?_
  exact rend (enc:=LT.v) ⟨_,[x1],IsL.lit (rows:=exRows [x1]) (by simp [exRows])⟩ hR rfl (Rok.nx (by assumption) (by omega) (by omega)) ⟨by omega,by simp only [wExs]; omega,fun h => ⟨⟨hP_x1 (by omega),trivial⟩,by simp⟩⟩
 all_goals
  refine fin_ret rfl rfl (hp_take hlt) ?_
  exact rend (enc:=LT.v) (LT.nil rfl) hR rfl (Rok.nx (by assumption) (by omega) (by omega)) ⟨by omega,by simp only [LT.nil,wExs]; omega,fun h => ⟨trivial,by simp [LT.nil]⟩⟩
end Go.Proofs.YtmeakjgbjldkdaaGreat.Ai
namespace Go.Proofs.YtmeakjgbjldkdaaGreat.Ai
open Go
variable {pr : Prims} {F : Nat → Option IFn}
def tyP (_ : Src) (r : Rd) (t : Ty) (r' : Rd) : Prop:=r'.deep = r.deep ∧ (r'.code = 0 → r.i < r'.i ∧ (wTy t : Int) ≤ 7000 * (r'.i - r.i)) ∧ (r'.code = 0 → okTy t)
structure TyIn (s : Src) (r : Rd) (rw : List Nat) (r' : Rd) (rw' : List Nat) (t : Ty) (C : List AV) : Prop where
 ok : Rok s r'
 mono : r.i ≤ r'.i
 deep : r'.deep = r.deep + 1
 code : r'.code = 0 → r.code = 0
 rx : Rx rw rw'
 can : canonL C = tyRow t
 len : C.length = 6
 wt : r'.code = 0 → r.i < r'.i ∧ (wTy t : Int) ≤ 7000 * (r'.i - r.i)
 okt : r'.code = 0 → okTy t
theorem typ_loop (L : LibX pr F) {m : Int} (hl : RC pr F LT.v predP 227 [] m) {H : List Blk} {n : Nat} (hlt : n < H.length) {s : Src} {r r0 : Rd} {rw rw0 : List Nat} {t0 : Ty} {C0 : List AV} {Z : List AV} (hZ : Z.length = 6) (hok : Rok s r) (hd0 : r.deep < 100) (hdm : 101 ≤ r.deep + (m + 1)) (h : TyIn s r rw r0 rw0 t0 C0) :
  At pr F H.length (fin [RVar.cell 2 (some 6)] H.length (REnd (fun x : Ty => AV.agg (tyRow x)) tyP H n s r rw))
   (.loop [0,2,3] (.seq (.seq r192_11 (.cond (.tmp 27) .skip (.exit 0))) (.block 1 (.seq r192_12 (.seq r192_13 (.seq r192_14 (.seq r192_15 (.seq r192_16 r192_17))))))))
   [Fr.blk 0,Fr.code (.seq r192_18 (.seq r192_19 .ret))] [(0,.ptr n 0),(2,.ptr (H.length + 0) 0),(3,.ptr (H.length + 1) 0)] ⟨hp H n (blk s r0) [.cells Z,.cells C0],rw0⟩:=by
 have hm:=L.hm
 have cis0:=fun x => rq_is L.toLibR 0 (by omega) x
 have cis1:=fun x => rq_is L.toLibR 1 (by omega) x
 have cis2:=fun x => rq_is L.toLibR 2 (by omega) x
 have cpl:=rq_place L.toLibR
 have ctk:=fun x => rc_take L.toLibR x 2000
 have cen:=rc_enter L.toLibR 2000
 have cnd:=fun x => rc_need L.toLibR x 2000
 have cfl:=rc_fail L.toLibR 110 (by omega) 2000
 have cnm:=rc_name L.toLibR 2000
 have hsm:=s.small
 have hi2:=hok.lo
 have hi3:=hok.dlo
 have h01:=h.ok.hi
 refine at_loop hm (fun m e S' => ∃ (r' : Rd) (rw' : List Nat) (t : Ty) (C : List AV) (J : List Blk),S' = ⟨hp H n (blk s r') (.cells Z :: .cells C :: J),rw'⟩ ∧ TyIn s r rw r' rw' t C ∧ (m : Int) = s.toks.length - r'.i ∧
   e = [(0,.ptr n 0),(2,.ptr (H.length + 0) 0),(3,.ptr (H.length + 1) 0)]) ?_ (m:=(s.toks.length - r0.i).toNat) ⟨r0,rw0,t0,C0,[],rfl,h,by omega,rfl⟩
 rintro m' e S' ⟨r',rw',t,C,J,rfl,hin,hmm,rfl⟩
 obtain ⟨hok',h2,h3,h4,hR,hC,hCl,h8,h9⟩:=hin
 have h5:=hok'.lo
 have h6:=hok'.hi
 have h7:=hok'.dlo
 refine' hG
 ·refine g_call rfl rfl rfl ?_; refine c_rc (hl) hlt (by assumption) (by omega) (by omega) ?_; intro p1 r1 rw_r1 hR' hok_r1 _ _ _ _ _ hP_p1; replace hR:=hR.trans hR'; (try replace hRL:=hRL.trans hR'); obtain ⟨_,_,hP_p1⟩:=hP_p1; refine zrk ?_
  refine' hG
  refine ⟨(s.toks.length - r1.i).toNat,by omega,r1,rw_r1,.mk 4 [] true [t] p1.xs _,_,_,rfl,⟨by assumption,by omega,by omega,by omega,hR,by (simp only [canonL,tyRow,tyRows,LT.canon,List.map_cons,List.map_nil,canon_lst,canon_str,canon_int,canon_bool]; try rfl),rfl,fun h => ?_,fun h => ?_⟩,by omega,rfl⟩
  ·have:=h8 (by omega)
   simp only [wTy,wTys,List.length_nil]
   omega
  ·have:=h9 (by omega)
   have:=hP_p1 h
   rw [okTy]
   exact ⟨.inr (.inr (.inr ⟨rfl,rfl,t,rfl⟩)),this.2,by rw [okTys,okTys]; exact ⟨by assumption,trivial⟩,this.1⟩
 ·refine g_call rfl rfl rfl ?_; refine c_rc (hl) hlt (by assumption) (by omega) (by omega) ?_; intro p1 r1 rw_r1 hR' hok_r1 _ _ _ _ _ hP_p1; replace hR:=hR.trans hR'; (try replace hRL:=hRL.trans hR'); obtain ⟨_,_,hP_p1⟩:=hP_p1; refine zrk ?_
  refine' hG
  refine ⟨(s.toks.length - r1.i).toNat,by omega,r1,rw_r1,.mk 4 [] false [t] p1.xs _,_,_,rfl,⟨by assumption,by omega,by omega,by omega,hR,by (simp only [canonL,tyRow,tyRows,LT.canon,List.map_cons,List.map_nil,canon_lst,canon_str,canon_int,canon_bool]; try rfl),rfl,fun h => ?_,fun h => ?_⟩,by omega,rfl⟩
  ·have:=h8 (by omega)
   simp only [wTy,wTys,List.length_nil]
   omega
  ·have:=h9 (by omega)
   have:=hP_p1 h
   rw [okTy]
   exact ⟨.inr (.inr (.inr ⟨rfl,rfl,t,rfl⟩)),this.2,by rw [okTys,okTys]; exact ⟨by assumption,trivial⟩,this.1⟩
 ·refine fin_cell hlt rfl rfl (row_ty t).load ((row_ty _).below _) ?_
  exact rend t hR rfl (Rok.nx (by assumption) (by omega) (by omega)) ⟨by omega,fun h => by have:=h8 (by omega); omega,fun h => h9 (by omega)⟩
theorem typ_of (L : LibX pr F) {m : Int} (hl : RC pr F LT.v predP 227 [] m) : RC pr F (fun x : Ty => AV.agg (tyRow x)) tyP 192 [] (m + 1):=by
 have hm:=L.hm
 have cis0:=fun x => rq_is L.toLibR 0 (by omega) x
 have cis1:=fun x => rq_is L.toLibR 1 (by omega) x
 have cis2:=fun x => rq_is L.toLibR 2 (by omega) x
 have cpl:=rq_place L.toLibR
 have ctk:=fun x => rc_take L.toLibR x 2000
 have cen:=rc_enter L.toLibR 2000
 have cnd:=fun x => rc_need L.toLibR x 2000
 have cfl:=rc_fail L.toLibR 110 (by omega) 2000
 have cnm:=rc_name L.toLibR 2000
 refine rc_start hm L.f192.1 L.f192.2 rfl ?_
 intro H rw n s r hlt hsm hok _ _ _ _ _
 have hR : Rx rw rw:=Rx.rfl
 refine' hG
 ·refine g_call rfl rfl rfl ?_; refine c_rc (hl) hlt (by assumption) (by omega) (by omega) ?_; intro p1 r1 rw_r1 hR' hok_r1 _ _ _ _ _ hP_p1; replace hR:=hR.trans hR'; (try replace hRL:=hRL.trans hR'); obtain ⟨_,_,hP_p1⟩:=hP_p1; refine zrk ?_
  refine' hG
  refine typ_loop L hl hlt rfl hok (by omega) (by omega) (t0:=.mk 1 [] false [] p1.xs _) ⟨by assumption,by omega,by omega,by omega,hR,by simp only [canonL,tyRow,tyRows,lst_nil,LT.canon,List.map_cons,List.map_nil,canon_str,canon_int,canon_bool,canon_nil]; rfl,rfl,fun h => ?_,fun h => ?_⟩
  ·simp only [wTy,wTys,List.length_nil]
   omega
  ·have:=hP_p1 h
   rw [okTy]
   exact ⟨.inl ⟨rfl,rfl,rfl,rfl⟩,this.2,by rw [okTys]; trivial,this.1⟩
 ·refine g_call rfl rfl rfl ?_; refine c_rc (hl) hlt (by assumption) (by omega) (by omega) ?_; intro p1 r1 rw_r1 hR' hok_r1 _ _ _ _ _ hP_p1; replace hR:=hR.trans hR'; (try replace hRL:=hRL.trans hR'); obtain ⟨_,_,hP_p1⟩:=hP_p1; refine zrk ?_
  refine' hG
  refine typ_loop L hl hlt rfl hok (by omega) (by omega) (t0:=.mk 2 [] false [] p1.xs _) ⟨by assumption,by omega,by omega,by omega,hR,by simp only [canonL,tyRow,tyRows,lst_nil,LT.canon,List.map_cons,List.map_nil,canon_str,canon_int,canon_bool,canon_nil]; rfl,rfl,fun h => ?_,fun h => ?_⟩
  ·simp only [wTy,wTys,List.length_nil]
   omega
  ·have:=hP_p1 h
   rw [okTy]
   exact ⟨.inr (.inl ⟨rfl,rfl,rfl,rfl⟩),this.2,by rw [okTys]; trivial,this.1⟩
 ·refine g_call rfl rfl rfl ?_; refine c_rc (cnm) hlt (by assumption) (by omega) (by omega) ?_; intro x1 r1 rw_r1 hR' hok_r1 _ _ _ _ _ hP_x1; replace hR:=hR.trans hR'; (try replace hRL:=hRL.trans hR'); obtain ⟨_,_,hP_x1⟩:=hP_x1; refine zrk ?_
  refine' hG
  all_goals
   refine g_call rfl rfl rfl ?_; refine c_rc (hl) hlt (by assumption) (by omega) (by omega) ?_; intro p1 r2 rw_r2 hR' hok_r2 _ _ _ _ _ hP_p1; replace hR:=hR.trans hR'; (try replace hRL:=hRL.trans hR'); obtain ⟨_,_,hP_p1⟩:=hP_p1; refine zrk ?_
   refine' hG
   refine typ_loop L hl hlt rfl hok (by omega) (by omega) (t0:=.mk 3 x1 _ [] p1.xs _) ⟨by assumption,by omega,by omega,by omega,hR,by simp only [canonL,tyRow,tyRows,lst_nil,LT.canon,List.map_cons,List.map_nil,canon_str,canon_int,canon_bool,canon_nil]; rfl,rfl,fun h => ?_,fun h => ?_⟩
   ·simp only [wTy,wTys]
    omega
   ·have:=hP_p1 h
    have hx:=hP_x1 (by omega)
    rw [okTy]
    exact ⟨.inr (.inr (.inl ⟨rfl,rfl,hx⟩)),this.2,by rw [okTys]; trivial,this.1⟩
 ·refine fin_cell hlt rfl rfl (v:=.agg (tyRow (.mk 0 [] false [] [] _))) (by (simp only [aload,overlay,canonL,cells_int,tyRow,exRows,tyRows,lst_nil,List.getElem?_cons_zero,List.take_succ_cons,List.take_zero,List.drop_succ_cons,List.drop_zero,List.map_cons,List.map_nil,List.nil_append,List.append_nil,List.cons_append,List.length_cons,List.length_nil,Nat.reduceAdd,Nat.zero_add,Nat.le_refl,if_true,canon_str,canon_int,canon_bool,canon_nil]; try rfl)) ((row_ty _).below _) ?_
  exact rend (.mk 0 [] false [] [] _) hR rfl (Rok.nx (by assumption) (by omega) (by omega)) ⟨by omega,fun h => by omega,fun h => by omega⟩
end Go.Proofs.YtmeakjgbjldkdaaGreat.Ai
namespace Go.Proofs.YtmeakjgbjldkdaaGreat.Ai
open Go
variable {pr : Prims} {F : Nat → Option IFn}
theorem ok_mk {op nm : Str} {args : List Xp} {ty : List Ty} {a : Int} (h : okOp op nm args ty) (h1 : okExs args) (h2 : okTys ty) : okEx (.mk op nm args ty a):=by
 rw [okEx]; exact ⟨h,h1,h2⟩
theorem okExs_nil : okExs []:=trivial
theorem okTys_nil : okTys []:=by rw [okTys]; trivial
theorem okExs_1 {a : Xp} (h : okEx a) : okExs [a]:=by rw [okExs,okExs]; exact ⟨h,trivial⟩
theorem okExs_2 {a b : Xp} (h : okEx a) (h' : okEx b) : okExs [a,b]:=by rw [okExs,okExs,okExs]; exact ⟨h,h',trivial⟩
theorem okTys_1 {a : Ty} (h : okTy a) : okTys [a]:=by rw [okTys,okTys]; exact ⟨h,trivial⟩
theorem primary_of (L : LibX pr F) {m : Int} (hx : RC pr F (fun x : Xp => AV.agg (exRow x)) exP 193 [] m) (hxs : RC pr F LT.v exsP 195 [] m) (ht : RC pr F (fun x : Ty => AV.agg (tyRow x)) tyP 192 [] m) : RC pr F (fun x : Xp => AV.agg (exRow x)) exP 253 [] m:=by
 have hm:=L.hm
 have cis0:=fun x => rq_is L.toLibR 0 (by omega) x
 have cis1:=fun x => rq_is L.toLibR 1 (by omega) x
 have cis2:=fun x => rq_is L.toLibR 2 (by omega) x
 have cpl:=rq_place L.toLibR
 have ctk:=fun x => rc_take L.toLibR x 2000
 have cen:=rc_enter L.toLibR 2000
 have cnd:=fun x => rc_need L.toLibR x 2000
 have cfl:=rc_fail L.toLibR 110 (by omega) 2000
 have cnm:=rc_name L.toLibR 2000
 refine rc_start hm L.f253.1 L.f253.2 rfl ?_
 intro H rw n s r hlt hsm hok _ _ _ _ _
 have hR : Rx rw rw:=Rx.rfl
 refine' hG
 ·refine fin_cell hlt rfl rfl (v:=.agg (exRow (.mk [] [] [] [] _))) (by (simp only [aload,overlay,canonL,cells_int,exRow,exRows,tyRows,lst_nil,List.getElem?_cons_zero,List.take_succ_cons,List.take_zero,List.drop_succ_cons,List.drop_zero,List.map_cons,List.map_nil,List.nil_append,List.append_nil,List.cons_append,List.length_cons,List.length_nil,Nat.reduceAdd,Nat.zero_add,Nat.le_refl,if_true,canon_str,canon_int,canon_nil]; try rfl)) ((row_ex _).below _) ?_
  refine rend (.mk [] [] [] [] _) hR rfl (Rok.nx (by assumption) (by omega) (by omega)) ⟨by omega,?_,?_⟩
  ·simp only [wEx,wExs,wTys,List.length_nil]; omega
  ·intro h; omega
 ·refine fin_cell hlt rfl rfl (v:=.agg (exRow (.mk [] [] [] [] _))) (by (simp only [aload,overlay,canonL,cells_int,exRow,exRows,tyRows,lst_nil,List.getElem?_cons_zero,List.take_succ_cons,List.take_zero,List.drop_succ_cons,List.drop_zero,List.map_cons,List.map_nil,List.nil_append,List.append_nil,List.cons_append,List.length_cons,List.length_nil,Nat.reduceAdd,Nat.zero_add,Nat.le_refl,if_true,canon_str,canon_int,canon_nil]; try rfl)) ((row_ex _).below _) ?_
  refine rend (.mk [] [] [] [] _) hR rfl (Rok.nx (by assumption) (by omega) (by omega)) ⟨by omega,?_,?_⟩
  ·simp only [wEx,wExs,wTys,List.length_nil]; omega
  ·intro h; omega
 ·refine fin_cell hlt rfl rfl (v:=.agg (exRow (.mk [110,117,109] tk.text [] [] _))) (by (simp only [aload,canonL,exRow,exRows,tyRows,lst_nil,List.getElem?_cons_zero,List.take_succ_cons,List.take_zero,List.drop_zero,List.map_cons,List.map_nil,List.length_cons,List.length_nil,Nat.reduceAdd,Nat.zero_add,Nat.le_refl,if_true,canon_str,canon_int,canon_nil]; try rfl)) ((row_ex _).below _) ?_
  refine rend (.mk [110,117,109] tk.text [] [] _) hR rfl (Rok.nx (by assumption) (by omega) (by omega)) ⟨by omega,?_,?_⟩
  ·simp only [wEx,wExs,wTys,List.length_nil,List.length_cons]; omega
  ·exact fun _ => ok_mk (.inl ⟨rfl,rfl,rfl,(s.txt tk (List.mem_of_getElem? (by assumption))).2 (by assumption)⟩) okExs_nil okTys_nil
 ·refine fin_cell hlt rfl rfl (v:=.agg (exRow (.mk tk.text [] [] [] _))) (by (simp only [aload,canonL,exRow,exRows,tyRows,lst_nil,List.getElem?_cons_zero,List.take_succ_cons,List.take_zero,List.drop_zero,List.map_cons,List.map_nil,List.length_cons,List.length_nil,Nat.reduceAdd,Nat.zero_add,Nat.le_refl,if_true,canon_str,canon_int,canon_nil]; try rfl)) ((row_ex _).below _) ?_
  refine rend (.mk tk.text [] [] [] _) hR rfl (Rok.nx (by assumption) (by omega) (by omega)) ⟨by omega,?_,?_⟩
  ·simp only [wEx,wExs,wTys,List.length_nil]; omega
  ·exact fun _ => ok_mk (.inr (.inr (.inl ⟨.inl (by assumption),rfl,rfl,rfl⟩))) okExs_nil okTys_nil
 ·refine fin_cell hlt rfl rfl (v:=.agg (exRow (.mk tk.text [] [] [] _))) (by (simp only [aload,canonL,exRow,exRows,tyRows,lst_nil,List.getElem?_cons_zero,List.take_succ_cons,List.take_zero,List.drop_zero,List.map_cons,List.map_nil,List.length_cons,List.length_nil,Nat.reduceAdd,Nat.zero_add,Nat.le_refl,if_true,canon_str,canon_int,canon_nil]; try rfl)) ((row_ex _).below _) ?_
  refine rend (.mk tk.text [] [] [] _) hR rfl (Rok.nx (by assumption) (by omega) (by omega)) ⟨by omega,?_,?_⟩
  ·simp only [wEx,wExs,wTys,List.length_nil]; omega
  ·exact fun _ => ok_mk (.inr (.inr (.inl ⟨.inr (.inl (by assumption)),rfl,rfl,rfl⟩))) okExs_nil okTys_nil
 ·refine fin_cell hlt rfl rfl (v:=.agg (exRow (.mk tk.text [] [] [] _))) (by (simp only [aload,canonL,exRow,exRows,tyRows,lst_nil,List.getElem?_cons_zero,List.take_succ_cons,List.take_zero,List.drop_zero,List.map_cons,List.map_nil,List.length_cons,List.length_nil,Nat.reduceAdd,Nat.zero_add,Nat.le_refl,if_true,canon_str,canon_int,canon_nil]; try rfl)) ((row_ex _).below _) ?_
  refine rend (.mk tk.text [] [] [] _) hR rfl (Rok.nx (by assumption) (by omega) (by omega)) ⟨by omega,?_,?_⟩
  ·simp only [wEx,wExs,wTys,List.length_nil]; omega
  ·exact fun _ => ok_mk (.inr (.inr (.inl ⟨.inr (.inr (.inl (by assumption))),rfl,rfl,rfl⟩))) okExs_nil okTys_nil
 ·refine fin_cell hlt rfl rfl (v:=.agg (exRow (.mk tk.text [] [] [] _))) (by (simp only [aload,canonL,exRow,exRows,tyRows,lst_nil,List.getElem?_cons_zero,List.take_succ_cons,List.take_zero,List.drop_zero,List.map_cons,List.map_nil,List.length_cons,List.length_nil,Nat.reduceAdd,Nat.zero_add,Nat.le_refl,if_true,canon_str,canon_int,canon_nil]; try rfl)) ((row_ex _).below _) ?_
  refine rend (.mk tk.text [] [] [] _) hR rfl (Rok.nx (by assumption) (by omega) (by omega)) ⟨by omega,?_,?_⟩
  ·simp only [wEx,wExs,wTys,List.length_nil]; omega
  ·exact fun _ => ok_mk (.inr (.inr (.inl ⟨.inr (.inr (.inr (.inl (by assumption)))),rfl,rfl,rfl⟩))) okExs_nil okTys_nil
 ·refine g_call rfl rfl rfl ?_; refine c_rc (hx) hlt (by assumption) (by omega) (by omega) ?_; intro x1 r1 rw_r1 hR' hok_r1 _ _ _ _ _ hP_x1; replace hR:=hR.trans hR'; (try replace hRL:=hRL.trans hR'); obtain ⟨_,_,hP_x1⟩:=hP_x1; refine zrk ?_
  refine' hG
  refine fin_cell hlt rfl rfl (row_ex x1).load ((row_ex _).below _) ?_
  exact rend x1 hR rfl (Rok.nx (by assumption) (by omega) (by omega)) ⟨by omega,by omega,fun h => hP_x1 (by omega)⟩
 ·refine g_call rfl rfl rfl ?_; refine c_rc (cnm) hlt (by assumption) (by omega) (by omega) ?_; intro x1 r1 rw_r1 hR' hok_r1 _ _ _ _ _ hP_x1; replace hR:=hR.trans hR'; (try replace hRL:=hRL.trans hR'); obtain ⟨_,_,hP_x1⟩:=hP_x1; refine zrk ?_
  refine' hG
  refine g_call rfl rfl rfl ?_; refine c_rc (hxs) hlt (by assumption) (by omega) (by omega) ?_; intro l1 r2 rw_r2 hR' hok_r2 _ _ _ _ _ hP_l1; replace hR:=hR.trans hR'; (try replace hRL:=hRL.trans hR'); obtain ⟨_,_,hP_l1⟩:=hP_l1; refine zrk ?_
  refine' hG
  refine fin_cell hlt rfl rfl (v:=.agg (exRow (.mk [110,101,119] x1 l1.xs [] _))) (by (simp only [aload,canonL,exRow,tyRows,lst_nil,LT.canon,List.getElem?_cons_zero,List.take_succ_cons,List.take_zero,List.drop_zero,List.map_cons,List.map_nil,List.length_cons,List.length_nil,Nat.reduceAdd,Nat.zero_add,Nat.le_refl,if_true,canon_lst,canon_str,canon_int,canon_nil]; try rfl)) ((row_ex _).below _) ?_
  refine rend (.mk [110,101,119] x1 l1.xs [] _) hR rfl (Rok.nx (by assumption) (by omega) (by omega)) ⟨by omega,?_,?_⟩
  ·simp only [wEx,wTys,List.length_nil,List.length_cons]; omega
  ·exact fun h => ok_mk (.inr (.inr (.inr (.inr (.inl ⟨rfl,rfl,hP_x1 (by omega)⟩))))) (hP_l1 (by omega)) okTys_nil
 ·refine g_call rfl rfl rfl ?_; refine c_rc (ht) hlt (by assumption) (by omega) (by omega) ?_; intro t1 r1 rw_r1 hR' hok_r1 _ _ _ _ _ hP_t1; replace hR:=hR.trans hR'; (try replace hRL:=hRL.trans hR'); obtain ⟨_,_,hP_t1⟩:=hP_t1; refine zrk ?_
  refine' hG
  refine g_call rfl rfl rfl ?_; refine c_rc (hx) hlt (by assumption) (by omega) (by omega) ?_; intro x1 r2 rw_r2 hR' hok_r2 _ _ _ _ _ hP_x1; replace hR:=hR.trans hR'; (try replace hRL:=hRL.trans hR'); obtain ⟨_,_,hP_x1⟩:=hP_x1; refine zrk ?_
  refine' hG
  refine g_call rfl rfl rfl ?_; refine c_rc (hx) hlt (by assumption) (by omega) (by omega) ?_; intro x2 r3 rw_r3 hR' hok_r3 _ _ _ _ _ hP_x2; replace hR:=hR.trans hR'; (try replace hRL:=hRL.trans hR'); obtain ⟨_,_,hP_x2⟩:=hP_x2; refine zrk ?_
  refine' hG
  refine fin_cell hlt rfl rfl (v:=.agg (exRow (.mk [108,105,115,116] [] [x1,x2] [t1] _))) (by (simp only [aload,canonL,exRow,exRows,tyRows,List.getElem?_cons_zero,List.take_succ_cons,List.take_zero,List.drop_zero,List.map_cons,List.map_nil,List.length_cons,List.length_nil,Nat.reduceAdd,Nat.zero_add,Nat.le_refl,if_true,canon_str,canon_int]; try rfl)) ((row_ex _).below _) ?_
  refine rend (.mk [108,105,115,116] [] [x1,x2] [t1] _) hR rfl (Rok.nx (by assumption) (by omega) (by omega)) ⟨by omega,?_,?_⟩
  ·simp only [wEx,wExs,wTys,List.length_nil,List.length_cons]; omega
  ·exact fun h => ok_mk (.inr (.inr (.inr (.inr (.inr (.inl ⟨rfl,⟨_,_,rfl⟩,⟨_,rfl⟩,rfl⟩)))))) (okExs_2 (hP_x1 (by omega)) (hP_x2 (by omega))) (okTys_1 (hP_t1 (by omega)))
 ·refine g_call rfl rfl rfl ?_; refine c_rc (hx) hlt (by assumption) (by omega) (by omega) ?_; intro x1 r1 rw_r1 hR' hok_r1 _ _ _ _ _ hP_x1; replace hR:=hR.trans hR'; (try replace hRL:=hRL.trans hR'); obtain ⟨_,_,hP_x1⟩:=hP_x1; refine zrk ?_
  refine' hG
  refine fin_cell hlt rfl rfl (v:=.agg (exRow (.mk [108,101,110] [] [x1] [] _))) (by (simp only [aload,canonL,exRow,exRows,tyRows,lst_nil,List.getElem?_cons_zero,List.take_succ_cons,List.take_zero,List.drop_zero,List.map_cons,List.map_nil,List.length_cons,List.length_nil,Nat.reduceAdd,Nat.zero_add,Nat.le_refl,if_true,canon_str,canon_int,canon_nil]; try rfl)) ((row_ex _).below _) ?_
  refine rend (.mk [108,101,110] [] [x1] [] _) hR rfl (Rok.nx (by assumption) (by omega) (by omega)) ⟨by omega,?_,?_⟩
  ·simp only [wEx,wExs,wTys,List.length_nil,List.length_cons]; omega
  ·exact fun h => ok_mk (.inr (.inr (.inr (.inl ⟨rfl,⟨_,rfl⟩,rfl,rfl⟩)))) (okExs_1 (hP_x1 (by omega))) okTys_nil
 ·refine fin_cell hlt rfl rfl (v:=.agg (exRow (.mk [114,101,97,100] [] [] [] _))) (by (simp only [aload,canonL,exRow,exRows,tyRows,lst_nil,List.getElem?_cons_zero,List.take_succ_cons,List.take_zero,List.drop_zero,List.map_cons,List.map_nil,List.length_cons,List.length_nil,Nat.reduceAdd,Nat.zero_add,Nat.le_refl,if_true,canon_str,canon_int,canon_nil]; try rfl)) ((row_ex _).below _) ?_
  refine rend (.mk [114,101,97,100] [] [] [] _) hR rfl (Rok.nx (by assumption) (by omega) (by omega)) ⟨by omega,?_,?_⟩
  ·simp only [wEx,wExs,wTys,List.length_nil,List.length_cons]; omega
  ·exact fun _ => ok_mk (.inr (.inr (.inl ⟨.inr (.inr (.inr (.inr rfl))),rfl,rfl,rfl⟩))) okExs_nil okTys_nil
 ·refine g_call rfl rfl rfl ?_; refine c_rc (cnm) hlt (by assumption) (by omega) (by omega) ?_; intro x1 r1 rw_r1 hR' hok_r1 _ _ _ _ _ hP_x1; replace hR:=hR.trans hR'; (try replace hRL:=hRL.trans hR'); obtain ⟨_,_,hP_x1⟩:=hP_x1; refine zrk ?_
  refine' hG
  refine fin_cell hlt rfl rfl (v:=.agg (exRow (.mk [118,97,114] x1 [] [] _))) (by (simp only [aload,canonL,exRow,exRows,tyRows,lst_nil,List.getElem?_cons_zero,List.take_succ_cons,List.take_zero,List.drop_zero,List.map_cons,List.map_nil,List.length_cons,List.length_nil,Nat.reduceAdd,Nat.zero_add,Nat.le_refl,if_true,canon_str,canon_int,canon_nil]; try rfl)) ((row_ex _).below _) ?_
  refine rend (.mk [118,97,114] x1 [] [] _) hR rfl (Rok.nx (by assumption) (by omega) (by omega)) ⟨by omega,?_,?_⟩
  ·simp only [wEx,wExs,wTys,List.length_nil,List.length_cons]; omega
  ·exact fun h => ok_mk (.inr (.inl ⟨rfl,rfl,rfl,hP_x1 (by omega)⟩)) okExs_nil okTys_nil
end Go.Proofs.YtmeakjgbjldkdaaGreat.Ai
namespace Go.Proofs.YtmeakjgbjldkdaaGreat.Ai
open Go
variable {pr : Prims} {F : Nat → Option IFn}
structure ExIn (s : Src) (r : Rd) (rw : List Nat) (r' : Rd) (rw' : List Nat) (t : Xp) (C : List AV) : Prop where
 ok : Rok s r'
 mono : r.i ≤ r'.i
 deep : r'.deep = r.deep
 code : r'.code = 0 → r.code = 0
 rx : Rx rw rw'
 can : canonL C = exRow t
 len : C.length = 5
 wt : r'.code = 0 → r.i < r'.i ∧ (wEx t : Int) ≤ 7000 * (r'.i - r.i)
 okt : r'.code = 0 → okEx t
theorem ap_lt {K : AV → St → Prop} {α : Type} {sz by_ : Nat} {rowsF : List α → List (List AV)} {rows : List (List AV)} {xs : List α} {H : List Blk} {rw : List Nat} (l : LT sz rowsF) (hx : rowsF xs = rows) (ha : rowsF (xs ++ l.xs) = rowsF xs ++ rowsF l.xs) (hn : rows ≠ []) (hb : (rows.length + (rowsF l.xs).length) * by_ ≤ maxRow) (hl : rows.length + (rowsF l.xs).length ≤ maxRow) (hs : 0 < sz)
  (hk : ∀ (l' : LT sz rowsF) (rw' : List Nat),l'.xs = xs ++ l.xs → Rx rw rw' → K l'.v ⟨H,rw'⟩) : ApAt sz by_ (.list sz .full rows) l.v ⟨H,rw⟩ K:=by
 obtain ⟨v,ys,⟨sz',tag,hv,h1,h2⟩⟩:=l
 simp only at ha hb hl hk ⊢
 subst hv
 subst hx
 by_cases hy : rowsF ys = []
 ·refine ⟨.list sz .full (rowsF xs),⟨H,rw⟩,by simp [aappend,hy],?_⟩
  exact hk ⟨.list sz .full (rowsF xs),xs ++ ys,by rw [ha,hy,List.append_nil]; exact IsL.lit hn⟩ rw rfl Rx.rfl
 ·have hsz:=h1 hy
  subst hsz
  refine ⟨.list sz' (.row rw.length ((rowsF xs).length + (rowsF ys).length)) (rowsF xs ++ rowsF ys),⟨H,rw ++ [(rowsF xs).length + (rowsF ys).length]⟩,?_,?_⟩
  ·simp [aappend,hy,hs,hb,hl]
  ·exact hk ⟨_,xs ++ ys,by rw [ha]; exact IsL.lit (by simp [hy])⟩ _ rfl (Rx.rfl.push _)
theorem operand_of (L : LibX pr F) {m : Int} (hp1 : RC pr F (fun x : Xp => AV.agg (exRow x)) exP 253 [] m) (hx : RC pr F (fun x : Xp => AV.agg (exRow x)) exP 193 [] m) (hxs : RC pr F LT.v exsP 195 [] m) (ho : RC pr F (fun x : Xp => AV.agg (exRow x)) exP 244 [] (m - 1)) :
  RC pr F (fun x : Xp => AV.agg (exRow x)) exP 244 [] m:=by
 have hm:=L.hm
 have cis0:=fun x => rq_is L.toLibR 0 (by omega) x
 have cis1:=fun x => rq_is L.toLibR 1 (by omega) x
 have cis2:=fun x => rq_is L.toLibR 2 (by omega) x
 have cpl:=rq_place L.toLibR
 have ctk:=fun x => rc_take L.toLibR x 2000
 have cen:=rc_enter L.toLibR 2000
 have cnd:=fun x => rc_need L.toLibR x 2000
 have cfl:=rc_fail L.toLibR 110 (by omega) 2000
 have cnm:=rc_name L.toLibR 2000
 refine rc_start hm L.f244.1 L.f244.2 rfl ?_
 intro H rw n s r hlt hsm hok _ _ _ _ _
 have hR : Rx rw rw:=Rx.rfl
 refine' hG
 ·refine g_call rfl rfl rfl ?_; refine c_rc (ho) hlt (by assumption) (by omega) (by omega) ?_; intro x1 r1 rw_r1 hR' hok_r1 _ _ _ _ _ hP_x1; replace hR:=hR.trans hR'; (try replace hRL:=hRL.trans hR'); obtain ⟨_,_,hP_x1⟩:=hP_x1; refine zrk ?_
  refine' hG
  refine fin_cell hlt rfl rfl (v:=.agg (exRow (.mk [110,111,116] [] [x1] [] _))) (by (simp only [aload,canonL,exRow,exRows,tyRows,lst_nil,List.getElem?_cons_zero,List.take_succ_cons,List.take_zero,List.drop_zero,List.map_cons,List.map_nil,List.length_cons,List.length_nil,Nat.reduceAdd,Nat.zero_add,Nat.le_refl,if_true,canon_str,canon_int,canon_nil]; try rfl)) ((row_ex _).below _) ?_
  refine rend (.mk [110,111,116] [] [x1] [] _) hR rfl (Rok.nx (by assumption) (by omega) (by omega)) ⟨by omega,?_,?_⟩
  ·simp only [wEx,wExs,wTys,List.length_nil,List.length_cons]; omega
  ·exact fun h => ok_mk (.inr (.inr (.inr (.inr (.inr (.inr (.inr (.inr (.inr (.inl ⟨.inr rfl,⟨_,rfl⟩,rfl,rfl⟩)))))))))) (okExs_1 (hP_x1 (by omega))) okTys_nil
 ·refine fin_cell hlt rfl rfl (v:=.agg (exRow (.mk [110,111,116] [] [] [] _))) (by (simp only [aload,canonL,exRow,exRows,tyRows,lst_nil,List.getElem?_cons_zero,List.take_succ_cons,List.take_zero,List.drop_zero,List.map_cons,List.map_nil,List.length_cons,List.length_nil,Nat.reduceAdd,Nat.zero_add,Nat.le_refl,if_true,canon_str,canon_int,canon_nil]; try rfl)) ((row_ex _).below _) ?_
  refine rend (.mk [110,111,116] [] [] [] _) hR rfl (Rok.nx (by assumption) (by omega) (by omega)) ⟨by omega,?_,?_⟩
  ·simp only [wEx,wExs,wTys,List.length_nil,List.length_cons]; omega
  ·intro h; omega
 ·refine g_call rfl rfl rfl ?_; refine c_rc (ho) hlt (by assumption) (by omega) (by omega) ?_; intro x1 r1 rw_r1 hR' hok_r1 _ _ _ _ _ hP_x1; replace hR:=hR.trans hR'; (try replace hRL:=hRL.trans hR'); obtain ⟨_,_,hP_x1⟩:=hP_x1; refine zrk ?_
  refine' hG
  refine fin_cell hlt rfl rfl (v:=.agg (exRow (.mk [110,101,103] [] [x1] [] _))) (by (simp only [aload,canonL,exRow,exRows,tyRows,lst_nil,List.getElem?_cons_zero,List.take_succ_cons,List.take_zero,List.drop_zero,List.map_cons,List.map_nil,List.length_cons,List.length_nil,Nat.reduceAdd,Nat.zero_add,Nat.le_refl,if_true,canon_str,canon_int,canon_nil]; try rfl)) ((row_ex _).below _) ?_
  refine rend (.mk [110,101,103] [] [x1] [] _) hR rfl (Rok.nx (by assumption) (by omega) (by omega)) ⟨by omega,?_,?_⟩
  ·simp only [wEx,wExs,wTys,List.length_nil,List.length_cons]; omega
  ·exact fun h => ok_mk (.inr (.inr (.inr (.inr (.inr (.inr (.inr (.inr (.inr (.inl ⟨.inl rfl,⟨_,rfl⟩,rfl,rfl⟩)))))))))) (okExs_1 (hP_x1 (by omega))) okTys_nil
 ·refine fin_cell hlt rfl rfl (v:=.agg (exRow (.mk [110,101,103] [] [] [] _))) (by (simp only [aload,overlay,canonL,cells_int,cells_str,exRow,exRows,tyRows,lst_nil,List.getElem?_cons_zero,List.take_succ_cons,List.take_zero,List.drop_succ_cons,List.drop_zero,List.map_cons,List.map_nil,List.nil_append,List.append_nil,List.cons_append,List.length_cons,List.length_nil,Nat.reduceAdd,Nat.zero_add,Nat.le_refl,if_true,canon_str,canon_int,canon_nil]; try rfl)) ((row_ex _).below _) ?_
  refine rend (.mk [110,101,103] [] [] [] _) hR rfl (Rok.nx (by assumption) (by omega) (by omega)) ⟨by omega,?_,?_⟩
  ·simp only [wEx,wExs,wTys,List.length_nil,List.length_cons]; omega
  ·intro h; omega
 ·refine g_call rfl rfl rfl ?_; refine c_rc (ho) hlt (by assumption) (by omega) (by omega) ?_; intro x1 r1 rw_r1 hR' hok_r1 _ _ _ _ _ hP_x1; replace hR:=hR.trans hR'; (try replace hRL:=hRL.trans hR'); obtain ⟨_,_,hP_x1⟩:=hP_x1; refine zrk ?_
  refine' hG
  refine fin_cell hlt rfl rfl (v:=.agg (exRow (.mk [110,111,116] [] [x1] [] _))) (by (simp only [aload,canonL,exRow,exRows,tyRows,lst_nil,List.getElem?_cons_zero,List.take_succ_cons,List.take_zero,List.drop_zero,List.map_cons,List.map_nil,List.length_cons,List.length_nil,Nat.reduceAdd,Nat.zero_add,Nat.le_refl,if_true,canon_str,canon_int,canon_nil]; try rfl)) ((row_ex _).below _) ?_
  refine rend (.mk [110,111,116] [] [x1] [] _) hR rfl (Rok.nx (by assumption) (by omega) (by omega)) ⟨by omega,?_,?_⟩
  ·simp only [wEx,wExs,wTys,List.length_nil,List.length_cons]; omega
  ·exact fun h => ok_mk (.inr (.inr (.inr (.inr (.inr (.inr (.inr (.inr (.inr (.inl ⟨.inr rfl,⟨_,rfl⟩,rfl,rfl⟩)))))))))) (okExs_1 (hP_x1 (by omega))) okTys_nil
 ·refine fin_cell hlt rfl rfl (v:=.agg (exRow (.mk [110,111,116] [] [] [] _))) (by (simp only [aload,canonL,exRow,exRows,tyRows,lst_nil,List.getElem?_cons_zero,List.take_succ_cons,List.take_zero,List.drop_zero,List.map_cons,List.map_nil,List.length_cons,List.length_nil,Nat.reduceAdd,Nat.zero_add,Nat.le_refl,if_true,canon_str,canon_int,canon_nil]; try rfl)) ((row_ex _).below _) ?_
  refine rend (.mk [110,111,116] [] [] [] _) hR rfl (Rok.nx (by assumption) (by omega) (by omega)) ⟨by omega,?_,?_⟩
  ·simp only [wEx,wExs,wTys,List.length_nil,List.length_cons]; omega
  ·intro h; omega
 ·refine g_call rfl rfl rfl ?_; refine c_rc (ho) hlt (by assumption) (by omega) (by omega) ?_; intro x1 r1 rw_r1 hR' hok_r1 _ _ _ _ _ hP_x1; replace hR:=hR.trans hR'; (try replace hRL:=hRL.trans hR'); obtain ⟨_,_,hP_x1⟩:=hP_x1; refine zrk ?_
  refine' hG
  refine fin_cell hlt rfl rfl (v:=.agg (exRow (.mk [110,101,103] [] [x1] [] _))) (by (simp only [aload,canonL,exRow,exRows,tyRows,lst_nil,List.getElem?_cons_zero,List.take_succ_cons,List.take_zero,List.drop_zero,List.map_cons,List.map_nil,List.length_cons,List.length_nil,Nat.reduceAdd,Nat.zero_add,Nat.le_refl,if_true,canon_str,canon_int,canon_nil]; try rfl)) ((row_ex _).below _) ?_
  refine rend (.mk [110,101,103] [] [x1] [] _) hR rfl (Rok.nx (by assumption) (by omega) (by omega)) ⟨by omega,?_,?_⟩
  ·simp only [wEx,wExs,wTys,List.length_nil,List.length_cons]; omega
  ·exact fun h => ok_mk (.inr (.inr (.inr (.inr (.inr (.inr (.inr (.inr (.inr (.inl ⟨.inl rfl,⟨_,rfl⟩,rfl,rfl⟩)))))))))) (okExs_1 (hP_x1 (by omega))) okTys_nil
 ·refine fin_cell hlt rfl rfl (v:=.agg (exRow (.mk [110,101,103] [] [] [] _))) (by (simp only [aload,overlay,canonL,cells_int,cells_str,exRow,exRows,tyRows,lst_nil,List.getElem?_cons_zero,List.take_succ_cons,List.take_zero,List.drop_succ_cons,List.drop_zero,List.map_cons,List.map_nil,List.nil_append,List.append_nil,List.cons_append,List.length_cons,List.length_nil,Nat.reduceAdd,Nat.zero_add,Nat.le_refl,if_true,canon_str,canon_int,canon_nil]; try rfl)) ((row_ex _).below _) ?_
  refine rend (.mk [110,101,103] [] [] [] _) hR rfl (Rok.nx (by assumption) (by omega) (by omega)) ⟨by omega,?_,?_⟩
  ·simp only [wEx,wExs,wTys,List.length_nil,List.length_cons]; omega
  ·intro h; omega
 ·refine g_call rfl rfl rfl ?_; refine c_rc (hp1) hlt (by assumption) (by omega) (by omega) ?_; intro x0 r0 rw_r0 hR' hok_r0 _ _ _ _ _ hP_x0; replace hR:=hR.trans hR'; (try replace hRL:=hRL.trans hR'); obtain ⟨_,_,hP_x0⟩:=hP_x0; refine zrk ?_
  refine' hG
  refine at_loop hm (fun m e S' => ∃ (r' : Rd) (rw' : List Nat) (t : Xp) (C Z : List AV) (J : List Blk),Z.length = 5 ∧ S' = ⟨hp H n (blk s r') (.cells Z :: .cells C :: J),rw'⟩ ∧ ExIn s r rw r' rw' t C ∧ (m : Int) = s.toks.length - r'.i ∧
   e = [(0,.ptr n 0),(2,.ptr (H.length + 0) 0),(4,.ptr (H.length + 1) 0)]) ?_ (m:=(s.toks.length - r0.i).toNat) ⟨r0,rw_r0,x0,exRow x0,_,[],rfl,rfl,⟨hok_r0,by omega,by omega,by omega,hR,(row_ex x0).can,(row_ex x0).len,by omega,hP_x0⟩,by omega,rfl⟩
  clear hok_r0 hP_x0 hR
  rintro m' e S' ⟨r',rw',t,C,Z,J,hZ,rfl,hin,hmm,rfl⟩
  obtain ⟨hok',h2,h3,h4,hR,hC,hCl,h8,h9⟩:=hin
  have h5:=hok'.lo
  have h6:=hok'.hi
  have h7:=hok'.dlo
  refine' hG
  ·refine g_call rfl rfl rfl ?_; refine c_rc (hx) hlt (by assumption) (by omega) (by omega) ?_; intro x1 r1 rw_r1 hR' hok_r1 _ _ _ _ _ hP_x1; replace hR:=hR.trans hR'; (try replace hRL:=hRL.trans hR'); obtain ⟨_,_,hP_x1⟩:=hP_x1; refine zrk ?_
   refine' hG
   refine ⟨(s.toks.length - rc.i).toNat,by omega,rc,rwc,.mk [105,110,100,101,120] [] [t,x1] [] _,_,_,_,hZ,rfl,⟨by assumption,by omega,by omega,by omega,hR,by (simp only [canonL,exRow,exRows,tyRows,lst_nil,List.map_cons,List.map_nil,canon_str,canon_int,canon_nil]; try rfl),rfl,fun h => ?_,fun h => ?_⟩,by omega,rfl⟩
   ·have:=h8 (by omega)
    simp only [wEx,wExs,wTys,List.length_nil,List.length_cons]
    omega
   ·exact ok_mk (.inr (.inr (.inr (.inr (.inr (.inr (.inr (.inr (.inl ⟨rfl,⟨_,_,rfl⟩,rfl,rfl⟩))))))))) (okExs_2 (h9 (by omega)) (hP_x1 (by omega))) okTys_nil
  ·refine g_call rfl rfl rfl ?_; refine c_rc (cnm) hlt (by assumption) (by omega) (by omega) ?_; intro x1 r1 rw_r1 hR' hok_r1 _ _ _ _ _ hP_x1; replace hR:=hR.trans hR'; (try replace hRL:=hRL.trans hR'); obtain ⟨_,_,hP_x1⟩:=hP_x1; refine zrk ?_
   refine' hG
   ·refine g_call rfl rfl rfl ?_
    refine c_rc hxs hlt (by assumption) (by omega) (by omega) ?_
    intro l1 r2 rw_r2 hR' hok_r2 _ _ _ _ _ hP_l1
    replace hR:=hR.trans hR'
    obtain ⟨_,hw_l1,hP_l1⟩:=hP_l1
    refine zrk ?_
    refine id_append ?_
    refine g_append rfl rfl rfl ?_
    have hll : (exRows l1.xs).length = l1.xs.length:=exRows_len _
    refine ap_lt (xs:=[t]) l1 rfl (exRows_append _ _) (by simp) (by simp only [List.length_cons,List.length_nil,maxRow]; omega) (by simp only [List.length_cons,List.length_nil,maxRow]; omega) (by omega) ?_
    intro l2 rw3 hl2 hR3
    replace hR:=hR.trans hR3
    refine zrk ?_
    refine' hG
    refine ⟨(s.toks.length - r2.i).toNat,by omega,r2,rw3,.mk [99,97,108,108] x1 (t :: l1.xs) [] _,_,_,_,hZ,rfl,⟨by assumption,by omega,by omega,by omega,hR,by ((simp only [canonL,exRow,exRows,tyRows,lst_nil,LT.canon,List.map_cons,List.map_nil,canon_lst,canon_str,canon_int,canon_nil]; try rfl); rw [hl2]; rfl),rfl,fun h => ?_,fun h => ?_⟩,by omega,rfl⟩
    ·have:=h8 (by omega)
     simp only [wEx,wExs,wTys,List.length_nil,List.length_cons]
     omega
    ·exact ok_mk (.inr (.inr (.inr (.inr (.inr (.inr (.inr (.inl ⟨rfl,⟨_,_,rfl⟩,rfl,hP_x1 (by omega)⟩)))))))) (by rw [okExs]; exact ⟨h9 (by omega),hP_l1 h⟩) okTys_nil
   ·refine ⟨(s.toks.length - rc.i).toNat,by omega,rc,rwc,.mk [102,105,101,108,100] x1 [t] [] _,_,_,_,hZ,rfl,⟨by assumption,by omega,by omega,by omega,hR,by (simp only [canonL,exRow,exRows,tyRows,lst_nil,List.map_cons,List.map_nil,canon_str,canon_int,canon_nil]; try rfl),rfl,fun h => ?_,fun h => ?_⟩,by omega,rfl⟩
    ·have:=h8 (by omega)
     simp only [wEx,wExs,wTys,List.length_nil,List.length_cons]
     omega
    ·exact ok_mk (.inr (.inr (.inr (.inr (.inr (.inr (.inl ⟨rfl,⟨_,rfl⟩,rfl,hP_x1 (by omega)⟩))))))) (okExs_1 (h9 (by omega))) okTys_nil
  ·refine g_call rfl rfl rfl ?_; refine c_rc (hx) hlt (by assumption) (by omega) (by omega) ?_; intro x1 r1 rw_r1 hR' hok_r1 _ _ _ _ _ hP_x1; replace hR:=hR.trans hR'; (try replace hRL:=hRL.trans hR'); obtain ⟨_,_,hP_x1⟩:=hP_x1; refine zrk ?_
   refine' hG
   refine ⟨(s.toks.length - rc.i).toNat,by omega,rc,rwc,.mk [105,110,100,101,120] [] [t,x1] [] _,_,_,_,hZ,rfl,⟨by assumption,by omega,by omega,by omega,hR,by (simp only [canonL,exRow,exRows,tyRows,lst_nil,List.map_cons,List.map_nil,canon_str,canon_int,canon_nil]; try rfl),rfl,fun h => ?_,fun h => ?_⟩,by omega,rfl⟩
   ·have:=h8 (by omega)
    simp only [wEx,wExs,wTys,List.length_nil,List.length_cons]
    omega
   ·exact ok_mk (.inr (.inr (.inr (.inr (.inr (.inr (.inr (.inr (.inl ⟨rfl,⟨_,_,rfl⟩,rfl,rfl⟩))))))))) (okExs_2 (h9 (by omega)) (hP_x1 (by omega))) okTys_nil
  ·refine g_call rfl rfl rfl ?_; refine c_rc (cnm) hlt (by assumption) (by omega) (by omega) ?_; intro x1 r1 rw_r1 hR' hok_r1 _ _ _ _ _ hP_x1; replace hR:=hR.trans hR'; (try replace hRL:=hRL.trans hR'); obtain ⟨_,_,hP_x1⟩:=hP_x1; refine zrk ?_
   refine' hG
   ·refine g_call rfl rfl rfl ?_
    refine c_rc hxs hlt (by assumption) (by omega) (by omega) ?_
    intro l1 r2 rw_r2 hR' hok_r2 _ _ _ _ _ hP_l1
    replace hR:=hR.trans hR'
    obtain ⟨_,hw_l1,hP_l1⟩:=hP_l1
    refine zrk ?_
    refine id_append ?_
    refine g_append rfl rfl rfl ?_
    have hll : (exRows l1.xs).length = l1.xs.length:=exRows_len _
    refine ap_lt (xs:=[t]) l1 rfl (exRows_append _ _) (by simp) (by simp only [List.length_cons,List.length_nil,maxRow]; omega) (by simp only [List.length_cons,List.length_nil,maxRow]; omega) (by omega) ?_
    intro l2 rw3 hl2 hR3
    replace hR:=hR.trans hR3
    refine zrk ?_
    refine' hG
    refine ⟨(s.toks.length - r2.i).toNat,by omega,r2,rw3,.mk [99,97,108,108] x1 (t :: l1.xs) [] _,_,_,_,hZ,rfl,⟨by assumption,by omega,by omega,by omega,hR,by ((simp only [canonL,exRow,exRows,tyRows,lst_nil,LT.canon,List.map_cons,List.map_nil,canon_lst,canon_str,canon_int,canon_nil]; try rfl); rw [hl2]; rfl),rfl,fun h => ?_,fun h => ?_⟩,by omega,rfl⟩
    ·have:=h8 (by omega)
     simp only [wEx,wExs,wTys,List.length_nil,List.length_cons]
     omega
    ·exact ok_mk (.inr (.inr (.inr (.inr (.inr (.inr (.inr (.inl ⟨rfl,⟨_,_,rfl⟩,rfl,hP_x1 (by omega)⟩)))))))) (by rw [okExs]; exact ⟨h9 (by omega),hP_l1 h⟩) okTys_nil
   ·refine ⟨(s.toks.length - rc.i).toNat,by omega,rc,rwc,.mk [102,105,101,108,100] x1 [t] [] _,_,_,_,hZ,rfl,⟨by assumption,by omega,by omega,by omega,hR,by (simp only [canonL,exRow,exRows,tyRows,lst_nil,List.map_cons,List.map_nil,canon_str,canon_int,canon_nil]; try rfl),rfl,fun h => ?_,fun h => ?_⟩,by omega,rfl⟩
    ·have:=h8 (by omega)
     simp only [wEx,wExs,wTys,List.length_nil,List.length_cons]
     omega
    ·exact ok_mk (.inr (.inr (.inr (.inr (.inr (.inr (.inl ⟨rfl,⟨_,rfl⟩,rfl,hP_x1 (by omega)⟩))))))) (okExs_1 (h9 (by omega))) okTys_nil
  ·refine fin_cell hlt rfl rfl (row_ex t).load ((row_ex _).below _) ?_
   exact rend t hR rfl (Rok.nx (by assumption) (by omega) (by omega)) ⟨by omega,fun h => by have:=h8 (by omega); omega,fun h => h9 (by omega)⟩
end Go.Proofs.YtmeakjgbjldkdaaGreat.Ai
