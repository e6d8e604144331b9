/- A part of what is proved: R14, R15, R16, R17, R18, R19, R20, R21, R22, L4, C1, L21, W29, Cls, Wk, C7p, C2, Stp4, Stp5, Nw0, C3, Stp6, C5, L5, L6, Txt, P1, P2, C6, C8, C7. No condition. -/
import Derived.Test.YtmeakjgbjldkdaaGreatI3
import Derived.Test.YtmeakjgbjldkdaaGreatProg
import Derived.KernelRfl
set_option maxRecDepth 100000
set_option maxHeartbeats 16000000
noncomputable section
namespace Go.Proofs.YtmeakjgbjldkdaaGreat
abbrev D1:=@List.set_eq_of_length_le
abbrev Bl:=@List.mem_cons_self
abbrev Cd:=@List.getElem?_of_mem
abbrev Du:=@List.sum_cons
end Go.Proofs.YtmeakjgbjldkdaaGreat
namespace Go.Proofs.YtmeakjgbjldkdaaGreat.Ai
open Go
open Tr(pk)
variable {pr:Jz} {F:Nat->Option IFn}
structure OutC where
 C:List AV
 r:Rd
 rw:List Nat
def RP(pr:Jz)(F:Nat->Option IFn)(pre:List Nat->List AV->Prop)(post:Src->Rd->List Nat->List AV->Rd->List Nat->List AV->Prop)(f:Nat)(m:Int):Prop:=
 ∀(H:List Blk) (rw:List Nat) (n:Nat) (s:Src) (r:Rd) (C:List AV) (J:List Blk),n<H.length->Rok s r->101<=r.deep+m->r.deep<=200->pre rw C ->
  ∃ o:OutC,(Nx s r o.r/\post s r rw C o.r o.rw o.C)/\Det pr F f [.ptr n 0,.ptr (H.length+0) 0] ⟨hp H n (blk s r) (.cells C::J),rw⟩ (.ret (.tup [])) ⟨hp H n (blk s o.r) (.cells o.C::J),o.rw⟩
def JIH(post:Src->Rd->List Nat->List AV->Rd->List Nat->List AV->Prop)(H:List Blk)(n:Nat)(s:Src)(r:Rd)(rw:List Nat)(C:List AV)(J:List Blk)(q:Res)(S':St):Prop:=
 ∃ o:OutC,(Nx s r o.r/\post s r rw C o.r o.rw o.C)/\q=.ret (.tup [])/\S'=⟨hp H n (blk s o.r) (.cells o.C::J),o.rw⟩
theorem Je0{post:Src->Rd->List Nat->List AV->Rd->List Nat->List AV->Prop}{H:List Blk}{n:Nat}{s:Src}{r r':Rd}{rw rw':List Nat}{C C':List AV}{J:List Blk}(hn:Nx s r r')(hp':post s r rw C r' rw' C'):JIH post H n s r rw C J (.ret (.tup [])) ⟨hp H n (blk s r') (.cells C'::J),rw'⟩:=
 ⟨⟨C',r',rw'⟩,⟨hn,hp'⟩,rfl,rfl⟩
theorem Jnn(hm:Yy pr){pre:List Nat->List AV->Prop}{post:Src->Rd->List Nat->List AV->Rd->List Nat->List AV->Prop}{f na:Nat}{c:IC}{res:List RVar}{m:Int}(h1:pr f=none)(h2:F f=some ⟨na,c,res⟩)(h3:2=na)
  (h:∀(H:List Blk) (rw:List Nat) (n:Nat) (s:Src) (r:Rd) (C:List AV) (J:List Blk),n<H.length->s.toks.length<=8000->Rok s r->0<=r.i->r.i<=s.toks.length->0<=r.deep->r.deep<=200->101<=r.deep+m->pre rw C ->
   At pr F (H.length+(J.length+1)) (fin res (H.length+(J.length+1)) (JIH post H n s r rw C J)) c [] (Ys [.ptr n 0,.ptr (H.length+0) 0]) ⟨hp H n (blk s r) (.cells C::J),rw⟩):RP pr F pre post f m:=by
 intro H rw n s r C J hlt hr hd hd2 hpre;have hw:Wp pr F f [.ptr n 0,.ptr (H.length+0) 0] ⟨hp H n (blk s r) (.cells C::J),rw⟩ (JIH post H n s r rw C J):=by refine Jt hm h1 h2 (by simp[<- h3]) ?_;have:=h H rw n s r C J hlt s.small hr hr.lo hr.hi hr.dlo hd2 hd hpre;rw[show(St.heap ⟨hp H n (blk s r) (.cells C::J),rw⟩).length=H.length+(J.length+1) by simp[XO]];exact this
 obtain⟨q,S',hd,o,hp,rfl,rfl⟩:=hw.det hm;exact⟨o,hp,hd⟩
theorem JUn{K:AV->St->Prop}{H:List Blk}{rw:List Nat}{n:Nat}{s:Src}{r:Rd}{c0:Blk}{C:List AV}{J:List Blk}{pre:List Nat->List AV->Prop}{post:Src->Rd->List Nat->List AV->Rd->List Nat->List AV->Prop}{fn:Nat}{m:Int}(hc:RP pr F pre post fn m)(hlt:n<H.length)(hok:Rok s r)(hd:101<=r.deep+m)(hd2:r.deep<=200)(hpre:pre rw C)
  (h:∀(C':List AV) (r':Rd) (rw':List Nat),Rok s r'->0<=r'.i->r'.i<=s.toks.length->0<=r'.deep->r.i<=r'.i->(r'.code=0->r.code=0)->post s r rw C r' rw' C'->K (.tup []) ⟨hp H n (blk s r') (c0::.cells C'::J),rw'⟩) :
  ClAt pr F fn [.ptr n 0,.ptr (H.length+1) 0] ⟨hp H n (blk s r) (c0::.cells C::J),rw⟩ K:=by
 obtain⟨o,⟨hn,hp'⟩,hdet⟩:=hc (H++[c0]) rw n s r C J AR hok hd hd2 hpre;have e:∀(b:Blk) (L:List Blk),hp (H++[c0]) n b L=hp H n b (c0::L):=by intro b L;simp[hp]
 rw[e,e]at hdet;have e2:(H++[c0]).length+0=H.length+1:=Ag;rw[e2]at hdet;exact⟨_,_,hdet,h o.C o.r o.rw ⟨hn.lo,hn.hi,hn.dlo,hn.dhi⟩ hn.lo hn.hi hn.dlo hn.mono hn.code hp'⟩
theorem JtT{H:List Blk}{n:Nat}{b c:Blk}{J L:List Blk}(_hn:n<H.length):(hp H n b (c::(J++L))).take (H.length+(J.length+1))=hp H n b (c::J):=by unfold hp;have e:H++c::(J++L)=(H++c::J)++L:=Ag;have e2:H.length+(J.length+1)=(H++c::J).length:=Ag;rw[Dt,e,e2,CV]
theorem Jbj{H:List Blk}{n:Nat}{b c:Blk}{J L:List Blk}{rw:List Nat}{e:KC}{Q:Res->St->Prop}(hn:n<H.length)(h:Q (.ret (.tup [])) ⟨hp H n b (c::J),rw⟩):fin [] (H.length+(J.length+1)) Q .normal e ⟨hp H n b (c::(J++L)),rw⟩:=
 Jak (JtT hn) h
structure OthP(s:Src)(r:Rd)(r':Rd)(C':List AV)(t:Sm):Prop where
 deep:r'.deep=r.deep
 can:Jh C'=Jp t
 len:C'.length=7
 wt:r'.code=0->r.i<r'.i/\(wSm t:Int)<=8100*(r'.i-r.i)
 ok:r'.code=0->Ja0 t
def JII(_:List Nat)(C:List AV):Prop:=∃ a,C=[.str [],.str [],.list 0 .full [],.list 0 .full [],.list 0 .full [],.list 0 .full [],.int .i64 a]
def Jzk(s:Src)(r:Rd)(rw:List Nat)(_:List AV)(r':Rd)(rw':List Nat)(C':List AV):Prop:=Rx rw rw'/\∃ t,OthP s r r' C' t
theorem Jzl{K:AV->St->Prop}{rw0 rw:List Nat}{v:AV}{xs:List Xp}{x:Xp}{H:List Blk}(h:Lst rw0 5 v (Ja xs) rw)(hx:Rx rw0 rw)(hl:xs.length<=10000)(hk:∀(l:LT 5 Ja) (rw':List Nat),l.xs=xs++[x]->Rx rw0 rw'->K l.v ⟨H,rw'⟩):ApAt 5 88 v (.list 5 .full [Jb x]) ⟨H,rw⟩ K:=by have e:=JV xs;refine QB h hx (by rw[e];simp only[Ji];omega) (by rw[e];simp only[Ji];omega) O ?_;intro v' rw' h1 h2;exact hk ⟨v',xs++[x],by rw[V3];exact h1.isL⟩ rw' rfl h2
theorem Je1{k nm:Jk}{ty:List Ty}{exs:List Xp}{body els:List Sm}{a:Int}(h:Jd2 k nm ty exs body els)(h1:XW ty)(h2:QU exs)(h3:Vf body)(h4:Vf els):Ja0 (.mk k nm ty exs body els a):=by rw[Ja0];exact⟨h,h1,h2,h3,h4⟩
theorem QN:Vf []:=by rw[Vf];trivial
theorem Jzm{a b c:Xp}(h:X4 a)(h':X4 b)(h'':X4 c):QU [a,b,c]:=by rw[QU,QU,QU,QU];exact⟨h,h',h'',trivial⟩
theorem JtU{op nm:Jk}{args:List Xp}{ty:List Ty}{a:Int}(h:X4 (.mk op nm args ty a))(ho:op=[118,97,114]):Nm nm:=by
 subst ho;rw[X4]at h;obtain⟨h,-,-⟩:=h;unfold Jnc at h;rcases h with h |h |h |h |h |h |h |h |h |h |h;all_goals first
  | exact h.2.2.2
  |(exfalso;revert h;simp[KO])
theorem Jpi{op nm:Jk}{args:List Xp}{ty:List Ty}{a:Int}(h:X4 (.mk op nm args ty a))(ho:op=[102,105,101,108,100]):∃ x,args=[x]/\X4 x/\Nm nm:=by
 subst ho;rw[X4]at h;obtain⟨h,h2,-⟩:=h;unfold Jnc at h;rcases h with h |h |h |h |h |h |h |h |h |h |h;all_goals first
  |(obtain⟨-,⟨x,rfl⟩,-,hn⟩:=h;exact⟨x,rfl,h2.1,hn⟩)
  |(exfalso;revert h;simp[KO])
theorem Jpj{op nm:Jk}{args:List Xp}{ty:List Ty}{a:Int}(h:X4 (.mk op nm args ty a))(ho:op=[105,110,100,101,120]):∃ x y,args=[x,y]/\X4 x/\X4 y:=by
 subst ho;rw[X4]at h;obtain⟨h,h2,-⟩:=h;unfold Jnc at h;rcases h with h |h |h |h |h |h |h |h |h |h |h;all_goals first
  |(obtain⟨-,⟨x,y,rfl⟩,-⟩:=h;exact⟨x,y,rfl,h2.1,h2.2.1⟩)
  |(exfalso;revert h;simp)
theorem Em{Q:Prop}(h:Q:=by simp only[J7];exact(JG x2).clo):Q:=h
theorem En{Q:Prop}(h:Q:=by((simp only[Jh,Jp,Ja,Jo,Jg,Ke,LT.canon,Ap,AC,JN,JO,JP];try rfl);rw[hl3];rfl)):Q:=h
theorem JtV(L:LibS pr F):RP pr F JII Jzk 197 2000:=by
 have hm:=L.hm;have cis0:=λx=>KJ L.toLibR 0 O x;have cis1:=λx=>KJ L.toLibR 1 O x;have cis2:=λx=>KJ L.toLibR 2 O x;have cpl:=KW L.toLibR;have ctk:=λx=>Vu L.toLibR x 2000;have cen:=QO L.toLibR 2000;have cnd:=λx=>Vv L.toLibR x 2000;have cfl:=Vt L.toLibR 110 O 2000;have cnm:=Vw L.toLibR 2000;have hex:=JeZ L.toLibX;refine Jnn hm L.f197.1 L.f197.2 rfl ?_;intro H rw n s r C J hlt hsm hok _ _ _ _ _ hpre;obtain⟨a,rfl⟩:=hpre;have hR:Rx rw rw:=Rx.rfl;refine' hG;refine Je rfl rfl rfl ?_;refine KU (hex) hlt Aa O O ?_;intro x1 r1 rw_r1 hR' hok_r1 _ _ _ _ _ hP_x1;replace hR:=hR.trans hR';obtain⟨_,_,hP_x1⟩:=hP_x1;refine K7 ?_;obtain⟨op,nm,args,ty,pos⟩:=x1;refine' hG
 ·refine Je rfl rfl rfl ?_;refine KU (hex) hlt Aa O O ?_;intro x2 r2 rw_r2 hR' hok_r2 _ _ _ _ _ hP_x2;replace hR:=hR.trans hR';obtain⟨_,_,hP_x2⟩:=hP_x2;refine K7 ?_;refine Zv ?_;refine Jal rfl rfl rfl rfl rfl ⟨rfl,rfl,(JG x2).len,Em,rfl,rfl⟩ (JG x2).can ?_;refine Jzl (xs:=[]) .nil hR Ag ?_;intro l3 rw3 hl3 hR3;replace hR:=hR3;refine K7 ?_;refine' hG;refine Jbj hlt ?_;refine Je0 (Rok.nx Aa O O) ⟨hR,.mk [115,101,116] nm [] [x2] [] [] a,⟨O,En,rfl,?_,?_⟩⟩
  ·simp only[wSm,Qj,Zw,KQ,Vr,Af,Ad]at *;omega
  ·exact λh=>Je1 (.inr (.inl ⟨rfl,JtU (hP_x1 O) Aa,rfl,⟨_,rfl⟩,rfl,rfl⟩)) KI (Xt (hP_x2 O)) QN QN
 ·obtain⟨x,rfl,hx,hfn⟩:=Jpi (hP_x1 O) Aa;refine' hG;refine Je rfl rfl rfl ?_;refine KU (hex) hlt Aa O O ?_;intro x2 r2 rw_r2 hR' hok_r2 _ _ _ _ _ hP_x2;replace hR:=hR.trans hR';obtain⟨_,_,hP_x2⟩:=hP_x2;refine K7 ?_;refine Zv ?_;refine Jal rfl rfl rfl rfl rfl ⟨rfl,rfl,(JG x2).len,Em,rfl,rfl⟩ (JG x2).can ?_;refine Jzl (xs:=[x]) (.lit Cl) hR Ag ?_;intro l3 rw3 hl3 hR3;replace hR:=hR3;refine K7 ?_;refine' hG;refine Jbj hlt ?_;refine Je0 (Rok.nx Aa O O) ⟨hR,.mk [102,105,101,108,100] nm [] [x,x2] [] [] a,⟨O,En,rfl,?_,?_⟩⟩
  ·simp only[wSm,Qj,Zw,KQ,Vr,Af,Ad]at *;omega
  ·exact λh=>Je1 (.inr (.inr (.inl ⟨rfl,hfn,rfl,⟨_,_,rfl⟩,rfl,rfl⟩))) KI (JhD hx (hP_x2 O)) QN QN
 ·obtain⟨x,y,rfl,hx,hy⟩:=Jpj (hP_x1 O) Aa;refine' hG;refine Je rfl rfl rfl ?_;refine KU (hex) hlt Aa O O ?_;intro x2 r2 rw_r2 hR' hok_r2 _ _ _ _ _ hP_x2;replace hR:=hR.trans hR';obtain⟨_,_,hP_x2⟩:=hP_x2;refine K7 ?_;refine Zv ?_;refine Jal rfl rfl rfl rfl rfl ⟨rfl,rfl,(JG x2).len,Em,rfl,rfl⟩ (JG x2).can ?_;refine Jzl (xs:=[x,y]) (.lit Cl) hR Ag ?_;intro l3 rw3 hl3 hR3;replace hR:=hR3;refine K7 ?_;refine' hG;refine Jbj hlt ?_;refine Je0 (Rok.nx Aa O O) ⟨hR,.mk [101,108,101,109] [] [] [x,y,x2] [] [] a,⟨O,En,rfl,?_,?_⟩⟩
  ·simp only[wSm,Qj,Zw,KQ,Vr,Af,Ad]at *;omega
  ·exact λh=>Je1 (.inr (.inr (.inr (.inl ⟨rfl,rfl,rfl,⟨_,_,_,rfl⟩,rfl,rfl⟩)))) KI (Jzm hx hy (hP_x2 O)) QN QN
 ·refine Je rfl rfl rfl ?_;refine KU (hex) hlt Aa O O ?_;intro x2 r2 rw_r2 hR' hok_r2 _ _ _ _ _ hP_x2;replace hR:=hR.trans hR';obtain⟨_,_,hP_x2⟩:=hP_x2;refine K7 ?_;refine Zv ?_;refine Jal rfl rfl rfl rfl rfl ⟨rfl,rfl,(JG x2).len,Em,rfl,rfl⟩ (JG x2).can ?_;refine Jzl (xs:=[.mk op nm args ty pos]) (.lit Cl) hR Ag ?_;intro l3 rw3 hl3 hR3;replace hR:=hR3;refine K7 ?_;refine' hG;refine Jbj hlt ?_;refine Je0 (Rok.nx Aa O O) ⟨hR,.mk [100,111] [] [] [.mk op nm args ty pos,x2] [] [] a,⟨O,by((simp only[Jh,Jb,Jp,Ja,Jo,Jg,Ke,LT.canon,Ap,AC,JN,JO,JP];try rfl);rw[hl3];rfl),rfl,?_,?_⟩⟩
  ·simp only[wSm,Qj,Zw,KQ,Vr,Af,Ad]at *;omega
  ·intro h;omega
 ·refine Jbj hlt ?_;refine Je0 (Rok.nx Aa O O) ⟨hR,.mk [100,111] [] [] [.mk op nm args ty pos] [] [] a,⟨O,D,rfl,?_,?_⟩⟩
  ·simp only[wSm,Qj,Zw,KQ,Vr,Af,Ad]at *;omega
  ·exact λh=>Je1 (.inr (.inr (.inr (.inr (.inr (.inr (.inr ⟨.inr (.inr rfl),rfl,rfl,⟨_,rfl⟩,rfl,rfl⟩))))))) KI (Xt (hP_x1 O)) QN QN
abbrev LS:=LT (α:=Sm) 7 Jg
def Jsn(_:Src)(r:Rd)(l:LS)(r':Rd):Prop:=r'.deep=r.deep/\(r'.code=0->r.i<r'.i/\(Qj l.xs:Int)<=8100*(r'.i-r.i))/\(r'.code=0->Vf l.xs)
def smP(_:Src)(r:Rd)(t:Sm)(r':Rd):Prop:=r'.deep=r.deep/\(r'.code=0->r.i<r'.i/\(wSm t:Int)<=8100*(r'.i-r.i))/\(r'.code=0->Ja0 t)
theorem JjR(a b:List Sm):Jg (a++b)=Jg a++Jg b:=by simp[Qh]
theorem JtW(L:LibS pr F){m:Int}(hst:RC pr F (λx:Sm=>AV.agg (Jp x)) smP 141 [] m):RC pr F LT.v Jsn 94 [] (m+1):=by
 have hm:=L.hm;have cis0:=λx=>KJ L.toLibR 0 O x;have cis1:=λx=>KJ L.toLibR 1 O x;have cis2:=λx=>KJ L.toLibR 2 O x;have cpl:=KW L.toLibR;have ctk:=λx=>Vu L.toLibR x 2000;have cen:=QO L.toLibR 2000;have cnd:=λx=>Vv L.toLibR x 2000;have cfl:=Vt L.toLibR 110 O 2000;have cnm:=Vw L.toLibR 2000;refine VZ hm L.f94.1 L.f94.2 rfl ?_;intro H rw n s r hlt hsm hok _ _ _ _ _;have hR:Rx rw rw:=Rx.rfl;refine' hG
 ·refine JB hm (λm e S'=>∃(r':Rd) (rw':List Nat) (l:AV) (xs:List Sm),S'=⟨hp H n (blk s r') [],rw'⟩/\Rok s r'/\r.i<=r'.i/\r'.deep=r.deep+1/\(r'.code=0->r.code=0)/\Rx rw rw'/\Lst rw 7 l (Jg xs) rw'/\(xs.length:Int)<=r'.i+1 /\
   (r'.code=0->r.i<r'.i/\(xs.length:Int)<=r'.i/\(Qj xs:Int)<=8100*(r'.i-r.i))/\(r'.code=0->Vf xs)/\(m:Int)=2*(s.toks.length-r'.i)+(if r'.code=0 then 1 else 0) /\
   e=[(0,.ptr n 0),(3,l)]) ?_ (m:=(2*(s.toks.length-rc.i)+(if rc.code=0 then 1 else 0)).toNat) ⟨rc,rwc,_,[],rfl,Aa,O,O,O,hR,.nil,AR,λ_=>⟨O,AR,by simp[Qj];omega⟩,λ_=>QN,Bv,rfl⟩
  clear hR;rintro m' e S' ⟨r',rw',l,xs,rfl,hok',h2,h3,h4,hR,hl1,hxl,h8,h9,hmm,rfl⟩;have h5:=hok'.lo;have h6:=hok'.hi;have h7:=hok'.dlo;have hRL:Rx rw' rw':=Rx.rfl;by_cases hc:r'.code=0
  ·rw[if_pos hc]at hmm;have e2:(Jg xs).length=xs.length:=Jd5 xs;refine' hG
   ·refine Js rfl ?_ (JR hlt) ?_
    ·exact hl1.isL.below _
    ·exact Vi (enc:=LT.v) ⟨l,xs,hl1.isL⟩ hR rfl (Rok.nx Aa O O) ⟨O,λh=>by have:=h8 hc;simp only;omega,λh=>h9 hc⟩
   ·refine Je rfl rfl rfl ?_;refine KU (hst) hlt Aa O O ?_;intro t1 r1 rw_r1 hR' hok_r1 _ _ _ _ _ hP_t1;replace hR:=hR.trans hR';(try replace hRL:=hRL.trans hR');obtain⟨_,_,hP_t1⟩:=hP_t1;refine K7 ?_;refine' hG;refine JT ?_;refine JW rfl rfl rfl ?_;refine QB (hl1.ext hRL) hR Eh Eh O ?_;intro l4 rw4 hl4 hR4;refine K7 ?_;refine' hG;refine⟨(2*(s.toks.length-r1.i)+(if r1.code=0 then 1 else 0)).toNat,?_,r1,rw4,l4,xs++[t1],rfl,hok_r1,O,O,O,hR4,by rw[JjR];exact hl4,AR,?_,?_,Bv,rfl⟩
    ·split <;> omega
    ·intro h0;rw[Jne];simp only[Qj,AG,Ad,Af];omega
    ·intro h0;rw[JlE];exact⟨h9 hc,by rw[Vf];exact⟨hP_t1 h0,QN⟩⟩
  ·refine' hG;refine Js rfl ?_ (JR hlt) ?_
   ·exact hl1.isL.below _
   ·exact Vi (enc:=LT.v) ⟨l,xs,hl1.isL⟩ hR rfl (Rok.nx Aa O O) ⟨O,λh=>absurd h O,λh=>absurd h O⟩
 ·refine Js rfl rfl (JR hlt) ?_;exact Vi (LT.nil (by simp[Jg])) hR rfl (Rok.nx Aa O O) ⟨O,λh=>O,λh=>O⟩
theorem JtX{c:Xp}{b e:List Sm}{a:Int}(h:X4 c)(hb:Vf b)(he:Vf e):Ja0 (.mk [105,102] [] [] [c] b e a):=
 Je1 (.inr (.inr (.inr (.inr (.inl ⟨rfl,rfl,rfl,⟨_,rfl⟩⟩))))) KI (Xt h) hb he
theorem Jzn{a:Sm}(h:Ja0 a):Vf [a]:=by rw[Vf];exact⟨h,QN⟩
theorem Jso(L:LibS pr F){m:Int}(hb:RC pr F LT.v Jsn 94 [] m)(hc:RC pr F (λx:Sm=>AV.agg (Jp x)) smP 196 [] (m-1)):RC pr F (λx:Sm=>AV.agg (Jp x)) smP 196 [] m:=by
 have hm:=L.hm;have cis0:=λx=>KJ L.toLibR 0 O x;have cis1:=λx=>KJ L.toLibR 1 O x;have cis2:=λx=>KJ L.toLibR 2 O x;have cpl:=KW L.toLibR;have ctk:=λx=>Vu L.toLibR x 2000;have cen:=QO L.toLibR 2000;have cnd:=λx=>Vv L.toLibR x 2000;have cfl:=Vt L.toLibR 110 O 2000;have cnm:=Vw L.toLibR 2000;have hex:=JeZ L.toLibX;refine VZ hm L.f196.1 L.f196.2 rfl ?_;intro H rw n s r hlt hsm hok _ _ _ _ _;have hR:Rx rw rw:=Rx.rfl;refine' hG;refine Je rfl rfl rfl ?_;refine KU (hex) hlt Aa O O ?_;intro c1 r1 rw_r1 hR' hok_r1 _ _ _ _ _ hP_c1;replace hR:=hR.trans hR';obtain⟨_,_,hP_c1⟩:=hP_c1;refine K7 ?_;refine' hG;refine Je rfl rfl rfl ?_;refine KU (hb) hlt Aa O O ?_;intro b1 r2 rw_r2 hR' hok_r2 _ _ _ _ _ hP_b1;replace hR:=hR.trans hR';obtain⟨_,_,hP_b1⟩:=hP_b1;refine K7 ?_;refine' hG
 ·refine Je rfl rfl rfl ?_;refine KU (hc) hlt Aa O O ?_;intro e1 r3 rw_r3 hR' hok_r3 _ _ _ _ _ hP_e1;replace hR:=hR.trans hR';obtain⟨_,_,hP_e1⟩:=hP_e1;refine K7 ?_;refine' hG;refine J0 hlt rfl rfl (v:=.agg (Jp (.mk [105,102] [] [] [c1] b1.xs [e1] _))) D ((Kx _).below _) ?_;refine Vi (.mk [105,102] [] [] [c1] b1.xs [e1] _) hR rfl (Rok.nx Aa O O) ⟨O,?_,?_⟩
  ·simp only[wSm,Qj,KQ,Vr,Af,Ad];omega
  ·exact λh=>JtX (hP_c1 O) (hP_b1 O) (Jzn (hP_e1 O))
 ·refine J0 hlt rfl rfl (v:=.agg (Jp (.mk [105,102] [] [] [c1] b1.xs [] _))) D ((Kx _).below _) ?_;refine Vi (.mk [105,102] [] [] [c1] b1.xs [] _) hR rfl (Rok.nx Aa O O) ⟨O,?_,?_⟩
  ·simp only[wSm,Qj,KQ,Vr,Af,Ad];omega
  ·intro h;omega
 ·refine Je rfl rfl rfl ?_;refine KU (hb) hlt Aa O O ?_;intro b2 r3 rw_r3 hR' hok_r3 _ _ _ _ _ hP_b2;replace hR:=hR.trans hR';obtain⟨_,_,hP_b2⟩:=hP_b2;refine K7 ?_;refine' hG;refine J0 hlt rfl rfl (v:=.agg (Jp (.mk [105,102] [] [] [c1] b1.xs b2.xs _))) D ((Kx _).below _) ?_;refine Vi (.mk [105,102] [] [] [c1] b1.xs b2.xs _) hR rfl (Rok.nx Aa O O) ⟨O,?_,?_⟩
  ·simp only[wSm,KQ,Vr,Af,Ad];omega
  ·exact λh=>JtX (hP_c1 O) (hP_b1 O) (hP_b2 O)
 ·refine J0 hlt rfl rfl (v:=.agg (Jp (.mk [105,102] [] [] [c1] b1.xs [] _))) D ((Kx _).below _) ?_;refine Vi (.mk [105,102] [] [] [c1] b1.xs [] _) hR rfl (Rok.nx Aa O O) ⟨O,?_,?_⟩
  ·simp only[wSm,Qj,KQ,Vr,Af,Ad];omega
  ·exact λh=>JtX (hP_c1 O) (hP_b1 O) QN
def J19(k:Nat)(x:Jk)(s:Src)(r:Rd):Bool->Prop
 | true=>r.code=0/\(r.i+k<s.toks.length/\∀ t:Tok,s.toks[r.i.toNat+k]? = some t->t.text=x)
 | false=>True/\True
theorem JIJ(L:LibR pr F)(k:Nat)(hk:k<=5)(x:Jk):RQ pr F AV.bool (J19 k x) 90 [.int .i64 k,.str x]:=by
 intro H rw n s r M hlt hr;refine⟨isF s r k x,?_,Jpe (S:=⟨_,_⟩) L (Kh hlt) hr k hk x⟩;cases h:isF s r k x with
 | true=>have:=JiC h;have h0:=hr.lo;refine⟨this.1,O,λt ht=>?_⟩;unfold isF at h;rw[ht]at h;simp at h;exact h.2.2
 | false=>exact⟨trivial,trivial⟩
theorem JtY{nm:Jk}{ty:List Ty}{x:Xp}{a:Int}(h:Nm nm)(hl:ty.length<=1)(ht:XW ty)(hx:X4 x):Ja0 (.mk [108,101,116] nm ty [x] [] [] a):=
 Je1 (.inl ⟨rfl,h,hl,⟨_,rfl⟩,rfl,rfl⟩) ht (Xt hx) QN QN
theorem JtZ{c:Xp}{l:List Xp}{b:List Sm}{a:Int}(h:QU (c::l))(hb:Vf b):Ja0 (.mk [119,104,105,108,101] [] [] (c::l) b [] a):=
 Je1 (.inr (.inr (.inr (.inr (.inr (.inl ⟨rfl,rfl,rfl,⟨_,_,rfl⟩,rfl⟩)))))) KI h hb QN
theorem Jt0{l:List Xp}{a:Int}(hl:l.length<=1)(h:QU l):Ja0 (.mk [114,101,116,117,114,110] [] [] l [] [] a):=
 Je1 (.inr (.inr (.inr (.inr (.inr (.inr (.inl ⟨rfl,rfl,rfl,hl,rfl,rfl⟩))))))) KI h QN QN
theorem JDX{k:Jk}{x:Xp}{a:Int}(hk:k=[97,115,115,101,114,116]\/k=[112,114,105,110,116])(h:X4 x):Ja0 (.mk k [] [] [x] [] [] a):=
 Je1 (.inr (.inr (.inr (.inr (.inr (.inr (.inr ⟨hk.elim .inl (λh=>.inr (.inl h)),rfl,rfl,⟨_,rfl⟩,rfl,rfl⟩))))))) KI (Xt h) QN QN
theorem Jzo(L:LibS pr F){m:Int}(hb:RC pr F LT.v Jsn 94 [] m)(hc:RC pr F (λx:Sm=>AV.agg (Jp x)) smP 196 [] m):RC pr F (λx:Sm=>AV.agg (Jp x)) smP 141 [] m:=by
 have hm:=L.hm;have cis0:=λx=>KJ L.toLibR 0 O x;have cis1:=λx=>KJ L.toLibR 1 O x;have cis2:=λx=>KJ L.toLibR 2 O x;have cpl:=KW L.toLibR;have ctk:=λx=>Vu L.toLibR x 2000;have cen:=QO L.toLibR 2000;have cnd:=λx=>Vv L.toLibR x 2000;have cfl:=Vt L.toLibR 110 O 2000;have cnm:=Vw L.toLibR 2000;clear cis0;have cis0:=λx=>JIJ L.toLibR 0 O x;have hex:=JeZ L.toLibX;have hty:=JlL L.toLibX;have hot:=JtV L;refine VZ hm L.f141.1 L.f141.2 rfl ?_;intro H rw n s r hlt hsm hok _ _ _ _ _;have hR:Rx rw rw:=Rx.rfl;refine' hG
 ·refine Je rfl rfl rfl ?_;refine KU (cnm) hlt Aa O O ?_;intro nm r1 rw_r1 hR' hok_r1 _ _ _ _ _ hP_nm;replace hR:=hR.trans hR';(try replace hRL:=hRL.trans hR');obtain⟨_,_,hP_nm⟩:=hP_nm;refine K7 ?_;refine' hG
  ·refine Je rfl rfl rfl ?_;refine KU (hty) hlt Aa O O ?_;intro t1 r2 rw_r2 hR' hok_r2 _ _ _ _ _ hP_t1;replace hR:=hR.trans hR';(try replace hRL:=hRL.trans hR');obtain⟨_,_,hP_t1⟩:=hP_t1;refine K7 ?_;refine' hG;refine Je rfl rfl rfl ?_;refine KU (hex) hlt Aa O O ?_;intro x1 r3 rw_r3 hR' hok_r3 _ _ _ _ _ hP_x1;replace hR:=hR.trans hR';(try replace hRL:=hRL.trans hR');obtain⟨_,_,hP_x1⟩:=hP_x1;refine K7 ?_;refine' hG;refine J0 hlt rfl rfl (v:=.agg (Jp (.mk [108,101,116] nm [t1] [x1] [] [] _))) D ((Kx _).below _) ?_;refine Vi (.mk [108,101,116] nm [t1] [x1] [] [] _) hR rfl (Rok.nx Aa O O) ⟨O,?_,?_⟩
   ·simp only[wSm,Qj,KQ,Vr,Af,Ad];omega
   ·exact λh=>JtY (hP_nm O) Ag (JqV (hP_t1 O)) (hP_x1 O)
  ·refine Je rfl rfl rfl ?_;refine KU (hex) hlt Aa O O ?_;intro x1 r3 rw_r3 hR' hok_r3 _ _ _ _ _ hP_x1;replace hR:=hR.trans hR';(try replace hRL:=hRL.trans hR');obtain⟨_,_,hP_x1⟩:=hP_x1;refine K7 ?_;refine' hG;refine J0 hlt rfl rfl (v:=.agg (Jp (.mk [108,101,116] nm [] [x1] [] [] _))) D ((Kx _).below _) ?_;refine Vi (.mk [108,101,116] nm [] [x1] [] [] _) hR rfl (Rok.nx Aa O O) ⟨O,?_,?_⟩
   ·simp only[wSm,Qj,KQ,Vr,Af,Ad];omega
   ·exact λh=>JtY (hP_nm O) Ag KI (hP_x1 O)
 ·refine Je rfl rfl rfl ?_;refine KU (hc) hlt Aa O O ?_;intro t1 r1 rw_r1 hR' hok_r1 _ _ _ _ _ hP_t1;replace hR:=hR.trans hR';(try replace hRL:=hRL.trans hR');obtain⟨_,_,hP_t1⟩:=hP_t1;refine K7 ?_;refine' hG;refine J0 hlt rfl rfl (Kx t1).load ((Kx _).below _) ?_;exact Vi t1 hR rfl (Rok.nx Aa O O) ⟨O,O,λh=>hP_t1 O⟩
 ·refine Je rfl rfl rfl ?_;refine KU (hex) hlt Aa O O ?_;intro c1 r1 rw_r1 hR' hok_r1 _ _ _ _ _ hP_c1;replace hR:=hR.trans hR';(try replace hRL:=hRL.trans hR');obtain⟨_,_,hP_c1⟩:=hP_c1;refine K7 ?_;refine' hG
  rename Int=>pl
  refine JB hm (λm e S'=>∃(r':Rd) (rw':List Nat) (v:AV) (xs:List Xp),S'=⟨hp H n (blk s r') [.cells (Jp (.mk [] [] [] [] [] [] 0)),.cells [.str [119,104,105,108,101],.str [],.list 0 .full [],v,.list 0 .full [],.list 0 .full [],.int .i64 pl]],rw'⟩/\Rok s r'/\r.i<=r'.i/\r'.deep=r.deep/\(r'.code=0->r.code=0)/\Rx rw rw'/\Lst rw 5 v (Ja (c1::xs)) rw'/\(xs.length:Int)<=r'.i /\
   (r'.code=0->r.i<r'.i/\(KQ (c1::xs)+6:Int)<=8100*(r'.i-r.i))/\(r'.code=0->QU (c1::xs))/\(m:Int)=s.toks.length-r'.i /\
   e=[(0,.ptr n 0),(2,.ptr (H.length+0) 0),(3,.ptr (H.length+1) 0)]) ?_ (m:=(s.toks.length-rc.i).toNat) ⟨rc,rwc,_,[],rfl,Aa,O,O,O,hR,.lit Cl,AR,by simp only[KQ];omega,λh=>Xt (hP_c1 O),O,rfl⟩
  clear hR;rintro m' e S' ⟨r',rw',v,xs,rfl,hok',h2,h3,h4,hR,hl1,hxl,h8,h9,hmm,rfl⟩;have h5:=hok'.lo;have h6:=hok'.hi;have h7:=hok'.dlo;have hRL:Rx rw' rw':=Rx.rfl;have hcan:=hl1.isL.canon;have e2:(Ja (c1::xs)).length=xs.length+1:=by rw[JV];simp
  obtain⟨sz,tag,rfl,hs1,-⟩:=hl1.tag;have hs2:=hs1 Cl;subst hs2;refine' hG
  ·refine Je rfl rfl rfl ?_;refine KU (hex) hlt Aa O O ?_;intro x2 r2 rw_r2 hR' hok_r2 _ _ _ _ _ hP_x2;replace hR:=hR.trans hR';(try replace hRL:=hRL.trans hR');obtain⟨_,_,hP_x2⟩:=hP_x2;refine K7 ?_;refine Zv ?_;refine Jal rfl rfl rfl rfl rfl ⟨rfl,rfl,(JG x2).len,Em,rfl,rfl⟩ (JG x2).can ?_;refine QB (hl1.ext hRL) hR Eh Eh O ?_;intro l4 rw4 hl4 hR4;obtain⟨sz4,tag4,rfl,hs4,-⟩:=hl4.tag;refine K7 ?_;refine' hG;refine⟨(s.toks.length-r2.i).toNat,O,r2,rw4,_,xs++[x2],rfl,hok_r2,O,O,O,hR4,by rw[<- Aw,V3];exact hl4,AR,?_,?_,O,rfl⟩
   ·intro h0;have:=h8 O;rw[<- Aw,JaR];simp only[KQ]at *;omega
   ·intro h0;rw[<- Aw,Jag];exact⟨h9 O,Xt (hP_x2 h0)⟩
  ·refine Je rfl rfl rfl ?_;refine KU (hb) hlt Aa O O ?_;intro b1 r2 rw_r2 hR' hok_r2 _ _ _ _ _ hP_b1;replace hR:=hR.trans hR';(try replace hRL:=hRL.trans hR');obtain⟨_,_,hP_b1⟩:=hP_b1;refine K7 ?_;refine' hG;simp only[Ja]at hcan;refine J0 hlt rfl rfl (v:=.agg (Jp (.mk [119,104,105,108,101] [] [] (c1::xs) b1.xs [] pl))) (by simp only[J9,Jh,Jp,Ja,Jo,Jg,Ke,LT.canon,Am,Ay,AL,AA,Ap,AC,Ad,Af,Nat.reduceAdd,AF,Ao,if_true,Jq,JN,JO,JP];simp only[hcan,Jq]) ((Kx _).below _) ?_;refine Vi (.mk [119,104,105,108,101] [] [] (c1::xs) b1.xs [] pl) hR rfl (Rok.nx Aa O O) ⟨O,?_,?_⟩
   ·intro h0;have:=h8 O;simp only[wSm,Qj,Vr,Af,Ad];omega
   ·exact λh=>JtZ (h9 O) (hP_b1 O)
 ·refine J0 hlt rfl rfl (v:=.agg (Jp (.mk [114,101,116,117,114,110] [] [] [] [] [] _))) D ((Kx _).below _) ?_;refine Vi (.mk [114,101,116,117,114,110] [] [] [] [] [] _) hR rfl (Rok.nx Aa O O) ⟨O,?_,?_⟩
  ·simp only[wSm,Qj,KQ,Vr,Af,Ad];omega
  ·exact λh=>Jt0 Ag VB
 ·refine Je rfl rfl rfl ?_;refine KU (hex) hlt Aa O O ?_;intro x1 r1 rw_r1 hR' hok_r1 _ _ _ _ _ hP_x1;replace hR:=hR.trans hR';(try replace hRL:=hRL.trans hR');obtain⟨_,_,hP_x1⟩:=hP_x1;refine K7 ?_;refine' hG;refine J0 hlt rfl rfl (v:=.agg (Jp (.mk [114,101,116,117,114,110] [] [] [x1] [] [] _))) D ((Kx _).below _) ?_;refine Vi (.mk [114,101,116,117,114,110] [] [] [x1] [] [] _) hR rfl (Rok.nx Aa O O) ⟨O,?_,?_⟩
  ·simp only[wSm,Qj,KQ,Vr,Af,Ad];omega
  ·exact λh=>Jt0 Ag (Xt (hP_x1 O))
 ·refine Je rfl rfl rfl ?_;refine KU (hex) hlt Aa O O ?_;intro x1 r1 rw_r1 hR' hok_r1 _ _ _ _ _ hP_x1;replace hR:=hR.trans hR';(try replace hRL:=hRL.trans hR');obtain⟨_,_,hP_x1⟩:=hP_x1;refine K7 ?_;refine' hG;refine J0 hlt rfl rfl (v:=.agg (Jp (.mk tk.text [] [] [x1] [] [] _))) D ((Kx _).below _) ?_;refine Vi (.mk tk.text [] [] [x1] [] [] _) hR rfl (Rok.nx Aa O O) ⟨O,?_,?_⟩
  ·simp only[wSm,Qj,KQ,Vr,Af];omega
  ·exact λh=>JDX (.inl ((‹_/\∀ t:Tok,s.toks[_]? = some t->t.text=[97,115,115,101,114,116]›).2 tk htk2)) (hP_x1 O)
 ·refine Je rfl rfl rfl ?_;refine KU (hex) hlt Aa O O ?_;intro x1 r1 rw_r1 hR' hok_r1 _ _ _ _ _ hP_x1;replace hR:=hR.trans hR';(try replace hRL:=hRL.trans hR');obtain⟨_,_,hP_x1⟩:=hP_x1;refine K7 ?_;refine' hG;refine J0 hlt rfl rfl (v:=.agg (Jp (.mk tk.text [] [] [x1] [] [] _))) D ((Kx _).below _) ?_;refine Vi (.mk tk.text [] [] [x1] [] [] _) hR rfl (Rok.nx Aa O O) ⟨O,?_,?_⟩
  ·simp only[wSm,Qj,KQ,Vr,Af];omega
  ·exact λh=>JDX (.inr ((‹_/\∀ t:Tok,s.toks[_]? = some t->t.text=[112,114,105,110,116]›).2 tk htk2)) (hP_x1 O)
 ·refine Je rfl rfl rfl ?_;refine JUn hot hlt Aa O O ⟨_,rfl⟩ ?_;intro C r1 rw1 hok1 _ _ _ _ _ hP;obtain⟨hR',t,hP⟩:=hP;obtain⟨h1,h2,h3,h4,h5⟩:=hP;replace hR:=hR.trans hR';refine K7 ?_;refine' hG;refine J0 hlt rfl rfl (Kx t).load ((Kx _).below _) ?_;exact Vi t hR rfl (Rok.nx Aa O O) ⟨O,O,λh=>h5 O⟩
theorem Jkt(L:LibS pr F):∀ k:Nat,RC pr F (λx:Sm=>AV.agg (Jp x)) smP 141 [] (k-100)/\RC pr F (λx:Sm=>AV.agg (Jp x)) smP 196 [] (k-100)/\RC pr F LT.v Jsn 94 [] (k-100)
 | 0=>⟨JfO O,JfO O,JfO O⟩
 | k+1=>by
  obtain⟨h1,h2,-⟩:=Jkt L k;have e:(((k+1:Nat):Int)-100)=((k:Int)-100)+1:=O;have hb:RC pr F LT.v Jsn 94 [] (((k+1:Nat):Int)-100):=by rw[e];exact JtW L h1
  have hc:RC pr F (λx:Sm=>AV.agg (Jp x)) smP 196 [] (((k+1:Nat):Int)-100):=Jso L hb (by rw[show(((k+1:Nat):Int)-100-1)=(k:Int)-100 by omega];exact h2);exact⟨Jzo L hb hc,hc,hb⟩
theorem Jno(L:LibS pr F):RC pr F LT.v Jsn 94 [] 2000:=by have:=(Jkt L 2100).2.2;exact JlK this O
theorem Lst.pushA{rw0 rw:List Nat}{sz by_:Nat}{v:AV}{rows:List (List AV)}{row:List AV}{H:List Blk}(h:Lst rw0 sz v rows rw)(hx:Rx rw0 rw)(hb:(rows.length+1)*by_<=Ji)(hl:rows.length+1<=Ji)(hs:0<sz) :
  ∃ v' rw',QK sz by_ v (.list sz .full [row]) ⟨H,rw⟩=some (v',⟨H,rw'⟩)/\Lst rw0 sz v' (rows++[row]) rw'/\Rx rw0 rw'/\∀(sz2:Nat) (v2:AV) (rows2:List (List AV)),Lst rw0 sz2 v2 rows2 rw->Disj v v2->Lst rw0 sz2 v2 rows2 rw'/\Disj v' v2:=by
 obtain⟨v',rw',h1,h2,h3⟩:=h.push (H:=H) (row:=row) hx hb hl hs;refine⟨v',rw',h1,h2,h3,λsz2 v2 rows2 g hd=>?_⟩;obtain⟨v'',rw'',h4,-,-,h5,h6⟩:=h.push2 (H:=H) (row:=row) hx hb hl hs g hd;rw[h1]at h4;simp only[V,AP,St.mk.injEq,true_and]at h4;obtain⟨rfl,rfl⟩:=h4;exact⟨h5,h6⟩
theorem JbL{K:AV->St->Prop}{rw0 rw:List Nat}{sz by_:Nat}{v:AV}{rows:List (List AV)}{row:List AV}{H:List Blk}(h:Lst rw0 sz v rows rw)(hx:Rx rw0 rw)(hb:(rows.length+1)*by_<=Ji)(hl:rows.length+1<=Ji)(hs:0<sz)
  (hk:∀ v' rw',Lst rw0 sz v' (rows++[row]) rw'->Rx rw0 rw'->(∀(sz2:Nat) (v2:AV) (rows2:List (List AV)),Lst rw0 sz2 v2 rows2 rw->Disj v v2->Lst rw0 sz2 v2 rows2 rw'/\Disj v' v2)->K v' ⟨H,rw'⟩):ApAt sz by_ v (.list sz .full [row]) ⟨H,rw⟩ K:=by
 obtain⟨v',rw',h1,h2,h3,h4⟩:=h.pushA (H:=H) (row:=row) hx hb hl hs;exact⟨_,_,h1,hk v' rw' h2 h3 h4⟩
theorem Jt1{H:List Blk}{n:Nat}{b c:Blk}{J:List Blk}{rw:List Nat}{e:KC}{Q:Res->St->Prop}(hn:n<H.length)(h:Q (.ret (.tup [])) ⟨hp H n b (c::J),rw⟩):fin [] (H.length+(J.length+1)) Q .normal e ⟨hp H n b (c::J),rw⟩:=by
 have:=Jbj (L:=[]) (e:=e) hn h
 rwa [Ar]at this
structure ClsIn(rw0 rw:List Nat)(b:Nat)(c:Cls)(ab f i k m:AV):Prop where
 rx:Rx rw0 rw
 ha:IsL 1 ab (c.above.map Qy)
 hf:Lst rw0 9 f (c.fields.map Jn) rw
 hi:Lst rw0 5 i (Ja c.invs) rw
 hk:Lst rw0 5 k (c.ctors.map Jw) rw
 hm:Lst rw0 11 m (c.meths.map Jm) rw
 d1:Disj f i
 d2:Disj f k
 d3:Disj f m
 d4:Disj i k
 d5:Disj i m
 d6:Disj k m
 n1:c.fields.length<=b
 n2:c.invs.length<=b
 n3:c.ctors.length<=b
 n4:c.meths.length<=b
def Jnp(c:Cls)(ab f i k m:AV):List AV:=[.str c.name,.bool c.iface,.str c.super,ab,f,i,k,m,.int .i64 c.at_]
theorem ClsIn.ext{rw0 rw rw':List Nat}{b:Nat}{c:Cls}{ab f i k m:AV}(h:ClsIn rw0 rw b c ab f i k m)(hx:Rx rw rw'):ClsIn rw0 rw' b c ab f i k m:=
 ⟨h.rx.trans hx,h.ha,h.hf.ext hx,h.hi.ext hx,h.hk.ext hx,h.hm.ext hx,h.d1,h.d2,h.d3,h.d4,h.d5,h.d6,h.n1,h.n2,h.n3,h.n4⟩
theorem ClsIn.more{rw0 rw:List Nat}{b:Nat}{c:Cls}{ab f i k m:AV}(h:ClsIn rw0 rw b c ab f i k m):ClsIn rw0 rw (b+1) c ab f i k m:=
 ⟨h.rx,h.ha,h.hf,h.hi,h.hk,h.hm,h.d1,h.d2,h.d3,h.d4,h.d5,h.d6,by have:=h.n1;omega,by have:=h.n2;omega,by have:=h.n3;omega,by have:=h.n4;omega⟩
structure MemP(s:Src)(r r':Rd)(c c':Cls):Prop where
 deep:r'.deep=r.deep
 name:c'.name=c.name
 iface:c'.iface=c.iface
 wt:r'.code=0->r.i<r'.i/\(Xx c':Int)<=Xx c+8100*(r'.i-r.i)
 ok:r'.code=0->JcG c->JcG c'
def memPre(rw0:List Nat)(b:Nat)(c:Cls)(rw:List Nat)(C:List AV):Prop:=∃ ab f i k m,C=Jnp c ab f i k m/\ClsIn rw0 rw b c ab f i k m
def Jzp(rw0:List Nat)(b:Nat)(c:Cls)(s:Src)(r:Rd)(_:List Nat)(_:List AV)(r':Rd)(rw':List Nat)(C':List AV):Prop:=∃ c',MemP s r r' c c'/\memPre rw0 (b+1) c' rw' C'
theorem Eo{Q:Prop}(h:Q:=by simp only[Ak,Ji];have:=hin.n1;omega):Q:=h
theorem Ep{Q:Prop}(h:Q:=by rw[An];exact hv):Q:=h
theorem Es{Q:Prop}(h:Q:=by have:=hin.n1;simp;omega):Q:=h
theorem Et{Q:Prop}(h:Q:=by have:=hin.n2;simp only;omega):Q:=h
theorem Eu{Q:Prop}(h:Q:=by have:=hin.n3;simp only;omega):Q:=h
theorem Ew{Q:Prop}(h:Q:=by have:=hin.n4;simp only;omega):Q:=h
theorem Ey{Q:Prop}(h:Q:=by have:=hin.n1;simp only;omega):Q:=h
theorem Ez{Q:Prop}(h:Q:=by simp only[Ak,Ji];have:=hin.n3;omega):Q:=h
theorem EA{Q:Prop}(h:Q:=by simp only[Ak,Ji];have:=hin.n4;omega):Q:=h
theorem EB{Q:Prop}(h:Q:=by cases h):Q:=h
theorem Jsp(L:LibS pr F)(rw0:List Nat)(b:Nat)(hb:b<=8100)(c:Cls):RP pr F (memPre rw0 b c) (Jzp rw0 b c) 138 2000:=by
 have hm:=L.hm;have cis0:=λx=>KJ L.toLibR 0 O x;have cis1:=λx=>KJ L.toLibR 1 O x;have cis2:=λx=>KJ L.toLibR 2 O x;have cpl:=KW L.toLibR;have ctk:=λx=>Vu L.toLibR x 2000;have cen:=QO L.toLibR 2000;have cnd:=λx=>Vv L.toLibR x 2000;have cfl:=Vt L.toLibR 110 O 2000;have cnm:=Vw L.toLibR 2000;have hex:=JeZ L.toLibX;have hexs:=JtN L.toLibX;have hty:=JlL L.toLibX;have hbl:=Jno L;have hps:=Jks L;have hhd:=JqW L;refine Jnn hm L.f138.1 L.f138.2 rfl ?_;intro H rw n s r C J hlt hsm hok _ _ _ _ _ hpre;obtain⟨ab,f,i,k,mm,rfl,hin⟩:=hpre;unfold Jnp;have hR:Rx rw rw:=Rx.rfl;obtain⟨szi,tagi,rfl,-,-⟩:=hin.hi.tag;refine' hG
 ·rename Int=>pl
  refine Je rfl rfl rfl ?_;refine KU (cnm) hlt Aa O O ?_;intro nm r1 rw_r1 hR' hok_r1 _ _ _ _ _ hP_nm;replace hR:=hR.trans hR';obtain⟨_,_,hP_nm⟩:=hP_nm;refine K7 ?_;refine' hG;refine Je rfl rfl rfl ?_;refine KU (hty) hlt Aa O O ?_;intro t r2 rw_r2 hR' hok_r2 _ _ _ _ _ hP_t;replace hR:=hR.trans hR';obtain⟨_,_,hP_t⟩:=hP_t;refine K7 ?_;refine' hG;refine YL ?_;refine XP rfl rfl ?_;refine Jd6 (vs:=Jn ⟨nm,t,true,pl⟩) hlt Yg (QE _) ?_;refine' hG;refine JT ?_;refine JW rfl rfl rfl ?_;refine JbL (row:=Jn ⟨nm,t,true,pl⟩) (hin.hf.ext hR) (hin.rx.trans hR) Eo Eo O ?_;intro v' rw4 hv hR4 hoth;obtain⟨szv,tagv,rfl,-,-⟩:=hv.tag;refine K7 ?_;refine' hG;refine Jbj hlt ?_;obtain⟨g2,e2⟩:=hoth _ _ _ (hin.hi.ext hR) hin.d1;obtain⟨g3,e3⟩:=hoth _ _ _ (hin.hk.ext hR) hin.d2;obtain⟨g4,e4⟩:=hoth _ _ _ (hin.hm.ext hR) hin.d3;refine Je0 (Rok.nx Aa O O) ⟨{c with fields:=c.fields++[⟨nm,t,true,pl⟩]},⟨O,rfl,rfl,?_,?_⟩,_,_,_,_,_,rfl,⟨hR4,hin.ha,Ep,g2,g3,g4,e2,e3,e4,hin.d4,hin.d5,hin.d6,Es,Et,Eu,Ew⟩⟩
  ·intro h0;simp only[Xx,VP,wL,JlD];omega
  ·intro h0 ho;obtain⟨o1,o2,o3,o4,o5,o6,o7⟩:=ho;refine⟨o1,o2,o3,?_,o5,o6,o7⟩;intro x hx;rcases AM.1 hx with hh |hh
   ·exact o4 x hh
   ·rw[AN]at hh;subst hh;exact⟨hP_nm O,hP_t O⟩
 ·rename Int=>pl
  refine Je rfl rfl rfl ?_;refine KU (cnm) hlt Aa O O ?_;intro nm r1 rw_r1 hR' hok_r1 _ _ _ _ _ hP_nm;replace hR:=hR.trans hR';obtain⟨_,_,hP_nm⟩:=hP_nm;refine K7 ?_;refine' hG;refine Je rfl rfl rfl ?_;refine KU (hty) hlt Aa O O ?_;intro t r2 rw_r2 hR' hok_r2 _ _ _ _ _ hP_t;replace hR:=hR.trans hR';obtain⟨_,_,hP_t⟩:=hP_t;refine K7 ?_;refine' hG;refine YL ?_;refine XP rfl rfl ?_;refine Jd6 (vs:=Jn ⟨nm,t,false,pl⟩) hlt Yg (QE _) ?_;refine' hG;refine JT ?_;refine JW rfl rfl rfl ?_;refine JbL (row:=Jn ⟨nm,t,false,pl⟩) (hin.hf.ext hR) (hin.rx.trans hR) Eo Eo O ?_;intro v' rw4 hv hR4 hoth;obtain⟨szv,tagv,rfl,-,-⟩:=hv.tag;refine K7 ?_;refine' hG;refine Jbj hlt ?_;obtain⟨g2,e2⟩:=hoth _ _ _ (hin.hi.ext hR) hin.d1;obtain⟨g3,e3⟩:=hoth _ _ _ (hin.hk.ext hR) hin.d2;obtain⟨g4,e4⟩:=hoth _ _ _ (hin.hm.ext hR) hin.d3;refine Je0 (Rok.nx Aa O O) ⟨{c with fields:=c.fields++[⟨nm,t,false,pl⟩]},⟨O,rfl,rfl,?_,?_⟩,_,_,_,_,_,rfl,⟨hR4,hin.ha,Ep,g2,g3,g4,e2,e3,e4,hin.d4,hin.d5,hin.d6,Es,Et,Eu,Ew⟩⟩
  ·intro h0;simp only[Xx,VP,wL,JlD];omega
  ·intro h0 ho;obtain⟨o1,o2,o3,o4,o5,o6,o7⟩:=ho;refine⟨o1,o2,o3,?_,o5,o6,o7⟩;intro x hx;rcases AM.1 hx with hh |hh
   ·exact o4 x hh
   ·rw[AN]at hh;subst hh;exact⟨hP_nm O,hP_t O⟩
 ·rename Int=>pl
  refine Je rfl rfl rfl ?_;refine KU (cnm) hlt Aa O O ?_;intro nm r1 rw_r1 hR' hok_r1 _ _ _ _ _ hP_nm;replace hR:=hR.trans hR';obtain⟨_,_,hP_nm⟩:=hP_nm;refine K7 ?_;refine' hG;refine Je rfl rfl rfl ?_;refine KU (hty) hlt Aa O O ?_;intro t r2 rw_r2 hR' hok_r2 _ _ _ _ _ hP_t;replace hR:=hR.trans hR';obtain⟨_,_,hP_t⟩:=hP_t;refine K7 ?_;refine' hG;refine YL ?_;refine XP rfl rfl ?_;refine Jd6 (vs:=Jn ⟨nm,t,true,pl⟩) hlt Yg (QE _) ?_;refine' hG;refine JT ?_;refine JW rfl rfl rfl ?_;refine JbL (row:=Jn ⟨nm,t,true,pl⟩) (hin.hf.ext hR) (hin.rx.trans hR) Eo Eo O ?_;intro v' rw4 hv hR4 hoth;obtain⟨szv,tagv,rfl,-,-⟩:=hv.tag;refine K7 ?_;refine' hG;refine Jbj hlt ?_;obtain⟨g2,e2⟩:=hoth _ _ _ (hin.hi.ext hR) hin.d1;obtain⟨g3,e3⟩:=hoth _ _ _ (hin.hk.ext hR) hin.d2;obtain⟨g4,e4⟩:=hoth _ _ _ (hin.hm.ext hR) hin.d3;refine Je0 (Rok.nx Aa O O) ⟨{c with fields:=c.fields++[⟨nm,t,true,pl⟩]},⟨O,rfl,rfl,?_,?_⟩,_,_,_,_,_,rfl,⟨hR4,hin.ha,Ep,g2,g3,g4,e2,e3,e4,hin.d4,hin.d5,hin.d6,Es,Et,Eu,Ew⟩⟩
  ·intro h0;simp only[Xx,VP,wL,JlD];omega
  ·intro h0 ho;obtain⟨o1,o2,o3,o4,o5,o6,o7⟩:=ho;refine⟨o1,o2,o3,?_,o5,o6,o7⟩;intro x hx;rcases AM.1 hx with hh |hh
   ·exact o4 x hh
   ·rw[AN]at hh;subst hh;exact⟨hP_nm O,hP_t O⟩
 ·rename Int=>pl
  refine Je rfl rfl rfl ?_;refine KU (cnm) hlt Aa O O ?_;intro nm r1 rw_r1 hR' hok_r1 _ _ _ _ _ hP_nm;replace hR:=hR.trans hR';obtain⟨_,_,hP_nm⟩:=hP_nm;refine K7 ?_;refine' hG;refine Je rfl rfl rfl ?_;refine KU (hty) hlt Aa O O ?_;intro t r2 rw_r2 hR' hok_r2 _ _ _ _ _ hP_t;replace hR:=hR.trans hR';obtain⟨_,_,hP_t⟩:=hP_t;refine K7 ?_;refine' hG;refine YL ?_;refine XP rfl rfl ?_;refine Jd6 (vs:=Jn ⟨nm,t,false,pl⟩) hlt Yg (QE _) ?_;refine' hG;refine JT ?_;refine JW rfl rfl rfl ?_;refine JbL (row:=Jn ⟨nm,t,false,pl⟩) (hin.hf.ext hR) (hin.rx.trans hR) Eo Eo O ?_;intro v' rw4 hv hR4 hoth;obtain⟨szv,tagv,rfl,-,-⟩:=hv.tag;refine K7 ?_;refine' hG;refine Jbj hlt ?_;obtain⟨g2,e2⟩:=hoth _ _ _ (hin.hi.ext hR) hin.d1;obtain⟨g3,e3⟩:=hoth _ _ _ (hin.hk.ext hR) hin.d2;obtain⟨g4,e4⟩:=hoth _ _ _ (hin.hm.ext hR) hin.d3;refine Je0 (Rok.nx Aa O O) ⟨{c with fields:=c.fields++[⟨nm,t,false,pl⟩]},⟨O,rfl,rfl,?_,?_⟩,_,_,_,_,_,rfl,⟨hR4,hin.ha,Ep,g2,g3,g4,e2,e3,e4,hin.d4,hin.d5,hin.d6,Es,Et,Eu,Ew⟩⟩
  ·intro h0;simp only[Xx,VP,wL,JlD];omega
  ·intro h0 ho;obtain⟨o1,o2,o3,o4,o5,o6,o7⟩:=ho;refine⟨o1,o2,o3,?_,o5,o6,o7⟩;intro x hx;rcases AM.1 hx with hh |hh
   ·exact o4 x hh
   ·rw[AN]at hh;subst hh;exact⟨hP_nm O,hP_t O⟩
 ·refine Je rfl rfl rfl ?_;refine KU (hex) hlt Aa O O ?_;intro x1 r1 rw_r1 hR' hok_r1 _ _ _ _ _ hP_x1;replace hR:=hR.trans hR';obtain⟨_,_,hP_x1⟩:=hP_x1;refine K7 ?_;have e2:(Ja c.invs).length=c.invs.length:=JV _;refine Zv ?_;refine Jal rfl rfl rfl rfl rfl ⟨rfl,rfl,(JG x1).len,by simp only[J7];exact(JG x1).clo,rfl,rfl⟩ (JG x1).can ?_;refine JbL (hin.hi.ext hR) (hin.rx.trans hR) (by rw[e2];simp only[Ji];have:=hin.n2;omega) (by rw[e2];simp only[Ji];have:=hin.n2;omega) O ?_;intro v' rw4 hv hR4 hoth;obtain⟨szv,tagv,rfl,-,-⟩:=hv.tag;obtain⟨g2,e2⟩:=hoth _ _ _ (hin.hf.ext hR) hin.d1.symm;obtain⟨g3,e3⟩:=hoth _ _ _ (hin.hk.ext hR) hin.d4;obtain⟨g4,e4⟩:=hoth _ _ _ (hin.hm.ext hR) hin.d5;clear hR;have hR:=Rx.rfl (rw:=rw4);refine K7 ?_;refine' hG;refine Jt1 hlt ?_;refine Je0 (Rok.nx Aa O O) ⟨{c with invs:=c.invs++[x1]},⟨O,rfl,rfl,?_,?_⟩,_,_,_,_,_,rfl,ClsIn.ext ⟨hR4,hin.ha,g2,by rw[V3];exact hv,g3,g4,e2.symm,hin.d2,hin.d3,e3,e4,hin.d6,Ey,by have:=hin.n2;simp;omega,Eu,Ew⟩ hR⟩
  ·intro h0;simp only[Xx,JaR,KQ];omega
  ·intro h0 ho;obtain⟨o1,o2,o3,o4,o5,o6,o7⟩:=ho;refine⟨o1,o2,o3,o4,?_,o6,o7⟩;rw[Jag];exact⟨o5,Xt (hP_x1 O)⟩
 ·rename Int=>pl
  refine Je rfl rfl rfl ?_;refine KU (hps) hlt Aa O O ?_;intro ps r1 rw_r1 hR' hok_r1 _ _ _ _ _ hP_ps;replace hR:=hR.trans hR';obtain⟨_,_,hP_ps⟩:=hP_ps;refine K7 ?_;refine' hG
  ·refine Je rfl rfl rfl ?_;refine KU (hexs) hlt Aa O O ?_;intro sp r2 rw_r2 hR' hok_r2 _ _ _ _ _ hP_sp;replace hR:=hR.trans hR';obtain⟨_,_,hP_sp⟩:=hP_sp;refine K7 ?_;refine' hG;refine Je rfl rfl rfl ?_;refine KU (hbl) hlt Aa O O ?_;intro bl r4 rw_r4 hR' hok_r4 _ _ _ _ _ hP_bl;replace hR:=hR.trans hR';obtain⟨_,_,hP_bl⟩:=hP_bl;refine K7 ?_;refine' hG;refine Qp ?_;refine Q1 rfl rfl ?_;have hcc:Jh [ps.v,.bool true,sp.v,bl.v,.int .i64 pl]=Jw ⟨ps.xs,true,sp.xs,bl.xs,pl⟩:=D;refine Z2 (by rw[hcc];exact QL _) ?_;refine JT ?_;refine JW rfl rfl rfl ?_;refine JbL (hin.hk.ext hR) (hin.rx.trans hR) Ez Ez O ?_;intro v' rw4 hv hR4 hoth;rw[hcc]at hv;obtain⟨szv,tagv,rfl,-,-⟩:=hv.tag;obtain⟨g2,e2⟩:=hoth _ _ _ (hin.hf.ext hR) hin.d2.symm;obtain⟨g3,e3⟩:=hoth _ _ _ (hin.hi.ext hR) hin.d4.symm;obtain⟨g4,e4⟩:=hoth _ _ _ (hin.hm.ext hR) hin.d6;refine K7 ?_;refine' hG;refine Jbj hlt ?_;refine Je0 (Rok.nx Aa O O) ⟨{c with ctors:=c.ctors++[⟨ps.xs,true,sp.xs,bl.xs,pl⟩]},⟨O,rfl,rfl,?_,?_⟩,_,_,_,_,_,rfl,⟨hR4,hin.ha,g2,g3,Ep,g4,hin.d1,e2.symm,hin.d3,e3.symm,hin.d5,e4,Ey,Et,by have:=hin.n3;simp;omega,Ew⟩⟩
   ·intro h0;simp only[Xx,VP,wL,Jhb];omega
   ·intro h0 ho;obtain⟨o1,o2,o3,o4,o5,o6,o7⟩:=ho;refine⟨o1,o2,o3,o4,o5,?_,o7⟩;intro x hx;rcases AM.1 hx with hh |hh
    ·exact o6 x hh
    ·rw[AN]at hh;subst hh;exact⟨hP_ps O,hP_sp O,hP_bl O⟩
  ·refine Je rfl rfl rfl ?_;refine KU (hbl) hlt Aa O O ?_;intro bl r4 rw_r4 hR' hok_r4 _ _ _ _ _ hP_bl;replace hR:=hR.trans hR';obtain⟨_,_,hP_bl⟩:=hP_bl;refine K7 ?_;refine' hG;refine Qp ?_;refine Q1 rfl rfl ?_;have hcc:Jh [ps.v,.bool false,.list 0 .full [],bl.v,.int .i64 pl]=Jw ⟨ps.xs,false,[],bl.xs,pl⟩:=D;refine Z2 (by rw[hcc];exact QL _) ?_;refine JT ?_;refine JW rfl rfl rfl ?_;refine JbL (hin.hk.ext hR) (hin.rx.trans hR) Ez Ez O ?_;intro v' rw4 hv hR4 hoth;rw[hcc]at hv;obtain⟨szv,tagv,rfl,-,-⟩:=hv.tag;obtain⟨g2,e2⟩:=hoth _ _ _ (hin.hf.ext hR) hin.d2.symm;obtain⟨g3,e3⟩:=hoth _ _ _ (hin.hi.ext hR) hin.d4.symm;obtain⟨g4,e4⟩:=hoth _ _ _ (hin.hm.ext hR) hin.d6;refine K7 ?_;refine' hG;refine Jbj hlt ?_;refine Je0 (Rok.nx Aa O O) ⟨{c with ctors:=c.ctors++[⟨ps.xs,false,[],bl.xs,pl⟩]},⟨O,rfl,rfl,?_,?_⟩,_,_,_,_,_,rfl,⟨hR4,hin.ha,g2,g3,Ep,g4,hin.d1,e2.symm,hin.d3,e3.symm,hin.d5,e4,Ey,Et,by have:=hin.n3;simp;omega,Ew⟩⟩
   ·intro h0;simp only[Xx,VP,wL,Jhb,KQ];omega
   ·intro h0 ho;obtain⟨o1,o2,o3,o4,o5,o6,o7⟩:=ho;refine⟨o1,o2,o3,o4,o5,?_,o7⟩;intro x hx;rcases AM.1 hx with hh |hh
    ·exact o6 x hh
    ·rw[AN]at hh;subst hh;exact⟨hP_ps O,VB,hP_bl O⟩
 ·refine Je rfl rfl rfl ?_;refine KU (hhd) hlt Aa O O ?_;intro m1 r1 rw_r1 hR' hok_r1 _ _ _ _ _ hP_m1;replace hR:=hR.trans hR';obtain⟨_,_,hP_m1⟩:=hP_m1;refine K7 ?_;obtain⟨nm,ps,⟨kd,tn,nu,el,pd,ta⟩,bd,ab_,at_⟩:=m1;simp only[Jm,Jl,Aw,Au];obtain⟨hb1,hb2,hok1⟩:=hP_m1;simp only at hb1 hb2;subst hb1 hb2;refine' hG;refine Je rfl rfl rfl ?_;refine KU (hbl) hlt Aa O O ?_;intro bl r4 rw_r4 hR' hok_r4 _ _ _ _ _ hP_bl;replace hR:=hR.trans hR';obtain⟨_,_,hP_bl⟩:=hP_bl;refine K7 ?_;refine' hG;refine Qp ?_;refine Q1 rfl rfl ?_;have hcc:Jh [AV.str nm,Kp 8 (List.map Jf ps),AV.int IntKind.i64 kd,AV.str tn,AV.bool nu,Kp 6 (Jo el),Kp 5 (Ja pd),AV.int IntKind.i64 ta,bl.v,AV.bool false,AV.int IntKind.i64 at_]=Jm ⟨nm,ps,.mk kd tn nu el pd ta,bl.xs,false,at_⟩:=D;refine Z2 (by rw[hcc];exact Qa _) ?_;refine JT ?_;refine JW rfl rfl rfl ?_;refine JbL (hin.hm.ext hR) (hin.rx.trans hR) EA EA O ?_;intro v' rw4 hv hR4 hoth;rw[hcc]at hv;obtain⟨szv,tagv,rfl,-,-⟩:=hv.tag;obtain⟨g2,e2⟩:=hoth _ _ _ (hin.hf.ext hR) hin.d3.symm;obtain⟨g3,e3⟩:=hoth _ _ _ (hin.hi.ext hR) hin.d5.symm;obtain⟨g4,e4⟩:=hoth _ _ _ (hin.hk.ext hR) hin.d6.symm;refine K7 ?_;refine' hG;refine Jbj hlt ?_;refine Je0 (Rok.nx Aa O O) ⟨{c with meths:=c.meths++[⟨nm,ps,.mk kd tn nu el pd ta,bl.xs,false,at_⟩]},⟨O,rfl,rfl,?_,?_⟩,_,_,_,_,_,rfl,⟨hR4,hin.ha,g2,g3,g4,Ep,hin.d1,hin.d2,e2.symm,hin.d4,e3.symm,e4.symm,Ey,Et,Eu,by have:=hin.n4;simp;omega⟩⟩
  ·intro h0;simp only[JcF,Qj]at *;simp only[Xx,VP,wL,JcF];omega
  ·intro h0 ho;obtain⟨o1,o2,o3,o4,o5,o6,o7⟩:=ho;refine⟨o1,o2,o3,o4,o5,o6,?_⟩;intro x hx;rcases AM.1 hx with hh |hh
   ·exact o7 x hh
   ·rw[AN]at hh;subst hh;obtain⟨q1,q2,q3,-⟩:=hok1 O;exact⟨q1,q2,q3,hP_bl O,λh=>EB⟩
 ·refine Jt1 hlt ?_;exact Je0 (Rok.nx Aa O O) ⟨c,⟨O,rfl,rfl,λh=>absurd h O,λh=>absurd h O⟩,_,_,_,_,_,rfl,(hin.ext hR).more⟩
def Jzq(_:Src)(r:Rd)(c:Cls)(r':Rd):Prop:=r'.deep=r.deep/\(r'.code=0->r.i<r'.i/\(Xx c:Int)<=8100*(r'.i-r.i))/\(r'.code=0->JcG c)
theorem ClsIn.can{rw0 rw:List Nat}{b:Nat}{c:Cls}{ab f i k m:AV}(h:ClsIn rw0 rw b c ab f i k m):Jh [.str c.name,.bool c.iface,.str c.super,ab,f,i,k,m,.int .i64 c.at_]=Jc c:=by have e1:=h.ha.canon;have e2:=h.hf.isL.canon;have e3:=h.hi.isL.canon;have e4:=h.hk.isL.canon;have e5:=h.hm.isL.canon;simp only[Jh,Ap,AC,e1,e2,e3,e4,e5,Jc];rfl
theorem VC{v:AV}:Disj (.list 0 .full []) v:=λa h=>by simp[JdH]at h
theorem memPre.of{rw0 rw:List Nat}{b:Nat}{c:Cls}{ab f i k m:AV}(h:ClsIn rw0 rw b c ab f i k m):memPre rw0 b c rw [.str c.name,.bool c.iface,.str c.super,ab,f,i,k,m,.int .i64 c.at_]:=⟨ab,f,i,k,m,rfl,h⟩
theorem Je2(L:LibS pr F){H:List Blk}{rw rwc:List Nat}{n:Nat}{s:Src}{r rc:Rd}{c:Cls}{ab f i k m:AV}(hlt:n<H.length)(hsm:s.toks.length<=8000)(hd:rc.deep=r.deep)(hd1:101<=r.deep+2000)(hd2:r.deep<=200)(_hri:0<=r.i)(_hrl:r.i<=s.toks.length)(hok:Rok s rc)(hi:r.i<=rc.i)(hcd:rc.code=0->r.code=0)(hR:Rx rw rwc)(hin:ClsIn rw rwc 0 c ab f i k m)(hw:rc.code=0->r.i<rc.i/\(Xx c:Int)<=8100*(rc.i-r.i))(ho:rc.code=0->JcG c) :
  At pr F H.length (fin [.cell 2 (some 9)] H.length (Jni (λx:Cls=>AV.agg (Jc x)) Jzq H n s r rw)) (.loop [0,2,3] ((JDR.seq (.cond (.tmp 33) .skip (.exit 0))).seq (.block 1 JtO))) [.blk 0,.code (JtP.seq .ret)]
   [(0,.ptr n 0),(2,.ptr (H.length+0) 0),(3,.ptr (H.length+1) 0)]
   ⟨hp H n (blk s rc) [.cells [.str [],.bool false,.str [],.list 0 .full [],.list 0 .full [],.list 0 .full [],.list 0 .full [],.list 0 .full [],.int .i64 0],.cells [.str c.name,.bool c.iface,.str c.super,ab,f,i,k,m,.int .i64 c.at_]],rwc⟩:=by
 have hm:=L.hm;have cis0:=λx=>KJ L.toLibR 0 O x;have cis1:=λx=>KJ L.toLibR 1 O x;have cis2:=λx=>KJ L.toLibR 2 O x;have cpl:=KW L.toLibR;have ctk:=λx=>Vu L.toLibR x 2000;have cen:=QO L.toLibR 2000;have cnd:=λx=>Vv L.toLibR x 2000;have cfl:=Vt L.toLibR 110 O 2000;have cnm:=Vw L.toLibR 2000;have hlo:=hok.lo;have hhi:=hok.hi;refine JB hm (λmm e S'=>∃(r':Rd) (rw':List Nat) (c':Cls) (ab' f' i' k' m':AV) (b:Nat),S'=⟨hp H n (blk s r') [.cells [.str [],.bool false,.str [],.list 0 .full [],.list 0 .full [],.list 0 .full [],.list 0 .full [],.list 0 .full [],.int .i64 0],.cells [.str c'.name,.bool c'.iface,.str c'.super,ab',f',i',k',m',.int .i64 c'.at_]],rw'⟩/\Rok s r'/\r.i<=r'.i/\r'.deep=r.deep/\(r'.code=0->r.code=0)/\Rx rw rw'/\ClsIn rw rw' b c' ab' f' i' k' m'/\(r'.code=0->(b:Int)<=r'.i) /\
   (r'.code=0->r.i<r'.i/\(Xx c':Int)<=8100*(r'.i-r.i))/\(r'.code=0->JcG c')/\(mm:Int)=2*(s.toks.length-r'.i)+(if r'.code=0 then 1 else 0) /\
   e=[(0,.ptr n 0),(2,.ptr (H.length+0) 0),(3,.ptr (H.length+1) 0)]) ?_ (m:=(2*(s.toks.length-rc.i)+(if rc.code=0 then 1 else 0)).toNat) ⟨rc,rwc,c,ab,f,i,k,m,0,rfl,hok,hi,hd,hcd,hR,hin,λ_=>O,hw,ho,Bv,rfl⟩
 clear hR hd hok hi hcd hin hw ho hlo hhi;rintro mm e S' ⟨r',rw',c',ab',f',i',k',m',b,rfl,hok',h2,h3,h4,hR,hin,h7,h8,h9,hmm,rfl⟩;have h5:=hok'.lo;have h6:=hok'.hi;have hDlo:=hok'.dlo;have hRL:Rx rw' rw':=Rx.rfl;by_cases hc:r'.code=0
 ·rw[if_pos hc]at hmm;refine' hG
  ·rw[hin.can];refine J0 hlt rfl rfl (KT c').load ((KT _).below _) ?_;exact Vi c' hR rfl (Rok.nx Aa O O) ⟨O,λh=>by have:=h8 hc;omega,λh=>h9 hc⟩
  ·refine Je rfl rfl rfl ?_;refine JUn (Jsp L rw b (by have:=h7 hc;omega) c') hlt Aa O O (memPre.of (hin.ext hRL)) ?_;intro C' r1 rw1 hok1 _ _ _ _ _ hP;obtain⟨c2,⟨p1,p2,p3,p4,p5⟩,ab2,f2,i2,k2,m2,rfl,hin2⟩:=hP;clear hR hRL;have hR:=hin2.rx;refine K7 ?_;refine' hG;have q7:=h7 hc;have q8:=h8 hc;refine⟨(2*(s.toks.length-r1.i)+(if r1.code=0 then 1 else 0)).toNat,?_,r1,rw1,c2,ab2,f2,i2,k2,m2,b+1,rfl,hok1,O,O,O,hR,hin2,?_,?_,?_,Bv,rfl⟩
   ·split
    ·have:=p4 Aa;omega
    ·omega
   ·intro h0;have:=p4 h0;omega
   ·intro h0;have:=p4 h0;omega
   ·intro h0;exact p5 h0 (h9 hc)
 ·refine' hG;rw[hin.can];refine J0 hlt rfl rfl (KT c').load ((KT _).below _) ?_;exact Vi c' hR rfl (Rok.nx Aa O O) ⟨O,λh=>absurd h O,λh=>absurd h O⟩
theorem Jt2(L:LibS pr F):RC pr F (λx:Cls=>AV.agg (Jc x)) Jzq 91 [] 2000:=by
 have hm:=L.hm;have cis0:=λx=>KJ L.toLibR 0 O x;have cis1:=λx=>KJ L.toLibR 1 O x;have cis2:=λx=>KJ L.toLibR 2 O x;have cpl:=KW L.toLibR;have ctk:=λx=>Vu L.toLibR x 2000;have cen:=QO L.toLibR 2000;have cnd:=λx=>Vv L.toLibR x 2000;have cfl:=Vt L.toLibR 110 O 2000;have cnm:=Vw L.toLibR 2000;have hns:=Jnm L;refine VZ hm L.f91.1 L.f91.2 rfl ?_;intro H rw n s r hlt hsm hok _ _ _ _ _;have hR:Rx rw rw:=Rx.rfl;clear cpl;refine' hG;refine Je rfl rfl rfl ?_;refine Jhc (KW L.toLibR) hlt Aa ?_;intro pl _;refine K7 ?_;refine' hG;refine Je rfl rfl rfl ?_;refine KU (cnm) hlt Aa O O ?_;intro nm r1 rw_r1 hR' hok_r1 _ _ _ _ _ hP_nm;replace hR:=hR.trans hR';obtain⟨_,_,hP_nm⟩:=hP_nm;refine K7 ?_;refine' hG
 ·refine Je rfl rfl rfl ?_;refine KU (cnm) hlt Aa O O ?_;intro su r2 rw_r2 hR' hok_r2 _ _ _ _ _ hP_su;replace hR:=hR.trans hR';obtain⟨_,_,hP_su⟩:=hP_su;refine K7 ?_;refine' hG
  ·refine Je rfl rfl rfl ?_;refine KU (hns) hlt Aa O O ?_;intro ns r3 rw_r3 hR' hok_r3 _ _ _ _ _ hP_ns;replace hR:=hR.trans hR';obtain⟨_,_,hP_ns⟩:=hP_ns;refine K7 ?_;refine' hG;refine Je2 L (c:=⟨nm,false,su,ns.xs,[],[],[],[],pl⟩) hlt hsm O O O O O Aa O O hR ⟨hR,ns.is,.nil,.nil,.nil,.nil,VC,VC,VC,VC,VC,VC,Ao _,Ao _,Ao _,Ao _⟩ ?_ ?_
   ·intro h0;simp only[Xx,wL,KQ];omega
   ·exact λh0=>⟨hP_nm O,.inr ⟨hP_su O,rfl⟩,hP_ns O,Ag,VB,Ag,Ag⟩
  ·skip
   refine Je2 L (c:=⟨nm,false,su,[],[],[],[],[],pl⟩) hlt hsm O O O O O Aa O O hR ⟨hR,IsL.nil,.nil,.nil,.nil,.nil,VC,VC,VC,VC,VC,VC,Ao _,Ao _,Ao _,Ao _⟩ ?_ ?_
   ·intro h0;simp only[Xx,wL,KQ];omega
   ·exact λh0=>⟨hP_nm O,.inr ⟨hP_su O,rfl⟩,Ag,Ag,VB,Ag,Ag⟩
 ·refine Je rfl rfl rfl ?_;refine KU (hns) hlt Aa O O ?_;intro ns r3 rw_r3 hR' hok_r3 _ _ _ _ _ hP_ns;replace hR:=hR.trans hR';obtain⟨_,_,hP_ns⟩:=hP_ns;refine K7 ?_;refine' hG;refine Je2 L (c:=⟨nm,false,[],ns.xs,[],[],[],[],pl⟩) hlt hsm O O O O O Aa O O hR ⟨hR,ns.is,.nil,.nil,.nil,.nil,VC,VC,VC,VC,VC,VC,Ao _,Ao _,Ao _,Ao _⟩ ?_ ?_
  ·intro h0;simp only[Xx,wL,KQ,Af];omega
  ·exact λh0=>⟨hP_nm O,.inl rfl,hP_ns O,Ag,VB,Ag,Ag⟩
 ·skip
  refine Je2 L (c:=⟨nm,false,[],[],[],[],[],[],pl⟩) hlt hsm O O O O O Aa O O hR ⟨hR,IsL.nil,.nil,.nil,.nil,.nil,VC,VC,VC,VC,VC,VC,Ao _,Ao _,Ao _,Ao _⟩ ?_ ?_
  ·intro h0;simp only[Xx,wL,KQ,Af];omega
  ·exact λh0=>⟨hP_nm O,.inl rfl,Ag,Ag,VB,Ag,Ag⟩
theorem Jnq(L:LibS pr F){H:List Blk}{rw rwc:List Nat}{n:Nat}{s:Src}{r rc:Rd}{c:Cls}{ab f i k m:AV}(hlt:n<H.length)(hsm:s.toks.length<=8000)(hd:rc.deep=r.deep)(hd1:101<=r.deep+2000)(hd2:r.deep<=200)(_hri:0<=r.i)(_hrl:r.i<=s.toks.length)(hok:Rok s rc)(hi:r.i<=rc.i)(hcd:rc.code=0->r.code=0)(hR:Rx rw rwc)(hin:ClsIn rw rwc 0 c ab f i k m)(hw:rc.code=0->r.i<rc.i/\(Xx c:Int)<=8100*(rc.i-r.i))(ho:rc.code=0->JcG c) :
  At pr F H.length (fin [.cell 2 (some 9)] H.length (Jni (λx:Cls=>AV.agg (Jc x)) Jzq H n s r rw)) (.loop [0,2,3] ((JDS.seq (.cond (.tmp 29) .skip (.exit 0))).seq (.block 1 (.seq JDT (.seq JDU (.seq JtQ JtR)))))) [.blk 0,.code (JtS.seq .ret)]
   [(0,.ptr n 0),(2,.ptr (H.length+0) 0),(3,.ptr (H.length+1) 0)]
   ⟨hp H n (blk s rc) [.cells [.str [],.bool false,.str [],.list 0 .full [],.list 0 .full [],.list 0 .full [],.list 0 .full [],.list 0 .full [],.int .i64 0],.cells [.str c.name,.bool c.iface,.str c.super,ab,f,i,k,m,.int .i64 c.at_]],rwc⟩:=by
 have hm:=L.hm;have cis0:=λx=>KJ L.toLibR 0 O x;have cis1:=λx=>KJ L.toLibR 1 O x;have cis2:=λx=>KJ L.toLibR 2 O x;have cpl:=KW L.toLibR;have ctk:=λx=>Vu L.toLibR x 2000;have cen:=QO L.toLibR 2000;have cnd:=λx=>Vv L.toLibR x 2000;have cfl:=Vt L.toLibR 110 O 2000;have cnm:=Vw L.toLibR 2000;have hhd:=JqW L;have hlo:=hok.lo;have hhi:=hok.hi;refine JB hm (λmm e S'=>∃(r':Rd) (rw':List Nat) (c':Cls) (ab' f' i' k' m':AV) (b:Nat) (J:List Blk),S'=⟨hp H n (blk s r') (.cells [.str [],.bool false,.str [],.list 0 .full [],.list 0 .full [],.list 0 .full [],.list 0 .full [],.list 0 .full [],.int .i64 0]::.cells [.str c'.name,.bool c'.iface,.str c'.super,ab',f',i',k',m',.int .i64 c'.at_]::J),rw'⟩/\Rok s r'/\r.i<=r'.i/\r'.deep=r.deep/\(r'.code=0->r.code=0)/\Rx rw rw'/\ClsIn rw rw' b c' ab' f' i' k' m'/\(r'.code=0->(b:Int)<=r'.i) /\
   (r'.code=0->r.i<r'.i/\(Xx c':Int)<=8100*(r'.i-r.i))/\(r'.code=0->JcG c')/\(mm:Int)=2*(s.toks.length-r'.i)+(if r'.code=0 then 1 else 0) /\
   e=[(0,.ptr n 0),(2,.ptr (H.length+0) 0),(3,.ptr (H.length+1) 0)]) ?_ (m:=(2*(s.toks.length-rc.i)+(if rc.code=0 then 1 else 0)).toNat) ⟨rc,rwc,c,ab,f,i,k,m,0,[],rfl,hok,hi,hd,hcd,hR,hin,λ_=>O,hw,ho,Bv,rfl⟩
 clear hR hd hok hi hcd hin hw ho hlo hhi;rintro mm e S' ⟨r',rw',c',ab',f',i',k',m',b,J,rfl,hok',h2,h3,h4,hR,hin,h7,h8,h9,hmm,rfl⟩;have h5:=hok'.lo;have h6:=hok'.hi;have hDlo:=hok'.dlo;have hRL:Rx rw' rw':=Rx.rfl;by_cases hc:r'.code=0
 ·rw[if_pos hc]at hmm;refine' hG
  ·rw[hin.can];refine J0 hlt rfl rfl (KT c').load ((KT _).below _) ?_;exact Vi c' hR rfl (Rok.nx Aa O O) ⟨O,λh=>by have:=h8 hc;omega,λh=>h9 hc⟩
  ·refine Je rfl rfl rfl ?_;refine KU (hhd) hlt Aa O O ?_;intro m1 r1 rw_r1 hR' hok_r1 _ _ _ _ _ hP_m1;replace hR:=hR.trans hR';(try replace hRL:=hRL.trans hR');obtain⟨_,_,hP_m1⟩:=hP_m1;refine K7 ?_;obtain⟨nm,ps,⟨kd,tn,nu,el,pd,ta⟩,bd,ab_,at_⟩:=m1;simp only[Jm,Jl,Aw,Au];obtain⟨hb1,hb2,hok1⟩:=hP_m1;simp only at hb1 hb2;subst hb1 hb2;refine' hG;refine Qp ?_;refine Q1 rfl rfl ?_;have hcc:Jh [AV.str nm,Kp 8 (List.map Jf ps),AV.int IntKind.i64 kd,AV.str tn,AV.bool nu,Kp 6 (Jo el),Kp 5 (Ja pd),AV.int IntKind.i64 ta,Kp 7 (Jg []),AV.bool true,AV.int IntKind.i64 at_]=Jm ⟨nm,ps,.mk kd tn nu el pd ta,[],true,at_⟩:=D;refine Z2 (by rw[hcc];exact Qa _) ?_;have hin:=hin.ext hRL;have q7:=h7 hc;refine JT ?_;refine JW rfl rfl rfl ?_;refine JbL hin.hm hin.rx EA EA O ?_;intro v' rw4 hv hR4 hoth;rw[hcc]at hv;obtain⟨szv,tagv,rfl,-,-⟩:=hv.tag;obtain⟨g2,e2⟩:=hoth _ _ _ hin.hf hin.d3.symm;obtain⟨g3,e3⟩:=hoth _ _ _ hin.hi hin.d5.symm;obtain⟨g4,e4⟩:=hoth _ _ _ hin.hk hin.d6.symm;refine K7 ?_;refine' hG;have q8:=h8 hc;refine⟨(2*(s.toks.length-rc.i)+(if rc.code=0 then 1 else 0)).toNat,?_,rc,rw4,{c' with meths:=c'.meths++[⟨nm,ps,.mk kd tn nu el pd ta,[],true,at_⟩]},_,_,_,_,_,b+1,_,rfl,Aa,O,O,O,hR4,⟨hR4,hin.ha,g2,g3,g4,Ep,hin.d1,hin.d2,e2.symm,hin.d4,e3.symm,e4.symm,Ey,Et,Eu,by have:=hin.n4;simp;omega⟩,?_,?_,?_,Bv,rfl⟩
   ·split <;> omega
   ·intro h0;omega
   ·intro h0;simp only[Xx,JcF,Qj]at *;simp only[VP,wL,JcF,Qj];omega
   ·intro h0;obtain⟨o1,o2,o3,o4,o5,o6,o7⟩:=h9 hc;refine⟨o1,o2,o3,o4,o5,o6,?_⟩;intro x hx;rcases AM.1 hx with hh |hh
    ·exact o7 x hh
    ·rw[AN]at hh;subst hh;obtain⟨q1,q2,q3,-⟩:=hok1 O;exact⟨q1,q2,q3,trivial,λ_=>rfl⟩
 ·refine' hG;rw[hin.can];refine J0 hlt rfl rfl (KT c').load ((KT _).below _) ?_;exact Vi c' hR rfl (Rok.nx Aa O O) ⟨O,λh=>absurd h O,λh=>absurd h O⟩
theorem Jt3(L:LibS pr F):RC pr F (λx:Cls=>AV.agg (Jc x)) Jzq 92 [] 2000:=by
 have hm:=L.hm;have cis0:=λx=>KJ L.toLibR 0 O x;have cis1:=λx=>KJ L.toLibR 1 O x;have cis2:=λx=>KJ L.toLibR 2 O x;have cpl:=KW L.toLibR;have ctk:=λx=>Vu L.toLibR x 2000;have cen:=QO L.toLibR 2000;have cnd:=λx=>Vv L.toLibR x 2000;have cfl:=Vt L.toLibR 110 O 2000;have cnm:=Vw L.toLibR 2000;have hns:=Jnm L;refine VZ hm L.f92.1 L.f92.2 rfl ?_;intro H rw n s r hlt hsm hok _ _ _ _ _;have hR:Rx rw rw:=Rx.rfl;clear cpl;refine' hG;refine Je rfl rfl rfl ?_;refine Jhc (KW L.toLibR) hlt Aa ?_;intro pl _;refine K7 ?_;refine' hG;refine Je rfl rfl rfl ?_;refine KU (cnm) hlt Aa O O ?_;intro nm r1 rw_r1 hR' hok_r1 _ _ _ _ _ hP_nm;replace hR:=hR.trans hR';obtain⟨_,_,hP_nm⟩:=hP_nm;refine K7 ?_;refine' hG
 ·refine Je rfl rfl rfl ?_;refine KU (hns) hlt Aa O O ?_;intro ns r3 rw_r3 hR' hok_r3 _ _ _ _ _ hP_ns;replace hR:=hR.trans hR';obtain⟨_,_,hP_ns⟩:=hP_ns;refine K7 ?_;refine' hG;refine Jnq L (c:=⟨nm,true,[],ns.xs,[],[],[],[],pl⟩) hlt hsm O O O O O Aa O O hR ⟨hR,ns.is,.nil,.nil,.nil,.nil,VC,VC,VC,VC,VC,VC,Ao _,Ao _,Ao _,Ao _⟩ ?_ ?_
  ·intro h0;simp only[Xx,wL,KQ,Af];omega
  ·exact λh0=>⟨hP_nm O,.inl rfl,hP_ns O,Ag,VB,Ag,Ag⟩
 ·refine Jnq L (c:=⟨nm,true,[],[],[],[],[],[],pl⟩) hlt hsm O O O O O Aa O O hR ⟨hR,IsL.nil,.nil,.nil,.nil,.nil,VC,VC,VC,VC,VC,VC,Ao _,Ao _,Ao _,Ao _⟩ ?_ ?_
  ·intro h0;simp only[Xx,wL,KQ,Af];omega
  ·exact λh0=>⟨hP_nm O,.inl rfl,Ag,Ag,VB,Ag,Ag⟩
structure PrgOut where
 p:Prg
 code:Int
 at_:Int
 rw:List Nat
def PrgOut.good(rw:List Nat)(o:PrgOut):Prop:=Rx rw o.rw/\(o.code=0->JdG o.p/\o.p.classes.length<=8000/\wL Xx o.p.classes+Qj o.p.main<=64791900)/\(o.code≠0->o.p=⟨[],[]⟩)
theorem JIK{H:List Blk}{n:Nat}{b c d:Blk}{M:List Blk}(hlt:n<H.length):hp (hp H n b [c]) H.length d M=hp H n b (d::M):=by unfold hp;rw[<- CL _ _ AR,List.set_comm _ _ O,BG,Di _ _ O,Cv];rfl
theorem JhE{H H1 M:List Blk}{rw rw':List Nat}{p:Prg}{z:Blk}{vs:List AV}{c a:Int}(hH:H1=H++[z])(hv:vs=JU p)(hg:PrgOut.good rw ⟨p,c,a,rw'⟩) :
  fin [.cell 2 (some 2),.tmp 3,.tmp 4] H.length (λr S'=>∃ o:PrgOut,o.good rw/\r=.ret (.tup [.agg (JU o.p),.int .i64 o.code,.int .i64 o.at_])/\S'=⟨H,o.rw⟩) .ret [(2,.ptr H.length 0),(3,.int .i64 c),(4,.int .i64 a)] ⟨hp H1 H.length (.cells vs) M,rw'⟩:=by
 subst hH hv;have e1:(hp (H++[z]) H.length (.cells (JU p)) M)[H.length]? = some (.cells (JU p)):=Kh Ag;have e2:QT [.cell 2 (some 2),.tmp 3,.tmp 4] [(2,.ptr H.length 0),(3,.int .i64 c),(4,.int .i64 a)] (hp (H++[z]) H.length (.cells (JU p)) M)=some [.agg (JU p),.int .i64 c,.int .i64 a]:=by
  have e3:J9 (some 2) (.ptr H.length 0) (hp (H++[z]) H.length (.cells (JU p)) M)=some (.agg (JU p)):=by have:=(QM p).load;simp only[J9,e1];simpa only[J9,Am] using this
  show(match J9 (some 2) (.ptr H.length 0) (hp (H++[z]) H.length (.cells (JU p)) M)with |some v=>_ |none=>_)=_;rw[e3]
 refine X7 e2 ?_ ?_ ⟨⟨p,c,a,rw'⟩,hg,rfl,rfl⟩
 ·have this:Ai.belowL H.length (JU p)=true:=(QM p).below H.length;simp only[Ai.belowL,this,Ai.below,A0]
 ·unfold hp;rw[Dt];simp[D1]
theorem JiF{K:AV->St->Prop}{H:List Blk}{rw:List Nat}{n:Nat}{b:Blk}{s:Src}{r:Rd}{M:List Blk}{α:Type}{enc:α->AV}{post:Src->Rd->α->Rd->Prop}{fn:Nat}{args:List AV}{m:Int}(hlt:n<H.length)(hc:RC pr F enc post fn args m)(hok:Rok s r)(hd:101<=r.deep+m)(hd2:r.deep<=200)
  (h:∀(x:α) (r':Rd) (rw':List Nat),Rx rw rw'->Rok s r'->0<=r'.i->r'.i<=s.toks.length->0<=r'.deep->r.i<=r'.i->(r'.code=0->r.code=0)->post s r x r'->K (enc x) ⟨hp H n b (blk s r'::M),rw'⟩) :
  ClAt pr F fn (.ptr (H.length+0) 0::args) ⟨hp H n b (blk s r::M),rw⟩ K:=by
 obtain⟨o,⟨hn,hR,hp'⟩,hdet⟩:=hc (hp H n b [blk s r]) rw H.length s r M (by rw[XO];simp) hok hd hd2;rw[JIK hlt,JIK hlt]at hdet;exact⟨_,_,hdet,h o.x o.r o.rw hR ⟨hn.lo,hn.hi,hn.dlo,hn.dhi⟩ hn.lo hn.hi hn.dlo hn.mono hn.code hp'⟩
theorem JqX{K:AV->St->Prop}{H:List Blk}{rw:List Nat}{n:Nat}{b:Blk}{s:Src}{r:Rd}{M:List Blk}{α:Type}{enc:α->AV}{post:Src->Rd->α->Prop}{fn:Nat}{args:List AV}(hlt:n<H.length)(hc:RQ pr F enc post fn args)(hok:Rok s r)
  (h:∀(x:α),post s r x->K (enc x) ⟨hp H n b (blk s r::M),rw⟩) :
  ClAt pr F fn (.ptr (H.length+0) 0::args) ⟨hp H n b (blk s r::M),rw⟩ K:=by
 obtain⟨x,hp',hdet⟩:=hc (hp H n b [blk s r]) rw H.length s r M (by rw[XO];simp) hok;rw[JIK hlt]at hdet;exact⟨_,_,hdet,h x hp'⟩
theorem s_n{b0 n kd:Nat}{H M:List Blk}{rw:List Nat}{b:Blk}{vs cs:List AV}{K:St->Prop}(hlt:n<H.length)(hb0:b0<=n)(hb:b=.cells cs)(hc:cs.length=kd)(hv:vs.length=kd)(h:K ⟨hp H n (.cells vs) M,rw⟩):StAt b0 kd (.ptr n 0) (.agg vs) ⟨hp H n b M,rw⟩ K:=by refine⟨_,?_,h⟩;unfold JcD;simp only[Kh hlt,hb];rw[if_pos ⟨hv,rfl,O,.inl hb0⟩,Z0,JcH (by rw[hc];exact hv.symm)];rfl
theorem LV.get{sz:Nat}{v:AV}{rows:List (List AV)}(h:LV sz v rows):∃ z tag,v=.list z tag rows/\(rows≠[]->z=sz):=by
 rcases h with⟨tag,rfl⟩ |⟨rfl,rfl⟩
 ·exact⟨_,_,rfl,λ_=>rfl⟩
 ·exact⟨_,_,rfl,λh=>absurd rfl h⟩
section
variable {b0 base ix:Nat} {d:Option Nat} {g:Option (Nat×Bool)} {prev items:List Item} {kp:List Nat} {k:List Fr} {e:KC} {Q:Ex->KC->St->Prop}
theorem Jnr{x:Opd}{re:List Nat}{v:AV}{H M M':List Blk}{n q:Nat}{b:Blk}{rw:List Nat}(hlt:n<H.length)(hw:wanted g (Jj e)=some true)(hx:x.val (Jj e)=some v)(hv:v.okv=true)(hM:M++[.cells v.cells]=M')(hq:M.length=q)
  (h:J8 prev re (KD e d (.ptr (H.length+q) 0)) (hp H n b M') base=true/\In pr F b0 Q base (⟨ix,d,g,.l (.box x) re⟩::prev) items kp k (KD e d (.ptr (H.length+q) 0)) ⟨hp H n b M',rw⟩) :
  In pr F b0 Q base prev (⟨ix,d,g,.l (.box x) re⟩::items) kp k e ⟨hp H n b M,rw⟩:=by
 subst hM hq;refine Jiz hw ?_ h.1 h.2;simp only[XN,hx,hv,if_true,XO,Jau hlt]
end
theorem Dx{Q:Prop}(h:Q:=by simp[JU,Jg,Kp]):Q:=h
theorem EC{Q:Prop}(h:Q:=by simpa using h):Q:=h
theorem Jns(L:LibS pr F)(H:List Blk)(rw:List Nat)(x:Jk)(hx:x.length<=8000):∃ o:PrgOut,o.good rw/\Det pr F 51 [.str x] ⟨H,rw⟩ (.ret (.tup [.agg (JU o.p),.int .i64 o.code,.int .i64 o.at_])) ⟨H,o.rw⟩:=by
 have hm:=L.hm;suffices h:Wp pr F 51 [.str x] ⟨H,rw⟩ λr S'=>∃ o:PrgOut,o.good rw/\r=.ret (.tup [.agg (JU o.p),.int .i64 o.code,.int .i64 o.at_])/\S'=⟨H,o.rw⟩ by obtain⟨r,S',hd,x,hp,rfl,rfl⟩:=h.det hm;exact⟨x,hp,hd⟩
 have cis0:=λx=>KJ L.toLibR 0 O x;have cis1:=λx=>KJ L.toLibR 1 O x;have cis2:=λx=>KJ L.toLibR 2 O x;have cpl:=KW L.toLibR;have ctk:=λx=>Vu L.toLibR x 2000;have cen:=QO L.toLibR 2000;have cnd:=λx=>Vv L.toLibR x 2000;have cfl:=Vt L.toLibR 110 O 2000;have cnm:=Vw L.toLibR 2000;have hcl:=Jt2 L;have hif:=Jt3 L;have hbl:=Jno L;refine Jt hm L.f51.1 L.f51.2 rfl ?_;refine' VO;obtain⟨H1,hH1⟩:∃ H1,H1=H++[Blk.cells [.list 0 .full [],.list 0 .full []]]:=⟨_,rfl⟩
 have hlen:H1.length=H.length+1:=by rw[hH1];simp
 have hlt:H.length<H1.length:=O;have hget:hp H1 H.length (.cells [.list 0 .full [],.list 0 .full []]) []=H++[Blk.cells [.list 0 .full [],.list 0 .full []]]:=by subst hH1;simp[hp]
 unfold JDV;refine Xe hm (H:=hp H1 H.length (.cells [.list 0 .full [],.list 0 .full []]) []) (by rw[hget];rfl) rfl ?_;refine Jbh ?_;refine Kj (q:=H.length) rfl rfl (Kh hlt) ?_;have hR:Rx rw rw:=Rx.rfl;refine' hG;obtain⟨⟨lv,le,la,toks,rw1⟩,⟨hR1,hlv,htk,htx⟩,hdet⟩:=Jo4 L.toLibL (hp H1 H.length (.cells [.list 0 .full [],.list 0 .full []]) []) rw x hx;simp only at hR1 hlv htk htx hdet;obtain⟨sz,tag,rfl,hsz⟩:=hlv.get;refine Je rfl rfl rfl ?_;refine⟨_,_,hdet,?_⟩;replace hR:=hR.trans hR1;refine K7 ?_;refine' hG
 ·refine Vh ?_;refine VG rfl rfl rfl ?_;refine s_n hlt (Ao _) rfl rfl rfl ?_;refine K7 ?_;refine' hG;exact JhE (p:=⟨[],[]⟩) hH1 Dx ⟨hR,λh=>absurd h Bd,λ_=>rfl⟩
 ·obtain⟨s,hs⟩:∃ s:Src,s=⟨toks,sz,tag,x.length,λh=>hsz EC,htk,htx⟩:=⟨_,rfl⟩
  have hsm:s.toks.length<=8000:=s.small;have hok:Rok s ⟨0,0,0,0⟩:=⟨Bd,Bd,Bd,Bd⟩
  refine Jnr (v:=.agg [.list sz tag (toks.map Tok.row),.int .i64 0,.int .i64 x.length,.int .i64 0,.int .i64 0,.int .i64 0]) (M':=[blk s ⟨0,0,0,0⟩]) hlt rfl rfl rfl (by subst hs;rfl) (q:=0) rfl ?_;refine K7 ?_;refine' hG;refine JB hm (λmm e S'=>∃(r':Rd) (rw':List Nat) (cv:AV) (cs:List Cls),S'=⟨hp H1 H.length (.cells [.list 0 .full [],.list 0 .full []]) [blk s r',.cells [cv,.list 0 .full []]],rw'⟩/\Rok s r'/\r'.deep=0/\Rx rw rw'/\Lst rw 9 cv (cs.map Jc) rw'/\((cs.length:Int)<=r'.i+1)/\(r'.code=0->(cs.length:Int)<=r'.i/\(wL Xx cs:Int)<=8100*r'.i)/\(r'.code=0->∀ c∈cs,JcG c)/\(mm:Int)=2*(s.toks.length-r'.i)+(if r'.code=0 then 1 else 0) /\
   e=[(2,.ptr H.length 0),(8,.ptr (H1.length+0) 0),(9,.ptr (H1.length+1) 0)]) ?_ (m:=2*s.toks.length+1) ⟨⟨0,0,0,0⟩,rw1,_,[],rfl,hok,rfl,hR,.nil,Ag,λ_=>⟨Ag,by simp[wL]⟩,Ag,Ag,rfl⟩
  clear hR hok;rintro mm e S' ⟨r',rw',cv,cs,rfl,hok',h2,hR,hl1,h3,h4,h5,hmm,rfl⟩;have q1:=hok'.lo;have q2:=hok'.hi;have q3:=hok'.dlo;have hRL:Rx rw' rw':=Rx.rfl;obtain⟨szv,tagv,rfl,-,-⟩:=hl1.tag;refine' hG;refine Je rfl rfl rfl ?_;refine JqX hlt (cis0 _) hok' ?_;intro b1 hb1;cases b1 with
  | true=>
   have hc0:r'.code=0:=hb1.1;have hi0:r'.i+((0:Nat):Int)<s.toks.length:=hb1.2;refine K7 ?_;refine' hG;refine Je rfl rfl rfl ?_;refine JqX hlt (cis0 _) hok' ?_;intro b2 hb2;cases b2 with
   | true=>
    refine K7 ?_;refine' hG;refine Je rfl rfl rfl ?_;refine JiF hlt hcl hok' O O ?_;intro c1 r1 rw2 hR1 hok1 _ _ _ _ _ hP;obtain⟨p1,p2,p3⟩:=hP;replace hR:=hR.trans hR1;refine K7 ?_;refine' hG;refine JT ?_;refine JW rfl rfl rfl ?_;refine QB (hl1.ext hR1) hR AD AD O ?_;intro l4 rw4 hl4 hR4;obtain⟨szw,tagw,rfl,-,-⟩:=hl4.tag;refine K7 ?_;refine' hG;refine⟨(2*(s.toks.length-r1.i)+(if r1.code=0 then 1 else 0)).toNat,?_,r1,rw4,_,cs++[c1],rfl,hok1,O,hR4,Ek,AR,?_,?_,Bv,rfl⟩
    ·rw[if_pos hc0]at hmm;split <;> omega
    ·intro h0;rw[VP];simp only[wL,AG,Ad,Af];have:=h4 hc0;have:=p2 h0;omega
    ·intro h0 y hy;rcases AM.1 hy with hh |hh
     ·exact h5 hc0 y hh
     ·rw[AN]at hh;subst hh;exact p3 h0
   | false=>
    refine K7 ?_;refine' hG;refine Je rfl rfl rfl ?_;refine JiF hlt hif hok' O O ?_;intro c1 r1 rw2 hR1 hok1 _ _ _ _ _ hP;obtain⟨p1,p2,p3⟩:=hP;replace hR:=hR.trans hR1;refine K7 ?_;refine' hG;refine JT ?_;refine JW rfl rfl rfl ?_;refine QB (hl1.ext hR1) hR AD AD O ?_;intro l4 rw4 hl4 hR4;obtain⟨szw,tagw,rfl,-,-⟩:=hl4.tag;refine K7 ?_;refine' hG;refine⟨(2*(s.toks.length-r1.i)+(if r1.code=0 then 1 else 0)).toNat,?_,r1,rw4,_,cs++[c1],rfl,hok1,O,hR4,Ek,AR,?_,?_,Bv,rfl⟩
    ·rw[if_pos hc0]at hmm;split <;> omega
    ·intro h0;rw[VP];simp only[wL,AG,Ad,Af];have:=h4 hc0;have:=p2 h0;omega
    ·intro h0 y hy;rcases AM.1 hy with hh |hh
     ·exact h5 hc0 y hh
     ·rw[AN]at hh;subst hh;exact p3 h0
  | false=>
   refine K7 ?_;refine' hG;refine Je rfl rfl rfl ?_;refine JqX hlt (cis0 _) hok' ?_;intro b3 hb3;cases b3 with
   | true=>
    have hc0:r'.code=0:=hb3.1;have hi0:r'.i+((0:Nat):Int)<s.toks.length:=hb3.2;refine K7 ?_;refine' hG;refine Je rfl rfl rfl ?_;refine JqX hlt (cis0 _) hok' ?_;intro b2 hb2;cases b2 with
    | true=>
     refine K7 ?_;refine' hG;refine Je rfl rfl rfl ?_;refine JiF hlt hcl hok' O O ?_;intro c1 r1 rw2 hR1 hok1 _ _ _ _ _ hP;obtain⟨p1,p2,p3⟩:=hP;replace hR:=hR.trans hR1;refine K7 ?_;refine' hG;refine JT ?_;refine JW rfl rfl rfl ?_;refine QB (hl1.ext hR1) hR AD AD O ?_;intro l4 rw4 hl4 hR4;obtain⟨szw,tagw,rfl,-,-⟩:=hl4.tag;refine K7 ?_;refine' hG;refine⟨(2*(s.toks.length-r1.i)+(if r1.code=0 then 1 else 0)).toNat,?_,r1,rw4,_,cs++[c1],rfl,hok1,O,hR4,Ek,AR,?_,?_,Bv,rfl⟩
     ·rw[if_pos hc0]at hmm;split <;> omega
     ·intro h0;rw[VP];simp only[wL,AG,Ad,Af];have:=h4 hc0;have:=p2 h0;omega
     ·intro h0 y hy;rcases AM.1 hy with hh |hh
      ·exact h5 hc0 y hh
      ·rw[AN]at hh;subst hh;exact p3 h0
    | false=>
     refine K7 ?_;refine' hG;refine Je rfl rfl rfl ?_;refine JiF hlt hif hok' O O ?_;intro c1 r1 rw2 hR1 hok1 _ _ _ _ _ hP;obtain⟨p1,p2,p3⟩:=hP;replace hR:=hR.trans hR1;refine K7 ?_;refine' hG;refine JT ?_;refine JW rfl rfl rfl ?_;refine QB (hl1.ext hR1) hR AD AD O ?_;intro l4 rw4 hl4 hR4;obtain⟨szw,tagw,rfl,-,-⟩:=hl4.tag;refine K7 ?_;refine' hG;refine⟨(2*(s.toks.length-r1.i)+(if r1.code=0 then 1 else 0)).toNat,?_,r1,rw4,_,cs++[c1],rfl,hok1,O,hR4,Ek,AR,?_,?_,Bv,rfl⟩
     ·rw[if_pos hc0]at hmm;split <;> omega
     ·intro h0;rw[VP];simp only[wL,AG,Ad,Af];have:=h4 hc0;have:=p2 h0;omega
     ·intro h0 y hy;rcases AM.1 hy with hh |hh
      ·exact h5 hc0 y hh
      ·rw[AN]at hh;subst hh;exact p3 h0
   | false=>
    refine K7 ?_;refine' hG;refine Je rfl rfl rfl ?_;refine JiF hlt (cnd _) hok' O O ?_;intro _ r1 rw2 hR1 hok1 _ _ _ _ _ hP;obtain⟨n1,n2⟩:=hP;replace hR:=hR.trans hR1;refine K7 ?_;refine' hG;refine Je rfl rfl rfl ?_;refine JiF hlt hbl hok1 O O ?_;intro bl r2 rw3 hR2 hok2 _ _ _ _ _ hP;obtain⟨b1,b2,b3⟩:=hP;replace hR:=hR.trans hR2;refine K7 ?_;refine' hG
    ·refine Je rfl rfl rfl ?_;refine JiF hlt cfl hok2 O O ?_;intro _ r3 rw4 hR3 hok3 _ _ _ _ _ hP;obtain⟨f1,f2,f3⟩:=hP;replace hR:=hR.trans hR3;refine K7 ?_;refine' hG;refine Vh ?_;refine VG rfl rfl rfl ?_;refine s_n hlt (Ao _) rfl rfl rfl ?_;refine K7 ?_;refine' hG;exact JhE (p:=⟨[],[]⟩) hH1 Dx ⟨hR,λh=>absurd h Bd,λ_=>rfl⟩
    ·skip
     refine Vh ?_;refine VG rfl rfl rfl ?_;refine s_n hlt (Ao _) rfl rfl rfl ?_;refine K7 ?_;refine' hG;exact JhE (p:=⟨[],[]⟩) hH1 Dx ⟨hR,λh=>absurd h Bd,λ_=>rfl⟩
    ·have e1:=hl1.isL.canon;have e2:=bl.is.canon;have hcan:Jh [.list szv tagv (cs.map Jc),bl.v]=JU ⟨cs,bl.xs⟩:=by simp only[Jh,Ap,AC,e1,e2,JU]
     refine Vh ?_;refine VG rfl rfl rfl ?_;refine s_n hlt (Ao _) rfl rfl rfl ?_;refine K7 ?_;refine' hG;have w1:=h4 O;have w2:=b2 O;exact JhE (p:=⟨cs,bl.xs⟩) hH1 hcan ⟨hR,λ_=>⟨⟨h5 O,b3 O⟩,Bd,Bd⟩,λh=>absurd rfl h⟩
set_option maxRecDepth 100000
set_option maxHeartbeats 16000000
def Jnt:{l:List IC // Tr.fn Tr.TT Tryz.f19 0 [[0],[4,5],[4,14],[2,3],[4,6,7],[4,6,22],[2,3],[2,3]]=l}:=⟨_,AO⟩
def JUo:IC:=pk Jnt.1 0
def JUp:IC:=pk Jnt.1 1
def JUq:IC:=pk Jnt.1 2
def JUr:IC:=pk Jnt.1 3
def JUs:IC:=pk Jnt.1 4
def JUt:IC:=pk Jnt.1 5
def JUu:IC:=pk Jnt.1 6
def JUv:IC:=pk Jnt.1 7
def i19:IFn:=⟨1,(.seq JUo (.seq JUp (.seq (.seq JUq (.cond (.tmp 14) (.seq JUr .ret) (.skip))) (.seq JUs (.seq (.seq JUt (.cond (.tmp 22) (.seq JUu .ret) (.skip))) (.seq JUv .ret)))))),[.tmp 2,.tmp 3]⟩
theorem c19:JK Tryz.prog Tryz.f19 i19=true:=Ae
def JUw:{l:List IC // Tr.fn Tr.TT Tryz.f56 0 [[0,1,4],[4]]=l}:=⟨_,AO⟩
def JDY:IC:=pk JUw.1 0
def JUx:IC:=pk JUw.1 1
def i56:IFn:=⟨2,(.seq JDY (.seq JUx .ret)),[.cell 4 (some 2)]⟩
theorem c56:JK Tryz.prog Tryz.f56 i56=true:=Ae
def Yu:{l:List IC // Tr.fn Tr.TT Tryz.f100 0 [[0,2],[2,12,13,14],[2,12,13,14,15],[2,3,4,12,13,14],[2,4,12,13,14,20],[2],[2,4,12,13,14,45],[2],[2,4,12,13,14,50,51,52],[2,4,12,13,14,50,51,52,53],[2,4,6,12,13,14,50,51,52],[2,4,6,12,13,14,50,51,52,59],[2],[2,4,12,13,14,50,51,52],[2,12,13,14,65,66,67],[2,12,13,14,65,66,67,68],[2,8,12,13,14,65,66,67],[2,8,12,13,14,65,66,67,74],[2],[2,12,13,14,65,66,67],[2,12,13,14],[2]]=l}:=⟨_,AO⟩
def Jt4:IC:=pk Yu.1 0
def JIL:IC:=pk Yu.1 1
def JIM:IC:=pk Yu.1 2
def JIN:IC:=pk Yu.1 3
def JIO:IC:=pk Yu.1 4
def JIP:IC:=pk Yu.1 5
def JIQ:IC:=pk Yu.1 6
def JIR:IC:=pk Yu.1 7
def JIS:IC:=pk Yu.1 8
def JIT:IC:=pk Yu.1 9
def Jzr:IC:=pk Yu.1 10
def Jzs:IC:=pk Yu.1 11
def Jzt:IC:=pk Yu.1 12
def Jzu:IC:=pk Yu.1 13
def Jzv:IC:=pk Yu.1 14
def Jzw:IC:=pk Yu.1 15
def Jzx:IC:=pk Yu.1 16
def Jzy:IC:=pk Yu.1 17
def Jzz:IC:=pk Yu.1 18
def JzA:IC:=pk Yu.1 19
def JzB:IC:=pk Yu.1 20
def JzC:IC:=pk Yu.1 21
def JIU:IFn:=⟨1,(.seq Jt4 (.seq (.seq JIL (.block 0 (.loop [2,12,13,14] (.seq JIM (.seq (.cond (.tmp 15) (.skip) (.exit 0)) (.seq (.block 1 (.seq JIN (.seq (.seq JIO (.cond (.tmp 20) (.seq JIP .ret) (.skip))) (.seq (.seq JIQ (.cond (.tmp 45) (.seq JIR .ret) (.skip))) (.seq (.seq JIS (.block 2 (.loop [2,4,12,13,14,50,51,52] (.seq JIT (.seq (.cond (.tmp 53) (.skip) (.exit 2)) (.seq (.block 3 (.seq Jzr (.seq Jzs (.cond (.tmp 59) (.seq Jzt .ret) (.skip))))) Jzu)))))) (.seq Jzv (.block 4 (.loop [2,12,13,14,65,66,67] (.seq Jzw (.seq (.cond (.tmp 68) (.skip) (.exit 4)) (.seq (.block 5 (.seq Jzx (.seq Jzy (.cond (.tmp 74) (.seq Jzz .ret) (.skip))))) JzA))))))))))) JzB)))))) (.seq JzC .ret))),[.cell 2 (some 2)]⟩
theorem J2c:JK Tryz.prog Tryz.f100 JIU=true:=Ae
def JdJ:{l:List IC // Tr.fn Tr.TT Tryz.f101 0 [[0,2],[0,2,10,11,12],[0,2,10,11,12,13],[0,2,3,4,10,11,12],[0,2,3,4,6,10,11,12],[0,2,3,4,10,11,12,27],[2],[0,2,10,11,12],[0,2,10,11,12],[2]]=l}:=⟨_,AO⟩
def JIV:IC:=pk JdJ.1 0
def JIW:IC:=pk JdJ.1 1
def JIX:IC:=pk JdJ.1 2
def JIY:IC:=pk JdJ.1 3
def JIZ:IC:=pk JdJ.1 4
def JI0:IC:=pk JdJ.1 5
def JI1:IC:=pk JdJ.1 6
def JI2:IC:=pk JdJ.1 7
def JI3:IC:=pk JdJ.1 8
def JI4:IC:=pk JdJ.1 9
def JI5:IFn:=⟨1,(.seq JIV (.seq (.seq JIW (.block 0 (.loop [0,2,10,11,12] (.seq JIX (.seq (.cond (.tmp 13) (.skip) (.exit 0)) (.seq (.block 1 (.seq JIY (.seq (.seq JIZ (.seq JI0 (.cond (.tmp 27) (.seq JI1 .ret) (.skip)))) JI2))) JI3)))))) (.seq JI4 .ret))),[.cell 2 (some 2)]⟩
theorem J2d:JK Tryz.prog Tryz.f101 JI5=true:=Ae
def YF:{l:List IC // Tr.fn Tr.TT Tryz.f102 0 [[0,2],[0,2,14,15,16],[0,2,14,15,16,17],[0,2,4,14,15,16],[0,2,4,14,15,16,22],[0,2,4,5,6,14,15,16],[0,2,4,5,14,15,16,34],[2],[0,2,4,14,15,16,45],[2],[0,2,4,14,15,16,50,51,52],[0,2,4,14,15,16,50,51,52,53],[0,2,4,8,14,15,16,50,51,52],[0,2,4,9,10,14,15,16,50,51,52],[0,2,4,9,14,15,16,50,51,52,66],[2],[0,2,4,14,15,16,50,51,52,78],[2],[0,2,4,14,15,16,50,51,52],[0,2,14,15,16],[2]]=l}:=⟨_,AO⟩
def Jt5:IC:=pk YF.1 0
def JI6:IC:=pk YF.1 1
def JI7:IC:=pk YF.1 2
def JI8:IC:=pk YF.1 3
def JI9:IC:=pk YF.1 4
def JJa:IC:=pk YF.1 5
def JJb:IC:=pk YF.1 6
def JJc:IC:=pk YF.1 7
def JJd:IC:=pk YF.1 8
def JJe:IC:=pk YF.1 9
def JzD:IC:=pk YF.1 10
def JzE:IC:=pk YF.1 11
def JzF:IC:=pk YF.1 12
def JzG:IC:=pk YF.1 13
def JzH:IC:=pk YF.1 14
def JzI:IC:=pk YF.1 15
def JzJ:IC:=pk YF.1 16
def JzK:IC:=pk YF.1 17
def JzL:IC:=pk YF.1 18
def JzM:IC:=pk YF.1 19
def JzN:IC:=pk YF.1 20
def JJf:IFn:=⟨1,(.seq Jt5 (.seq (.seq JI6 (.block 0 (.loop [0,2,14,15,16] (.seq JI7 (.seq (.cond (.tmp 17) (.skip) (.exit 0)) (.seq (.block 1 (.seq JI8 (.seq (.seq JI9 (.cond (.tmp 22) (.seq JJa (.seq (.seq JJb (.cond (.tmp 34) (.seq JJc .ret) (.skip))) (.seq JJd (.cond (.tmp 45) (.seq JJe .ret) (.skip))))) (.skip))) (.seq JzD (.block 2 (.loop [0,2,4,14,15,16,50,51,52] (.seq JzE (.seq (.cond (.tmp 53) (.skip) (.exit 2)) (.seq (.block 3 (.seq JzF (.seq JzG (.seq (.seq JzH (.cond (.tmp 66) (.seq JzI .ret) (.skip))) (.seq JzJ (.cond (.tmp 78) (.seq JzK .ret) (.skip))))))) JzL))))))))) JzM)))))) (.seq JzN .ret))),[.cell 2 (some 2)]⟩
theorem J2e:JK Tryz.prog Tryz.f102 JJf=true:=Ae
def JgM:{l:List IC // Tr.fn Tr.TT Tryz.f103 0 [[0,2],[0,2,8,9,10],[0,2,8,9,10,11],[0,2,3,4,8,9,10],[0,2,4,8,9,10,20],[2],[0,2,8,9,10],[2]]=l}:=⟨_,AO⟩
def Jt6:IC:=pk JgM.1 0
def JJg:IC:=pk JgM.1 1
def JJh:IC:=pk JgM.1 2
def JJi:IC:=pk JgM.1 3
def JJj:IC:=pk JgM.1 4
def JJk:IC:=pk JgM.1 5
def JJl:IC:=pk JgM.1 6
def JJm:IC:=pk JgM.1 7
def JJn:IFn:=⟨1,(.seq Jt6 (.seq (.seq JJg (.block 0 (.loop [0,2,8,9,10] (.seq JJh (.seq (.cond (.tmp 11) (.skip) (.exit 0)) (.seq (.block 1 (.seq JJi (.seq JJj (.cond (.tmp 20) (.seq JJk .ret) (.skip))))) JJl)))))) (.seq JJm .ret))),[.cell 2 (some 2)]⟩
theorem J2f:JK Tryz.prog Tryz.f103 JJn=true:=Ae
def Jcc:{l:List IC // Tr.fn Tr.TT Tryz.f104 0 [[0,10,11],[0,10,11,12],[0,2,10,11],[0,2,3,10,11],[0,3,10,11,16,17,18],[0,3,10,11,16,17,18,19],[0,3,4,5,10,11,16,17,18],[0,3,4,10,11,16,17,18,23],[0,3,10,11,16,17,18],[0,3,10,11,16,17,18],[0,10,11],[0,10,11]]=l}:=⟨_,AO⟩
def JJo:IC:=pk Jcc.1 0
def JJp:IC:=pk Jcc.1 1
def JJq:IC:=pk Jcc.1 2
def JJr:IC:=pk Jcc.1 3
def JJs:IC:=pk Jcc.1 4
def JJt:IC:=pk Jcc.1 5
def JJu:IC:=pk Jcc.1 6
def JJv:IC:=pk Jcc.1 7
def JJw:IC:=pk Jcc.1 8
def JJx:IC:=pk Jcc.1 9
def JzO:IC:=pk Jcc.1 10
def JzP:IC:=pk Jcc.1 11
def JJy:IFn:=⟨1,(.seq JJo (.block 0 (.loop [0,10,11] (.seq JJp (.seq (.cond (.tmp 12) (.skip) (.exit 0)) (.seq (.block 1 (.seq JJq (.seq JJr (.seq (.seq JJs (.block 2 (.loop [0,3,10,11,16,17,18] (.seq JJt (.seq (.cond (.tmp 19) (.skip) (.exit 2)) (.seq (.block 3 (.seq JJu (.seq JJv (.cond (.tmp 23) JJw (.skip))))) JJx)))))) JzO)))) JzP)))))),[]⟩
theorem J2g:JK Tryz.prog Tryz.f104 JJy=true:=Ae
def VI:{l:List IC // Tr.fn Tr.TT Tryz.f105 0 [[0,1,4],[0,1,4,5],[0,1,4,5,28,29,30],[0,1,4,5,28,29,30,31],[0,1,4,5,6,7,28,29,30],[0,1,4,5,7,28,29,30,38,39,40],[0,1,4,5,7,28,29,30,38,39,40,41],[0,1,4,5,7,9,28,29,30,38,39,40],[0,1,4,5,7,28,29,30,38,39,40,48],[4],[0,1,4,5,7,28,29,30,38,39,40],[0,1,4,5,7,12,28,29,30],[0,1,4,5,7,28,29,30,63],[4],[0,1,4,5,13,28,29,30],[0,1,4,5,13,28,29,30,73],[4],[0,1,4,5,28,29,30],[0,1,4,5,77,78,79],[0,1,4,5,77,78,79,80],[0,1,4,5,14,15,77,78,79],[0,1,4,5,15,77,78,79,85],[4],[0,1,4,5,16,77,78,79],[0,1,4,5,16,77,78,79,95],[4],[0,1,4,5,77,78,79],[0,1,4,99,100,101],[0,1,4,99,100,101,102],[0,1,4,17,18,99,100,101],[0,1,4,19,99,100,101],[0,1,4,19,99,100,101,113],[4],[0,1,4,99,100,101],[4]]=l}:=⟨_,AO⟩
def Jt7:IC:=pk VI.1 0
def JJz:IC:=pk VI.1 1
def JJA:IC:=pk VI.1 2
def JJB:IC:=pk VI.1 3
def JJC:IC:=pk VI.1 4
def JJD:IC:=pk VI.1 5
def JJE:IC:=pk VI.1 6
def JJF:IC:=pk VI.1 7
def JJG:IC:=pk VI.1 8
def JJH:IC:=pk VI.1 9
def JzQ:IC:=pk VI.1 10
def JzR:IC:=pk VI.1 11
def JzS:IC:=pk VI.1 12
def JzT:IC:=pk VI.1 13
def JzU:IC:=pk VI.1 14
def JzV:IC:=pk VI.1 15
def JzW:IC:=pk VI.1 16
def JzX:IC:=pk VI.1 17
def JzY:IC:=pk VI.1 18
def JzZ:IC:=pk VI.1 19
def Jz0:IC:=pk VI.1 20
def Jz1:IC:=pk VI.1 21
def Jz2:IC:=pk VI.1 22
def Jz3:IC:=pk VI.1 23
def Jz4:IC:=pk VI.1 24
def Jz5:IC:=pk VI.1 25
def Jz6:IC:=pk VI.1 26
def Jz7:IC:=pk VI.1 27
def Jz8:IC:=pk VI.1 28
def Jz9:IC:=pk VI.1 29
def JAa:IC:=pk VI.1 30
def JAb:IC:=pk VI.1 31
def JAc:IC:=pk VI.1 32
def JAd:IC:=pk VI.1 33
def JAe:IC:=pk VI.1 34
def JJI:IFn:=⟨2,(.seq Jt7 (.seq JJz (.seq (.seq JJA (.block 0 (.loop [0,1,4,5,28,29,30] (.seq JJB (.seq (.cond (.tmp 31) (.skip) (.exit 0)) (.seq (.block 1 (.seq JJC (.seq (.seq JJD (.block 2 (.loop [0,1,4,5,7,28,29,30,38,39,40] (.seq JJE (.seq (.cond (.tmp 41) (.skip) (.exit 2)) (.seq (.block 3 (.seq JJF (.seq JJG (.cond (.tmp 48) (.seq JJH .ret) (.skip))))) JzQ)))))) (.seq (.seq JzR (.seq JzS (.cond (.tmp 63) (.seq JzT .ret) (.skip)))) (.seq JzU (.seq JzV (.cond (.tmp 73) (.seq JzW .ret) (.skip)))))))) JzX)))))) (.seq (.seq JzY (.block 4 (.loop [0,1,4,5,77,78,79] (.seq JzZ (.seq (.cond (.tmp 80) (.skip) (.exit 4)) (.seq (.block 5 (.seq Jz0 (.seq (.seq Jz1 (.cond (.tmp 85) (.seq Jz2 .ret) (.skip))) (.seq Jz3 (.seq Jz4 (.cond (.tmp 95) (.seq Jz5 .ret) (.skip))))))) Jz6)))))) (.seq (.seq Jz7 (.block 6 (.loop [0,1,4,99,100,101] (.seq Jz8 (.seq (.cond (.tmp 102) (.skip) (.exit 6)) (.seq (.block 7 (.seq Jz9 (.seq JAa (.seq JAb (.cond (.tmp 113) (.seq JAc .ret) (.skip)))))) JAd)))))) (.seq JAe .ret)))))),[.cell 4 (some 2)]⟩
theorem J2h:JK Tryz.prog Tryz.f105 JJI=true:=Ae
def ZP:{l:List IC // Tr.fn Tr.TT Tryz.f106 0 [[0,1,4],[0,1,4,5],[0,4,5,25,26,27],[0,4,5,25,26,27,28],[0,4,5,7,25,26,27],[0,4,5,7,25,26,27,39],[0,4,5,25,26,27,47,48,49],[0,4,5,25,26,27,47,48,49,50],[0,4,5,9,25,26,27,47,48,49],[0,4,5,9,10,11,25,26,27,47,48,49],[0,4,5,9,10,25,26,27,47,48,49,66],[4],[0,4,5,25,26,27,47,48,49,77],[4],[0,4,5,25,26,27,47,48,49],[0,4,5,25,26,27],[4]]=l}:=⟨_,AO⟩
def Jt8:IC:=pk ZP.1 0
def JJJ:IC:=pk ZP.1 1
def JJK:IC:=pk ZP.1 2
def JJL:IC:=pk ZP.1 3
def JJM:IC:=pk ZP.1 4
def JJN:IC:=pk ZP.1 5
def JJO:IC:=pk ZP.1 6
def JJP:IC:=pk ZP.1 7
def JJQ:IC:=pk ZP.1 8
def JJR:IC:=pk ZP.1 9
def JAf:IC:=pk ZP.1 10
def JAg:IC:=pk ZP.1 11
def JAh:IC:=pk ZP.1 12
def JAi:IC:=pk ZP.1 13
def JAj:IC:=pk ZP.1 14
def JAk:IC:=pk ZP.1 15
def JAl:IC:=pk ZP.1 16
def JJS:IFn:=⟨2,(.seq Jt8 (.seq JJJ (.seq (.seq JJK (.block 0 (.loop [0,4,5,25,26,27] (.seq JJL (.seq (.cond (.tmp 28) (.skip) (.exit 0)) (.seq (.block 1 (.seq JJM (.seq (.seq JJN (.cond (.tmp 39) (.exit 1) (.skip))) (.seq JJO (.block 2 (.loop [0,4,5,25,26,27,47,48,49] (.seq JJP (.seq (.cond (.tmp 50) (.skip) (.exit 2)) (.seq (.block 3 (.seq JJQ (.seq JJR (.seq (.seq JAf (.cond (.tmp 66) (.seq JAg .ret) (.skip))) (.seq JAh (.cond (.tmp 77) (.seq JAi .ret) (.skip))))))) JAj))))))))) JAk)))))) (.seq JAl .ret)))),[.cell 4 (some 2)]⟩
theorem J2i:JK Tryz.prog Tryz.f106 JJS=true:=Ae
def JdK:{l:List IC // Tr.fn Tr.TT Tryz.f149 0 [[0,1],[0,1,5],[0,5,6],[0,5,6,19],[0,5,6,7],[0,5,6,7],[0,5,6,7,29],[0,5,6,7],[0,5,6],[4]]=l}:=⟨_,AO⟩
def JJT:IC:=pk JdK.1 0
def JJU:IC:=pk JdK.1 1
def JJV:IC:=pk JdK.1 2
def JJW:IC:=pk JdK.1 3
def JJX:IC:=pk JdK.1 4
def JJY:IC:=pk JdK.1 5
def JJZ:IC:=pk JdK.1 6
def JJ0:IC:=pk JdK.1 7
def JJ1:IC:=pk JdK.1 8
def JJ2:IC:=pk JdK.1 9
def JAm:IFn:=⟨2,(.seq JJT (.seq JJU (.seq JJV (.seq (.block 0 (.loop [0,5,6] (.seq (.seq JJW (.cond (.tmp 19) (.skip) (.exit 0))) (.block 1 (.seq JJX (.seq JJY (.seq JJZ (.cond (.tmp 29) (.seq JJ0 JJ1) (.skip))))))))) (.seq JJ2 .ret))))),[.tmp 4]⟩
theorem J2j:JK Tryz.prog Tryz.f149 JAm=true:=Ae
def JfR:{l:List IC // Tr.fn Tr.TT Tryz.f20 0 [[0,3,4],[0,3,4,12],[0,3,4,6],[0,3,4,24],[4],[0,4,29,30,31],[0,4,29,30,31,32],[0,4,8,29,30,31],[0,4,9,29,30,31],[0,4,9,29,30,31,40],[4],[0,4,29,30,31],[4]]=l}:=⟨_,AO⟩
def JDZ:IC:=pk JfR.1 0
def JUy:IC:=pk JfR.1 1
def JUz:IC:=pk JfR.1 2
def JUA:IC:=pk JfR.1 3
def JUB:IC:=pk JfR.1 4
def JUC:IC:=pk JfR.1 5
def JUD:IC:=pk JfR.1 6
def JUE:IC:=pk JfR.1 7
def JUF:IC:=pk JfR.1 8
def JUG:IC:=pk JfR.1 9
def JJ3:IC:=pk JfR.1 10
def JJ4:IC:=pk JfR.1 11
def JJ5:IC:=pk JfR.1 12
def i20:IFn:=⟨2,(.seq JDZ (.seq (.seq JUy (.cond (.tmp 12) (.seq JUz (.seq JUA (.cond (.tmp 24) (.seq JUB .ret) (.skip)))) (.skip))) (.seq (.seq JUC (.block 0 (.loop [0,4,29,30,31] (.seq JUD (.seq (.cond (.tmp 32) (.skip) (.exit 0)) (.seq (.block 1 (.seq JUE (.seq JUF (.seq JUG (.cond (.tmp 40) (.seq JJ3 .ret) (.skip)))))) JJ4)))))) (.seq JJ5 .ret)))),[.cell 4 (some 2)]⟩
theorem c20:JK Tryz.prog Tryz.f20 i20=true:=Ae
def JaD:{l:List IC // Tr.fn Tr.TT Tryz.f150 0 [[0,1,4],[0,1,4,10,11,12],[0,1,4,10,11,12,13],[0,1,4,5,6,10,11,12],[0,1,4,6,10,11,12,19,20,21],[0,1,4,6,10,11,12,19,20,21,22],[0,1,4,6,8,10,11,12,19,20,21],[0,1,4,6,10,11,12,19,20,21,29],[4],[0,1,4,6,10,11,12,19,20,21],[0,1,4,9,10,11,12],[0,1,4,9,10,11,12,40],[4],[0,1,4,10,11,12],[4]]=l}:=⟨_,AO⟩
def Jt9:IC:=pk JaD.1 0
def JJ6:IC:=pk JaD.1 1
def JJ7:IC:=pk JaD.1 2
def JJ8:IC:=pk JaD.1 3
def JJ9:IC:=pk JaD.1 4
def JKa:IC:=pk JaD.1 5
def JKb:IC:=pk JaD.1 6
def JKc:IC:=pk JaD.1 7
def JKd:IC:=pk JaD.1 8
def JKe:IC:=pk JaD.1 9
def JAn:IC:=pk JaD.1 10
def JAo:IC:=pk JaD.1 11
def JAp:IC:=pk JaD.1 12
def JAq:IC:=pk JaD.1 13
def JAr:IC:=pk JaD.1 14
def JKf:IFn:=⟨2,(.seq Jt9 (.seq (.seq JJ6 (.block 0 (.loop [0,1,4,10,11,12] (.seq JJ7 (.seq (.cond (.tmp 13) (.skip) (.exit 0)) (.seq (.block 1 (.seq JJ8 (.seq (.seq JJ9 (.block 2 (.loop [0,1,4,6,10,11,12,19,20,21] (.seq JKa (.seq (.cond (.tmp 22) (.skip) (.exit 2)) (.seq (.block 3 (.seq JKb (.seq JKc (.cond (.tmp 29) (.seq JKd .ret) (.skip))))) JKe)))))) (.seq JAn (.seq JAo (.cond (.tmp 40) (.seq JAp .ret) (.skip))))))) JAq)))))) (.seq JAr .ret))),[.cell 4 (some 2)]⟩
theorem J2l:JK Tryz.prog Tryz.f150 JKf=true:=Ae
def Yv:{l:List IC // Tr.fn Tr.TT Tryz.f151 0 [[0,1,2,7,8],[0,1,2,7,8,9],[0,1,2,7,8,9,24],[8],[0,1,2,7,8,10],[0,1,2,7,8,10,32],[8],[0,1,2,7,8,11],[0,1,7,8,11,48,49,50],[0,1,7,8,11,48,49,50,51],[0,1,7,8,11,13,48,49,50],[0,1,7,8,11,48,49,50,60],[8],[0,1,7,8,11,48,49,50],[0,7,8,11,71,72,73],[0,7,8,11,71,72,73,74],[0,7,8,11,15,71,72,73],[0,7,8,11,16,17,71,72,73],[0,7,8,11,71,72,73,93],[8],[0,7,8,11,71,72,73],[8]]=l}:=⟨_,AO⟩
def Jua:IC:=pk Yv.1 0
def JKg:IC:=pk Yv.1 1
def JKh:IC:=pk Yv.1 2
def JKi:IC:=pk Yv.1 3
def JKj:IC:=pk Yv.1 4
def JKk:IC:=pk Yv.1 5
def JKl:IC:=pk Yv.1 6
def JKm:IC:=pk Yv.1 7
def JKn:IC:=pk Yv.1 8
def JKo:IC:=pk Yv.1 9
def JAs:IC:=pk Yv.1 10
def JAt:IC:=pk Yv.1 11
def JAu:IC:=pk Yv.1 12
def JAv:IC:=pk Yv.1 13
def JAw:IC:=pk Yv.1 14
def JAx:IC:=pk Yv.1 15
def JAy:IC:=pk Yv.1 16
def JAz:IC:=pk Yv.1 17
def JAA:IC:=pk Yv.1 18
def JAB:IC:=pk Yv.1 19
def JAC:IC:=pk Yv.1 20
def JAD:IC:=pk Yv.1 21
def JKp:IFn:=⟨4,(.seq Jua (.seq (.seq JKg (.seq JKh (.cond (.tmp 24) (.seq JKi .ret) (.skip)))) (.seq (.seq JKj (.seq JKk (.cond (.tmp 32) (.seq JKl .ret) (.skip)))) (.seq JKm (.seq (.seq JKn (.block 0 (.loop [0,1,7,8,11,48,49,50] (.seq JKo (.seq (.cond (.tmp 51) (.skip) (.exit 0)) (.seq (.block 1 (.seq JAs (.seq JAt (.cond (.tmp 60) (.seq JAu .ret) (.skip))))) JAv)))))) (.seq (.seq JAw (.block 2 (.loop [0,7,8,11,71,72,73] (.seq JAx (.seq (.cond (.tmp 74) (.skip) (.exit 2)) (.seq (.block 3 (.seq JAy (.seq JAz (.seq JAA (.cond (.tmp 93) (.seq JAB .ret) (.skip)))))) JAC)))))) (.seq JAD .ret))))))),[.cell 8 (some 2)]⟩
theorem J2m:JK Tryz.prog Tryz.f151 JKp=true:=Ae
def Jnu:{l:List IC // Tr.fn Tr.TT Tryz.f65 0 [[0,1,2,6],[2,6,17,18,19],[2,6,17,18,19,20],[2,6,9,17,18,19],[2,6,9,17,18,19,29],[6,7],[2,6,17,18,19],[6,7]]=l}:=⟨_,AO⟩
def JD0:IC:=pk Jnu.1 0
def JUH:IC:=pk Jnu.1 1
def JUI:IC:=pk Jnu.1 2
def JUJ:IC:=pk Jnu.1 3
def JUK:IC:=pk Jnu.1 4
def JUL:IC:=pk Jnu.1 5
def JUM:IC:=pk Jnu.1 6
def JUN:IC:=pk Jnu.1 7
def i65:IFn:=⟨3,(.seq JD0 (.seq (.seq JUH (.block 0 (.loop [2,6,17,18,19] (.seq JUI (.seq (.cond (.tmp 20) (.skip) (.exit 0)) (.seq (.block 1 (.seq JUJ (.seq JUK (.cond (.tmp 29) (.seq JUL .ret) (.skip))))) JUM)))))) (.seq JUN .ret))),[.cell 6 (some 11),.tmp 7]⟩
theorem c65:JK Tryz.prog Tryz.f65 i65=true:=Ae
def Jhe:{l:List IC // Tr.fn Tr.TT Tryz.f30 0 [[0,1,2,6],[0,2,6,15,16,17],[0,2,6,15,16,17,18],[0,2,6,10,15,16,17],[0,2,6,10,15,16,17,28,29,30],[0,2,6,10,15,16,17,28,29,30,31],[0,2,6,10,12,15,16,17,28,29,30],[0,2,6,10,12,15,16,17,28,29,30,37],[6,7,8],[0,2,6,10,15,16,17,28,29,30],[0,2,6,15,16,17],[6,7,8]]=l}:=⟨_,AO⟩
def JD1:IC:=pk Jhe.1 0
def JUO:IC:=pk Jhe.1 1
def JUP:IC:=pk Jhe.1 2
def JUQ:IC:=pk Jhe.1 3
def JUR:IC:=pk Jhe.1 4
def JUS:IC:=pk Jhe.1 5
def JUT:IC:=pk Jhe.1 6
def JUU:IC:=pk Jhe.1 7
def JUV:IC:=pk Jhe.1 8
def JUW:IC:=pk Jhe.1 9
def JKq:IC:=pk Jhe.1 10
def JKr:IC:=pk Jhe.1 11
def i30:IFn:=⟨3,(.seq JD1 (.seq (.seq JUO (.block 0 (.loop [0,2,6,15,16,17] (.seq JUP (.seq (.cond (.tmp 18) (.skip) (.exit 0)) (.seq (.block 1 (.seq JUQ (.seq JUR (.block 2 (.loop [0,2,6,10,15,16,17,28,29,30] (.seq JUS (.seq (.cond (.tmp 31) (.skip) (.exit 2)) (.seq (.block 3 (.seq JUT (.seq JUU (.cond (.tmp 37) (.seq JUV .ret) (.skip))))) JUW)))))))) JKq)))))) (.seq JKr .ret))),[.cell 6 (some 9),.tmp 7,.tmp 8]⟩
theorem c30:JK Tryz.prog Tryz.f30 i30=true:=Ae
def Jpk:{l:List IC // Tr.fn Tr.TT Tryz.f66 0 [[0,1],[0,1,5],[0,5,6,7],[0,5,6,17],[0,5,6],[0,5,6,7],[4]]=l}:=⟨_,AO⟩
def JUX:IC:=pk Jpk.1 0
def JUY:IC:=pk Jpk.1 1
def JUZ:IC:=pk Jpk.1 2
def Jub:IC:=pk Jpk.1 3
def Juc:IC:=pk Jpk.1 4
def Jud:IC:=pk Jpk.1 5
def Jue:IC:=pk Jpk.1 6
def i66:IFn:=⟨2,(.seq JUX (.seq JUY (.seq (.seq JUZ (.block 0 (.loop [0,5,6,7] (.seq (.seq Jub (.cond (.tmp 17) (.skip) (.exit 0))) (.seq (.block 1 Juc) Jud))))) (.seq Jue .ret)))),[.tmp 4]⟩
theorem c66:JK Tryz.prog Tryz.f66 i66=true:=Ae
def JlM:{l:List IC // Tr.fn Tr.TT Tryz.f26 0 [[0,1,2,6],[0,2,6,14,15,16],[0,2,6,14,15,16,17],[0,2,6,9,14,15,16],[0,2,6,9,10,11,14,15,16],[0,2,6,9,10,14,15,16,27],[6,7],[0,2,6,14,15,16],[6,7]]=l}:=⟨_,AO⟩
def JD2:IC:=pk JlM.1 0
def JU0:IC:=pk JlM.1 1
def JU1:IC:=pk JlM.1 2
def JU2:IC:=pk JlM.1 3
def JU3:IC:=pk JlM.1 4
def JU4:IC:=pk JlM.1 5
def JU5:IC:=pk JlM.1 6
def JU6:IC:=pk JlM.1 7
def JU7:IC:=pk JlM.1 8
def i26:IFn:=⟨3,(.seq JD2 (.seq (.seq JU0 (.block 0 (.loop [0,2,6,14,15,16] (.seq JU1 (.seq (.cond (.tmp 17) (.skip) (.exit 0)) (.seq (.block 1 (.seq JU2 (.seq JU3 (.seq JU4 (.cond (.tmp 27) (.seq JU5 .ret) (.skip)))))) JU6)))))) (.seq JU7 .ret))),[.cell 6 (some 13),.tmp 7]⟩
theorem c26:JK Tryz.prog Tryz.f26 i26=true:=Ae
def Jpl:{l:List IC // Tr.fn Tr.TT Tryz.f64 0 [[0,1],[0,1,5,6],[0,1,5,17],[4],[0,1,5,25],[4],[4]]=l}:=⟨_,AO⟩
def JU8:IC:=pk Jpl.1 0
def JU9:IC:=pk Jpl.1 1
def JVa:IC:=pk Jpl.1 2
def JVb:IC:=pk Jpl.1 3
def JVc:IC:=pk Jpl.1 4
def JVd:IC:=pk Jpl.1 5
def JVe:IC:=pk Jpl.1 6
def Juf:IFn:=⟨2,(.seq JU8 (.seq JU9 (.seq (.seq JVa (.cond (.tmp 17) (.seq JVb .ret) (.skip))) (.seq (.seq JVc (.cond (.tmp 25) (.seq JVd .ret) (.skip))) (.seq JVe .ret))))),[.tmp 4]⟩
theorem c64:JK Tryz.prog Tryz.f64 Juf=true:=Ae
def Jd9:{l:List IC // Tr.fn Tr.TT Tryz.f15 0 [[1],[1,4],[1,4,5],[2],[1,4,7],[2],[1,4,9],[2],[1,4,13],[1,18],[2],[2],[25],[2],[2]]=l}:=⟨_,AO⟩
def JD3:IC:=pk Jd9.1 0
def JVf:IC:=pk Jd9.1 1
def JVg:IC:=pk Jd9.1 2
def JVh:IC:=pk Jd9.1 3
def JVi:IC:=pk Jd9.1 4
def JVj:IC:=pk Jd9.1 5
def JVk:IC:=pk Jd9.1 6
def JVl:IC:=pk Jd9.1 7
def JVm:IC:=pk Jd9.1 8
def JVn:IC:=pk Jd9.1 9
def JKs:IC:=pk Jd9.1 10
def JKt:IC:=pk Jd9.1 11
def JKu:IC:=pk Jd9.1 12
def JKv:IC:=pk Jd9.1 13
def JKw:IC:=pk Jd9.1 14
def i15:IFn:=⟨1,(.seq JD3 (.seq (.seq JVf (.block 0 (.seq JVg (.cond (.tmp 5) (.seq JVh .ret) (.seq JVi (.cond (.tmp 7) (.seq JVj .ret) (.seq JVk (.cond (.tmp 9) (.seq JVl .ret) (.seq JVm (.cond (.tmp 13) (.seq (.seq JVn (.cond (.tmp 18) (.seq JKs .ret) (.skip))) (.seq JKt .ret)) (.seq JKu (.cond (.tmp 25) (.seq JKv .ret) (.skip))))))))))))) (.seq JKw .ret))),[.tmp 2]⟩
theorem c15:JK Tryz.prog Tryz.f15 i15=true:=Ae
def Jnv:{l:List IC // Tr.fn Tr.TT Tryz.f17 0 [[0,1],[0,1,5],[0,5,8,9,10],[0,5,8,9,10,11],[0,5,7,8,9,10],[0,5,8,9,10],[0,5,8,9,10],[4]]=l}:=⟨_,AO⟩
def JVo:IC:=pk Jnv.1 0
def JVp:IC:=pk Jnv.1 1
def JVq:IC:=pk Jnv.1 2
def JVr:IC:=pk Jnv.1 3
def JVs:IC:=pk Jnv.1 4
def JVt:IC:=pk Jnv.1 5
def JVu:IC:=pk Jnv.1 6
def JVv:IC:=pk Jnv.1 7
def i17:IFn:=⟨2,(.seq JVo (.seq JVp (.seq (.seq JVq (.block 0 (.loop [0,5,8,9,10] (.seq JVr (.seq (.cond (.tmp 11) (.skip) (.exit 0)) (.seq (.block 1 (.seq JVs JVt)) JVu)))))) (.seq JVv .ret)))),[.tmp 4]⟩
theorem c17:JK Tryz.prog Tryz.f17 i17=true:=Ae
def Jah:{l:List IC // Tr.fn Tr.TT Tryz.f55 0 [[1,3],[3,4],[3,4,25,26,27],[3,4,25,26,27,28],[3,4,6,25,26,27],[3,4,7,25,26,27],[3,4,7,25,26,27,35],[2,3],[3,4,25,26,27],[3,4],[3,4,44,45],[3,4,44,45,46],[3,4,8,44,45],[3,4,9,44,45],[3,4,9,44,45,53],[2,3],[3,4,44,45],[3,4,60,61],[3,4,60,61,62],[3,4,10,60,61],[3,4,11,60,61],[3,4,11,60,61,69],[2,3],[3,4,60,61],[2,3]]=l}:=⟨_,AO⟩
def JD4:IC:=pk Jah.1 0
def JVw:IC:=pk Jah.1 1
def JVx:IC:=pk Jah.1 3
def JVy:IC:=pk Jah.1 4
def JVz:IC:=pk Jah.1 5
def JVA:IC:=pk Jah.1 6
def JVB:IC:=pk Jah.1 7
def JVC:IC:=pk Jah.1 8
def JVD:IC:=pk Jah.1 9
def JKx:IC:=pk Jah.1 10
def JKy:IC:=pk Jah.1 11
def JKz:IC:=pk Jah.1 12
def JKA:IC:=pk Jah.1 13
def JKB:IC:=pk Jah.1 14
def JKC:IC:=pk Jah.1 15
def JKD:IC:=pk Jah.1 16
def JKE:IC:=pk Jah.1 17
def JKF:IC:=pk Jah.1 18
def JKG:IC:=pk Jah.1 19
def JKH:IC:=pk Jah.1 20
def JKI:IC:=pk Jah.1 21
def JKJ:IC:=pk Jah.1 22
def JKK:IC:=pk Jah.1 23
def JKL:IC:=pk Jah.1 24
structure LibC(pr:Jz)(F:Nat->Option IFn):Prop extends LibS pr F where
 f19:QG pr F 19 i19
structure ReadOut where
 p:Prg
 ok:Bool
 rw:List Nat
def ReadOut.good(rw:List Nat)(o:ReadOut):Prop:=Rx rw o.rw/\(o.ok=true->JdG o.p/\o.p.classes.length<=70/\wL Xx o.p.classes+Qj o.p.main<=64800000)
theorem JZ{H M:List Blk}{z b:Blk}:(hp (H++[z]) H.length b M).take H.length=H:=by unfold hp;rw[Dt];simp[D1]
theorem Jbk{kd:Nat}{H M:List Blk}{z:Blk}{vs:List AV}(hv:Row kd vs):J9 (some kd) (.ptr H.length 0) (hp (H++[z]) H.length (.cells vs) M)=some (.agg vs):=by have e1:(hp (H++[z]) H.length (.cells vs) M)[H.length]? = some (.cells vs):=Kh Ag;have:=hv.load;simp only[J9,e1];simpa only[J9,Am] using this
def Jug:{l:List IC // Tr.fn Tr.TT Tryz.f41 0 [[0,2],[0,2,9],[2,3],[2,4,5],[2,3]]=l}:=⟨_,AO⟩
def JD5:IC:=pk Jug.1 0
def JVE:IC:=pk Jug.1 1
def JVF:IC:=pk Jug.1 2
def JVG:IC:=pk Jug.1 3
def JVH:IC:=pk Jug.1 4
def i41:IFn:=⟨1,(.seq JD5 (.seq (.seq JVE (.cond (.tmp 9) (.seq JVF .ret) (.skip))) (.seq JVG (.seq JVH .ret)))),[.cell 2 (some 2),.tmp 3]⟩
theorem c41:JK Tryz.prog Tryz.f41 i41=true:=Ae
def F9a:{l:List IC // Tr.fn Tr.TT Tryz.f9 0 [[0],[0,19],[2],[3,4],[3,26],[2],[5,6,7],[5,6,35],[2],[5,6,8],[5,6,8,40],[5,6,8,9],[5,6,8,9,51],[5,6,8,9,66],[2],[5,6,8,9],[5,6,8,10],[5,6,8,10,75],[5,6,8,10,90],[2],[5,6,8,10],[5,6,8,11],[5,6,8,11,95],[5,6,8,11,12,13],[5,6,8,11,12,13,14],[5,6,8,11,12,13,14,15],[5,6,8,11,12,13,14,15,122],[5,6,8,11,12,13,14,15,17],[5,6,8,11,12,13,14,15,137],[2],[5,6,8,11,12,13,14,15],[5,6,8,11]]=l}:=⟨_,AO⟩
def J2t:IC:=pk F9a.1 0
def J2u:IC:=pk F9a.1 1
def J2v:IC:=pk F9a.1 2
def JV0:IC:=pk F9a.1 3
def J2w:IC:=pk F9a.1 4
def J2x:IC:=pk F9a.1 5
def J2y:IC:=pk F9a.1 6
def J2z:IC:=pk F9a.1 7
def J2A:IC:=pk F9a.1 8
def J2B:IC:=pk F9a.1 9
def JV1:IC:=pk F9a.1 10
def JV2:IC:=pk F9a.1 11
def JV3:IC:=pk F9a.1 12
def JV4:IC:=pk F9a.1 13
def JV5:IC:=pk F9a.1 14
def JV6:IC:=pk F9a.1 15
def JV7:IC:=pk F9a.1 16
def JV8:IC:=pk F9a.1 17
def JV9:IC:=pk F9a.1 18
def JWa:IC:=pk F9a.1 19
def JWb:IC:=pk F9a.1 20
def JWc:IC:=pk F9a.1 21
def JWd:IC:=pk F9a.1 22
def JWe:IC:=pk F9a.1 23
def JWf:IC:=pk F9a.1 24
def JWg:IC:=pk F9a.1 25
def JWh:IC:=pk F9a.1 26
def JWi:IC:=pk F9a.1 27
def JWj:IC:=pk F9a.1 28
def JWk:IC:=pk F9a.1 29
def JWl:IC:=pk F9a.1 30
def JWm:IC:=pk F9a.1 31
def F9b:{l:List IC // Tr.fn Tr.TT Tryz.f9 32 [[5,6,8],[2]]=l}:=⟨_,AO⟩
def JWn:IC:=pk F9b.1 0
def JWo:IC:=pk F9b.1 1
def i9:IFn:=⟨1,(.seq J2t (.seq (.seq J2u (.cond (.tmp 19) (.seq J2v .ret) (.skip))) (.seq JV0 (.seq (.seq J2w (.cond (.tmp 26) (.seq J2x .ret) (.skip))) (.seq J2y (.seq (.seq J2z (.cond (.tmp 35) (.seq J2A .ret) (.skip))) (.seq (.seq J2B (.block 0 (.loop [5,6,8] (.seq (.seq JV1 (.cond (.tmp 40) (.skip) (.exit 0))) (.seq (.block 1 (.seq (.seq JV2 (.block 2 (.loop [5,6,8,9] (.seq (.seq JV3 (.cond (.tmp 51) (.skip) (.exit 2))) (.seq (.block 3 (.seq JV4 (.cond (.tmp 66) (.seq JV5 .ret) (.skip)))) JV6))))) (.seq (.seq JV7 (.block 4 (.loop [5,6,8,10] (.seq (.seq JV8 (.cond (.tmp 75) (.skip) (.exit 4))) (.seq (.block 5 (.seq JV9 (.cond (.tmp 90) (.seq JWa .ret) (.skip)))) JWb))))) (.seq JWc (.block 6 (.loop [5,6,8,11] (.seq (.seq JWd (.cond (.tmp 95) (.skip) (.exit 6))) (.seq (.block 7 (.seq JWe (.seq JWf (.seq JWg (.block 8 (.loop [5,6,8,11,12,13,14,15] (.seq (.seq JWh (.cond (.tmp 122) (.skip) (.exit 8))) (.seq (.block 9 (.seq JWi (.seq JWj (.cond (.tmp 137) (.seq JWk .ret) (.skip))))) JWl)))))))) JWm)))))))) JWn))))) (.seq JWo .ret)))))))),[.tmp 2]⟩
theorem c9:JK Tryz.prog Tryz.f9 i9=true:=Ae
structure ReadOut3 where
 p:Prg
 ok:Bool
 rw:List Nat
def ReadOut3.good(x:Jk)(rw:List Nat)(o:ReadOut3):Prop:=Rx rw o.rw/\(o.ok=true->JdG o.p/\o.p.classes.length<=30/\wL Xx o.p.classes+Qj o.p.main<=64791900/\x.length<=8000)
theorem Jdm{x:Jk}{H H1 M:List Blk}{rw rw':List Nat}{p:Prg}{z:Blk}{vs:List AV}{c:Bool}(hH:H1=H++[z])(hv:vs=JU p)(hg:ReadOut3.good x rw ⟨p,c,rw'⟩) :
  fin [.cell 2 (some 2),.tmp 3] H.length (λr S'=>∃ o:ReadOut3,o.good x rw/\r=.ret (.tup [.agg (JU o.p),.bool o.ok])/\S'=⟨H,o.rw⟩) .ret [(2,.ptr H.length 0),(3,.bool c)] ⟨hp H1 H.length (.cells vs) M,rw'⟩:=by
 subst hH hv;have e2:QT [.cell 2 (some 2),.tmp 3] [(2,.ptr H.length 0),(3,.bool c)] (hp (H++[z]) H.length (.cells (JU p)) M)=some [.agg (JU p),.bool c]:=by show(match J9 (some 2) (.ptr H.length 0) (hp (H++[z]) H.length (.cells (JU p)) M)with |some v=>_ |none=>_)=_;rw[Jbk (QM p)];first |done |rfl
 refine X7 e2 ?_ JZ ⟨⟨p,c,rw'⟩,hg,rfl,rfl⟩;have this:Ai.belowL H.length (JU p)=true:=(QM p).below H.length;simp only[Ai.belowL,this,Ai.below,A0]
theorem ED{Q:Prop}(h:Q:=by simp at h):Q:=h
theorem JiG(L:LibS pr F)(h41:QG pr F 41 i41)(H:List Blk)(rw:List Nat)(x:Jk):∃ o:ReadOut3,o.good x rw/\Det pr F 41 [.str x] ⟨H,rw⟩ (.ret (.tup [.agg (JU o.p),.bool o.ok])) ⟨H,o.rw⟩:=by
 have hm:=L.hm;suffices h:Wp pr F 41 [.str x] ⟨H,rw⟩ λr S'=>∃ o:ReadOut3,o.good x rw/\r=.ret (.tup [.agg (JU o.p),.bool o.ok])/\S'=⟨H,o.rw⟩ by obtain⟨r,S',hd,x,hp,rfl,rfl⟩:=h.det hm;exact⟨x,hp,hd⟩
 refine Jt hm h41.1 h41.2 rfl ?_;refine' VO;obtain⟨H1,hH1⟩:∃ H1,H1=H++[Blk.cells [.list 0 .full [],.list 0 .full []]]:=⟨_,rfl⟩
 have hlen:H1.length=H.length+1:=by rw[hH1];simp
 have hlt:H.length<H1.length:=O;have hget:hp H1 H.length (.cells [.list 0 .full [],.list 0 .full []]) []=H++[Blk.cells [.list 0 .full [],.list 0 .full []]]:=by subst hH1;simp[hp]
 unfold JD5;show At pr F H.length (fin _ H.length _) _ _ _ _;refine Xe hm (H:=hp H1 H.length (.cells [.list 0 .full [],.list 0 .full []]) []) (by rw[hget];rfl) rfl ?_;refine Jbh ?_;refine Kj (q:=H.length) rfl rfl (Kh hlt) ?_;have hR:Rx rw rw:=Rx.rfl;refine' hG
 ·refine Vh ?_;refine VG rfl rfl rfl ?_;refine s_n hlt (Ao _) rfl rfl rfl ?_;refine K7 ?_;refine' hG;exact Jdm (p:=⟨[],[]⟩) hH1 Dx ⟨hR,λh=>absurd h Ag⟩
 ·obtain⟨o,⟨hR1,hg1,hg2⟩,hdet⟩:=Jns L (hp H1 H.length (.cells [.list 0 .full [],.list 0 .full []]) [.cells [.list 0 .full [],.list 0 .full []]]) rw x O;obtain⟨p,oc,oa,rw1⟩:=o;obtain⟨z,tg,hz,-,-⟩:=YM (sz:=9) (rows:=p.classes.map Jc);simp only[JU,hz]at hR1 hg1 hg2 hdet;have hcan:Jh [.list z tg (p.classes.map Jc),Kp 7 (Jg p.main)]=JU p:=by rw[<- hz];exact(QM p).can
  have hlm:(p.classes.map Jc).length=p.classes.length:=Ak _;refine Je rfl rfl rfl ?_;refine⟨_,_,hdet,?_⟩;replace hR:=hR.trans hR1;refine K7 ?_;refine' hG;all_goals refine Vh ?_
  all_goals refine VG rfl rfl rfl ?_
  all_goals refine s_n hlt (Ao _) rfl rfl rfl ?_
  ·refine K7 ?_;refine' hG;exact Jdm hH1 hcan ⟨hR,λ_=>⟨(hg1 Aa).1,Bd,(hg1 Aa).2.2,O⟩⟩
  ·refine K7 ?_;refine' hG;exact Jdm hH1 hcan ⟨hR,λh=>ED⟩
  ·refine K7 ?_;refine' hG;exact Jdm hH1 hcan ⟨hR,λh=>ED⟩
def J6:List Cls->Jk->Option Nat
 | [],_=>none
 | c::cs,s=>if c.name=s then some 0 else(J6 cs s).map (·+1)
def VJ:Nat->List Cls->List (Jk×AV)
 | _,[]=>[]
 | k,c::cs=>(c.name,.int .i64 (k:Int))::VJ (k+1) cs
theorem Jnw(cs:List Cls)(s:Jk):∀ k,Vn (VJ k cs) s=(J6 cs s).map λi=>.int .i64 ((k+i:Nat):Int):=by
 induction cs with
 | nil=>intro k;rfl
 | cons c cs ih=>
  intro k;simp only[VJ,Vn,J6];split
  ·rfl
  ·rw[ih];cases J6 cs s with
   | none=>rfl
   | some i=>simp only[A9];congr 2;omega
theorem ZF(cs:List Cls)(s:Jk):Vn (VJ 0 cs) s=(J6 cs s).map λi=>.int .i64 ((i:Nat):Int):=by rw[Jnw];simp
theorem Xf{s:Jk}:∀{cs:List Cls} {i:Nat},J6 cs s=some i->∃ c,cs[i]? = some c/\c.name=s:=by
 intro cs;induction cs with
 | nil=>intro i h;simp[J6]at h
 | cons c cs ih=>
  intro i h;simp only[J6]at h;split at h
  ·rename_i hc;simp only[V]at h;subst h;exact⟨c,rfl,hc⟩
  ·cases hp:J6 cs s with
   | none=>rw[hp]at h;simp at h
   | some j=>rw[hp]at h;simp only[A9,V]at h;subst h;obtain⟨d,h1,h2⟩:=ih hp;exact⟨d,by simpa using h1,h2⟩
theorem Juh{v:AV}{s:Jk}:∀{es:List (Jk×AV)},Vn es s=none->ZM es s v=es++[(s,v)]:=by
 intro es;induction es with
 | nil=>intro _;rfl
 | cons p es ih=>
  obtain⟨a,b⟩:=p;intro h;simp only[Vn]at h;split at h
  ·simp at h
  ·rename_i hne;simp only[ZM];rw[if_neg hne,ih h];rfl
theorem JlN(c:Cls):∀(a:List Cls) (k:Nat),VJ k (a++[c])=VJ k a++[(c.name,.int .i64 ((k+a.length:Nat):Int))]:=by
 intro a;induction a with
 | nil=>intro k;simp[VJ]
 | cons x a ih=>intro k;simp only[Aw,VJ,ih,Ad];rw[show k+1+a.length=k+(a.length+1) by omega]
theorem JlO(c:Cls)(s:Jk):∀(a:List Cls),J6 (a++[c]) s=match J6 a s with |some i=>some i |none=>if c.name=s then some a.length else none:=by
 intro a;induction a with
 | nil=>simp[J6]
 | cons x a ih=>
  simp only[Aw,J6,ih];split
  ·rfl
  ·cases J6 a s with
   | some i=>rfl
   | none=>simp only[B4,Ad];split <;> rfl
def Unlike(cs:List Cls):Prop:=∀ i c,cs[i]? = some c->J6 cs c.name=some i
theorem Unlike.nil:Unlike []:=λi c h=>ED
theorem Unlike.snoc{a:List Cls}{c:Cls}(h:Unlike a)(hc:J6 a c.name=none):Unlike (a++[c]):=by
 intro i d hd;rw[JlO];by_cases hi:i<a.length
 ·rw[AZ hi]at hd;rw[h i d hd]
 ·rw[B9 O]at hd;have h0:i-a.length=0:=by
   by_cases h0:i-a.length=0
   ·exact h0
   ·rw[A5 AR]at hd;simp at hd
  rw[h0]at hd;simp only[Am,V]at hd;subst hd;rw[hc];simp only[if_true]
  congr 1;omega
theorem QW{α:Type}{l:List α}{i:Nat}{x:α}(h:l[i]? = some x):l.take (i+1)=l.take i++[x]:=by rw[List.take_add_one,h];rfl
def JiH(cs:List Cls)(c:Cls):Prop:=
 (c.super≠[]->∃ k d,J6 cs c.super=some k/\cs[k]? = some d/\d.iface=false)/\∀ a∈c.above,∃ k d,J6 cs a=some k/\cs[k]? = some d/\d.iface=true
def YA(cs:List Cls):Prop:=∀ c∈cs,JiH cs c
def Jpn(cs:List Cls)(c:Cls):List Nat:=(if c.super=[] then [] else [(J6 cs c.super).getD 0])++c.above.map λa=>(J6 cs a).getD 0
def nxt(cs:List Cls)(i:Nat):List Nat:=match cs[i]? with
 | some c=>Jpn cs c
 | none=>[]
inductive Up(cs:List Cls)(i:Nat):Nat->Prop
 | one {k:Nat} (h:k∈nxt cs i):Up cs i k
 | more {j k:Nat} (h:Up cs i j) (hk:k∈nxt cs j):Up cs i k
theorem Up.trans{cs:List Cls}{i j k:Nat}(h:Up cs i j)(h':Up cs j k):Up cs i k:=by
 induction h' with
 | one h1=>exact .more h h1
 | more _ h2 ih=>exact .more ih h2
theorem Jui{cs:List Cls}(h:YA cs){i k:Nat}(hk:k∈nxt cs i):k<cs.length:=by
 unfold nxt at hk;split at hk
 ·rename_i c hc;obtain⟨h1,h2⟩:=h c (Aq hc);rcases AM.1 hk with hk |hk
  ·split at hk
   ·simp at hk
   ·rename_i hs;obtain⟨j,d,hj,hd,-⟩:=h1 hs;simp only[AN]at hk;rw[hj]at hk;simp only[Bc]at hk;subst hk;exact(Ac.1 hd).1
  ·obtain⟨a,ha,rfl⟩:=Bw.1 hk;obtain⟨j,d,hj,hd,-⟩:=h2 a ha;rw[hj];exact(Ac.1 hd).1
 ·simp at hk
theorem JiI{cs:List Cls}(h:YA cs){i k:Nat}(hk:Up cs i k):k<cs.length:=by
 cases hk with
 | one h1=>exact Jui h h1
 | more _ h1=>exact Jui h h1
def JbM(op name:Jk)(args:List Xp)(ty:List Ty):Prop:=
 (op=[110,117,109]/\args=[]/\∀ c,name[0]? = some c->K8 c.toNat=2)\/(op=[118,97,114]/\args=[]/\True) \/
 ((op=[116,114,117,101]\/op=[102,97,108,115,101]\/op=[110,117,108,108]\/op=[116,104,105,115]\/op=[114,101,97,100])/\args=[]/\name=[]) \/
 (op=[108,101,110]/\(∃ a,args=[a])/\name=[])\/(op=[110,101,119]/\Nm name)\/(op=[108,105,115,116]/\(∃ a b,args=[a,b])/\(∃ t,ty=[t])/\name=[]) \/
 (op=[102,105,101,108,100]/\(∃ a,args=[a])/\Nm name)\/(op=[99,97,108,108]/\(∃ a l,args=a::l)/\Nm name)\/(op=[105,110,100,101,120]/\(∃ a b,args=[a,b])/\name=[]) \/
 ((op=[110,101,103]\/op=[110,111,116])/\(∃ a,args=[a])/\name=[])\/(0<=KO op/\(∃ a b,args=[a,b])/\name=[])
mutual
def Vg:Ty->Prop
 | .mk kind name null K5 pred _=>((kind=1/\K5=[]/\name=[]/\null=false)\/(kind=2/\K5=[]/\name=[]/\null=false)\/(kind=3/\K5=[]/\Nm name)\/(kind=4/\name=[]/\∃ t,K5=[t]))/\pred.length<=1/\XX K5/\KP pred
def XX:List Ty->Prop
 | []=>True
 | t::ts=>Vg t/\XX ts
def Q7:Xp->Prop
 | .mk op name args ty _=>JbM op name args ty/\KP args/\(op=[108,105,115,116]->XX ty)
def KP:List Xp->Prop
 | []=>True
 | x::xs=>Q7 x/\KP xs
end
def JjS(op:Jk)(ty:List Ty):Prop:=op=[108,105,115,116]->XX ty
def Jku(p:Par):Prop:=Nm p.name/\Vg p.type
def Juj(p:Fld):Prop:=Nm p.name/\Vg p.type
def JgN(p:Mth):Prop:=Nm p.name/\(∀ x∈p.params,Jku x)/\(Vg p.result\/JfH p.result)/\True
def Jnx(p:Ctr):Prop:=∀ x∈p.params,Jku x
def Zk(c:Cls):Prop:=Nm c.name/\(c.super=[]\/(Nm c.super/\c.iface=false))/\(∀ x∈c.above,Nm x)/\(∀ x∈c.fields,Juj x)/\True/\(∀ x∈c.ctors,Jnx x)/\(∀ x∈c.meths,JgN x)
def JqZ(p:Prg):Prop:=∀ c∈p.classes,Zk c
mutual
def Xg:Ty->Nat
 | .mk _ name _ K5 pred _=>1+name.length+XI K5+KE pred
def XI:List Ty->Nat
 | []=>0
 | t::ts=>Xg t+XI ts
def VY:Xp->Nat
 | .mk op name args ty _=>1+op.length+name.length+KE args+(if op=[108,105,115,116] then XI ty else 0)
def KE:List Xp->Nat
 | []=>0
 | x::xs=>VY x+KE xs
end
def tyW(op:Jk)(ty:List Ty):Nat:=if op=[108,105,115,116] then XI ty else 0
def V0(p:Par):Nat:=1+p.name.length+Xg p.type
def JfS(p:Fld):Nat:=1+p.name.length+Xg p.type
def JbN(p:Mth):Nat:=1+p.name.length+wL V0 p.params+Xg p.result
def JcM(p:Ctr):Nat:=1+wL V0 p.params
def V1(c:Cls):Nat:=1+c.name.length+c.super.length+wL wNm c.above+wL JfS c.fields+wL JcM c.ctors+wL JbN c.meths
theorem JWp{op name:Jk}{args:List Xp}{ty:List Ty}(h:Jnc op name args ty):JbM op name args ty:=by
 unfold Jnc at h;unfold JbM;rcases h with⟨h1,h2,-,h3⟩ |⟨h1,h2,-,h3⟩ |⟨h1,h2,-,h3⟩ |⟨h1,h2,-,h3⟩ |⟨h1,-,h3⟩ |⟨h1,h2,h4,h3⟩ |⟨h1,h2,-,h3⟩ |⟨h1,h2,-,h3⟩ |⟨h1,h2,-,h3⟩ |⟨h1,h2,-,h3⟩ |⟨h1,h2,-,h3⟩
 ·exact .inl ⟨h1,h2,h3⟩
 ·exact .inr (.inl ⟨h1,h2,trivial⟩)
 ·exact .inr (.inr (.inl ⟨h1,h2,h3⟩))
 ·exact .inr (.inr (.inr (.inl ⟨h1,h2,h3⟩)))
 ·exact .inr (.inr (.inr (.inr (.inl ⟨h1,h3⟩))))
 ·exact .inr (.inr (.inr (.inr (.inr (.inl ⟨h1,h2,h4,h3⟩)))))
 ·exact .inr (.inr (.inr (.inr (.inr (.inr (.inl ⟨h1,h2,h3⟩))))))
 ·exact .inr (.inr (.inr (.inr (.inr (.inr (.inr (.inl ⟨h1,h2,h3⟩)))))))
 ·exact .inr (.inr (.inr (.inr (.inr (.inr (.inr (.inr (.inl ⟨h1,h2,h3⟩))))))))
 ·exact .inr (.inr (.inr (.inr (.inr (.inr (.inr (.inr (.inr (.inl ⟨h1,h2,h3⟩)))))))))
 ·exact .inr (.inr (.inr (.inr (.inr (.inr (.inr (.inr (.inr (.inr ⟨h1,h2,h3⟩)))))))))
mutual
theorem JgO:∀ t:Ty,JeW t->Vg t
 | .mk kind name null K5 pred a,h=>by simp only[JeW]at h;simp only[Vg];exact⟨h.1,h.2.1,JiJ K5 h.2.2.1,JbO pred h.2.2.2⟩
theorem JiJ:∀ t:List Ty,XW t->XX t
 | [],_=>by simp only[XX]
 | t::ts,h=>by simp only[XW]at h;simp only[XX];exact⟨JgO t h.1,JiJ ts h.2⟩
theorem JWq:∀ t:Xp,X4 t->Q7 t
 | .mk op name args ty a,h=>by simp only[X4]at h;simp only[Q7];exact⟨JWp h.1,JbO args h.2.1,λ_=>JiJ ty h.2.2⟩
theorem DK{Q:Prop}(h:Q:=by simp only[KP]):Q:=h
theorem JbO:∀ t:List Xp,QU t->KP t
 | [],_=>DK
 | t::ts,h=>by simp only[QU]at h;simp only[KP];exact⟨JWq t h.1,JbO ts h.2⟩
end
theorem Juk{p:Par}(h:Jkm p):Jku p:=⟨h.1,JgO _ h.2⟩
theorem JKT{c:Cls}(h:JcG c):Zk c:=by obtain⟨h1,h2,h3,h4,-,h6,h7⟩:=h;refine⟨h1,h2,h3,λx hx=>⟨(h4 x hx).1,JgO _ (h4 x hx).2⟩,trivial,λx hx p hp=>Juk ((h6 x hx).1 p hp),λx hx=>?_⟩;obtain⟨k1,k2,k3,-⟩:=h7 x hx;exact⟨k1,λp hp=>Juk (k2 p hp),k3.imp (JgO _) id,trivial⟩
mutual
theorem Jsq:∀ t:Ty,Xg t<=wTy t
 | .mk kind name null K5 pred a=>by have h1:=Jny K5;have h2:=Je3 pred;simp only[Xg,wTy];omega
theorem Jny:∀ t:List Ty,XI t<=Vr t
 | []=>by simp only[XI,Vr];exact Ao _
 | t::ts=>by have h1:=Jsq t;have h2:=Jny ts;simp only[XI,Vr];omega
theorem J2C:∀ t:Xp,VY t<=Zw t
 | .mk op name args ty a=>by have h1:=Je3 args;have h2:=Jny ty;simp only[VY,Zw];split <;> omega
theorem Je3:∀ t:List Xp,KE t<=KQ t
 | []=>by simp only[KE,KQ];exact Ao _
 | t::ts=>by have h1:=J2C t;have h2:=Je3 ts;simp only[KE,KQ];omega
end
theorem JlP{α:Type}{v w:α->Nat}(h:∀ x,v x<=w x):∀ l:List α,wL v l<=wL w l
 | []=>Ao _
 | x::l=>Nat.add_le_add (h x) (JlP h l)
theorem Jq0(p:Par):V0 p<=JlC p:=by have:=Jsq p.type;simp only[V0,JlC];omega
theorem JWr(c:Cls):V1 c<=Xx c:=by have h1:=JlP (v:=JfS) (w:=JlD) (λp=>by have:=Jsq p.type;simp only[JfS,JlD];omega) c.fields;have h2:=JlP (v:=JcM) (w:=Jhb) (λp=>by have:=JlP Jq0 p.params;simp only[JcM,Jhb];omega) c.ctors;have h3:=JlP (v:=JbN) (w:=JcF) (λp=>by have:=JlP Jq0 p.params;have:=Jsq p.result;simp only[JbN,JcF];omega) c.meths;simp only[V1,Xx];omega
theorem Jul(l:List Cls):wL V1 l<=wL Xx l:=JlP JWr l
def JdN(f:Nat->Nat):List Bool->Nat->Nat
 | [],_=>0
 | b::bs,k=>(if b then 0 else f k)+JdN f bs (k+1)
theorem Jsr(f:Nat->Nat):∀(bs:List Bool) (j k:Nat),bs[j]? = some false->JdN f (bs.set j true) k+f (k+j)=JdN f bs k:=by
 intro bs;induction bs with
 | nil=>intro j k h;simp at h
 | cons b bs ih=>
  intro j k h;cases j with
  | zero=>simp only[Am,V]at h;subst h;simp only[Cw,JdN,if_true,AE];simp;omega
  | succ j=>simp only[BA]at h;have:=ih j (k+1) h;simp only[Cy,JdN];rw[show k+(j+1)=k+1+j by omega];omega
theorem Jum(f:Nat->Nat):∀(l:List Cls) (k:Nat),(∀ j c,l[j]? = some c->f (k+j)<=V1 c)->JdN f (List.replicate l.length false) k<=wL V1 l:=by
 intro l;induction l with
 | nil=>intro k _;simp[JdN]
 | cons c l ih=>intro k h;have h0:=h 0 c rfl;have h1:=ih (k+1) (λj d hd=>by have:=h (j+1) d (by simpa using hd);rw[show k+1+j=k+(j+1) by omega];exact this);simp only[Ad,Dn,JdN,wL];simp only[AE]at h0;simp;omega
structure Rch(cs:List Cls)(i:Nat)(bs:List Bool)(todo:List Nat):Prop where
 len:bs.length=cs.length
 sound:∀ k,bs[k]? = some true->Up cs i k
 soundT:∀ k∈todo,Up cs i k
 first:∀ k∈nxt cs i,bs[k]? = some true\/k∈todo
 more:∀ j,bs[j]? = some true->∀ k∈nxt cs j,bs[k]? = some true\/k∈todo
theorem Rch.start{cs:List Cls}{i:Nat}:Rch cs i (List.replicate cs.length false) (nxt cs i) where
 len:=Ag
 sound:=λk h=>by have:=Aq h;simp at this
 soundT:=λk h=>.one h
 first:=λk h=>.inr h
 more:=λj h=>by have:=Aq h;simp at this
theorem Rch.pop{cs:List Cls}{i k:Nat}{bs:List Bool}{todo:List Nat}(h:Rch cs i bs (k::todo))(hk:bs[k]? = some true):Rch cs i bs todo where
 len:=h.len
 sound:=h.sound
 soundT:=λj hj=>h.soundT j (A7 _ hj)
 first:=λj hj=>by
  rcases h.first j hj with h1 |h1
  ·exact .inl h1
  ·rcases AS.1 h1 with h2 |h2
   ·subst h2;exact .inl hk
   ·exact .inr h2
 more:=λa ha j hj=>by
  rcases h.more a ha j hj with h1 |h1
  ·exact .inl h1
  ·rcases AS.1 h1 with h2 |h2
   ·subst h2;exact .inl hk
   ·exact .inr h2
theorem Jnz{bs:List Bool}{k j:Nat}(h:bs[j]? = some true):(bs.set k true)[j]? = some true:=by
 by_cases hj:k=j
 ·subst hj;rw[A3 (Ac.1 h).1]
 ·rw[Bf hj];exact h
theorem Rch.add{cs:List Cls}{i k:Nat}{bs:List Bool}{todo:List Nat}(h:Rch cs i bs (k::todo))(hk:k<bs.length):Rch cs i (bs.set k true) (todo++nxt cs k) where
 len:=by rw[List.length_set];exact h.len
 sound:=λj hj=>by
  by_cases e:k=j
  ·subst e;exact h.soundT k Bl
  ·rw[Bf e]at hj;exact h.sound j hj
 soundT:=λj hj=>by
  rcases AM.1 hj with h1 |h1
  ·exact h.soundT j (A7 _ h1)
  ·exact .more (h.soundT k Bl) h1
 first:=λj hj=>by
  rcases h.first j hj with h1 |h1
  ·exact .inl (Jnz h1)
  ·rcases AS.1 h1 with h2 |h2
   ·subst h2;exact .inl (A3 hk)
   ·exact .inr (List.mem_append_left _ h2)
 more:=λa ha j hj=>by
  by_cases e:k=a
  ·subst e;exact .inr (List.mem_append_right _ hj)
  ·rw[Bf e]at ha;rcases h.more a ha j hj with h1 |h1
   ·exact .inl (Jnz h1)
   ·rcases AS.1 h1 with h2 |h2
    ·subst h2;exact .inl (A3 hk)
    ·exact .inr (List.mem_append_left _ h2)
theorem Rch.done{cs:List Cls}{i:Nat}{bs:List Bool}(h:Rch cs i bs [])(k:Nat):bs[k]? = some true↔Up cs i k:=by
 refine⟨h.sound k,λhu=>?_⟩;induction hu with
 | one h1=>
  rcases h.first _ h1 with h2 |h2
  ·exact h2
  ·cases h2
 | more _ h1 ih=>
  rcases h.more _ ih _ h1 with h2 |h2
  ·exact h2
  ·cases h2
structure Todo(rw0:List Nat)(v:AV)(rows:List (List AV))(rw:List Nat):Prop where
 h:∃ sz tag,v=.list sz tag rows/\(rows≠[]->sz=1)/\(tag=.full\/∃ r en,tag=.row r en/\sz=1/\rw0.length<=r/\rw[r]? = some en)
theorem Todo.of_lst{rw0 rw:List Nat}{v:AV}{rows:List (List AV)}(h:Lst rw0 1 v rows rw):Todo rw0 v rows rw:=by
 rcases h with(⟨rfl,rfl⟩ |⟨h0,r,rfl,h1,h2⟩) |⟨h0,rfl⟩
 ·exact⟨0,.full,rfl,λh=>absurd rfl h,.inl rfl⟩
 ·exact⟨1,_,rfl,λ_=>rfl,.inr ⟨r,_,rfl,rfl,h1,h2⟩⟩
 ·exact⟨1,.full,rfl,λ_=>rfl,.inl rfl⟩
theorem Todo.ext{rw0 rw rw':List Nat}{v:AV}{rows:List (List AV)}(h:Todo rw0 v rows rw)(hx:Rx rw rw'):Todo rw0 v rows rw':=by obtain⟨sz,tag,h1,h2,h3⟩:=h;refine⟨sz,tag,h1,h2,h3.imp id ?_⟩;rintro⟨r,en,e1,e2,e3,e4⟩;exact⟨r,en,e1,e2,e3,hx.get e4⟩
theorem Todo.push{rw0 rw:List Nat}{v w:AV}{rows rowsb:List (List AV)}{H:List Blk}(h:Todo rw0 v rows rw)(hx:Rx rw0 rw)(hw:IsL 1 w rowsb)(hl:(rows.length+rowsb.length)*8<=Ji) :
  ∃ v' rw',QK 1 8 v w ⟨H,rw⟩=some (v',⟨H,rw'⟩)/\Todo rw0 v' (rows++rowsb) rw'/\Rx rw0 rw':=by
 obtain⟨sz,tag,rfl,h2,h3⟩:=h;obtain⟨szb,tagb,rfl,h5,h6⟩:=hw;by_cases hb:rowsb=[]
 ·subst hb;refine⟨.list sz tag rows,rw,?_,?_,hx⟩
  ·simp[QK]
  ·rw[Ar];exact⟨sz,tag,rfl,h2,h3⟩
 ·have e5:=h5 hb;subst e5;have hl1:(rows.length+rowsb.length)*8<=Ji/\rows.length+rowsb.length<=Ji:=⟨hl,O⟩
  have hc:rows=[]\/sz=1:=by
   by_cases h0:rows=[]
   ·exact .inl h0
   ·exact .inr (h2 h0)
  rcases h3 with rfl |⟨r,en,rfl,rfl,h8,h9⟩
  ·refine⟨.list 1 (.row rw.length (rows.length+rowsb.length)) (rows++rowsb),rw++[rows.length+rowsb.length],?_,?_,hx.push _⟩
   ·simp only[QK];rw[if_neg hb,if_pos ⟨trivial,hc,hl1.1,hl1.2,O⟩]
   ·exact⟨1,_,rfl,λ_=>rfl,.inr ⟨_,_,rfl,rfl,hx.le,Ag⟩⟩
  ·refine⟨.list 1 (.row r (en+rowsb.length)) (rows++rowsb),rw.set r (en+rowsb.length),?_,?_,hx.set h8 _⟩
   ·simp only[QK];rw[if_neg hb,if_pos ⟨trivial,.inr trivial,hl1.1,hl1.2,O⟩,if_pos ⟨trivial,h9⟩]
   ·have hr:=(Ac.1 h9).1;exact⟨1,_,rfl,λ_=>rfl,.inr ⟨_,_,rfl,rfl,h8,A3 hr⟩⟩
theorem Todo.tail{rw0 rw:List Nat}{v:AV}{r:List AV}{rows:List (List AV)}(h:Todo rw0 v (r::rows) rw):∃ tag,v=.list 1 tag (r::rows)/\Todo rw0 (.list 1 tag rows) rows rw:=by obtain⟨sz,tag,rfl,h2,h3⟩:=h;have:=h2 Ag;subst this;exact⟨tag,rfl,1,tag,rfl,λ_=>rfl,h3⟩
theorem EE{Q:Prop}(h:Q:=by simp[Jan];omega):Q:=h
theorem Jpo{tag:Tag}{r:List AV}{rows:List (List AV)}:Jan 1 (.list 1 tag (r::rows)) (some 1) none=some (.list 1 tag rows):=EE
theorem Xj(hm:Yy pr){zs:List AV}{items:List Item}{kp:List Nat}{k:List Fr}{e:KC}{H:List Blk}{rw:List Nat}{Q:Ex->KC->St->Prop}{d:Option Nat}
  (h:∀ H1,H1=H++[Blk.cells zs]->H1.length=H.length+1->H.length<H1.length->In pr F H.length Q H.length [⟨0,d,none,.q (.alloc 0 zs)⟩] items kp k (KD e d (.ptr H.length 0)) ⟨hp H1 H.length (.cells zs) [],rw⟩) :
  At pr F H.length Q (.region [zs] (⟨0,d,none,.q (.alloc 0 zs)⟩::items) kp) k e ⟨H,rw⟩:=by
 have hlen:(H++[Blk.cells zs]).length=H.length+1:=Ag;have hlt:H.length<(H++[Blk.cells zs]).length:=O;have hget:hp (H++[Blk.cells zs]) H.length (.cells zs) []=H++[Blk.cells zs]:=CO;refine Xe hm (H:=hp (H++[Blk.cells zs]) H.length (.cells zs) []) (by rw[hget];rfl) rfl ?_;exact Kj (q:=H.length) rfl rfl (Kh hlt) (h _ rfl hlen hlt)
theorem Ju{H H1 M:List Blk}{rw:List Nat}{z:Blk}{vs:List AV}{t kd:Nat}{e:KC}{Q:Res->St->Prop}(hH:H1=H++[z])(he:Jj e t=some (.ptr H.length 0))(hv:Row kd vs)(h:Q (.ret (.agg vs)) ⟨H,rw⟩) :
  fin [.cell t (some kd)] H.length Q .ret e ⟨hp H1 H.length (.cells vs) M,rw⟩:=by
 subst hH;have e2:QT [.cell t (some kd)] e (hp (H++[z]) H.length (.cells vs) M)=some [.agg vs]:=by simp only[QT,he,Jbk hv]
 exact Js e2 (hv.below _) JZ h
structure LibD(pr:Jz)(F:Nat->Option IFn):Prop extends LibC pr F where
 f15:QG pr F 15 i15
 f17:QG pr F 17 i17
 f20:QG pr F 20 i20
 f26:QG pr F 26 i26
 f30:QG pr F 30 i30
 f56:QG pr F 56 i56
 f64:QG pr F 64 Juf
 f65:QG pr F 65 i65
 f66:QG pr F 66 i66
 f100:QG pr F 100 JIU
 f101:QG pr F 101 JI5
 f102:QG pr F 102 JJf
 f103:QG pr F 103 JJn
 f104:QG pr F 104 JJy
 f105:QG pr F 105 JJI
 f106:QG pr F 106 JJS
 f149:QG pr F 149 JAm
 f150:QG pr F 150 JKf
 f151:QG pr F 151 JKp
def KF(c a:Int):List AV:=[.int .i64 c,.int .i64 a]
theorem KA(c a:Int):Row 2 (KF c a):=⟨rfl,rfl,rfl⟩
theorem Yp(L:LibD pr F)(H:List Blk)(rw:List Nat)(c a:Int):Det pr F 56 [.int .i64 c,.int .i64 a] ⟨H,rw⟩ (.ret (.agg (KF c a))) ⟨H,rw⟩:=by have hm:=L.hm;refine Det.of hm (Jt hm L.f56.1 L.f56.2 rfl ?_);refine' VO;unfold JDY;show At pr F H.length (fin _ H.length _) _ _ _ _;refine Xj hm ?_;intro H1 hH1 hlen hlt;refine' hG;refine Vh ?_;refine VG rfl rfl rfl ?_;refine s_n hlt (Ao _) rfl rfl rfl ?_;refine K7 ?_;refine' hG;exact Ju hH1 rfl (KA c a) ⟨rfl,rfl⟩
theorem Kf{sz i:Nat}{rows:List (List AV)}(h:i<rows.length):Kp sz rows=.list sz .dead rows:=by
 cases rows with
 | nil=>simp at h
 | cons r rs=>rfl
def JnA(H:List Blk)(n k:Nat)(c:Blk):Prop:=∀ b M,(hp H n b M)[k]? = some c
theorem J1{H H1:List Blk}{z c:Blk}{k:Nat}(hH:H1=H++[z])(hk:H[k]? = some c):JnA H1 H.length k c:=by intro b M;obtain⟨hl,-⟩:=Ac.1 hk;subst hH;unfold hp;rw[Bf O,BG,AZ hl];exact hk
theorem ZG{H:List Blk}{n k:Nat}{c:Blk}(hne:n≠k)(hk:H[k]? = some c):JnA H n k c:=by intro b M;obtain⟨hl,-⟩:=Ac.1 hk;unfold hp;rw[Bf hne,AZ hl];exact hk
section
variable {H M:List Blk} {n m:Nat} {b:Blk} {rw:List Nat} {L:AV->Prop}
theorem Jpp{off:Nat}{cs:List AV}{u:AV}(h:L u)(hF:JnA H n m (.cells cs):=by assumption)(hu:cs[off]? = some u:=by rfl):LdAt none (.ptr m off) ⟨hp H n b M,rw⟩ L:=Jlt (hF _ _) hu h
theorem Jpq{j off:Nat}{cs:List AV}{u:AV}(h:L u)(hlt:n<H.length:=by assumption)(hM:M[j]? = some (.cells cs):=by assumption)(hu:cs[off]? = some u:=by rfl):LdAt none (.ptr (H.length+j) off) ⟨hp H n b M,rw⟩ L:=Jo7 hlt hM hu h
theorem Jpr{kd:Nat}{cs vs:List AV}(h:L (.agg vs))(hF:JnA H n m (.cells cs):=by assumption)(hc:Jh cs=vs:=by rfl)(hl:cs.length=kd:=by rfl):LdAt (some kd) (.ptr m 0) ⟨hp H n b M,rw⟩ L:=JcE (hF _ _) hc hl h
end
section
variable {b0 base ix:Nat} {d:Option Nat} {g:Option (Nat×Bool)} {prev items:List Item} {kp:List Nat} {k:List Fr} {e:KC} {Q:Ex->KC->St->Prop} {S:St}
theorem JlQ{x:Opd}(h:In pr F b0 Q base prev (⟨ix,d,g,.q (.len x)⟩::items) kp k e S):In pr F b0 Q base prev (⟨ix,d,g,.q (.len x)⟩::items) kp k e S:=h
theorem Je4{x:Opd}{sz:Nat}{rows:List (List AV)}(hw:wanted g (Jj e)=some true)(hx:x.val (Jj e)=some (Kp sz rows))(h:In pr F b0 Q base (⟨ix,d,g,.q (.len x)⟩::prev) items kp k (KD e d (.int .i64 (rows.length:Int))) S):In pr F b0 Q base prev (⟨ix,d,g,.q (.len x)⟩::items) kp k e S:=by refine JbF hw ?_ h;obtain⟨z,tg,hz,-,-⟩:=YM (sz:=sz) (rows:=rows);rw[hz]at hx;simp only[QY,hx];rfl
end
section
variable {H M:List Blk} {n m:Nat} {b:Blk} {rw:List Nat} {L:AV->Prop} {zero:AV} {s:Jk}
theorem J2D{es:List (Jk×AV)}(hF:JnA H n m (.map es))(h1:∀ v,Vn es s=some v->L (.tup [v,.bool true]))(h2:Vn es s=none->L (.tup [zero,.bool false])):LkAt zero true (.map m) (.str s) ⟨hp H n b M,rw⟩ L:=by
 refine⟨?_⟩;have e:=hF b M;simp only[e];cases hm:Vn es s with
 | some v=>exact⟨_,rfl,h1 v hm⟩
 | none=>exact⟨_,rfl,h2 hm⟩
theorem J2E{es:List (Jk×AV)}(hF:JnA H n m (.map es))(h1:∀ v,Vn es s=some v->L v)(h2:Vn es s=none->L zero):LkAt zero false (.map m) (.str s) ⟨hp H n b M,rw⟩ L:=by
 refine⟨?_⟩;have e:=hF b M;simp only[e];cases hm:Vn es s with
 | some v=>exact⟨_,rfl,h1 v hm⟩
 | none=>exact⟨_,rfl,h2 hm⟩
end
def Xa(a b:Int×Int):Int×Int:=if a.1=0 then b else a
theorem X5{a b:Int×Int}(h:a.1≠0):Xa a b=a:=if_neg h
theorem Z4{a b:Int×Int}(h:a.1=0):Xa a b=b:=if_pos h
def JY{α:Type}(f:Nat->α->Int×Int):Nat->List α->Int×Int
 | _,[]=>(0,0)
 | i,x::l=>Xa (f i x) (JY f (i+1) l)
theorem QA{α:Type}{f:Nat->α->Int×Int}{l:List α}{q:Nat}{x:α}(h:l[q]? = some x):JY f q (l.drop q)=Xa (f q x) (JY f (q+1) (l.drop (q+1))):=by obtain⟨hl,he⟩:=Ac.1 h;rw[AY hl,he,JY]
theorem QR{α:Type}{f:Nat->α->Int×Int}{l:List α}{q:Nat}(h:l.length<=q):JY f q (l.drop q)=(0,0):=by rw[AU h];rfl
theorem Vm{b:Int×Int}:Xa (0,0) b=b:=rfl
structure TabB(H:List Blk)(n:Nat)(cs:List Cls)(z:Nat)(tg:Tag)(mp ab o1 o2 o3 sl:AV):Prop where
 at_:H[n]? = some (.cells [.list z tg (cs.map Jc),mp,ab,o1,o2,o3,sl])
 sz:cs≠[]->z=9
 few:cs.length<=8000
 big:∀ c∈cs,c.ctors.length<=64800000/\c.meths.length<=64800000
def JAE(c:Cls):Prop:=c.fields.length<=64/\c.invs.length<=64/\c.meths.length<=64/\c.above.length<=64
def Few(cs:List Cls):Prop:=∀(i:Nat) (c:Cls),cs[i]? = some c->JAE c
theorem Few.mem{cs:List Cls}(h:Few cs){c:Cls}(hc:c∈cs):JAE c:=by obtain⟨i,hi⟩:=Cd hc;exact h i c hi
def Jps(_:Nat)(k:Ctr):Int×Int:=if 64<k.params.length then(126,k.at_)else(0,0)
def JnB(_:Nat)(k:Mth):Int×Int:=if 64<k.params.length then(126,k.at_)else(0,0)
def Jpt(i:Nat)(c:Cls):Int×Int:=Xa (if 64<=i\/64<c.fields.length\/64<c.invs.length\/64<c.meths.length\/64<c.above.length then(126,c.at_)else(0,0)) (Xa (JY Jps 0 c.ctors) (JY JnB 0 c.meths))
def JiL(cs:List Cls):Int×Int:=JY Jpt 0 cs
theorem EF{Q:Prop}(h:Q:=by rw[Ax,hc];rfl):Q:=h
theorem EG{Q:Prop}(h:Q:=by intro h;rw[h]at hlt2;simp at hlt2):Q:=h
theorem EH{Q:Prop}(h:Q:=by rw[Ak];exact hq1):Q:=h
theorem EI{Q:Prop}(h:Q:=by rw[hod,QR O]):Q:=h
theorem JAF(L:LibD pr F){H:List Blk}{rw:List Nat}{n z:Nat}{tg:Tag}{cs:List Cls}{mp ab o1 o2 o3 sl:AV}(T:TabB H n cs z tg mp ab o1 o2 o3 sl):∃ f:Int×Int,f=JiL cs/\(f.1=0->Few cs)/\Det pr F 100 [.ptr n 0] ⟨H,rw⟩ (.ret (.agg (KF f.1 f.2))) ⟨H,rw⟩:=by
 have hm:=L.hm;suffices h:Wp pr F 100 [.ptr n 0] ⟨H,rw⟩ λr S'=>∃ f:Int×Int,f=JiL cs/\(f.1=0->Few cs)/\r=.ret (.agg (KF f.1 f.2))/\S'=⟨H,rw⟩ by obtain⟨r,S',hd,f,he,hf,rfl,rfl⟩:=h.det hm;exact⟨f,he,hf,hd⟩
 refine Jt hm L.f100.1 L.f100.2 rfl ?_;refine' VO;unfold Jt4;show At pr F H.length (fin _ H.length _) _ _ _ _;refine Xj hm ?_;intro H1 hH1 hlen hlt;have hF:=J1 hH1 T.at_;have hfew:=T.few;have hlm:(cs.map Jc).length=cs.length:=Ak _;refine' hG;refine JB hm (λmm e S'=>∃(i:Nat) (J:List Blk),S'=⟨hp H1 H.length (.cells [.int .i64 0,.int .i64 0]) J,rw⟩/\i<=cs.length/\JiL cs=JY Jpt i (cs.drop i)/\(∀(k:Nat) (c:Cls),k<i->cs[k]? = some c->JAE c)/\mm=cs.length-i/\e=[(2,.ptr H.length 0),(12,.list z tg (cs.map Jc)),(13,.int .i64 ((cs.map Jc).length:Int)),(14,.int .i64 i)]) ?_ (m:=cs.length) ⟨0,[],rfl,O,rfl,λk c h=>O,rfl,rfl⟩;rintro mm e S' ⟨i,J,rfl,hi,hod,hfe,rfl,rfl⟩;by_cases hlt2:i<cs.length
 ·obtain⟨c,hc⟩:∃ c,cs[i]? = some c:=⟨_,Ab hlt2⟩
  have hcr:(cs.map Jc)[i]? = some (Jc c):=EF
  have hz:z=9:=T.sz EG;subst hz;obtain⟨hbc,hbm⟩:=T.big c (Aq hc);have hlx:=JV c.invs;rw[QA hc]at hod;refine' hG
  iterate 5
   rotate_left 1
  all_goals first
   |(refine Je rfl rfl rfl ?_
     refine⟨_,_,Yp L _ _ _ _,?_⟩;refine K7 ?_;refine' hG;refine Vh ?_;refine VG rfl rfl rfl ?_;refine s_n hlt (Ao _) rfl rfl rfl ?_;refine K7 ?_;refine' hG;exact Ju hH1 rfl (KA _ _) ⟨(_,_),by rw[hod,Jpt,if_pos O];rfl,λh=>ED,rfl,rfl⟩)
   | skip
  have hfc:JAE c:=⟨O,O,O,O⟩
  rw[Jpt,if_neg O,Vm]at hod;refine JB hm (λmm e S'=>∃(q:Nat) (M:List Blk),S'=⟨hp H1 H.length (.cells [.int .i64 0,.int .i64 0]) M,rw⟩/\M[J.length]? = some (.cells (Jc c))/\q<=c.ctors.length/\JiL cs=Xa (Xa (JY Jps q (c.ctors.drop q)) (JY JnB 0 c.meths)) (JY Jpt (i+1) (cs.drop (i+1)))/\mm=c.ctors.length-q/\e=[(2,.ptr H.length 0),(4,.ptr (H1.length+J.length) 0),(12,.list 9 tg (cs.map Jc)),(13,.int .i64 ((cs.map Jc).length:Int)),(14,.int .i64 i),(50,Kp 5 (c.ctors.map Jw)),(51,.int .i64 ((c.ctors.map Jw).length:Int)),(52,.int .i64 q)]) ?_ (m:=c.ctors.length) ⟨0,_,rfl,Yf,O,hod,rfl,rfl⟩;clear hod;rintro mm e S' ⟨q,M,rfl,hM,hq0,hod,rfl,rfl⟩;by_cases hq1:q<c.ctors.length
  ·obtain⟨ct,hct⟩:∃ ct,c.ctors[q]? = some ct:=⟨_,Ab hq1⟩
   have hctr:(c.ctors.map Jw)[q]? = some (Jw ct):=by rw[Ax,hct];rfl
   have hl5:Kp 5 (c.ctors.map Jw)=.list 5 .dead (c.ctors.map Jw):=Kf (i:=q) EH;have hlc:(c.ctors.map Jw).length=c.ctors.length:=Ak _;rw[hl5];rw[QA hct]at hod;refine' hG
   ·skip
    refine Je rfl rfl rfl ?_;refine⟨_,_,Yp L _ _ _ _,?_⟩;refine K7 ?_;refine' hG;refine Vh ?_;refine VG rfl rfl rfl ?_;refine s_n hlt (Ao _) rfl rfl rfl ?_;refine K7 ?_;refine' hG;exact Ju hH1 rfl (KA _ _) ⟨(_,_),by rw[hod,Jps,if_pos O];rfl,λh=>ED,rfl,rfl⟩
   ·rw[Jps,if_neg O,Vm]at hod;refine⟨c.ctors.length-(q+1),O,q+1,M++[.cells (Jw ct)],rfl,?_,O,hod,rfl,rfl⟩;rw[AZ (Ac.1 hM).1];exact hM
  ·have hlc:(c.ctors.map Jw).length=c.ctors.length:=Ak _;rw[QR O,Vm]at hod;refine' hG;refine JB hm (λmm e S'=>∃(q:Nat) (M:List Blk),S'=⟨hp H1 H.length (.cells [.int .i64 0,.int .i64 0]) M,rw⟩/\q<=c.meths.length/\JiL cs=Xa (JY JnB q (c.meths.drop q)) (JY Jpt (i+1) (cs.drop (i+1)))/\mm=c.meths.length-q/\e=[(2,.ptr H.length 0),(12,.list 9 tg (cs.map Jc)),(13,.int .i64 ((cs.map Jc).length:Int)),(14,.int .i64 i),(65,Kp 11 (c.meths.map Jm)),(66,.int .i64 ((c.meths.map Jm).length:Int)),(67,.int .i64 q)]) ?_ (m:=c.meths.length) ⟨0,_,rfl,O,hod,rfl,rfl⟩;clear hM hod;rintro mm e S' ⟨q,M,rfl,hq0,hod,rfl,rfl⟩;have hlcm:(c.meths.map Jm).length=c.meths.length:=Ak _;by_cases hq1:q<c.meths.length
   ·obtain⟨ct,hct⟩:∃ ct,c.meths[q]? = some ct:=⟨_,Ab hq1⟩
    have hctr:(c.meths.map Jm)[q]? = some (Jm ct):=by rw[Ax,hct];rfl
    obtain⟨nm1,ps1,⟨k1,t1,u1,e1,p1,a1⟩,bd1,ab1,at1⟩:=ct;have hl5:Kp 11 (c.meths.map Jm)=.list 11 .dead (c.meths.map Jm):=Kf (i:=q) EH;rw[hl5];rw[QA hct]at hod;refine' hG
    ·skip
     refine Je rfl rfl rfl ?_;refine⟨_,_,Yp L _ _ _ _,?_⟩;refine K7 ?_;refine' hG;refine Vh ?_;refine VG rfl rfl rfl ?_;refine s_n hlt (Ao _) rfl rfl rfl ?_;refine K7 ?_;refine' hG;exact Ju hH1 rfl (KA _ _) ⟨(_,_),by rw[hod,JnB,if_pos Bd];rfl,λh=>ED,rfl,rfl⟩
    ·rw[JnB,if_neg Bd,Vm]at hod;exact⟨c.meths.length-(q+1),O,q+1,_,rfl,O,hod,rfl,rfl⟩
   ·rw[QR O,Vm]at hod;refine' hG;refine⟨cs.length-(i+1),O,i+1,M,rfl,O,hod,?_,rfl,rfl⟩;intro k d hk hd;by_cases e2:k=i
    ·subst e2;rw[hc]at hd;simp only[V]at hd;subst hd;exact hfc
    ·exact hfe k d O hd
 ·refine' hG;refine Vh ?_;refine VG rfl rfl rfl ?_;refine s_n hlt (Ao _) rfl rfl rfl ?_;refine K7 ?_;refine' hG;exact Ju hH1 rfl (KA 0 0) ⟨(0,0),EI,λ_ k d hd=>hfe k d (by have:=(Ac.1 hd).1;omega) hd,rfl,rfl⟩
section
variable {b0 base ix:Nat} {d:Option Nat} {g:Option (Nat×Bool)} {prev items:List Item} {kp:List Nat} {k:List Fr} {e:KC} {Q:Ex->KC->St->Prop} {S:St} {H M:List Blk} {n:Nat} {b:Blk} {rw:List Nat} {re:List Nat}
theorem Jun{zero:AV}{ok:Bool}{x y:Opd}(h:In pr F b0 Q base prev (⟨ix,d,g,.q (.lookup zero ok x y)⟩::items) kp k e S):In pr F b0 Q base prev (⟨ix,d,g,.q (.lookup zero ok x y)⟩::items) kp k e S:=h
theorem JKU{m:Nat}{L:AV->Prop}{zero:AV}{s:Jk}{cs:List Cls}(hF:JnA H n m (.map (VJ 0 cs)))
  (h1:∀(q:Nat) (c:Cls),J6 cs s=some q->cs[q]? = some c->(cs.map Jc)[q]? = some (Jc c)->q<cs.length->L (.tup [.int .i64 (q:Int),.bool true]))
  (h2:J6 cs s=none->L (.tup [zero,.bool false])):LkAt zero true (.map m) (.str s) ⟨hp H n b M,rw⟩ L:=by
 refine J2D hF (λv hv=>?_) (λhv=>?_)
 ·rw[ZF]at hv;cases hp:J6 cs s with
  | none=>rw[hp]at hv;simp at hv
  | some q=>rw[hp]at hv;simp only[A9,V]at hv;subst hv;obtain⟨c,hc,-⟩:=Xf hp;exact h1 q c hp hc EF (Ac.1 hc).1
 ·rw[ZF]at hv;cases hp:J6 cs s with
  | none=>exact h2 hp
  | some q=>rw[hp]at hv;simp at hv
theorem Juo{m:Nat}{L:AV->Prop}{s:Jk}{cs:List Cls}(hF:JnA H n m (.map (VJ 0 cs)))
  (h1:L (.int .i64 (((J6 cs s).getD 0:Nat):Int))):LkAt (.int .i64 0) false (.map m) (.str s) ⟨hp H n b M,rw⟩ L:=by
 refine J2E hF (λv hv=>?_) (λhv=>?_)
 ·rw[ZF]at hv;cases hp:J6 cs s with
  | none=>rw[hp]at hv;simp at hv
  | some q=>rw[hp]at hv h1;simp only[A9,V]at hv;subst hv;exact h1
 ·rw[ZF]at hv;cases hp:J6 cs s with
  | none=>rw[hp]at h1;exact h1
  | some q=>rw[hp]at hv;simp at hv
theorem Jpu{c:Opd}{x y:IC}{t:Bool}(hc:c.val (Jj e)=some (.bool t))(h1:t=true->At pr F b0 Q x k e S)(h2:t=false->At pr F b0 Q y k e S):At pr F b0 Q (.cond c x y) k e S:=by
 cases t with
 | true=>exact Jde hc (h1 rfl)
 | false=>exact Jbe hc (h2 rfl)
end
section
variable {b0 base ix:Nat} {d:Option Nat} {g:Option (Nat×Bool)} {prev items:List Item} {kp:List Nat} {k:List Fr} {e:KC} {Q:Ex->KC->St->Prop} {S:St} {H M:List Blk} {n:Nat} {b:Blk} {rw:List Nat} {re:List Nat}
theorem Jpv{x:Opd}(h:In pr F b0 Q base prev (⟨ix,d,g,.l (.box x) re⟩::items) kp k e S):In pr F b0 Q base prev (⟨ix,d,g,.l (.box x) re⟩::items) kp k e S:=h
theorem YB(hm:Yy pr){x:Opd}{cs:List AV}(hx:x.val (Jj e)=some (.agg cs))
  (h:∀ H1,H1=H++[Blk.cells cs]->H1.length=H.length+1->H.length<H1.length->In pr F H.length Q H.length [⟨0,d,none,.l (.box x) []⟩] items kp k (KD e d (.ptr H.length 0)) ⟨hp H1 H.length (.cells cs) [],rw⟩) :
  At pr F H.length Q (.region [] (⟨0,d,none,.l (.box x) []⟩::items) kp) k e ⟨H,rw⟩:=by
 have hlen:(H++[Blk.cells cs]).length=H.length+1:=Ag;have hlt:H.length<(H++[Blk.cells cs]).length:=O;have hget:hp (H++[Blk.cells cs]) H.length (.cells cs) []=H++[Blk.cells cs]:=CO;refine Xe hm (H:=H) (Ar _) rfl ?_;refine Jiz rfl ?_ rfl (h _ rfl hlen hlt);simp only[XN,hx,hget];rfl
theorem Ku(hm:Yy pr){zs:List AV}
  (h:∀ H1,H1=H++[Blk.cells zs]->H1.length=H.length+1->H.length<H1.length->In pr F H.length Q H.length [] items kp k e ⟨hp H1 H.length (.cells zs) [],rw⟩):At pr F H.length Q (.region [zs] items kp) k e ⟨H,rw⟩:=by
 have hlen:(H++[Blk.cells zs]).length=H.length+1:=Ag;have hlt:H.length<(H++[Blk.cells zs]).length:=O;have hget:hp (H++[Blk.cells zs]) H.length (.cells zs) []=H++[Blk.cells zs]:=CO;exact Xe hm (H:=hp (H++[Blk.cells zs]) H.length (.cells zs) []) (by rw[hget];rfl) rfl (h _ rfl hlen hlt)
end
theorem Jup{kd:Nat}{L:AV->Prop}{vs:List AV}{H M:List Blk}{n:Nat}{b:Blk}{rw:List Nat}(h:L (.agg vs))(hlt:n<H.length:=by assumption)(hb:b=.cells vs:=by rfl)(hv:Row kd vs:=by(first |assumption |with_reducible exact JG _ |with_reducible exact VQ _ |with_reducible exact K9 _ |with_reducible exact Kx _ |with_reducible exact Vs _ |with_reducible exact QE _ |with_reducible exact Qa _ |with_reducible exact QL _ |with_reducible exact KT _ |with_reducible exact QM _ |with_reducible exact Xy _)):LdAt (some kd) (.ptr n 0) ⟨hp H n b M,rw⟩ L:=by subst hb;refine⟨_,?_,h⟩;have e1:(hp H n (.cells vs) M)[n]? = some (.cells vs):=Kh hlt;have:=hv.load;simp only[J9,e1];simpa only[J9,Am] using this
def TxOk(pr:Jz)(F:Nat->Option IFn)(f:Nat)(args:List AV)(t:AV):Prop:=∀(H:List Blk) (rw:List Nat),0<H.length->∃ rw',Rx rw rw'/\Det pr F f args ⟨H,rw⟩ (.ret t) ⟨H,rw'⟩
theorem JAG{f:Nat}{args:List AV}{t:AV}{H:List Blk}{rw:List Nat}{K:AV->St->Prop}(h:TxOk pr F f args t)(hH:0<H.length)(hk:∀ rw',Rx rw rw'->K t ⟨H,rw'⟩):ClAt pr F f args ⟨H,rw⟩ K:=by obtain⟨rw',h1,h2⟩:=h H rw hH;exact⟨_,_,h2,hk rw' h1⟩
theorem TxOk.of(hm:Yy pr){f:Nat}{args:List AV}{t:AV}(h:∀ H rw,0<H.length->Wp pr F f args ⟨H,rw⟩ λr S'=>∃ rw',Rx rw rw'/\r=.ret t/\S'=⟨H,rw'⟩):TxOk pr F f args t:=by intro H rw hH;obtain⟨r,S',hd,rw',h1,rfl,rfl⟩:=(h H rw hH).det hm;exact⟨rw',h1,hd⟩
theorem JlR{H M:List Blk}{n:Nat}{b:Blk}(h:n<H.length):0<(hp H n b M).length:=Ef
theorem Vj{J Y:List Blk}{k:Nat}{x:Blk}(h:J[k]? = some x):(J++Y)[k]? = some x:=by rw[AZ (Ac.1 h).1];exact h
theorem Juq{H M:List Blk}{n j off:Nat}{b:Blk}{rw:List Nat}{L:AV->Prop}{cs:List AV}{u:AV}(h:L u)(hlt:n<H.length:=by assumption)(hM:M[j]? = some (.cells cs):=by first |exact Vj Aa |exact Vj (Vj Aa))(hu:cs[off]? = some u:=by rfl):LdAt none (.ptr (H.length+j) off) ⟨hp H n b M,rw⟩ L:=Jo7 hlt hM hu h
theorem zlx{H M:List Blk}{n j kd:Nat}{b:Blk}{rw:List Nat}{L:AV->Prop}{vs:List AV}(h:L (.agg vs))(hlt:n<H.length:=by assumption)(hM:M[j]? = some (.cells vs):=by first |assumption |exact Vj Aa |exact Vj (Vj Aa))(hv:Row kd vs:=by(first |assumption |with_reducible exact JG _ |with_reducible exact VQ _ |with_reducible exact K9 _ |with_reducible exact Kx _ |with_reducible exact Vs _ |with_reducible exact QE _ |with_reducible exact Qa _ |with_reducible exact QL _ |with_reducible exact KT _ |with_reducible exact QM _ |with_reducible exact Xy _)):LdAt (some kd) (.ptr (H.length+j) 0) ⟨hp H n b M,rw⟩ L:=Jd6 hlt hM hv h
theorem JaE{H M:List Blk}{n j off kd:Nat}{b:Blk}{rw:List Nat}{L:AV->Prop}(h:LdAt (some kd) (.ptr (H.length+j) off) ⟨hp H n b M,rw⟩ L):LdAt (some kd) (.ptr (H.length+j) off) ⟨hp H n b M,rw⟩ L:=h
theorem Jai{H M:List Blk}{n j off kd:Nat}{b:Blk}{rw:List Nat}{L:AV->Prop}{cs vs:List AV}(h:L (.agg vs))(hc:Jh ((cs.drop off).take kd)=vs/\off+kd<=cs.length)(hlt:n<H.length:=by assumption)(hM:M[j]? = some (.cells cs):=by first |(first |rfl |assumption |exact Yf |exact Yg |exact Zz |exact ZB |exact ZD |exact Zx |exact Zy |exact ZA |exact ZC |exact ZE) |exact Vj Aa |exact Vj (Vj Aa)):LdAt (some kd) (.ptr (H.length+j) off) ⟨hp H n b M,rw⟩ L:=by refine⟨_,?_,h⟩;have e1:=(Vq (b:=b) (L:=M) hlt j).trans hM;simp only[J9,e1];rw[if_pos hc.2,hc.1]
theorem JiM{p:Par}:Jh (((Jf p).drop (0+1)).take 6)=Jl p.type/\0+1+6<=(Jf p).length:=by obtain⟨nm,⟨k1,n1,u1,e1,p1,a1⟩,a⟩:=p;exact⟨(K9 (.mk k1 n1 u1 e1 p1 a1)).can,Ba rfl⟩
theorem JiN{p:Fld}:Jh (((Jn p).drop (0+1)).take 6)=Jl p.type/\0+1+6<=(Jn p).length:=by obtain⟨nm,⟨k1,n1,u1,e1,p1,a1⟩,f,a⟩:=p;exact⟨(K9 (.mk k1 n1 u1 e1 p1 a1)).can,Ba rfl⟩
theorem EJ{Q:Prop}(h:Q:=by obtain⟨nm,ps,⟨k1,n1,u1,e1,p1,a1⟩,bd,ab,a⟩:=p;exact⟨(K9 (.mk k1 n1 u1 e1 p1 a1)).can,Ba rfl⟩):Q:=h
theorem JiO{p:Mth}:Jh (((Jm p).drop (0+2)).take 6)=Jl p.result/\0+2+6<=(Jm p).length:=EJ
def KK(sig owner:Jk)(m:Mth):List AV:=.str sig::.str owner::Jm m
theorem JiP{sig owner:Jk}{p:Mth}:Jh (((KK sig owner p).drop (0+2+2)).take 6)=Jl p.result/\0+2+2+6<=(KK sig owner p).length:=EJ
theorem Xu(sig owner:Jk)(m:Mth):Row 13 (KK sig owner m):=by
 have h:=Qa m;refine⟨by simp[KK,h.len],?_,?_⟩
 ·have:=h.can;simp only[Jh,KK,Ap]at this |-;rw[this];rfl
 ·have:=h.clo;simp only[KK,Kl,J7,this,A0]
theorem QJ{base:Nat}{H0:List Blk}{prev:List Item}{re:List Nat}{e:KC}{X:Prop}(hx:X)(h:J8 prev re e H0 base=true:=by first |exact XQ |(repeat' first |with_reducible exact Jo8 |refine JlF rfl ?_ |(refine JfM ?_;first |refine JbJ rfl ?_ |refine JlG (rw:=[]) rfl rfl rfl ?_ ?_) |(refine Jd8 ?_;refine JfL Aa rfl Cs Bq rfl ?_) |(refine JlH ?_;first |refine JbJ rfl ?_ |refine JfK (rw:=[]) rfl rfl rfl rfl ?_ ?_) |refine JbJ rfl ?_ |refine Jdi rfl rfl rfl ?_ |(refine Jd0 rfl ?_)      |(refine JbG ?_;first |refine zlr ?_ |refine zls ?_)      |(refine JbI ?_;first |refine zlo ?_ |refine Jo9 ?_ |refine Jpa ?_ |refine zlx ?_)      |(refine JaA ?_;first |refine Jnf ?_ |refine Jpq ?_ |refine Juq ?_)      |(refine Jd7 ?_;refine Jpb ?_)      |(refine Jax ?_;first |refine Jpc ?_ |refine Jpp ?_)      |(refine JaE ?_;(first |refine Jai ?_ JiM |refine Jai ?_ JiN |refine Jai ?_ JiO |refine Jai ?_ JiP)) |(refine JbH ?_;first |refine Jpd ?_ |refine Jpr ?_ |refine Jup ?_) |rfl)):J8 prev re e H0 base=true/\X:=⟨h,hx⟩
structure TabM(H:List Blk)(n mb:Nat)(cs:List Cls)(z:Nat)(tg:Tag)(ab o1 o2 o3 sl:AV):Prop extends TabB H n cs z tg (.map mb) ab o1 o2 o3 sl where
 mp:H[mb]? = some (.map (VJ 0 cs))
theorem BP{Q:Prop}(h:Q:=by first |omega |(simp only[AG,Ad,Af];omega)):Q:=h
theorem Al{Q:Prop}(h:Q:=by(first |assumption |with_reducible exact JG _ |with_reducible exact VQ _ |with_reducible exact K9 _ |with_reducible exact Kx _ |with_reducible exact Vs _ |with_reducible exact QE _ |with_reducible exact Qa _ |with_reducible exact QL _ |with_reducible exact KT _ |with_reducible exact QM _ |with_reducible exact Xy _ |with_reducible exact Xu _ _ _)):Q:=h
theorem BC{Q:Prop}(h:Q:=by(simp only[Ap,AC,Au,Aw,Ar,JH,JJ,JI,Jv,Jx];rfl)):Q:=h
theorem BL{Q:Prop}(h:Q:=by(first |(simp only[Ad,Af,Nat.reduceAdd,AF];rfl) |rfl)):Q:=h
theorem EK{Q:Prop}(h:Q:=by first |with_reducible rfl |assumption |(simp only[decide_eq_true_eq,beq_iff_eq,bne_iff_ne,ne_eq,Bb,beq_eq_false_iff_ne,Ak];first |done |omega |assumption) |decide):Q:=h
theorem EL{Q:Prop}(h:Q:=by first |with_reducible rfl |assumption |(simp only[decide_eq_false_iff_not,beq_eq_false_iff_ne,bne_eq_false_iff_eq,ne_eq,CA,beq_iff_eq,Ak];first |done |omega |assumption) |decide):Q:=h
theorem EM{Q:Prop}(h:Q:=by first |rfl |exact Row.len Al):Q:=h
theorem KN{Q:Prop}(h:Q:=by(repeat' (first |(refine Jm3 ?_;first  |(refine Jlw ?_;first |refine Jqp rfl rfl ?_ |refine VN rfl ?_)  |(refine Jlx ?_;first    |(refine Jqq rfl rfl rfl ?_;first      |(refine Jd1 .add ?_;first |refine Jqt BP ?_ |refine Jqs rfl ?_)      |(refine JgE .add ?_;first |refine YX rfl (JbE O O) ?_ |refine YX rfl rfl ?_)      |(refine JgE .sub ?_;first |refine YX rfl (JbE O O) ?_ |refine YX rfl rfl ?_)      |(refine Jd1 .eql ?_;first |refine Jux Aj ?_ |refine Juy Aj ?_) |refine Jls rfl EK ?_      |refine Jho rfl EL ?_      |(refine Jqr rfl (λhq=>?_) (λhq=>?_) <;>(try simp only[decide_eq_true_eq,decide_eq_false_iff_not,beq_iff_eq,beq_eq_false_iff_ne,bne_iff_ne,ne_eq,bne_eq_false_iff_eq,Bb,DT,DU,Dc,Ak]at hq))      |refine YX rfl rfl ?_)    |refine VN rfl ?_)  |(refine YL ?_;first    |(refine XP rfl rfl ?_;first      |(refine Jd0 rfl ?_)      |(refine JbG ?_;first |refine zlr ?_ |refine zls ?_)      |(refine JbI ?_;first |refine zlo ?_ |refine Jo9 ?_ |refine Jpa ?_ |refine zlx ?_)      |(refine JaA ?_;first |refine Jnf ?_ |refine Jpq ?_ |refine Juq ?_)      |(refine Jd7 ?_;refine Jpb ?_)      |(refine Jax ?_;first |refine Jpc ?_ |refine Jpp ?_)      |(refine JaE ?_;(first |refine Jai ?_ JiM |refine Jai ?_ JiN |refine Jai ?_ JiO |refine Jai ?_ JiP)) |(refine JbH ?_;first |refine Jpd ?_ |refine Jpr ?_ |refine Jup ?_))    |refine VN rfl ?_)  |(refine Jbh ?_;refine zaa ?_)  |(refine Jly ?_;first    |(refine Jkj rfl rfl rfl ?_;first      |(refine JqU O O ?_;intro tk htk htk2)      |refine JaZ Aa O ?_      |refine JaZ rfl rfl ?_      |refine Jkk O O ?_)    |refine VN rfl ?_)  |(refine Jqu ?_;first    |refine JcC rfl rfl rfl B8 Aa ?_    |refine Jdf Aa rfl rfl rfl O ?_    |refine VN rfl ?_)  |(refine Qp ?_;first    |(refine Q1 rfl rfl ?_;first      |(refine Jlu ?_;first |refine ze1 ?_ |refine JfJ rfl ?_)      |(refine Jlv ?_;first |refine ze2 ?_ |refine JfJ rfl ?_)      |refine JfJ rfl ?_)    |refine VN rfl ?_)  |(refine Jlz ?_;first    |refine Jiy rfl rfl rfl rfl BH rfl ?_    |refine VN rfl ?_)  |(refine JlQ ?_;refine Je4 rfl rfl ?_)  |(refine Jun ?_;refine Jaw rfl rfl rfl ?_;first |(refine JKU Aa (λkq kc hkq hkc hkr hkl=>?_) (λhkq=>?_)) |(refine Juo Aa ?_)) |(refine JwU ?_;first |refine g_q rfl rfl ?_ |refine VN rfl ?_)  |(refine Vh ?_;first    |(refine VG rfl rfl rfl ?_;first      |(refine Jaz 0 ?_;refine s_n hlt (Ao _) rfl EM EM ?_;refine QJ ?_) |(refine Jaz (0+1) ?_;refine Jyi hlt Aa O ?_;intro rc _ _ _ _ _ _;refine QJ ?_)      |(refine Jaz (0+3) ?_;refine JhB hlt Aa O ?_;intro rc _ _ _ _ _ _;refine QJ ?_)      |(refine JcI ?_;first        |(refine JeX ?_;first          |(refine zsR ?_;refine QJ ?_)          |(refine zsA ?_;refine QJ ?_)) |(refine JeS ?_;refine zsT ?_;refine QJ ?_)        |(refine zsO ?_;refine QJ ?_)))    |refine Yo rfl Bt ?_)  |(refine Jpv ?_;refine Jnr hlt rfl rfl rfl BC BL ?_;refine QJ ?_) |(refine Jhp ?_;first    |(refine Je rfl rfl rfl ?_;first      |(refine Ye 56 ?_;(first |refine⟨_,_,Yp L _ _ _ _,?_⟩ |refine⟨_,_,Yp L.toLibD _ _ _ _,?_⟩);refine QJ ?_) |(refine Z1 90 (.int .i64 0) ?_;(refine Jcb (cis0 _) hlt Aa ?_ ?_ <;> intro hP <;> obtain⟨_,_⟩:=hP <;> refine QJ ?_)) |(refine Z1 90 (.int .i64 1) ?_;(refine Jcb (cis1 _) hlt Aa ?_ ?_ <;> intro hP <;> obtain⟨_,_⟩:=hP <;> refine QJ ?_)) |(refine Z1 90 (.int .i64 2) ?_;(refine Jcb (cis2 _) hlt Aa ?_ ?_ <;> intro hP <;> obtain⟨_,_⟩:=hP <;> refine QJ ?_))      |(refine Ye 134 ?_;refine Jhc cpl hlt Aa ?_;intro _ _;refine QJ ?_)      |(refine Ye 136 ?_;(refine JgL (ctk _) hlt Aa O O ?_ ?_ <;> intro rc rwc hR' _ _ _ _ _ _ hP <;> replace hR:=hR.trans hR' <;>(try replace hRL:=hRL.trans hR') <;> obtain⟨_,_⟩:=hP <;> refine QJ ?_)) |(refine Ye 140 ?_;(refine JgL (cen) hlt Aa O O ?_ ?_ <;> intro rc rwc hR' _ _ _ _ _ _ hP <;> replace hR:=hR.trans hR' <;>(try replace hRL:=hRL.trans hR') <;> obtain⟨_,_⟩:=hP <;> refine QJ ?_)) |(refine Ye 93 ?_;(refine KU (cnd _) hlt Aa O O ?_;intro _ rc rwc hR' _ _ _ _ _ _ hP;replace hR:=hR.trans hR';(try replace hRL:=hRL.trans hR');obtain⟨_,_⟩:=hP;refine QJ ?_)) |(refine Ye 95 ?_;(refine KU (cfl) hlt Aa O O ?_;intro _ rc rwc hR' _ _ _ _ _ _ hP;replace hR:=hR.trans hR';(try replace hRL:=hRL.trans hR');obtain⟨_,_⟩:=hP;refine QJ ?_))      |(refine JAG Aa (JlR hlt) ?_;intro rwt hRt;replace hR:=hR.trans hRt;refine QJ ?_) |(refine Ks Ed ?_;refine QJ ?_))    |refine Yo rfl Bt ?_)  |(refine JwV ?_;refine Yo rfl Bt ?_)  |(refine JlA ?_;refine Jix AK ?_)) |(refine Jm4 ?_;first  |refine Kt hm ?_  |(refine Jdg ?_;first |refine zar hm ?_ |refine Xe hm (Ar _) rfl ?_)  |(refine Jhq ?_;first |refine Jde rfl ?_ |refine Jbe rfl ?_ |refine Jpu rfl (λhq=>?_) (λhq=>?_))  |refine Jcz ?_  |refine JeO ?_  |refine Jiw ?_  |refine JeP ?_) |(refine JeQ ?_;first  |refine Jbf ?_  |refine JcA ?_  |refine YE ?_  |refine Y8 ?_  |refine Yc ?_  |refine Yd ?_  |refine XV O ?_  |refine JcB ?_)));all_goals(refine ob ?_;apply_rules (newGoals:=.nonDependentOnly) only[bx];exact trivial)):Q:=h
theorem JnC{cs:List Cls}{i:Nat}{c:Cls}(hc:cs[i]? = some c)(h:∀ x∈cs.take i,JiH cs x)(hx:JiH cs c):∀ x∈cs.take (i+1),JiH cs x:=by
 rw[QW hc];intro x hm;rcases AM.1 hm with h1 |h1
 ·exact h x h1
 ·rw[AN.1 h1];exact hx
def Je5(cs:List Cls)(s:Jk):Option Bool:=(J6 cs s).bind λi=>(cs[i]?).map (·.iface)
def JnD(cs:List Cls)(c:Cls)(_:Nat)(a:Jk):Int×Int:=match Je5 cs a with
 | none=>(121,c.at_)
 | some true=>(0,0)
 | some false=>(123,c.at_)
def Jss(cs:List Cls)(_:Nat)(c:Cls):Int×Int:=Xa (if c.super=[] then(0,0)else match Je5 cs c.super with
 | none=>(121,c.at_)
 | some false=>(0,0)
 | some true=>(123,c.at_)) (JY (JnD cs c) 0 c.above)
def JiQ(cs:List Cls):Int×Int:=JY (Jss cs) 0 cs
theorem JbP{cs:List Cls}{s:Jk}{k:Nat}{c:Cls}(h:J6 cs s=some k)(hc:cs[k]? = some c):Je5 cs s=some c.iface:=by unfold Je5;rw[h,Co,hc];rfl
theorem JiR{cs:List Cls}{s:Jk}(h:J6 cs s=none):Je5 cs s=none:=by unfold Je5;rw[h];rfl
theorem EN{Q:Prop}(h:Q:=by simpa using hq):Q:=h
theorem Jst(L:LibD pr F){H:List Blk}{rw:List Nat}{n mb z:Nat}{tg:Tag}{cs:List Cls}{ab o1 o2 o3 sl:AV}(T:TabM H n mb cs z tg ab o1 o2 o3 sl)(hbg:∀ c∈cs,c.above.length<=64800000) :
  ∃ f:Int×Int,f=JiQ cs/\(f.1=0->YA cs)/\Det pr F 102 [.ptr n 0] ⟨H,rw⟩ (.ret (.agg (KF f.1 f.2))) ⟨H,rw⟩:=by
 have hm:=L.hm;suffices h:Wp pr F 102 [.ptr n 0] ⟨H,rw⟩ λr S'=>∃ f:Int×Int,f=JiQ cs/\(f.1=0->YA cs)/\r=.ret (.agg (KF f.1 f.2))/\S'=⟨H,rw⟩ by obtain⟨r,S',hd,f,he,hf,rfl,rfl⟩:=h.det hm;exact⟨f,he,hf,hd⟩
 refine Jt hm L.f102.1 L.f102.2 rfl ?_;refine' VO;unfold Jt5;show At pr F H.length (fin _ H.length _) _ _ _ _;refine Xj hm ?_;intro H1 hH1 hlen hlt;have hF:=J1 hH1 T.at_;have hFm:=J1 hH1 T.mp;have hfew:=T.few;have hlm:(cs.map Jc).length=cs.length:=Ak _;refine' hG;refine JB hm (λmm e S'=>∃(i:Nat) (J:List Blk),S'=⟨hp H1 H.length (.cells [.int .i64 0,.int .i64 0]) J,rw⟩/\i<=cs.length/\JiQ cs=JY (Jss cs) i (cs.drop i)/\(∀ x∈cs.take i,JiH cs x)/\mm=cs.length-i/\e=[(0,.ptr n 0),(2,.ptr H.length 0),(14,.list z tg (cs.map Jc)),(15,.int .i64 ((cs.map Jc).length:Int)),(16,.int .i64 i)]) ?_ (m:=cs.length) ⟨0,[],rfl,O,rfl,Ag,rfl,rfl⟩;rintro mm e S' ⟨i,J,rfl,hi,hod,hok,rfl,rfl⟩;by_cases hlt2:i<cs.length
 ·obtain⟨c,hc⟩:∃ c,cs[i]? = some c:=⟨_,Ab hlt2⟩
  have hcr:(cs.map Jc)[i]? = some (Jc c):=EF
  have hz:z=9:=T.sz EG;subst hz;have hbc:=hbg c (Aq hc);rw[QA hc,Jss]at hod;refine' KN
  iterate 2
   ·exact Ju hH1 rfl (KA _ _) ⟨(_,_),by rw[hod,if_neg Aa];first |(rw[JbP hkq hkc,hq];rfl) |(rw[JiR Aa];rfl),λh=>ED,rfl,rfl⟩
   rotate_left 1
  all_goals
   have hsup:c.super≠[]->∃ k d,J6 cs c.super=some k/\cs[k]? = some d/\d.iface=false:=by
    first
     | exact λ_=>⟨kq,kc,hkq,hkc,hq⟩
     | exact λh=>absurd EN h
  all_goals
   have hod2:JiQ cs=Xa (JY (JnD cs c) 0 c.above) (JY (Jss cs) (i+1) (cs.drop (i+1))):=by
    first
     |(rw[hod,if_neg Aa,JbP hkq hkc,hq];rfl)
     |(rw[hod,if_pos EN];rfl)
  all_goals clear hod
  all_goals refine JB hm (λmm e S'=>∃ q:Nat,S'=⟨hp H1 H.length (.cells [.int .i64 0,.int .i64 0]) (J++[.cells (Jc c)]),rw⟩/\q<=c.above.length/\JiQ cs=Xa (JY (JnD cs c) q (c.above.drop q)) (JY (Jss cs) (i+1) (cs.drop (i+1)))/\(∀ a∈c.above.take q,∃ k d,J6 cs a=some k/\cs[k]? = some d/\d.iface=true)/\mm=c.above.length-q/\e=[(0,.ptr n 0),(2,.ptr H.length 0),(4,.ptr (H1.length+J.length) 0),(14,.list 9 tg (cs.map Jc)),(15,.int .i64 ((cs.map Jc).length:Int)),(16,.int .i64 i),(50,Kp 1 (c.above.map Qy)),(51,.int .i64 ((c.above.map Qy).length:Int)),(52,.int .i64 q)]) ?_ (m:=c.above.length) ⟨0,rfl,O,hod2,Ag,rfl,rfl⟩
  all_goals
   clear hod2;rintro mm e S' ⟨q,rfl,hq0,hod,hqa,rfl,rfl⟩;have hlc:(c.above.map Qy).length=c.above.length:=Ak _;by_cases hq1:q<c.above.length
   ·obtain⟨a,ha⟩:∃ a,c.above[q]? = some a:=⟨_,Ab hq1⟩
    have har:(c.above.map Qy)[q]? = some (Qy a):=by rw[Ax,ha];rfl
    have hl5:Kp 1 (c.above.map Qy)=.list 1 .dead (c.above.map Qy):=Kf (i:=q) EH;rw[hl5];rw[QA ha]at hod;refine' KN;all_goals first
     | exact Ju hH1 rfl (KA _ _) ⟨(_,_),by rw[hod,JnD];first |(rw[JbP hkq hkc,(by simpa using hq:kc.iface=false)];rfl) |(rw[JiR Aa];rfl),λh=>ED,rfl,rfl⟩
     | skip
    rw[JnD,JbP hkq hkc,(by simpa using hq:kc.iface=true)]at hod;refine⟨c.above.length-(q+1),O,q+1,rfl,O,hod,?_,rfl,rfl⟩;rw[QW ha];intro x hx;rcases AM.1 hx with h1 |h1
    ·exact hqa x h1
    ·rw[AN.1 h1];exact⟨kq,kc,hkq,hkc,EN⟩
   ·rw[QR O,Vm]at hod;refine' KN;exact⟨cs.length-(i+1),O,i+1,_,rfl,O,hod,JnC hc hok ⟨hsup,λa ha=>hqa a (by rw[show q=c.above.length by omega,AI];exact ha)⟩,rfl,rfl⟩
 ·refine' KN;exact Ju hH1 rfl (KA 0 0) ⟨(0,0),EI,λ_ c hc=>hok c (by rw[show i=cs.length by omega,AI];exact hc),rfl,rfl⟩
set_option maxRecDepth 100000
set_option maxHeartbeats 16000000
def JcN:{l:List IC // Tr.fn Tr.TT Tryz.f204 0 [[0,1],[0,1,5],[0,5,6],[0,5,6,18],[0,5,6],[0,5,30,31,32],[0,5,30,31,32,33],[0,5,8,30,31,32],[0,5,30,31,32],[0,5,30,31,32],[4]]=l}:=⟨_,AO⟩
def JKV:IC:=pk JcN.1 0
def JKW:IC:=pk JcN.1 1
def JKX:IC:=pk JcN.1 2
def JKY:IC:=pk JcN.1 3
def JKZ:IC:=pk JcN.1 4
def JK0:IC:=pk JcN.1 5
def JK1:IC:=pk JcN.1 6
def JK2:IC:=pk JcN.1 7
def JK3:IC:=pk JcN.1 8
def JK4:IC:=pk JcN.1 9
def JAH:IC:=pk JcN.1 10
def JK5:IFn:=⟨2,(.seq JKV (.seq JKW (.seq JKX (.seq (.seq JKY (.cond (.tmp 18) JKZ (.skip))) (.seq (.seq JK0 (.block 0 (.loop [0,5,30,31,32] (.seq JK1 (.seq (.cond (.tmp 33) (.skip) (.exit 0)) (.seq (.block 1 (.seq JK2 JK3)) JK4)))))) (.seq JAH .ret)))))),[.tmp 4]⟩
theorem J2F:JK Tryz.prog Tryz.f204 JK5=true:=Ae
def Jpw:{l:List IC // Tr.fn Tr.TT Tryz.f57 0 [[0,1],[0,1,5],[0,1,5,9],[0,1,5,18],[4],[0,1,5],[4]]=l}:=⟨_,AO⟩
def JWt:IC:=pk Jpw.1 0
def JWu:IC:=pk Jpw.1 1
def JWv:IC:=pk Jpw.1 2
def JWw:IC:=pk Jpw.1 3
def JWx:IC:=pk Jpw.1 4
def JWy:IC:=pk Jpw.1 5
def JWz:IC:=pk Jpw.1 6
def i57:IFn:=⟨2,(.seq JWt (.seq (.seq JWu (.block 0 (.loop [0,1,5] (.seq (.seq JWv (.cond (.tmp 9) (.skip) (.exit 0))) (.seq (.block 1 (.seq JWw (.cond (.tmp 18) (.seq JWx .ret) (.skip)))) JWy))))) (.seq JWz .ret))),[.tmp 4]⟩
theorem c57:JK Tryz.prog Tryz.f57 i57=true:=Ae
def JjT:{l:List IC // Tr.fn Tr.TT Tryz.f21 0 [[0,3],[0,3,18],[4,5],[0,3,6],[0,3,6,25],[0,3,6,7,8],[0,3,6,7,8,39],[4,5],[0,3,6],[4,5]]=l}:=⟨_,AO⟩
def JWA:IC:=pk JjT.1 0
def JWB:IC:=pk JjT.1 1
def JWC:IC:=pk JjT.1 2
def JWD:IC:=pk JjT.1 3
def JWE:IC:=pk JjT.1 4
def JWF:IC:=pk JjT.1 5
def JWG:IC:=pk JjT.1 6
def JWH:IC:=pk JjT.1 7
def JWI:IC:=pk JjT.1 8
def JWJ:IC:=pk JjT.1 9
def i21:IFn:=⟨2,(.seq JWA (.seq (.seq JWB (.cond (.tmp 18) (.seq JWC .ret) (.skip))) (.seq (.seq JWD (.block 0 (.loop [0,3,6] (.seq (.seq JWE (.cond (.tmp 25) (.skip) (.exit 0))) (.seq (.block 1 (.seq JWF (.seq JWG (.cond (.tmp 39) (.seq JWH .ret) (.skip))))) JWI))))) (.seq JWJ .ret)))),[.tmp 4,.tmp 5]⟩
theorem c21:JK Tryz.prog Tryz.f21 i21=true:=Ae
def JWK:{l:List IC // Tr.fn Tr.TT Tryz.f53 0 [[1],[2]]=l}:=⟨_,AO⟩
def JWL:IC:=pk JWK.1 0
def JWM:IC:=pk JWK.1 1
def i53:IFn:=⟨1,(.seq JWL (.seq JWM .ret)),[.tmp 2]⟩
theorem c53:JK Tryz.prog Tryz.f53 i53=true:=Ae
def JfT:{l:List IC // Tr.fn Tr.TT Tryz.f16 0 [[1],[1,4],[1,4,5],[2],[1,4,7],[2],[1,4,9],[2],[1,4,11],[2],[1,13],[2],[2]]=l}:=⟨_,AO⟩
def JWN:IC:=pk JfT.1 0
def JWO:IC:=pk JfT.1 1
def JWP:IC:=pk JfT.1 2
def JWQ:IC:=pk JfT.1 3
def JWR:IC:=pk JfT.1 4
def JWS:IC:=pk JfT.1 5
def JWT:IC:=pk JfT.1 6
def JWU:IC:=pk JfT.1 7
def JWV:IC:=pk JfT.1 8
def JWW:IC:=pk JfT.1 9
def JK6:IC:=pk JfT.1 10
def JK7:IC:=pk JfT.1 11
def JK8:IC:=pk JfT.1 12
def i16:IFn:=⟨1,(.seq JWN (.seq (.seq JWO (.block 0 (.seq JWP (.cond (.tmp 5) (.seq JWQ .ret) (.seq JWR (.cond (.tmp 7) (.seq JWS .ret) (.seq JWT (.cond (.tmp 9) (.seq JWU .ret) (.seq JWV (.cond (.tmp 11) (.seq JWW .ret) (.seq JK6 (.cond (.tmp 13) (.seq JK7 .ret) (.skip))))))))))))) (.seq JK8 .ret))),[.tmp 2]⟩
theorem c16:JK Tryz.prog Tryz.f16 i16=true:=Ae
def JlS:{l:List IC // Tr.fn Tr.TT Tryz.f18 0 [[0,1],[1,5],[1,5,6],[1,5,6,12],[1,5,6,16],[1,5,6],[1,5,6],[1,5,6],[4]]=l}:=⟨_,AO⟩
def JWX:IC:=pk JlS.1 0
def JWY:IC:=pk JlS.1 1
def JWZ:IC:=pk JlS.1 2
def JW0:IC:=pk JlS.1 3
def JW1:IC:=pk JlS.1 4
def JW2:IC:=pk JlS.1 5
def JW3:IC:=pk JlS.1 6
def JW4:IC:=pk JlS.1 7
def JW5:IC:=pk JlS.1 8
def i18:IFn:=⟨2,(.seq JWX (.seq JWY (.seq (.seq JWZ (.block 0 (.loop [1,5,6] (.seq (.seq JW0 (.cond (.tmp 12) (.skip) (.exit 0))) (.seq (.block 1 (.seq (.seq JW1 (.cond (.tmp 16) JW2 (.skip))) JW3)) JW4))))) (.seq JW5 .ret)))),[.tmp 4]⟩
theorem c18:JK Tryz.prog Tryz.f18 i18=true:=Ae
set_option maxRecDepth 100000
set_option maxHeartbeats 16000000
def Z5:{l:List IC // Tr.fn Tr.TT Tryz.f52 0 [[1],[1,3],[1,3,7],[1,3,7,8],[1,3],[1,3,7,10],[1,3],[1,3,7,12],[1,3],[1,3,7,16],[1,3,21],[1,3],[1,3],[1,3,7,29],[1,3],[1,3,31],[1,3],[1,3,34],[1,3],[3,38,39,40],[3,38,39,40,41],[3,5,38,39,40],[3,38,39,40],[3,38,39,40],[2]]=l}:=⟨_,AO⟩
def JD6:IC:=pk Z5.1 0
def JW6:IC:=pk Z5.1 1
def JW7:IC:=pk Z5.1 2
def JW8:IC:=pk Z5.1 3
def JW9:IC:=pk Z5.1 4
def JXa:IC:=pk Z5.1 5
def JXb:IC:=pk Z5.1 6
def JXc:IC:=pk Z5.1 7
def JXd:IC:=pk Z5.1 8
def JXe:IC:=pk Z5.1 9
def JK9:IC:=pk Z5.1 10
def JLa:IC:=pk Z5.1 11
def JLb:IC:=pk Z5.1 12
def JLc:IC:=pk Z5.1 13
def JLd:IC:=pk Z5.1 14
def JLe:IC:=pk Z5.1 15
def JLf:IC:=pk Z5.1 16
def JLg:IC:=pk Z5.1 17
def JLh:IC:=pk Z5.1 18
def JLi:IC:=pk Z5.1 19
def JLj:IC:=pk Z5.1 20
def JLk:IC:=pk Z5.1 21
def JLl:IC:=pk Z5.1 22
def JLm:IC:=pk Z5.1 23
def JLn:IC:=pk Z5.1 24
def i52:IFn:=⟨1,(.seq JD6 (.seq JW6 (.seq (.seq JW7 (.block 0 (.seq JW8 (.cond (.tmp 8) JW9 (.seq JXa (.cond (.tmp 10) JXb (.seq JXc (.cond (.tmp 12) JXd (.seq JXe (.cond (.tmp 16) (.seq (.seq JK9 (.cond (.tmp 21) JLa (.skip))) JLb) (.seq JLc (.cond (.tmp 29) JLd (.seq JLe (.cond (.tmp 31) JLf (.skip))))))))))))))) (.seq (.seq JLg (.cond (.tmp 34) JLh (.skip))) (.seq (.seq JLi (.block 1 (.loop [3,38,39,40] (.seq JLj (.seq (.cond (.tmp 41) (.skip) (.exit 1)) (.seq (.block 2 (.seq JLk JLl)) JLm)))))) (.seq JLn .ret)))))),[.tmp 2]⟩
theorem c52:JK Tryz.prog Tryz.f52 i52=true:=Ae
def XY:{l:List IC // Tr.fn Tr.TT Tryz.f96 0 [[1],[1,3,4],[1,3,4,5],[1,3,4,5,19],[1,3,4,5,19,20],[1,3,4,5,19,20],[2],[1,3,4,5,19,25],[2],[1,3,4,5,19,33],[2],[1,3,4,5,19,52],[2],[1,3,4,5,19,63],[1,6],[1,6,66,67,68],[1,6,66,67,68,69],[1,8,66,67,68],[1,6,66,67,68],[1,6,66,67,68],[2],[1,3,4,5,19,83],[2],[1,3,4,5,19,92],[2],[1,3,4,5,19,98],[2],[1,3,4,5,19,100],[2],[1,3,4,5,19,105],[2],[1,3,4,5,110],[2],[1,3,4,5,119],[2],[1,3,4,5,9],[1,3,4,5,9,124],[1,3,4,5,9]]=l}:=⟨_,AO⟩
def JcO:IC:=pk XY.1 0
def JXf:IC:=pk XY.1 1
def JXg:IC:=pk XY.1 2
def JXh:IC:=pk XY.1 3
def JXi:IC:=pk XY.1 4
def JXj:IC:=pk XY.1 5
def JXk:IC:=pk XY.1 6
def JXl:IC:=pk XY.1 7
def JXm:IC:=pk XY.1 8
def JXn:IC:=pk XY.1 9
def JLo:IC:=pk XY.1 10
def JLp:IC:=pk XY.1 11
def JLq:IC:=pk XY.1 12
def JLr:IC:=pk XY.1 13
def JLs:IC:=pk XY.1 14
def JLt:IC:=pk XY.1 15
def JLu:IC:=pk XY.1 16
def JLv:IC:=pk XY.1 17
def JLw:IC:=pk XY.1 18
def JLx:IC:=pk XY.1 19
def JLy:IC:=pk XY.1 20
def JLz:IC:=pk XY.1 21
def JLA:IC:=pk XY.1 22
def JLB:IC:=pk XY.1 23
def JLC:IC:=pk XY.1 24
def JLD:IC:=pk XY.1 25
def JLE:IC:=pk XY.1 26
def JLF:IC:=pk XY.1 27
def JLG:IC:=pk XY.1 28
def JLH:IC:=pk XY.1 29
def JLI:IC:=pk XY.1 30
def JLJ:IC:=pk XY.1 31
def JLK:IC:=pk XY.1 32
def JLL:IC:=pk XY.1 33
def JLM:IC:=pk XY.1 34
def JLN:IC:=pk XY.1 35
def JLO:IC:=pk XY.1 36
def JLP:IC:=pk XY.1 37
def J2M:{l:List IC // Tr.fn Tr.TT Tryz.f96 38 [[2]]=l}:=⟨_,AO⟩
def JLQ:IC:=pk J2M.1 0
def i96:IFn:=⟨1,(.seq JcO (.seq JXf (.seq JXg (.seq (.seq JXh (.block 0 (.seq (.seq JXi (.cond (.tmp 20) (.skip) JXj)) (.cond (.tmp 20) (.seq JXk .ret) (.seq JXl (.cond (.tmp 25) (.seq JXm .ret) (.seq JXn (.cond (.tmp 33) (.seq JLo .ret) (.seq JLp (.cond (.tmp 52) (.seq JLq .ret) (.seq JLr (.cond (.tmp 63) (.seq JLs (.seq (.seq JLt (.block 1 (.loop [1,6,66,67,68] (.seq JLu (.seq (.cond (.tmp 69) (.skip) (.exit 1)) (.seq (.block 2 (.seq JLv JLw)) JLx)))))) (.seq JLy .ret))) (.seq JLz (.cond (.tmp 83) (.seq JLA .ret) (.seq JLB (.cond (.tmp 92) (.seq JLC .ret) (.seq JLD (.cond (.tmp 98) (.seq JLE .ret) (.seq JLF (.cond (.tmp 100) (.seq JLG .ret) (.seq JLH (.cond (.tmp 105) (.seq JLI .ret) (.seq JLJ (.cond (.tmp 110) (.seq JLK .ret) (.skip))))))))))))))))))))))))) (.seq (.seq JLL (.cond (.tmp 119) (.seq JLM .ret) (.skip))) (.seq JLN (.seq (.seq JLO (.cond (.tmp 124) JLP (.skip))) (.seq JLQ .ret)))))))),[.tmp 2]⟩
theorem c96:JK Tryz.prog Tryz.f96 i96=true:=Ae
def JcP:{l:List IC // Tr.fn Tr.TT Tryz.f97 0 [[1],[1],[1,6],[1,6,9],[1,3],[1,6,11],[1,3],[1,13],[1,3],[1,3],[1,3,22],[1,3],[1,3,4],[1,3,4,29],[1,3,4],[1,3,4],[2]]=l}:=⟨_,AO⟩
def JXo:IC:=pk JcP.1 0
def JXp:IC:=pk JcP.1 1
def JXq:IC:=pk JcP.1 2
def JXr:IC:=pk JcP.1 3
def JXs:IC:=pk JcP.1 4
def JXt:IC:=pk JcP.1 5
def JXu:IC:=pk JcP.1 6
def JXv:IC:=pk JcP.1 7
def JXw:IC:=pk JcP.1 8
def JXx:IC:=pk JcP.1 9
def JLR:IC:=pk JcP.1 10
def JLS:IC:=pk JcP.1 11
def JLT:IC:=pk JcP.1 12
def JLU:IC:=pk JcP.1 13
def JLV:IC:=pk JcP.1 14
def JLW:IC:=pk JcP.1 15
def JLX:IC:=pk JcP.1 16
def i97:IFn:=⟨1,(.seq JXo (.seq JXp (.seq (.seq JXq (.block 0 (.seq JXr (.cond (.tmp 9) JXs (.seq JXt (.cond (.tmp 11) JXu (.seq JXv (.cond (.tmp 13) JXw JXx)))))))) (.seq (.seq JLR (.cond (.tmp 22) JLS (.skip))) (.seq (.seq JLT (.block 1 (.loop [1,3,4] (.seq (.seq JLU (.cond (.tmp 29) (.skip) (.exit 1))) (.seq (.block 2 JLV) JLW))))) (.seq JLX .ret)))))),[.tmp 2]⟩
theorem c97:JK Tryz.prog Tryz.f97 i97=true:=Ae
def JgP:{l:List IC // Tr.fn Tr.TT Tryz.f127 0 [[0],[0,3],[3,6,7,8],[3,6,7,8,9],[3,5,6,7,8],[3,6,7,8],[3,6,7,8],[2]]=l}:=⟨_,AO⟩
def JLY:IC:=pk JgP.1 0
def JLZ:IC:=pk JgP.1 1
def JL0:IC:=pk JgP.1 2
def JL1:IC:=pk JgP.1 3
def JL2:IC:=pk JgP.1 4
def JL3:IC:=pk JgP.1 5
def JL4:IC:=pk JgP.1 6
def JL5:IC:=pk JgP.1 7
def JL6:IFn:=⟨1,(.seq JLY (.seq JLZ (.seq (.seq JL0 (.block 0 (.loop [3,6,7,8] (.seq JL1 (.seq (.cond (.tmp 9) (.skip) (.exit 0)) (.seq (.block 1 (.seq JL2 JL3)) JL4)))))) (.seq JL5 .ret)))),[.tmp 2]⟩
theorem J2P:JK Tryz.prog Tryz.f127 JL6=true:=Ae
def Jq1:{l:List IC // Tr.fn Tr.TT Tryz.f142 0 [[0,1,4],[0,1,4,8],[4],[4]]=l}:=⟨_,AO⟩
def Jur:IC:=pk Jq1.1 0
def JL7:IC:=pk Jq1.1 1
def JL8:IC:=pk Jq1.1 2
def JL9:IC:=pk Jq1.1 3
def JMa:IFn:=⟨2,(.seq Jur (.seq (.seq JL7 (.cond (.tmp 8) (.seq JL8 .ret) (.skip))) (.seq JL9 .ret))),[.cell 4 (some 5)]⟩
theorem J2Q:JK Tryz.prog Tryz.f142 JMa=true:=Ae
def JcQ:{l:List IC // Tr.fn Tr.TT Tryz.f143 0 [[1],[1,5],[1,5,6],[2],[1,5,8],[1,8],[2],[3],[3,15],[2],[2]]=l}:=⟨_,AO⟩
def Jus:IC:=pk JcQ.1 0
def JMb:IC:=pk JcQ.1 1
def JMc:IC:=pk JcQ.1 2
def JMd:IC:=pk JcQ.1 3
def JMe:IC:=pk JcQ.1 4
def JMf:IC:=pk JcQ.1 5
def JMg:IC:=pk JcQ.1 6
def JMh:IC:=pk JcQ.1 7
def JMi:IC:=pk JcQ.1 8
def JMj:IC:=pk JcQ.1 9
def JAI:IC:=pk JcQ.1 10
def JMk:IFn:=⟨1,(.seq Jus (.seq (.seq JMb (.block 0 (.seq JMc (.cond (.tmp 6) (.seq JMd .ret) (.seq (.seq JMe (.cond (.tmp 8) (.skip) JMf)) (.cond (.tmp 8) (.seq JMg .ret) (.skip))))))) (.seq (.seq JMh (.seq JMi (.cond (.tmp 15) (.seq JMj .ret) (.skip)))) (.seq JAI .ret)))),[.tmp 2]⟩
theorem J2R:JK Tryz.prog Tryz.f143 JMk=true:=Ae
def JD7:{l:List IC // Tr.fn Tr.TT Tryz.f144 0 [[1],[2]]=l}:=⟨_,AO⟩
def Jut:IC:=pk JD7.1 0
def JMl:IC:=pk JD7.1 1
def JMm:IFn:=⟨1,(.seq Jut (.seq JMl .ret)),[.tmp 2]⟩
theorem J2S:JK Tryz.prog Tryz.f144 JMm=true:=Ae
def Jq2:{l:List IC // Tr.fn Tr.TT Tryz.f145 0 [[1,2],[2,8],[4],[4]]=l}:=⟨_,AO⟩
def Juu:IC:=pk Jq2.1 0
def JMn:IC:=pk Jq2.1 1
def JMo:IC:=pk Jq2.1 2
def JMp:IC:=pk Jq2.1 3
def JMq:IFn:=⟨2,(.seq Juu (.seq (.seq JMn (.cond (.tmp 8) (.seq JMo .ret) (.skip))) (.seq JMp .ret))),[.tmp 4]⟩
theorem J2T:JK Tryz.prog Tryz.f145 JMq=true:=Ae
def VR:{l:List IC // Tr.fn Tr.TT Tryz.f146 0 [[1],[1,7],[1,7,8],[1,7,8],[2],[1,7,13],[1,7,13],[1,7,13],[1,7,13],[2],[1,7,20],[2],[1,7,22],[2],[1,7,31],[2],[1,7,42],[2],[1,7,56],[2],[1,7,67],[2],[1,7,85],[2],[1,7,100],[2],[1,108],[2],[1,3],[1,3,4,5],[1,3,4,5,123],[1,3,4,5],[1,4,5,125],[1,4,5]]=l}:=⟨_,AO⟩
def JMr:IC:=pk VR.1 0
def JMs:IC:=pk VR.1 1
def JMt:IC:=pk VR.1 2
def JMu:IC:=pk VR.1 3
def JMv:IC:=pk VR.1 4
def JMw:IC:=pk VR.1 5
def JMx:IC:=pk VR.1 6
def JMy:IC:=pk VR.1 7
def JMz:IC:=pk VR.1 8
def JMA:IC:=pk VR.1 9
def JAJ:IC:=pk VR.1 10
def JAK:IC:=pk VR.1 11
def JAL:IC:=pk VR.1 12
def JAM:IC:=pk VR.1 13
def JAN:IC:=pk VR.1 14
def JAO:IC:=pk VR.1 15
def JAP:IC:=pk VR.1 16
def JAQ:IC:=pk VR.1 17
def JAR:IC:=pk VR.1 18
def JAS:IC:=pk VR.1 19
def JAT:IC:=pk VR.1 20
def JAU:IC:=pk VR.1 21
def JAV:IC:=pk VR.1 22
def JAW:IC:=pk VR.1 23
def JAX:IC:=pk VR.1 24
def JAY:IC:=pk VR.1 25
def JAZ:IC:=pk VR.1 26
def JA0:IC:=pk VR.1 27
def JA1:IC:=pk VR.1 28
def JA2:IC:=pk VR.1 29
def JA3:IC:=pk VR.1 30
def JA4:IC:=pk VR.1 31
def JA5:IC:=pk VR.1 32
def JA6:IC:=pk VR.1 33
def JXy:{l:List IC // Tr.fn Tr.TT Tryz.f146 34 [[2]]=l}:=⟨_,AO⟩
def JA7:IC:=pk JXy.1 0
def JMB:IFn:=⟨1,(.seq JMr (.seq (.seq JMs (.block 0 (.seq (.seq JMt (.cond (.tmp 8) (.skip) JMu)) (.cond (.tmp 8) (.seq JMv .ret) (.seq (.seq JMw (.cond (.tmp 13) (.skip) (.seq JMx (.cond (.tmp 13) (.skip) (.seq JMy (.cond (.tmp 13) (.skip) JMz)))))) (.cond (.tmp 13) (.seq JMA .ret) (.seq JAJ (.cond (.tmp 20) (.seq JAK .ret) (.seq JAL (.cond (.tmp 22) (.seq JAM .ret) (.seq JAN (.cond (.tmp 31) (.seq JAO .ret) (.seq JAP (.cond (.tmp 42) (.seq JAQ .ret) (.seq JAR (.cond (.tmp 56) (.seq JAS .ret) (.seq JAT (.cond (.tmp 67) (.seq JAU .ret) (.seq JAV (.cond (.tmp 85) (.seq JAW .ret) (.seq JAX (.cond (.tmp 100) (.seq JAY .ret) (.seq JAZ (.cond (.tmp 108) (.seq JA0 .ret) (.skip))))))))))))))))))))))))) (.seq JA1 (.seq JA2 (.seq (.seq JA3 (.cond (.tmp 123) JA4 (.skip))) (.seq (.seq JA5 (.cond (.tmp 125) JA6 (.skip))) (.seq JA7 .ret))))))),[.tmp 2]⟩
theorem J2U:JK Tryz.prog Tryz.f146 JMB=true:=Ae
def YG:{l:List IC // Tr.fn Tr.TT Tryz.f198 0 [[0],[3],[3,4],[2],[3,6],[2],[3,8],[3,8],[3,8],[3,8],[3,8],[3,8],[2],[3,15],[3,15],[2],[3,18],[3,18],[18],[2],[2]]=l}:=⟨_,AO⟩
def JMC:IC:=pk YG.1 0
def JMD:IC:=pk YG.1 1
def JME:IC:=pk YG.1 2
def JMF:IC:=pk YG.1 3
def JMG:IC:=pk YG.1 4
def JMH:IC:=pk YG.1 5
def JMI:IC:=pk YG.1 6
def JMJ:IC:=pk YG.1 7
def JMK:IC:=pk YG.1 8
def JML:IC:=pk YG.1 9
def JA8:IC:=pk YG.1 10
def JA9:IC:=pk YG.1 11
def JBa:IC:=pk YG.1 12
def JBb:IC:=pk YG.1 13
def JBc:IC:=pk YG.1 14
def JBd:IC:=pk YG.1 15
def JBe:IC:=pk YG.1 16
def JBf:IC:=pk YG.1 17
def JBg:IC:=pk YG.1 18
def JBh:IC:=pk YG.1 19
def JBi:IC:=pk YG.1 20
def JMM:IFn:=⟨1,(.seq JMC (.seq (.seq JMD (.block 0 (.seq JME (.cond (.tmp 4) (.seq JMF .ret) (.seq JMG (.cond (.tmp 6) (.seq JMH .ret) (.seq (.seq JMI (.cond (.tmp 8) (.skip) (.seq JMJ (.cond (.tmp 8) (.skip) (.seq JMK (.cond (.tmp 8) (.skip) (.seq JML (.cond (.tmp 8) (.skip) (.seq JA8 (.cond (.tmp 8) (.skip) JA9)))))))))) (.cond (.tmp 8) (.seq JBa .ret) (.seq (.seq JBb (.cond (.tmp 15) (.skip) JBc)) (.cond (.tmp 15) (.seq JBd .ret) (.seq (.seq JBe (.cond (.tmp 18) (.skip) (.seq JBf (.cond (.tmp 18) (.skip) JBg)))) (.cond (.tmp 18) (.seq JBh .ret) (.skip))))))))))))) (.seq JBi .ret))),[.tmp 2]⟩
theorem J2V:JK Tryz.prog Tryz.f198 JMM=true:=Ae
def Je6:{l:List IC // Tr.fn Tr.TT Tryz.f199 0 [[0],[0,3],[0,3,4],[0,3,4,8],[0,3,4,12],[0,3,4],[0,3,4],[0,3,4],[2]]=l}:=⟨_,AO⟩
def JMN:IC:=pk Je6.1 0
def JMO:IC:=pk Je6.1 1
def JMP:IC:=pk Je6.1 2
def JMQ:IC:=pk Je6.1 3
def JMR:IC:=pk Je6.1 4
def JMS:IC:=pk Je6.1 5
def JMT:IC:=pk Je6.1 6
def JMU:IC:=pk Je6.1 7
def JMV:IC:=pk Je6.1 8
def JMW:IFn:=⟨1,(.seq JMN (.seq JMO (.seq (.seq JMP (.block 0 (.loop [0,3,4] (.seq (.seq JMQ (.cond (.tmp 8) (.skip) (.exit 0))) (.seq (.block 1 (.seq (.seq JMR (.cond (.tmp 12) JMS (.skip))) JMT)) JMU))))) (.seq JMV .ret)))),[.tmp 2]⟩
theorem J2W:JK Tryz.prog Tryz.f199 JMW=true:=Ae
def Jq3:{l:List IC // Tr.fn Tr.TT Tryz.f200 0 [[1,2],[2,8],[4],[4]]=l}:=⟨_,AO⟩
def JMX:IC:=pk Jq3.1 0
def JMY:IC:=pk Jq3.1 1
def JMZ:IC:=pk Jq3.1 2
def JM0:IC:=pk Jq3.1 3
def JM1:IFn:=⟨2,(.seq JMX (.seq (.seq JMY (.cond (.tmp 8) (.seq JMZ .ret) (.skip))) (.seq JM0 .ret))),[.tmp 4]⟩
theorem J2X:JK Tryz.prog Tryz.f200 JM1=true:=Ae
def JiS:{l:List IC // Tr.fn Tr.TT Tryz.f229 0 [[1],[1,11],[2],[3],[3,16],[2],[2]]=l}:=⟨_,AO⟩
def JM2:IC:=pk JiS.1 0
def JM3:IC:=pk JiS.1 1
def JM4:IC:=pk JiS.1 2
def JM5:IC:=pk JiS.1 3
def JM6:IC:=pk JiS.1 4
def JM7:IC:=pk JiS.1 5
def JM8:IC:=pk JiS.1 6
def JM9:IFn:=⟨1,(.seq JM2 (.seq (.seq JM3 (.cond (.tmp 11) (.seq JM4 .ret) (.skip))) (.seq (.seq JM5 (.seq JM6 (.cond (.tmp 16) (.seq JM7 .ret) (.skip)))) (.seq JM8 .ret)))),[.tmp 2]⟩
theorem J2Y:JK Tryz.prog Tryz.f229 JM9=true:=Ae
def Xr(op:Jk):Int:=if op=[110,101,103]\/op=[110,111,116] then 6 else if 0<=KO op then KO op else 7
def atT(p:Int×Jk)(least:Int):Jk:=if p.1<least then [40]++p.2++[41] else p.2
def Xb(sep:Jk):List Jk->Jk
 | []=>[]
 | [x]=>x
 | x::y::l=>x++sep++Xb sep (y::l)
def Zh:Int×Jk:=(7,[110,117,108,108])
def XS(op name:Jk)(az:List (Int×Jk))(ty:Jk):Jk:=
 let a:=az.getD 0 Zh;let b:=az.getD 1 Zh
 if op=[110,117,109]\/op=[118,97,114] then name
 else if op=[102,105,101,108,100] then atT a 7++[46]++name
 else if op=[99,97,108,108] then atT a 7++[46]++name++[40]++Xb [44,32] ((az.drop 1).map (·.2))++[41]
 else if op=[110,101,119] then [110,101,119,32]++name++[40]++Xb [44,32] (az.map (·.2))++[41]
 else if op=[108,105,115,116] then [108,105,115,116,32]++ty++[40]++Xb [44,32] (az.map (·.2))++[41]
 else if op=[105,110,100,101,120] then atT a 7++[91]++b.2++[93]
 else if op=[108,101,110] then [108,101,110,40]++a.2++[41]
 else if op=[114,101,97,100] then [114,101,97,100,40,41]
 else if op=[110,101,103] then [45]++atT a 6
 else if op=[110,111,116] then [33]++atT a 6
 else if KO op<0 then op
 else atT a (if KO op=0 then 1 else if KO op=3 then 4 else KO op)++[32]++op++[32]++atT b (if KO op=0 then 0 else KO op+1)
mutual
def Q2:Ty->Jk
 | .mk kind name null K5 pred _=>(if kind=1 then [105,110,116] else if kind=2 then [98,111,111,108] else if kind=3 then name else if kind=4 then Ve K5++[91,93] else if kind=0 then [118,111,105,100] else [110,117,108,108])++(if null then [63] else [])++QX pred
def Ve:List Ty->Jk
 | []=>[]
 | t::_=>Q2 t
def QX:List Xp->Jk
 | []=>[]
 | x::xs=>[123,118,32,124,32]++Jy x++[125]++QX xs
def Jy:Xp->Jk
 | .mk op name args ty _=>XS op name (KH args) (Ve ty)
def KH:List Xp->List (Int×Jk)
 | []=>[]
 | .mk op name args ty _a::xs=>(Xr op,XS op name (KH args) (Ve ty))::KH xs
end
def Xp.op:Xp->Jk
 | .mk op _ _ _ _=>op
theorem XT(x:Xp)(xs:List Xp):KH (x::xs)=(Xr x.op,Jy x)::KH xs:=by obtain⟨op,name,args,ty,a⟩:=x;simp only[KH,Jy,Xp.op]
theorem JgQ:KH []=[]:=by simp only[KH]
theorem Vo(xs:List Xp):(KH xs).map (·.2)=xs.map Jy:=by
 induction xs with
 | nil=>simp[KH]
 | cons x xs ih=>rw[XT];simp[ih]
def QV:Ty->Jk
 | .mk kind name _ K5 _ _=>if kind=1 then [105,110,116] else if kind=2 then [98,111,111,108] else if kind=3 then name else if kind=4 then Ve K5++[91,93] else if kind=0 then [118,111,105,100] else [110,117,108,108]
def Vx(name:Jk)(ps:List Par):Jk:=name++[40]++Xb [44] (ps.map λp=>QV p.type)++[41]
theorem Za(p:Int×Jk)(k:Int):(atT p k).length<=p.2.length+2:=by unfold atT;split <;> simp
def YH:List (Int×Jk)->Nat
 | []=>0
 | p::ps=>p.2.length+YH ps
theorem Jam(sep:Jk):∀ l:List Jk,(Xb sep l).length<=(l.map λx=>x.length+sep.length).sum:=by
 intro l;induction l with
 | nil=>simp[Xb]
 | cons x l ih=>
  cases l with
  | nil=>simp[Xb]
  | cons y l=>simp only[Xb,AG,Ap,Du]at ih |-;omega
theorem JlT(l:List (Int×Jk))(k:Nat):((l.map (·.2)).map λx=>x.length+k).sum=YH l+k*l.length:=by
 induction l with
 | nil=>simp[YH]
 | cons p l ih=>simp only[Ap,Du,YH,Ad,ih,Nat.mul_add,Nat.mul_one];omega
theorem Juv(az:List (Int×Jk)):(az.getD 0 Zh).2.length<=YH az+4:=by
 cases az with
 | nil=>simp[Zh]
 | cons p l=>simp[YH];omega
theorem Juw(az:List (Int×Jk)):(az.getD 1 Zh).2.length+(if 0<az.length then(az.getD 0 Zh).2.length else 0)<=YH az+4:=by
 match az with
 | []=>simp[Zh]
 | [p]=>simp[Zh,YH];omega
 | p::q::l=>simp[YH];omega
theorem JBj{c:Prop}[Decidable c]{a b:Jk}{n:Nat}(ha:a.length<=n)(hb:b.length<=n):(if c then a else b).length<=n:=by
 split
 ·exact ha
 ·exact hb
theorem JiT(op name ty:Jk)(az:List (Int×Jk)):(XS op name az ty).length<=op.length+name.length+YH az+ty.length+2*az.length+16:=by
 have h0:=Juv az;have h1:=Juw az;have ha:=λk=>Za (az.getD 0 Zh) k;have hb:=λk=>Za (az.getD 1 Zh) k;have hj:=Jam [44,32] (az.map (·.2));rw[show([44,32]:Jk).length=2 from rfl,JlT]at hj;have hk:=Jam [44,32] ((az.drop 1).map (·.2));rw[show([44,32]:Jk).length=2 from rfl,JlT]at hk;have hd:YH (az.drop 1)+2*(az.drop 1).length+(az.getD 0 Zh).2.length<=YH az+2*az.length+4:=by
  cases az with
  | nil=>simp[YH,Zh]
  | cons p l=>simp[YH];omega
 have h2:(az.getD 0 Zh).2.length+(az.getD 1 Zh).2.length<=YH az+8:=by
  match az with
  | []=>simp[Zh]
  | [p]=>simp[Zh,YH]
  | p::q::l=>simp[YH];omega
 have h3:(az.getD 1 Zh).2.length<=YH az+8:=O;unfold XS;simp only;have a7:=ha 7;have a6:=ha 6;have al:=ha (if KO op=0 then 1 else if KO op=3 then 4 else KO op);have bl:=hb (if KO op=0 then 0 else KO op+1);have c1:=ha 1;have c4:=ha 4;have cL:=ha (KO op);have d0:=hb 0;have dL:=hb (KO op+1)
 repeat' refine JBj ?_ ?_
 all_goals try simp only[AG,Ad,Af]
 all_goals omega
theorem Jsu{op:Jk}(h:¬op=[108,105,115,116])(name:Jk)(az:List (Int×Jk))(ty:Jk):XS op name az ty=XS op name az []:=by simp only[XS,if_neg h]
mutual
theorem Vk(x:Xp):(Jy x).length+8<=32*VY x:=by
 obtain⟨op,name,args,ty,a⟩:=x;have h1:=Q8 args;have h2:=Q9 ty;by_cases hl:op=[108,105,115,116]
 ·have h3:=JiT op name (Ve ty) (KH args);simp only[Jy,VY,if_pos hl];omega
 ·have h3:=JiT op name [] (KH args);simp only[Jy,VY,if_neg hl,Jsu hl,Af]at h3 |-;omega
theorem Q8(xs:List Xp):YH (KH xs)+8*(KH xs).length<=32*KE xs:=by
 match xs with
 | []=>simp[KH,YH]
 | x::xs=>have h1:=Vk x;have h2:=Q8 xs;rw[XT];simp only[YH,KE,Ad];omega
theorem JbQ(t:Ty):(Q2 t).length+8<=32*Xg t:=by
 obtain⟨kind,name,null,K5,pred,a⟩:=t;have h1:=Q9 K5;have h2:=Je7 pred;simp only[Q2,Xg]
 repeat' split
 all_goals simp only[AG,Ad,Af]
 all_goals omega
theorem Q9(ts:List Ty):(Ve ts).length<=32*XI ts:=by
 match ts with
 | []=>simp[Ve]
 | t::ts=>have h1:=JbQ t;simp only[Ve,XI];omega
theorem Je7(xs:List Xp):(QX xs).length<=32*KE xs:=by
 match xs with
 | []=>simp[QX]
 | x::xs=>have h1:=Vk x;have h2:=Je7 xs;simp only[QX,KE,AG,Ad,Af];omega
end
theorem JfU(t:Ty):(QV t).length<=32*Xg t:=by
 obtain⟨kind,name,null,K5,pred,a⟩:=t;have h1:=Q9 K5;simp only[QV,Xg]
 repeat' split
 all_goals try simp only[AG,Ad,Af]
 all_goals omega
theorem Q3{α:Type}(w:α->Nat){x:α}:∀{l:List α},x∈l->w x<=wL w l:=by
 intro l;induction l with
 | nil=>intro h;cases h
 | cons y l ih=>
  intro h;simp only[wL];rcases AS.1 h with h |h
  ·subst h;omega
  ·have:=ih h;omega
theorem JcR{α:Type}(w:α->Nat)(hw:∀ x,1<=w x):∀(l:List α),l.length<=wL w l:=by
 intro l;induction l with
 | nil=>simp[wL]
 | cons y l ih=>simp only[wL,Ad];have:=hw y;omega
structure LibE(pr:Jz)(F:Nat->Option IFn):Prop extends LibD pr F where
 f16:QG pr F 16 i16
 f18:QG pr F 18 i18
 f21:QG pr F 21 i21
 f53:QG pr F 53 i53
 f57:QG pr F 57 i57
 f204:QG pr F 204 JK5
 f52:QG pr F 52 i52
 f96:QG pr F 96 i96
 f97:QG pr F 97 i97
 f127:QG pr F 127 JL6
 f142:QG pr F 142 JMa
 f143:QG pr F 143 JMk
 f144:QG pr F 144 JMm
 f145:QG pr F 145 JMq
 f146:QG pr F 146 JMB
 f198:QG pr F 198 JMM
 f199:QG pr F 199 JMW
 f200:QG pr F 200 JM1
 f229:QG pr F 229 JM9
 join:∀(l:List Jk) (sep:Jk) (v:AV) (H:List Blk) (rw:List Nat),IsL 1 v (l.map Qy)->(l.map λx=>x.length+sep.length).sum<=2147483648->(hs:0<sep.length:=by decide)->Det pr F 54 [v,.str sep] ⟨H,rw⟩ (.ret (.str (Xb sep l))) ⟨H,rw⟩
theorem Jux{tk:TK}{a b:Jk}{K:AV->Prop}(h:(a == b)=true)(hk:K (.bool true)):BnAt tk .eql (.str a) (.str b) K:=⟨_,by simp only[Jet,h],hk⟩
theorem Juy{tk:TK}{a b:Jk}{K:AV->Prop}(h:(a == b)=false)(hk:K (.bool false)):BnAt tk .eql (.str a) (.str b) K:=⟨_,by simp only[Jet,h],hk⟩
def Je8(x:Jk):Int:=
 if x=[124,124] then 0 else if x=[38,38] then 1
 else if x=[61,61]\/x=[33,61]\/x=[60]\/x=[60,61]\/x=[62]\/x=[62,61] then 2
 else if x=[43]\/x=[45] then 3 else if x=[42]\/x=[47]\/x=[37] then 4 else -1
theorem Jpx(x:Jk)(h:x≠[61,62]):Je8 x=KO x-(if KO x<0 then 0 else 1):=by
 unfold KO;rw[if_neg h];unfold Je8
 repeat' split
 all_goals first |rfl |omega
theorem Juz(L:LibE pr F)(S:St)(x:Jk):Det pr F 198 [.str x] S (.ret (.int .i64 (Je8 x))) S:=by
 have hm:=L.hm;obtain⟨H,rw⟩:=S;refine Det.of hm (Jt hm L.f198.1 L.f198.2 rfl ?_);refine' hG;all_goals
  refine Js rfl rfl (AI) ⟨?_,rfl⟩;simp only[Res.ret.injEq,AV.int.injEq,true_and,Je8]
 all_goals first |(subst hq;rfl) |simp only[*,or_self,if_false]
theorem QP{H:List Blk}{n:Nat}{b:Blk}{rw:List Nat}(h:H[n]? = some b):(⟨hp H n b [],rw⟩:St)=⟨H,rw⟩:=by rw[<- Xi h]
theorem Va{H H1 M:List Blk}{rw:List Nat}{z b:Blk}{v:AV}{t:Nat}{e:KC}{Q:Res->St->Prop}(hH:H1=H++[z])(he:Jj e t=some v)(hb:Ai.below H.length v=true)(h:Q (.ret v) ⟨H,rw⟩) :
  fin [.tmp t] H.length Q .ret e ⟨hp H1 H.length b M,rw⟩:=by
 subst hH;exact Js (by simp only[QT,he]) hb JZ h
theorem JBk(x:Jk):-1<=Je8 x/\Je8 x<=4:=by
 unfold Je8
 repeat' split
 all_goals omega
theorem Jsv(op:Jk):Xr op=if op=[61,62] then 0 else if op=[110,101,103]\/op=[110,111,116] then 6 else if 0<=Je8 op then Je8 op+1 else 7:=by
 by_cases h:op=[61,62]
 ·subst h;decide
 ·rw[if_neg h];unfold Xr;have hr:=Jpx op h;have hl:KO op≠0:=by
   unfold KO;rw[if_neg h]
   repeat' split
   all_goals omega
  split
  ·rfl
  ·by_cases h0:KO op<0
   ·rw[if_pos h0]at hr;rw[if_neg O,if_neg O]
   ·rw[if_neg h0]at hr;rw[if_pos O,if_pos O];omega
theorem Xz(L:LibE pr F)(x:Xp):TxOk pr F 143 [.agg (Jb x)] (.int .i64 (Xr x.op)):=by
 have hm:=L.hm;refine TxOk.of hm ?_;intro H rw hH;obtain⟨op,name,args,ty,a⟩:=x;refine Jt hm L.f143.1 L.f143.2 rfl ?_;refine Kt hm ?_;unfold Jus;show At pr F H.length (fin _ H.length _) _ _ _ _;refine YB hm rfl ?_;intro H1 hH1 hlen hlt;have hd1:=λS=>Juz L S op;have hR:Rx rw rw:=Rx.rfl;obtain⟨hrk1,hrk2⟩:=JBk op;refine' KN;all_goals refine Va hH1 rfl rfl ⟨_,hR,?_,rfl⟩
 all_goals rw[show(Xp.mk op name args ty a).op=op from rfl,Jsv]
 all_goals first
  | rw[if_pos Aa]
  | rw[if_neg Aa,if_pos (Or.inl Aa)]
  | rw[if_neg Aa,if_pos (Or.inr Aa)]
  | rw[if_neg Aa,if_neg (by rintro(h |h) <;> contradiction),if_pos O]
  | rw[if_neg Aa,if_neg (by rintro(h |h) <;> contradiction),if_neg O]
theorem JiU(L:LibE pr F)(x:Xp)(k:Int)(hx:TxOk pr F 96 [.agg (Jb x)] (.str (Jy x)))(hs:(Jy x).length<=2147483648):TxOk pr F 145 [.agg (Jb x),.int .i64 k] (.str (atT (Xr x.op,Jy x) k)):=by
 have hm:=L.hm;refine TxOk.of hm ?_;intro H rw hH;have hR:Rx rw rw:=Rx.rfl;have hb:=Xz L x;refine Jt hm L.f145.1 L.f145.2 rfl ?_;refine Kt hm ?_;unfold Juu;show At pr F H.length (fin _ H.length _) _ _ _ _;refine YB hm rfl ?_;intro H1 hH1 hlen hlt;refine' KN
 ·exact Va hH1 rfl rfl ⟨_,hR,by rw[atT,if_pos Aa],rfl⟩
 ·exact Va hH1 rfl rfl ⟨_,hR,by rw[atT,if_neg O],rfl⟩
def JaU(k:Nat):List AV:=[.int .i64 (k:Int)]
def Ki(l:List Nat):List (List AV):=l.map JaU
theorem Xo(a b:List Nat):Ki (a++b)=Ki a++Ki b:=An
theorem QS(a:List Nat):(Ki a).length=a.length:=Ak _
structure TabL(H:List Blk)(n mb:Nat)(cs:List Cls)(z:Nat)(tg:Tag)(ab o1 o2 o3 sl:AV):Prop extends TabM H n mb cs z tg ab o1 o2 o3 sl where
 linked:YA cs
 unlike:Unlike cs
 wt:wL V1 cs<=64800000
theorem JfV(c:Cls):c.above.length+1<=V1 c:=by have:=JcR wNm (λx=>by simp only[wNm];omega) c.above;simp only[V1];omega
theorem JnE(cs:List Cls)(c:Cls):(Jpn cs c).length<=V1 c:=by have:=JfV c;unfold Jpn;split <;> simp <;> omega
theorem AH{Q:Prop}(h:Q:=by simp only[Ji];omega):Q:=h
theorem EO{Q:Prop}(h:Q:=by intro h;have:=T.at_;rw[h,T.mp]at this;simp at this):Q:=h
theorem EP{Q:Prop}(h:Q:=by intro h;rw[h]at hi;simp at hi):Q:=h
theorem JnF(L:LibE pr F){H:List Blk}{rw:List Nat}{n mb z:Nat}{tg:Tag}{cs:List Cls}{ab o1 o2 o3 sl:AV}(T:TabL H n mb cs z tg ab o1 o2 o3 sl){i:Nat}(hi:i<cs.length) :
  ∃(v:AV) (rw':List Nat),Lst rw 1 v (Ki (nxt cs i)) rw'/\Rx rw rw'/\Det pr F 204 [.ptr n 0,.int .i64 i] ⟨H,rw⟩ (.ret v) ⟨H,rw'⟩:=by
 have hm:=L.hm;suffices h:Wp pr F 204 [.ptr n 0,.int .i64 i] ⟨H,rw⟩ λr S'=>∃(v:AV) (rw':List Nat),Lst rw 1 v (Ki (nxt cs i)) rw'/\Rx rw rw'/\r=.ret v/\S'=⟨H,rw'⟩ by obtain⟨r,S',hd,v,rw',h1,h2,rfl,rfl⟩:=h.det hm;exact⟨v,rw',h1,h2,hd⟩
 have hlt:n<H.length:=(Ac.1 T.at_).1;have hne:n≠mb:=EO
 have hFm:=ZG hne T.mp;have hfew:=T.few;have hlm:(cs.map Jc).length=cs.length:=Ak _;obtain⟨c,hc⟩:∃ c,cs[i]? = some c:=⟨_,Ab hi⟩
 have hcr:(cs.map Jc)[i]? = some (Jc c):=EF
 have hz:z=9:=T.sz EP;subst hz;have hbc:=JfV c;have hbw:=Q3 V1 (Aq hc);have hbt:=T.wt;have hR:Rx rw rw:=Rx.rfl;refine Kw hm L.f204.1 L.f204.2 rfl (Xi T.at_) ?_;refine' KN;refine JT ?_;refine JW rfl rfl rfl ?_;refine QB (row:=JaU ((J6 cs c.super).getD 0)) (rw0:=rw) Lst.nil hR (by simp[Ji]) (by simp[Ji]) O ?_;intro l4 rw4 hl4 hR4;refine QJ ?_;have hl0:Lst rw 1 l4 (Ki ((if c.super=[] then [] else [(J6 cs c.super).getD 0])++(c.above.take 0).map λa=>(J6 cs a).getD 0)) rw4:=by rw[if_neg Aa];exact hl4
 have hR0:=hR4;refine' KN;rotate_left 1;have hl0:Lst rw 1 (.list 0 .full []) (Ki ((if c.super=[] then [] else [(J6 cs c.super).getD 0])++(c.above.take 0).map λa=>(J6 cs a).getD 0)) rw:=by rw[if_pos EN];exact Lst.nil
 have hR0:=hR;all_goals
  refine JB hm (λmm e S'=>∃(q:Nat) (l:AV) (rw':List Nat),S'=⟨hp H n (.cells [.list 9 tg (cs.map Jc),.map mb,ab,o1,o2,o3,sl]) [.cells (Jc c)],rw'⟩/\q<=c.above.length/\Lst rw 1 l (Ki ((if c.super=[] then [] else [(J6 cs c.super).getD 0])++(c.above.take q).map λa=>(J6 cs a).getD 0)) rw'/\Rx rw rw'/\mm=c.above.length-q/\e=[(0,.ptr n 0),(5,l),(30,Kp 1 (c.above.map Qy)),(31,.int .i64 ((c.above.map Qy).length:Int)),(32,.int .i64 q)]) ?_ (m:=c.above.length) ⟨0,_,_,rfl,O,hl0,hR0,rfl,rfl⟩;clear hl0 hR0;rintro mm e S' ⟨q,l,rw',rfl,hq0,hl,hR',rfl,rfl⟩;have hlc:(c.above.map Qy).length=c.above.length:=Ak _;by_cases hq1:q<c.above.length
  ·obtain⟨a,ha⟩:∃ a,c.above[q]? = some a:=⟨_,Ab hq1⟩
   have har:(c.above.map Qy)[q]? = some (Qy a):=by rw[Ax,ha];rfl
   have hl5:Kp 1 (c.above.map Qy)=.list 1 .dead (c.above.map Qy):=Kf (i:=q) EH;rw[hl5];refine' KN;refine JT ?_;refine JW rfl rfl rfl ?_;have hb:(Ki ((if c.super=[] then [] else [(J6 cs c.super).getD 0])++(c.above.take q).map λa=>(J6 cs a).getD 0)).length<=1+q:=by rw[QS,AG,Ak,A8];split <;> simp <;> omega
   refine QB (row:=JaU ((J6 cs a).getD 0)) hl hR' AH AH O ?_;intro l4 rw4 hl4 hR4;refine QJ ?_;refine' KN;refine⟨c.above.length-(q+1),O,q+1,l4,rw4,rfl,O,?_,hR4,rfl,rfl⟩;rw[QW ha,An,<- BG,Xo];exact hl4
  ·refine' KN;have e2:nxt cs i=(if c.super=[] then [] else [(J6 cs c.super).getD 0])++(c.above.take q).map λa=>(J6 cs a).getD 0:=by rw[show q=c.above.length by omega,AI];unfold nxt;rw[hc];rfl
   rw[<- e2]at hl;exact Js rfl (hl.isL.below _) (JR hlt) ⟨l,rw',hl,hR',rfl,QP T.at_⟩
def JjU(H H':List Blk):Prop:=∀(k:Nat) (c:Blk),H[k]? = some c->H'[k]? = some c
theorem JF{H H1:List Blk}{z:Blk}(hH:H1=H++[z])(b:Blk)(M:List Blk):JjU H (hp H1 H.length b M):=λ_ _ hk=>J1 hH hk b M
theorem X6{H:List Blk}{n:Nat}{b:Blk}(hb:H[n]? = some b)(M:List Blk):JjU H (hp H n b M):=by
 intro k c hk;by_cases h:n=k
 ·subst h;rw[hb]at hk;rw[<- hk];exact Kh (Ac.1 hb).1
 ·exact ZG h hk b M
theorem TabM.keep{H H':List Blk}{n mb z:Nat}{tg:Tag}{cs:List Cls}{ab o1 o2 o3 sl:AV}(T:TabM H n mb cs z tg ab o1 o2 o3 sl)(h:JjU H H'):TabM H' n mb cs z tg ab o1 o2 o3 sl:=
 {at_:=h _ _ T.at_,sz:=T.sz,few:=T.few,big:=T.big,mp:=h _ _ T.mp}
mutual
def KX(cs:List Cls):Ty->Int×Int
 | .mk kind name _ K5 _ at_=>if kind=3/\J6 cs name=none then(121,at_)else YN cs K5
def YN(cs:List Cls):List Ty->Int×Int
 | []=>(0,0)
 | t::ts=>if(KX cs t).1=0 then YN cs ts else KX cs t
end
theorem JuA{t:Ty}:∀{ts:List Ty},t∈ts->Xg t<=XI ts:=by
 intro ts;induction ts with
 | nil=>intro h;cases h
 | cons u ts ih=>
  intro h;simp only[XI];rcases AS.1 h with h |h
  ·subst h;omega
  ·have:=ih h;omega
theorem JuB:∀(ts:List Ty),ts.length<=XI ts:=by
 intro ts;induction ts with
 | nil=>simp
 | cons u ts ih=>obtain⟨k,nm,nl,el,pd,a⟩:=u;simp only[XI,Xg,Ad];omega
theorem Jpy{ts:List Ty}{i:Nat}{t:Ty}(h:ts[i]? = some t):(Jo ts)[i]? = some (Jl t):=by rw[Jd3,Ax,h];rfl
theorem Jdn(L:LibE pr F){cs:List Cls}:∀(k:Nat) (t:Ty),Xg t<k->Xg t<=64800000->∀{H:List Blk} {rw:List Nat} {n mb z:Nat} {tg:Tag} {ab o1 o2 o3 sl:AV},TabM H n mb cs z tg ab o1 o2 o3 sl ->
  Det pr F 20 [.ptr n 0,.agg (Jl t)] ⟨H,rw⟩ (.ret (.agg (KF (KX cs t).1 (KX cs t).2))) ⟨H,rw⟩:=by
 have hm:=L.hm;intro k;induction k with
 | zero=>intro t h;omega
 | succ k ih=>
  intro t hk hw H rw n mb z tg ab o1 o2 o3 sl T;refine Det.of hm ?_;obtain⟨kind,name,null,K5,pred,a⟩:=t;have hel:=JuB K5;have hwe:XI K5<Xg (.mk kind name null K5 pred a):=by simp only[Xg];omega
  refine Jt hm L.f20.1 L.f20.2 rfl ?_;refine' VO;unfold JDZ;show At pr F H.length (fin _ H.length _) _ _ _ _;refine Ku hm ?_;intro H1 hH1 hlen hlt;have hF:=J1 hH1 T.at_;have hFm:=J1 hH1 T.mp;have hlt1:(Jo K5).length=K5.length:=Jd4 K5;refine' KN;refine Kj (q:=H.length) rfl rfl (Kh hlt) ?_;refine' KN;rotate_left 1
  ·refine Ju hH1 rfl (KA _ _) ⟨?_,rfl⟩;simp only[KX];rw[if_pos ⟨Aa,Aa⟩]
  all_goals
   have h0:KX cs (.mk kind name null K5 pred a)=YN cs K5:=by
    simp only[KX];rw[if_neg];rintro⟨h1,h2⟩;first
     |(rw[hkq]at h2;simp at h2)
     | exact absurd h1 Aa
   refine JB hm (λmm e S'=>∃(i:Nat) (J:List Blk),S'=⟨hp H1 H.length (.cells [.int .i64 0,.int .i64 0]) J,rw⟩/\i<=K5.length/\YN cs K5=YN cs (K5.drop i)/\mm=K5.length-i/\e=[(0,.ptr n 0),(4,.ptr H.length 0),(29,Kp 6 (Jo K5)),(30,.int .i64 ((Jo K5).length:Int)),(31,.int .i64 i)]) ?_ (m:=K5.length) ⟨0,_,rfl,O,Ag,rfl,rfl⟩;rintro mm e S' ⟨i,J,rfl,hi,hkn,rfl,rfl⟩;by_cases hi1:i<K5.length
   ·obtain⟨t',ht'⟩:∃ t',K5[i]? = some t':=⟨_,Ab hi1⟩
    have htr:=Jpy ht';have hl5:Kp 6 (Jo K5)=.list 6 .dead (Jo K5):=Kf (i:=i) O;have hwt:=JuA (Aq ht');have hdr:K5.drop i=t'::K5.drop (i+1):=by rw[AY hi1];rw[Ab hi1]at ht';simp only[V]at ht';rw[ht']
    rw[hdr,YN]at hkn;rw[hl5];refine' KN;refine Je rfl rfl rfl ?_;refine⟨_,_,ih t' O O (T.keep (JF hH1 _ _)),?_⟩;refine QJ ?_;refine' KN
    ·refine Ju hH1 rfl (KA (KX cs t').1 (KX cs t').2) ⟨?_,rfl⟩;rw[h0,hkn,if_neg Aa];rfl
    ·exact⟨K5.length-(i+1),O,i+1,_,rfl,O,by rw[hkn,if_pos Aa],rfl,rfl⟩
   ·refine' KN;refine Ju hH1 rfl (KA 0 0) ⟨?_,rfl⟩;rw[h0,hkn,AU O];rfl
theorem TabL.keep{H H':List Blk}{n mb z:Nat}{tg:Tag}{cs:List Cls}{ab o1 o2 o3 sl:AV}(T:TabL H n mb cs z tg ab o1 o2 o3 sl)(h:JjU H H'):TabL H' n mb cs z tg ab o1 o2 o3 sl:=
 {T.toTabM.keep h with linked:=T.linked,unlike:=T.unlike,wt:=T.wt}
section
variable {b0 base ix:Nat} {d:Option Nat} {g:Option (Nat×Bool)} {prev items:List Item} {kp:List Nat} {k:List Fr} {e:KC} {Q:Ex->KC->St->Prop} {S:St} {H M M':List Blk} {n:Nat} {b:Blk} {rw:List Nat} {re:List Nat}
theorem JNa{sz by_:Nat}{zs:List AV}{x y:Opd}(h:In pr F b0 Q base prev (⟨ix,d,g,.l (.mkSlice sz by_ zs x y) re⟩::items) kp k e S):In pr F b0 Q base prev (⟨ix,d,g,.l (.mkSlice sz by_ zs x y) re⟩::items) kp k e S:=h
theorem JXz{sz by_ m q:Nat}{zs:List AV}{x y:Opd}(hlt:n<H.length)(hw:wanted g (Jj e)=some true)(hx:x.val (Jj e)=some (.int .i64 (m:Int)))(hy:y.val (Jj e)=some (.int .i64 (m:Int)))
  (hb:m*by_<=Ji/\m<=Ji/\zs.length=sz) (hM:M++[.cells (List.replicate m zs).flatten]=M') (hq:M.length=q)
  (h:J8 prev re (KD e d (.arr (H.length+q) 0 sz m)) (hp H n b M') base=true/\In pr F b0 Q base (⟨ix,d,g,.l (.mkSlice sz by_ zs x y) re⟩::prev) items kp k (KD e d (.arr (H.length+q) 0 sz m)) ⟨hp H n b M',rw⟩) :
  In pr F b0 Q base prev (⟨ix,d,g,.l (.mkSlice sz by_ zs x y) re⟩::items) kp k e ⟨hp H n b M,rw⟩:=by
 subst hM hq;obtain⟨hr,hk⟩:=h;refine Jiz hw ?_ hr hk;simp only[XN,hx,hy,DC,XO,Jau hlt];rw[if_pos ⟨trivial,O,hb.1,hb.2.1,hb.2.2⟩]
theorem JlU{rw0:List Nat}{v w:AV}{rows rowsb:List (List AV)}{K:AV->St->Prop}(h:Todo rw0 v rows rw)(hx:Rx rw0 rw)(hw:IsL 1 w rowsb)(hl:(rows.length+rowsb.length)*8<=Ji)
  (hk:∀ v' rw',Todo rw0 v' (rows++rowsb) rw'->Rx rw0 rw'->K v' ⟨H,rw'⟩):ApAt 1 8 v w ⟨H,rw⟩ K:=by
 obtain⟨v',rw',h1,h2,h3⟩:=h.push (H:=H) hx hw hl;exact⟨_,_,h1,hk v' rw' h2 h3⟩
end
def Zl(bs:List Bool):List AV:=bs.map AV.bool
theorem Jsw(m:Nat):(List.replicate m [AV.bool false]).flatten=Zl (List.replicate m false):=by
 induction m with
 | zero=>rfl
 | succ m ih=>simp only[Dn,BF,ih];rfl
theorem JiV{cs:List AV}{j:Nat}{v:AV}(h:j<cs.length):overlay cs j [v]=cs.set j v:=by unfold overlay;rw[CC,if_pos h];simp
theorem Jsx:∀ bs:List Bool,chunks 1 bs.length (Zl bs)=some (bs.map λb=>[AV.bool b]):=by
 intro bs;induction bs with
 | nil=>rfl
 | cons b bs ih=>simp only[Zl]at ih |-;simp only[Ad,Ap,chunks,Az,AA,Ay,AL,ih];rw[if_pos O];rfl
theorem Jsy:∀ bs:List Bool,Kl (Zl bs)=true:=by
 intro bs;induction bs with
 | nil=>rfl
 | cons b bs ih=>simp only[Zl]at ih |-;simp[Kl,J7,ih]
theorem JuC(bs:List Bool):(bs.map λb=>[AV.bool b]).map Jh=bs.map λb=>[AV.bool b]:=by rw[DA];rfl
theorem Jsz{H M:List Blk}{n:Nat}{b:Blk}{rw:List Nat}{e:KC}{t j:Nat}{bs:List Bool}{m:Nat}{Q:Res->St->Prop}(hlt:n<H.length)(he:Jj e t=some (.arr (H.length+j) 0 1 m))(hM:M[j]? = some (.cells (Zl bs)))(hmm:m=bs.length)
  (h:Q (.ret (.list 1 .dead (bs.map λb=>[.bool b]))) ⟨hp H n b [],rw⟩):fin [.tmp t] H.length Q .ret e ⟨hp H n b M,rw⟩:=by
 subst hmm;have h2:=(Vq (b:=b) (L:=M) hlt j).trans hM;have h3:Y3 H.length (hp H n b M) (.arr (H.length+j) 0 1 bs.length)=.list 1 .dead (bs.map λb=>[.bool b]):=by simp only[Y3];rw[if_neg O,h2];simp only[AA,Jsx,Jsy,JuC,BW,Nat.zero_lt_one,decide_true,if_true]
 have h4:QT [RVar.tmp t] e (hp H n b M)=some [.arr (H.length+j) 0 1 bs.length]:=by simp only[QT,he]
 have h5:Ai.below H.length (.arr (H.length+j) 0 1 bs.length)=false:=by simp[Ai.below]
 have h6:Ai.below H.length (.list 1 .dead (bs.map λb=>[AV.bool b]))=true:=by simp[Ai.below]
 simp only[fin,h4,X2,Y4,h5,Jcl,h3,h6,if_true,AT,if_false,JR hlt];exact h
theorem CR{Q:Prop}(h:Q:=by simp only[Ad];omega):Q:=h
theorem Jkv(L:LibE pr F)(f149:QG pr F 149 JAm){H:List Blk}{rw:List Nat}{n mb z:Nat}{tg:Tag}{cs:List Cls}{ab o1 o2 o3 sl:AV}(T:TabL H n mb cs z tg ab o1 o2 o3 sl){i:Nat}(hi:i<cs.length) :
  ∃(bs:List Bool) (rw':List Nat),bs.length=cs.length/\(∀ k,bs[k]? = some true↔Up cs i k)/\Rx rw rw'/\Det pr F 149 [.ptr n 0,.int .i64 i] ⟨H,rw⟩ (.ret (.list 1 .dead (bs.map λb=>[.bool b]))) ⟨H,rw'⟩:=by
 have hm:=L.hm;suffices h:Wp pr F 149 [.ptr n 0,.int .i64 i] ⟨H,rw⟩ λr S'=>∃(bs:List Bool) (rw':List Nat),bs.length=cs.length/\(∀ k,bs[k]? = some true↔Up cs i k)/\Rx rw rw'/\r=.ret (.list 1 .dead (bs.map λb=>[.bool b]))/\S'=⟨H,rw'⟩ by obtain⟨r,S',hd,v,rw',h1,h2,h3,rfl,rfl⟩:=h.det hm;exact⟨v,rw',h1,h2,h3,hd⟩
 have hlt:n<H.length:=(Ac.1 T.at_).1;have hfew:=T.few;have hlm:(cs.map Jc).length=cs.length:=Ak _;have hR:Rx rw rw:=Rx.rfl;have hwt:=T.wt;refine Kw hm f149.1 f149.2 rfl (Xi T.at_) ?_;refine' KN;refine JNa ?_;refine JXz (q:=0) hlt rfl rfl rfl ⟨AH,AH,rfl⟩ rfl rfl ?_;rw[Jsw,hlm,Au];refine QJ ?_;refine' KN;obtain⟨v0,rw1,hv0,hR1,hd1⟩:=JnF L (T.keep (X6 T.at_ [.cells (Zl (List.replicate cs.length false))])) hi (rw:=rw);refine Je rfl rfl rfl ?_;refine Ks hd1 ?_;refine QJ ?_;refine' KN;have hsum:=Jum (λk=>(nxt cs k).length) cs 0 (λj c hj=>by simp only[AF,nxt,hj];exact JnE cs c);have hn0:(nxt cs i).length<=64800000:=by
  obtain⟨c,hc⟩:∃ c,cs[i]? = some c:=⟨_,Ab hi⟩
  have h1:=JnE cs c;have h2:=Q3 V1 (Aq hc);simp only[nxt,hc];omega
 refine JB hm (λmm e S'=>∃(bs:List Bool) (todo:List Nat) (l:AV) (rw':List Nat),S'=⟨hp H n (.cells [.list z tg (cs.map Jc),.map mb,ab,o1,o2,o3,sl]) [.cells (Zl bs)],rw'⟩/\Rch cs i bs todo/\Todo rw l (Ki todo) rw'/\Rx rw rw' /\
  mm=todo.length+JdN (λk=>(nxt cs k).length) bs 0/\mm<=129600000/\e=[(0,.ptr n 0),(5,.arr (H.length+0) 0 1 cs.length),(6,l)]) ?_ (m:=(nxt cs i).length+JdN (λk=>(nxt cs k).length) (List.replicate cs.length false) 0) ⟨_,_,_,_,rfl,Rch.start,Todo.of_lst hv0,hR1,rfl,O,rfl⟩
 rintro mm e S' ⟨bs,todo,l,rw',rfl,hrc,htd,hR',rfl,hmm,rfl⟩;cases todo with
 | nil=>obtain⟨sz,tag,rfl,-,-⟩:=htd.h;have hl0:(Ki []).length=0:=rfl;refine' KN;exact Jsz hlt rfl rfl hrc.len.symm ⟨bs,rw',hrc.len,hrc.done,hR',rfl,QP T.at_⟩
 | cons k rest=>
  simp only[Ki,Ap]at htd;obtain⟨tag,rfl,htd1⟩:=htd.tail;have hk:k<cs.length:=JiI T.linked (hrc.soundT k Bl);have hbl:=hrc.len;have hl1:(JaU k::List.map JaU rest).length=rest.length+1:=Ag;have h00:(JaU k::List.map JaU rest)[0]? = some (JaU k):=rfl;refine' KN;refine g_q rfl Jpo ?_;refine' KN;refine Jkj rfl rfl rfl ?_;refine Jkk (j:=k) rfl hk ?_;obtain⟨bk,hbk⟩:∃ bk,bs[k]? = some bk:=⟨_,Ab O⟩
  have hbr:(Zl bs)[0+k*1]? = some (.bool bk):=by rw[AF,Nat.mul_one,Zl,Ax,hbk];rfl
  refine XP rfl rfl ?_;refine Jnf (cs:=Zl bs) (u:=.bool bk) ?_ hlt rfl hbr;refine' KN
  ·refine Jkj rfl rfl rfl ?_;refine Jkk (j:=k) rfl hk ?_;refine VG rfl rfl rfl ?_;have hst:overlay (Zl bs) (0+k*1) (AV.cells (.bool true))=Zl (bs.set k true):=by rw[AF,Nat.mul_one,Jv,JiV (by rw[Zl,Ak];omega),Zl,Zl,List.map_set]
   refine Jqx hlt (.inl (DE _ _)) rfl ⟨rfl,rfl,by rw[Zl,Ak];omega⟩ hst rfl ?_;refine QJ ?_;refine' KN;have hbf:bk=false:=EN
   subst hbf;obtain⟨v2,rw2,hv2,hR2,hd2⟩:=JnF L (T.keep (X6 T.at_ [.cells (Zl (bs.set k true))])) hk (rw:=rw');refine Je rfl rfl rfl ?_;refine Ks hd2 ?_;refine QJ ?_;refine' KN;have hps:=Jsr (λk=>(nxt cs k).length) bs k 0 hbk;simp only[AF,Ad]at hps hmm;refine JT ?_;refine JW rfl rfl rfl ?_;refine JlU (htd1.ext hR2) (hR'.trans hR2) hv2.isL (by simp only[Ak,QS,Ji];omega) ?_;intro v3 rw3 hv3 hR3;refine QJ ?_;refine' KN;rw[<- Ki,<- Xo]at hv3;exact⟨_,by simp only[AG,Ad];omega,bs.set k true,rest++nxt cs k,v3,rw3,rfl,hrc.add O,hv3,hR3,rfl,by simp only[AG];omega,rfl⟩
  ·have hbt:bk=true:=by simpa using hq
   subst hbt;simp only[Ad]at hmm;exact⟨_,CR,bs,rest,_,rw',rfl,hrc.pop hbk,htd1,hR',rfl,O,rfl⟩
end Go.Proofs.YtmeakjgbjldkdaaGreat.Ai
