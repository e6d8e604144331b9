/- A part of what is proved: C9, P3, P4, P4a, P4b, P4c, P4d, P4e, P5, P6, C10, C11p, C11, C12, C13, C14, C16, C17, C11r, C16r, C15, C18, L8, C4, C19p, C19, C20, L7, L9, Q5, A1, L13, M1, M2, Shelf, SrtP, M3p, A2, Ty1, Ty2. No condition. -/
import Derived.Test.YtmeakjgbjldkdaaGreatA4
import Derived.Test.YtmeakjgbjldkdaaGreatProg
import Derived.KernelRfl
import Derived.Shelf.Strings.Builder1
import Derived.Shelf.Strings.Builder2
import Derived.Shelf.Strings.OnBuilder
import Derived.Shelf.Small.Strs
import Derived.Shelf.Sort.Plain
import Derived.Ground.Names2Prog
import Derived.Shelf.Slices.Clone
import Derived.Shelf.Slices.CompactS
import Derived.Shelf.Slices.Cells
import Derived.Shelf.Slices.In.SortNone
import Derived.Sort.Walk0
set_option maxRecDepth 100000
set_option maxHeartbeats 16000000
noncomputable section
namespace Go.Proofs.YtmeakjgbjldkdaaGreat
abbrev CX:=@List.filter_append
abbrev Cj:=@List.length_filter_le
abbrev Cu:=@List.length_singleton
abbrev A4:=@List.getD_eq_getElem?_getD
abbrev Ct:=@List.mem_filter
abbrev Bj:=@Option.isSome_some
abbrev D2:=@List.map_take
abbrev BU:=@Option.isSome_none
abbrev Dr:=@List.getElem?_range
abbrev DB:=@List.foldl_append
abbrev DQ:=@List.foldl_nil
abbrev DF:=@List.le_antisymm
abbrev DS:=@List.Perm.refl
abbrev D3:=@List.le_trans
abbrev DY:=@List.mem_of_find?_eq_some
end Go.Proofs.YtmeakjgbjldkdaaGreat
namespace Go.Proofs.YtmeakjgbjldkdaaGreat.Ai
open Go
open Tr(pk)
variable {pr:Jz} {F:Nat->Option IFn}
theorem TabL.re{H:List Blk}{n mb z:Nat}{tg:Tag}{cs:List Cls}{ab o1 o2 o3 sl:AV}(T:TabL H n mb cs z tg ab o1 o2 o3 sl)(ab':AV)(M:List Blk) :
  TabL (hp H n (.cells [.list z tg (cs.map Jc),.map mb,ab',o1,o2,o3,sl]) M) n mb cs z tg ab' o1 o2 o3 sl:=by
 have hlt:n<H.length:=(Ac.1 T.at_).1;have hne:n≠mb:=EO
 exact{at_:=Kh hlt,sz:=T.sz,few:=T.few,big:=T.big,mp:=ZG hne T.mp _ _,linked:=T.linked,unlike:=T.unlike,wt:=T.wt}
open Classical in
def Jpz(cs:List Cls)(i:Nat)(c:Cls):Int×Int:=if Up cs i i then(122,c.at_)else(0,0)
def Jhf(cs:List Cls):Int×Int:=JY (Jpz cs) 0 cs
theorem JpA(L:LibE pr F){H:List Blk}{rw:List Nat}{n mb z:Nat}{tg:Tag}{cs:List Cls}{ab o1 o2 o3 sl:AV}(T:TabL H n mb cs z tg ab o1 o2 o3 sl) :
  ∃(f:Int×Int) (rw':List Nat),f=Jhf cs/\(f.1=0->∀ i,i<cs.length->¬Up cs i i)/\Rx rw rw'/\Det pr F 103 [.ptr n 0] ⟨H,rw⟩ (.ret (.agg (KF f.1 f.2))) ⟨H,rw'⟩:=by
 have hm:=L.hm;suffices h:Wp pr F 103 [.ptr n 0] ⟨H,rw⟩ λr S'=>∃(f:Int×Int) (rw':List Nat),f=Jhf cs/\(f.1=0->∀ i,i<cs.length->¬Up cs i i)/\Rx rw rw'/\r=.ret (.agg (KF f.1 f.2))/\S'=⟨H,rw'⟩ by obtain⟨r,S',hd,f,rw',h0,h1,h2,rfl,rfl⟩:=h.det hm;exact⟨f,rw',h0,h1,h2,hd⟩
 refine Jt hm L.f103.1 L.f103.2 rfl ?_;refine' VO;unfold Jt6;show At pr F H.length (fin _ H.length _) _ _ _ _;refine Xj hm ?_;intro H1 hH1 hlen hlt;have hF:=J1 hH1 T.at_;have hfew:=T.few;have hlm:(cs.map Jc).length=cs.length:=Ak _;refine' KN;refine JB hm (λmm e S'=>∃(i:Nat) (J:List Blk) (rw':List Nat),S'=⟨hp H1 H.length (.cells [.int .i64 0,.int .i64 0]) J,rw'⟩/\i<=cs.length/\Rx rw rw'/\Jhf cs=JY (Jpz cs) i (cs.drop i)/\(∀ j,j<i->¬Up cs j j)/\mm=cs.length-i/\e=[(0,.ptr n 0),(2,.ptr H.length 0),(8,.list z tg (cs.map Jc)),(9,.int .i64 ((cs.map Jc).length:Int)),(10,.int .i64 i)]) ?_ (m:=cs.length) ⟨0,[],rw,rfl,O,Rx.rfl,rfl,λj hj=>O,rfl,rfl⟩;rintro mm e S' ⟨i,J,rw',rfl,hi,hR,hod,hnc,rfl,rfl⟩;by_cases hlt2:i<cs.length
 ·obtain⟨c,hc⟩:∃ c,cs[i]? = some c:=⟨_,Ab hlt2⟩
  have hcr:(cs.map Jc)[i]? = some (Jc c):=EF
  have hz:z=9:=T.sz EG;subst hz;rw[QA hc]at hod;refine' KN;obtain⟨bs,rw2,hbl,hbu,hR2,hd2⟩:=Jkv L L.f149 (T.keep (JF hH1 (.cells [.int .i64 0,.int .i64 0]) (J++[.cells (Jc c)]))) hlt2 (rw:=rw');obtain⟨bi,hbi⟩:∃ bi,bs[i]? = some bi:=⟨_,Ab O⟩
  have hbr:(bs.map λb=>[AV.bool b])[i]? = some [.bool bi]:=by rw[Ax,hbi];rfl
  refine Je rfl rfl rfl ?_;refine Ks hd2 ?_;refine QJ ?_;refine' KN
  ·exact Ju hH1 rfl (KA _ _) ⟨(_,_),_,by rw[hod,Jpz,if_pos ((hbu i).1 (by rw[hbi,hq]))];rfl,λh=>ED,hR.trans hR2,rfl,rfl⟩
  ·rw[Jpz,if_neg (λh=>by have:=(hbu i).2 h;rw[hbi,hq]at this;simp at this),Vm]at hod;refine⟨cs.length-(i+1),O,i+1,_,rw2,rfl,O,hR.trans hR2,hod,λj hj=>?_,rfl,rfl⟩;by_cases hji:j=i
   ·subst hji;rw[<- hbu,hbi,hq];simp
   ·exact hnc j O
 ·refine' KN;exact Ju hH1 rfl (KA 0 0) ⟨(0,0),rw',EI,λ_ j hj=>hnc j O,hR,rfl,rfl⟩
def Vl(l:List Nat):List AV:=[Kp 1 (Ki l)]
def Z8(bs:List Bool)(q:Nat):List Nat:=(List.range q).filter λk=>bs.getD k false
theorem JbR(bs:List Bool)(q:Nat):Z8 bs (q+1)=Z8 bs q++(if bs.getD q false then [q] else []):=by
 unfold Z8;rw[List.range_succ,CX]
 congr 1
 rw[List.filter_cons];rfl
theorem X1(bs:List Bool)(q:Nat):(Z8 bs q).length<=q:=by unfold Z8;have:=Cj (λk=>bs.getD k false) (List.range q);rw[List.length_range]at this;exact this
def JaF(cs:List Cls)(i:Nat)(l:List Nat):Prop:=∃ bs:List Bool,bs.length=cs.length/\(∀ k,bs[k]? = some true↔Up cs i k)/\l=Z8 bs cs.length
theorem J2Z{b0 n off:Nat}{H M:List Blk}{rw:List Nat}{b:Blk}{v:AV}{cs cs':List AV}{K:St->Prop}(hlt:n<H.length)(hv:v.cells=[v]/\v.okv=true)(hbl:Ai.below (n+1) v=true)(ho:off<cs.length)(hb:b=.cells cs)(hc:cs.set off v=cs')(h:K ⟨hp H n (.cells cs') M,rw⟩) :
  StAt b0 1 (.ptr n off) v ⟨hp H n b M,rw⟩ K:=by
 subst hb hc;refine⟨_,?_,h⟩;have e1:(hp H n (.cells cs) M)[n]? = some (.cells cs):=Kh hlt;simp only[JcD,e1,hv.1,hv.2,Cu,hbl,or_true,and_true,true_and];rw[if_pos O,Z0,JiV ho]
theorem JBl{v:AV}{rows:List (List AV)}{L:AV->Prop}(hv:IsL 1 v rows)(h:L (.list 1 .full [[Kp 1 rows]])):LsAt 1 [v] L:=by refine⟨_,?_,h⟩;simp only[Yx,hv.one.1,hv.one.2,hv.closed,Cu,and_self,if_true,A9,Jh,Ap,AC,hv.canon]
theorem Cf{Q:Prop}(h:Q:=by simp only[QS,Ji];omega):Q:=h
theorem JsA(L:LibE pr F){H:List Blk}{rw:List Nat}{n mb z:Nat}{tg:Tag}{cs:List Cls}{o1 o2 o3 sl:AV}(T:TabL H n mb cs z tg (.list 0 .full []) o1 o2 o3 sl) :
  ∃(U:List (List Nat)) (ab:AV) (rw':List Nat),U.length=cs.length/\(∀ i l,U[i]? = some l->JaF cs i l)/\IsL 1 ab (U.map Vl)/\Rx rw rw' /\
   Det pr F 104 [.ptr n 0] ⟨H,rw⟩ (.ret (.tup [])) ⟨H.set n (.cells [.list z tg (cs.map Jc),.map mb,ab,o1,o2,o3,sl]),rw'⟩:=by
 have hm:=L.hm;suffices h:Wp pr F 104 [.ptr n 0] ⟨H,rw⟩ λr S'=>∃(U:List (List Nat)) (ab:AV) (rw':List Nat),U.length=cs.length/\(∀ i l,U[i]? = some l->JaF cs i l)/\IsL 1 ab (U.map Vl)/\Rx rw rw'/\r=.ret (.tup [])/\S'=⟨hp H n (.cells [.list z tg (cs.map Jc),.map mb,ab,o1,o2,o3,sl]) [],rw'⟩ by obtain⟨r,S',hd,U,ab,rw',h1,h2,h3,h4,rfl,rfl⟩:=h.det hm;rw[Jo1]at hd;exact⟨U,ab,rw',h1,h2,h3,h4,hd⟩
 have hlt:n<H.length:=(Ac.1 T.at_).1;have hfew:=T.few;have hlm:(cs.map Jc).length=cs.length:=Ak _;refine Kw hm L.f104.1 L.f104.2 rfl (Xi T.at_) ?_;refine' KN;refine JB hm (λmm e S'=>∃(i:Nat) (U:List (List Nat)) (ab:AV) (rw':List Nat),S'=⟨hp H n (.cells [.list z tg (cs.map Jc),.map mb,ab,o1,o2,o3,sl]) [],rw'⟩/\i<=cs.length/\U.length=i/\(∀ i l,U[i]? = some l->JaF cs i l)/\Lst rw 1 ab (U.map Vl) rw'/\Rx rw rw'/\mm=cs.length-i/\e=[(0,.ptr n 0),(10,.int .i64 ((cs.map Jc).length:Int)),(11,.int .i64 i)]) ?_ (m:=cs.length) ⟨0,[],_,rw,rfl,O,rfl,Ag,Lst.nil,Rx.rfl,rfl,rfl⟩;rintro mm e S' ⟨i,U,ab,rw',rfl,hi,hUl,hU,hab,hR,rfl,rfl⟩;by_cases hlt2:i<cs.length
 ·refine' KN;obtain⟨bs,rw2,hbl,hbu,hR2,hd2⟩:=Jkv L L.f149 (T.re ab []) hlt2 (rw:=rw');refine Je rfl rfl rfl ?_;refine Ks hd2 ?_;refine QJ ?_;refine' KN;refine JB hm (λmm e S'=>∃(q:Nat) (l:AV) (rw3:List Nat),S'=⟨hp H n (.cells [.list z tg (cs.map Jc),.map mb,ab,o1,o2,o3,sl]) [],rw3⟩/\q<=bs.length/\Lst rw2 1 l (Ki (Z8 bs q)) rw3/\Rx rw2 rw3/\mm=bs.length-q/\e=[(0,.ptr n 0),(3,l),(10,.int .i64 ((cs.map Jc).length:Int)),(11,.int .i64 i),(16,.list 1 .dead (bs.map λb=>[.bool b])),(17,.int .i64 ((bs.map λb=>[AV.bool b]).length:Int)),(18,.int .i64 q)]) ?_ (m:=bs.length) ⟨0,_,rw2,rfl,O,Lst.nil,Rx.rfl,rfl,rfl⟩;rintro mm e S' ⟨q,l,rw3,rfl,hq0,hl,hR3,rfl,rfl⟩;have hlb:(bs.map λb=>[AV.bool b]).length=bs.length:=Ak _;have htl:=X1 bs q;by_cases hq1:q<bs.length
  ·obtain⟨bq,hbq⟩:∃ bq,bs[q]? = some bq:=⟨_,Ab hq1⟩
   have hbr:(bs.map λb=>[AV.bool b])[q]? = some [.bool bq]:=by rw[Ax,hbq];rfl
   have hgd:bs.getD q false=bq:=by rw[A4,hbq];rfl
   refine' KN
   ·refine JT ?_;refine JW rfl rfl rfl ?_;refine QB (row:=JaU q) hl hR3 Cf Cf O ?_;intro l4 rw4 hl4 hR4;refine QJ ?_;refine' KN;refine⟨bs.length-(q+1),O,q+1,l4,rw4,rfl,O,?_,hR4,rfl,rfl⟩;rw[JbR,hgd,hq,Xo];exact hl4
   ·refine⟨bs.length-(q+1),O,q+1,l,rw3,rfl,O,?_,hR3,rfl,rfl⟩;rw[JbR,hgd,hq];simpa using hl
  ·refine' KN;refine Q1 rfl rfl ?_;refine JBl hl.isL ?_;refine' KN;refine JT ?_;refine JW rfl rfl rfl ?_;refine QB (row:=Vl (Z8 bs q)) (hab.ext (hR2.trans hR3)) (hR.trans (hR2.trans hR3)) AD AD O ?_;intro l4 rw4 hl4 hR4;refine QJ ?_;refine' KN;refine VG rfl rfl rfl ?_;refine J2Z hlt hl4.isL.one (hl4.isL.below _) (by simp only[Ad,Af];omega) rfl rfl ?_;refine QJ ?_;refine' KN;refine⟨cs.length-(i+1),O,i+1,U++[Z8 bs q],l4,rw4,rfl,O,by simp[hUl],?_,Ek,hR4,rfl,rfl⟩;intro j l' hj;by_cases hji:j<U.length
   ·rw[AZ hji]at hj;exact hU j l' hj
   ·rw[B9 O]at hj;by_cases hj0:j-U.length=0
    ·rw[hj0]at hj;simp only[Am,V]at hj;have e2:j=i:=O;subst e2;exact⟨bs,hbl,hbu,by rw[<- hj,show q=cs.length by omega]⟩
    ·rw[A5 AR]at hj;simp at hj
 ·refine' KN;exact JgD rfl rfl rfl (JR hlt) ⟨U,ab,rw',O,hU,hab.isL,hR,rfl,rfl⟩
theorem JiW(L:LibE pr F)(x:Xp)(hx:TxOk pr F 96 [.agg (Jb x)] (.str (Jy x)))(hs:(Jy x).length<=2147483648):TxOk pr F 144 [.agg (Jb x)] (.str (atT (Xr x.op,Jy x) 7)):=by have hm:=L.hm;refine TxOk.of hm ?_;intro H rw hH;have hR:Rx rw rw:=Rx.rfl;have hb:=JiU L x 7 hx hs;refine Jt hm L.f144.1 L.f144.2 rfl ?_;refine Kt hm ?_;unfold Jut;show At pr F H.length (fin _ H.length _) _ _ _ _;refine YB hm rfl ?_;intro H1 hH1 hlen hlt;refine' KN;exact Va hH1 rfl rfl ⟨_,hR,rfl,rfl⟩
def JpB:Xp:=.mk [110,117,108,108] [] [] [] 0
theorem JbS{xs:List Xp}{i:Nat}{x:Xp}(h:xs[i]? = some x):(Ja xs)[i]? = some (Jb x):=by rw[KB,Ax,h];rfl
theorem Vb(L:LibE pr F)(xs:List Xp)(_hxs:xs.length<=64800000)(i:Nat)(_hi:i<=1):TxOk pr F 142 [Kp 5 (Ja xs),.int .i64 (i:Int)] (.agg (Jb (xs.getD i JpB))):=by
 have hm:=L.hm;refine TxOk.of hm ?_;intro H rw hH;have hR:Rx rw rw:=Rx.rfl;have hlx:=JV xs;refine Jt hm L.f142.1 L.f142.2 rfl ?_;refine Kt hm ?_;unfold Jur;show At pr F H.length (fin _ H.length _) _ _ _ _;refine Xj hm ?_;intro H1 hH1 hlen hlt;by_cases h1:i<xs.length
 ·obtain⟨x,hx⟩:∃ x,xs[i]? = some x:=⟨_,Ab h1⟩
  have hxr:=JbS hx;have hl5:Kp 5 (Ja xs)=.list 5 .dead (Ja xs):=Kf (i:=i) O;rw[hl5];refine' KN;exact Ju hH1 rfl (JG x) ⟨_,hR,by rw[A4,hx];rfl,rfl⟩
 ·refine' KN;exact Ju hH1 rfl (JG JpB) ⟨_,hR,by rw[A4,A5 O];rfl,rfl⟩
theorem TxOk.of0(hm:Yy pr){f na:Nat}{c:IC}{res:List RVar}{args:List AV}{t:AV}(h1:pr f=none)(h2:F f=some ⟨na,c,res⟩)(h3:args.length=na)
  (h:∀ H rw b,0<H.length->At pr F H.length (fin res H.length λr S'=>∃ rw',Rx rw rw'/\r=.ret t/\S'=⟨hp H 0 b [],rw'⟩) c [] (Ys args) ⟨hp H 0 b [],rw⟩):TxOk pr F f args t:=by
 refine TxOk.of hm ?_;intro H rw hH;obtain⟨b,hb⟩:∃ b,H[0]? = some b:=⟨_,Ab hH⟩
 have:=Kw hm h1 h2 h3 (Xi hb) (h H rw b hH);refine this.mono ?_;rintro r S' ⟨rw',e1,e2,rfl⟩;exact⟨rw',e1,e2,QP hb⟩
theorem BT{Q:Prop}(h:Q:=by simp only[Ak,A8,Ji];omega):Q:=h
theorem JiX(L:LibE pr F)(xs:List Xp)(z:Nat)(tag:Tag)(hz:xs≠[]->z=5)(hx:∀ x∈xs,TxOk pr F 96 [.agg (Jb x)] (.str (Jy x)))(hs:((xs.map Jy).map λx=>x.length+2).sum<=2147483648)(hxs:xs.length<=64800000) :
  TxOk pr F 127 [.list z tag (Ja xs)] (.str (Xb [44,32] (xs.map Jy))):=by
 have hm:=L.hm;have hlx:=JV xs;refine TxOk.of0 hm L.f127.1 L.f127.2 rfl ?_;intro H rw b hlt;have hR:Rx rw rw:=Rx.rfl;refine' KN;refine JB hm (λmm e S'=>∃(q:Nat) (l:AV) (J:List Blk) (rw3:List Nat),S'=⟨hp H 0 b J,rw3⟩/\q<=xs.length/\Lst rw 1 l (((xs.take q).map Jy).map Qy) rw3/\Rx rw rw3/\mm=xs.length-q/\e=[(3,l),(6,.list z tag (Ja xs)),(7,.int .i64 ((Ja xs).length:Int)),(8,.int .i64 q)]) ?_ (m:=xs.length) ⟨0,_,[],rw,rfl,O,Lst.nil,Rx.rfl,rfl,rfl⟩;clear hR;rintro mm e S' ⟨q,l,J,rw3,rfl,hq0,hl,hR,rfl,rfl⟩;by_cases hq1:q<xs.length
 ·obtain⟨x,hxq⟩:∃ x,xs[q]? = some x:=⟨_,Ab hq1⟩
  have hxr:=JbS hxq;have hz5:z=5:=hz (by intro h;rw[h]at hq1;simp at hq1);subst hz5;have hx1:=hx x (Aq hxq);have hR0:=hR;refine' KN;refine JT ?_;refine JW rfl rfl rfl ?_;refine QB (row:=Qy (Jy x)) (hl.ext hRt) hR BT BT O ?_;intro l4 rw4 hl4 hR4;refine QJ ?_;refine' KN;refine⟨xs.length-(q+1),O,q+1,l4,_,rw4,rfl,O,?_,hR4,rfl,rfl⟩;rw[QW hxq,An,An];exact hl4
 ·refine' KN;rw[show q=xs.length by omega,AI]at hl;refine Je rfl rfl rfl ?_;refine⟨_,_,L.join (xs.map Jy) [44,32] l _ _ hl.isL hs,?_⟩;refine QJ ?_;refine' KN;exact Js rfl rfl (JR hlt) ⟨_,hR,rfl,rfl⟩
theorem KG(i:Nat):∀(xs:List Xp),(KH xs).getD i Zh=(Xr (xs.getD i JpB).op,Jy (xs.getD i JpB)):=by
 have hn:Zh=(Xr JpB.op,Jy JpB):=by unfold JpB;simp only[Jy,KH,Ve,Xp.op];decide
 induction i with
 | zero=>
  intro xs;cases xs with
  | nil=>rw[JgQ];exact hn
  | cons x xs=>rw[XT];rfl
 | succ i ih=>
  intro xs;cases xs with
  | nil=>rw[JgQ];exact hn
  | cons x xs=>rw[XT];exact ih xs
theorem XZ{x:Xp}:∀{xs:List Xp},x∈xs->VY x<=KE xs:=by
 intro xs;induction xs with
 | nil=>intro h;cases h
 | cons y xs ih=>
  intro h;simp only[KE];rcases AS.1 h with h |h
  ·subst h;omega
  ·have:=ih h;omega
theorem YI:∀(xs:List Xp),xs.length<=KE xs:=by
 intro xs;induction xs with
 | nil=>simp
 | cons u xs ih=>obtain⟨o,nm,ar,ty,a⟩:=u;simp only[KE,VY,Ad];omega
theorem Xh{x:Xp}:∀{xs:List Xp},KP xs->x∈xs->Q7 x:=by
 intro xs;induction xs with
 | nil=>intro _ h;cases h
 | cons y xs ih=>
  intro h hx;rcases AS.1 hx with h1 |h1
  ·subst h1;exact h.1
  ·exact ih h.2 h1
theorem XA(xs:List Xp):((xs.map Jy).map λx=>x.length+2).sum<=32*KE xs:=by have h:=Q8 xs;rw[<- Vo,JlT];omega
section
variable {b0 base ix:Nat} {d:Option Nat} {g:Option (Nat×Bool)} {prev items:List Item} {kp:List Nat} {k:List Fr} {e:KC} {Q:Ex->KC->St->Prop} {S:St}
theorem JnG{sz:Nat}{tag:Tag}{r:List AV}{rows:List (List AV)}:Jan sz (.list sz tag (r::rows)) (some 1) none=some (.list sz tag rows):=EE
end
theorem EQ{Q:Prop}(h:Q:=by intro y hy;have h2:=XZ hy;have h3:=Vk y;exact⟨IH y O (Xh hka hy),O⟩):Q:=h
theorem JnH(L:LibE pr F){op name:Jk}{args:List Xp}{ty:List Ty}{a:Int}(hka:KP args)(hkt:JjS op ty)(hw:1+op.length+name.length+KE args+tyW op ty<=64800000)(IH:∀ y,VY y<1+op.length+name.length+KE args+tyW op ty->Q7 y->TxOk pr F 96 [.agg (Jb y)] (.str (Jy y)))(IHt:∀ t,Xg t<1+op.length+name.length+KE args+tyW op ty->Vg t->TxOk pr F 52 [.agg (Jl t)] (.str (Q2 t)))(hop:(op=[110,117,109]\/op=[118,97,114])/\args=[]) :
  TxOk pr F 96 [.agg (Jb (.mk op name args ty a))] (.str (Jy (.mk op name args ty a))):=by
 have hm:=L.hm;refine TxOk.of hm ?_;intro H rw hH;have hal:=YI args;have hxs:=JV args;have hR:Rx rw rw:=Rx.rfl;have hb:=Xz L (.mk op name args ty a);have h0:=Vb L args O 0 O;have h1:=Vb L args O 1 O;have hA:∀ y∈args,TxOk pr F 96 [.agg (Jb y)] (.str (Jy y))/\(Jy y).length<=2147483648:=EQ
 have hsum:=XA args;have hlt0:=Q8 args;have hg0:=KG 0 args;have hg1:=KG 1 args;have hmap:=Vo args;have hty:=Q9 ty;have hnm:name.length<=64800000:=O;have hopl:op.length<=64800000:=O;simp only[Jy];refine Jt hm L.f96.1 L.f96.2 rfl ?_;refine Kt hm ?_;unfold JcO;show At pr F H.length (fin _ H.length _) _ _ _ _;refine YB hm rfl ?_;intro H1 hH1 hlen hlt;rcases hop with⟨rfl |rfl,rfl⟩
 all_goals
  refine' KN;exact Va hH1 rfl rfl ⟨_,hR,rfl,rfl⟩
theorem JuD(L:LibE pr F){op name:Jk}{args:List Xp}{ty:List Ty}{a:Int}(hka:KP args)(hkt:JjS op ty)(hw:1+op.length+name.length+KE args+tyW op ty<=64800000)(IH:∀ y,VY y<1+op.length+name.length+KE args+tyW op ty->Q7 y->TxOk pr F 96 [.agg (Jb y)] (.str (Jy y)))(IHt:∀ t,Xg t<1+op.length+name.length+KE args+tyW op ty->Vg t->TxOk pr F 52 [.agg (Jl t)] (.str (Q2 t)))(hop:(op=[116,114,117,101]\/op=[102,97,108,115,101]\/op=[110,117,108,108]\/op=[116,104,105,115]\/op=[114,101,97,100])/\args=[]) :
  TxOk pr F 96 [.agg (Jb (.mk op name args ty a))] (.str (Jy (.mk op name args ty a))):=by
 have hm:=L.hm;refine TxOk.of hm ?_;intro H rw hH;have hal:=YI args;have hxs:=JV args;have hR:Rx rw rw:=Rx.rfl;have hb:=Xz L (.mk op name args ty a);have h0:=Vb L args O 0 O;have h1:=Vb L args O 1 O;have hA:∀ y∈args,TxOk pr F 96 [.agg (Jb y)] (.str (Jy y))/\(Jy y).length<=2147483648:=EQ
 have hsum:=XA args;have hlt0:=Q8 args;have hg0:=KG 0 args;have hg1:=KG 1 args;have hmap:=Vo args;have hty:=Q9 ty;have hnm:name.length<=64800000:=O;have hopl:op.length<=64800000:=O;simp only[Jy];refine Jt hm L.f96.1 L.f96.2 rfl ?_;refine Kt hm ?_;unfold JcO;show At pr F H.length (fin _ H.length _) _ _ _ _;refine YB hm rfl ?_;intro H1 hH1 hlen hlt;rcases hop with⟨rfl |rfl |rfl |rfl |rfl,rfl⟩
 all_goals
  first |(replace hb:TxOk pr F 143 _ (.int .i64 7):=hb) |skip
  refine' KN;exact Va hH1 rfl rfl ⟨_,hR,rfl,rfl⟩
theorem JNb(L:LibE pr F){op name:Jk}{args:List Xp}{ty:List Ty}{a:Int}(hka:KP args)(hkt:JjS op ty)(hw:1+op.length+name.length+KE args+tyW op ty<=64800000)(IH:∀ y,VY y<1+op.length+name.length+KE args+tyW op ty->Q7 y->TxOk pr F 96 [.agg (Jb y)] (.str (Jy y)))(IHt:∀ t,Xg t<1+op.length+name.length+KE args+tyW op ty->Vg t->TxOk pr F 52 [.agg (Jl t)] (.str (Q2 t)))(hop:op=[108,101,110]/\(∃ x,args=[x])) :
  TxOk pr F 96 [.agg (Jb (.mk op name args ty a))] (.str (Jy (.mk op name args ty a))):=by
 have hm:=L.hm;refine TxOk.of hm ?_;intro H rw hH;have hal:=YI args;have hxs:=JV args;have hR:Rx rw rw:=Rx.rfl;have hb:=Xz L (.mk op name args ty a);have h0:=Vb L args O 0 O;have h1:=Vb L args O 1 O;have hA:∀ y∈args,TxOk pr F 96 [.agg (Jb y)] (.str (Jy y))/\(Jy y).length<=2147483648:=EQ
 have hsum:=XA args;have hlt0:=Q8 args;have hg0:=KG 0 args;have hg1:=KG 1 args;have hmap:=Vo args;have hty:=Q9 ty;have hnm:name.length<=64800000:=O;have hopl:op.length<=64800000:=O;simp only[Jy];refine Jt hm L.f96.1 L.f96.2 rfl ?_;refine Kt hm ?_;unfold JcO;show At pr F H.length (fin _ H.length _) _ _ _ _;refine YB hm rfl ?_;intro H1 hH1 hlen hlt;rcases hop with⟨rfl,⟨y,rfl⟩⟩
 ·
  obtain⟨hy1,hy2⟩:=hA y Bl;have e:XS [108,101,110] name (KH [y]) (Ve ty)=[108,101,110,40]++Jy y++[41]:=by show [108,101,110,40]++((KH [y]).getD 0 Zh).2++[41]=_;rw[hg0];rfl
  rw[e];refine' KN;exact Va hH1 rfl rfl ⟨_,hR,rfl,rfl⟩
theorem JNc(L:LibE pr F){op name:Jk}{args:List Xp}{ty:List Ty}{a:Int}(hka:KP args)(hkt:JjS op ty)(hw:1+op.length+name.length+KE args+tyW op ty<=64800000)(IH:∀ y,VY y<1+op.length+name.length+KE args+tyW op ty->Q7 y->TxOk pr F 96 [.agg (Jb y)] (.str (Jy y)))(IHt:∀ t,Xg t<1+op.length+name.length+KE args+tyW op ty->Vg t->TxOk pr F 52 [.agg (Jl t)] (.str (Q2 t)))(hop:op=[110,101,119]) :
  TxOk pr F 96 [.agg (Jb (.mk op name args ty a))] (.str (Jy (.mk op name args ty a))):=by
 have hm:=L.hm;refine TxOk.of hm ?_;intro H rw hH;have hal:=YI args;have hxs:=JV args;have hR:Rx rw rw:=Rx.rfl;have hb:=Xz L (.mk op name args ty a);have h0:=Vb L args O 0 O;have h1:=Vb L args O 1 O;have hA:∀ y∈args,TxOk pr F 96 [.agg (Jb y)] (.str (Jy y))/\(Jy y).length<=2147483648:=EQ
 have hsum:=XA args;have hlt0:=Q8 args;have hg0:=KG 0 args;have hg1:=KG 1 args;have hmap:=Vo args;have hty:=Q9 ty;have hnm:name.length<=64800000:=O;have hopl:op.length<=64800000:=O;simp only[Jy];refine Jt hm L.f96.1 L.f96.2 rfl ?_;refine Kt hm ?_;unfold JcO;show At pr F H.length (fin _ H.length _) _ _ _ _;refine YB hm rfl ?_;intro H1 hH1 hlen hlt;rcases hop with rfl
 ·
  have htx:TxOk pr F 127 [Kp 5 (Ja args)] (.str (Xb [44,32] (args.map Jy))):=by obtain⟨z,tag,h,h2,-⟩:=YM (sz:=5) (rows:=Ja args);rw[h];exact JiX L args z tag (λhne=>h2 (by intro h3;apply hne;cases args with |nil=>rfl |cons u us=>simp[Ja]at h3)) (λy hy=>(hA y hy).1) O O
  have e:XS [110,101,119] name (KH args) (Ve ty)=[110,101,119,32]++name++[40]++Xb [44,32] (args.map Jy)++[41]:=by show [110,101,119,32]++name++[40]++Xb [44,32] ((KH args).map (·.2))++[41]=_;rw[hmap]
  rw[e];have hj:=Jam [44,32] (args.map Jy);simp only[Ad,Af,Nat.reduceAdd,AF]at hj;refine' KN;exact Va hH1 rfl rfl ⟨_,hR,rfl,rfl⟩
theorem JBm(L:LibE pr F){op name:Jk}{args:List Xp}{ty:List Ty}{a:Int}(hka:KP args)(hkt:JjS op ty)(hw:1+op.length+name.length+KE args+tyW op ty<=64800000)(IH:∀ y,VY y<1+op.length+name.length+KE args+tyW op ty->Q7 y->TxOk pr F 96 [.agg (Jb y)] (.str (Jy y)))(IHt:∀ t,Xg t<1+op.length+name.length+KE args+tyW op ty->Vg t->TxOk pr F 52 [.agg (Jl t)] (.str (Q2 t)))(hop:op=[108,105,115,116]/\(∃ x z,args=[x,z])/\∃ t,ty=[t]) :
  TxOk pr F 96 [.agg (Jb (.mk op name args ty a))] (.str (Jy (.mk op name args ty a))):=by
 have hm:=L.hm;refine TxOk.of hm ?_;intro H rw hH;have hal:=YI args;have hxs:=JV args;have hR:Rx rw rw:=Rx.rfl;have hb:=Xz L (.mk op name args ty a);have h0:=Vb L args O 0 O;have h1:=Vb L args O 1 O;have hA:∀ y∈args,TxOk pr F 96 [.agg (Jb y)] (.str (Jy y))/\(Jy y).length<=2147483648:=EQ
 have hsum:=XA args;have hlt0:=Q8 args;have hg0:=KG 0 args;have hg1:=KG 1 args;have hmap:=Vo args;have hty:=Q9 ty;have hnm:name.length<=64800000:=O;have hopl:op.length<=64800000:=O;simp only[Jy];refine Jt hm L.f96.1 L.f96.2 rfl ?_;refine Kt hm ?_;unfold JcO;show At pr F H.length (fin _ H.length _) _ _ _ _;refine YB hm rfl ?_;intro H1 hH1 hlen hlt;rcases hop with⟨rfl,⟨y,y2,rfl⟩,⟨t,rfl⟩⟩
 ·
  have htx:TxOk pr F 127 [Kp 5 (Ja [y,y2])] (.str (Xb [44,32] ([y,y2].map Jy))):=JiX L [y,y2] 5 .dead (λ_=>rfl) (λu hu=>(hA u hu).1) O O;rw[show tyW [108,105,115,116] [t]=Xg t from by simp[tyW,XI]]at hw IHt;have hT:=IHt t O (hkt rfl).1;have hT2:=JbQ t;have e:XS [108,105,115,116] name (KH [y,y2]) (Ve [t])=[108,105,115,116,32]++Q2 t++[40]++Xb [44,32] ([y,y2].map Jy)++[41]:=by show [108,105,115,116,32]++Ve [t]++[40]++Xb [44,32] ((KH [y,y2]).map (·.2))++[41]=_;rw[hmap];simp only[Ve]
  rw[e];have hj:=Jam [44,32] ([y,y2].map Jy);simp only[Ad,Af,Nat.reduceAdd,AF]at hj;have hl1:(Jo [t]).length=1:=rfl;refine' KN;refine JB hm (λmm e S'=>∃(q:Nat) (s:Jk) (J:List Blk) (rw3:List Nat),S'=⟨hp H1 H.length (.cells (Jb (.mk [108,105,115,116] name [y,y2] [t] a))) J,rw3⟩/\q<=1/\(q=1->s=Q2 t)/\Rx rw rw3/\mm=1-q/\e=[(1,.ptr H.length 0),(6,.str s),(66,Kp 6 (Jo [t])),(67,.int .i64 ((Jo [t]).length:Int)),(68,.int .i64 q)]) ?_ (m:=1) ⟨0,_,_,_,rfl,O,O,hR,rfl,rfl⟩;clear hR;rintro mm e S' ⟨q,s,J,rw3,rfl,hq,hs,hR,rfl,rfl⟩;by_cases hq0:q=0
  ·subst hq0;have htr:(Jo [t])[0]? = some (Jl t):=rfl;have hl5:Kp 6 (Jo [t])=.list 6 .dead (Jo [t]):=rfl;rw[hl5];refine' KN;exact⟨0,O,1,Q2 t,_,rwt,rfl,O,λ_=>rfl,hR,rfl,rfl⟩
  ·have hq1:q=1:=by omega
   subst hq1;have hs1:=hs rfl;subst hs1;refine' KN;exact Va hH1 rfl rfl ⟨_,hR,rfl,rfl⟩
theorem JuE(L:LibE pr F){op name:Jk}{args:List Xp}{ty:List Ty}{a:Int}(hka:KP args)(hkt:JjS op ty)(hw:1+op.length+name.length+KE args+tyW op ty<=64800000)(IH:∀ y,VY y<1+op.length+name.length+KE args+tyW op ty->Q7 y->TxOk pr F 96 [.agg (Jb y)] (.str (Jy y)))(IHt:∀ t,Xg t<1+op.length+name.length+KE args+tyW op ty->Vg t->TxOk pr F 52 [.agg (Jl t)] (.str (Q2 t)))(hop:op=[102,105,101,108,100]/\(∃ x,args=[x])) :
  TxOk pr F 96 [.agg (Jb (.mk op name args ty a))] (.str (Jy (.mk op name args ty a))):=by
 have hm:=L.hm;refine TxOk.of hm ?_;intro H rw hH;have hal:=YI args;have hxs:=JV args;have hR:Rx rw rw:=Rx.rfl;have hb:=Xz L (.mk op name args ty a);have h0:=Vb L args O 0 O;have h1:=Vb L args O 1 O;have hA:∀ y∈args,TxOk pr F 96 [.agg (Jb y)] (.str (Jy y))/\(Jy y).length<=2147483648:=EQ
 have hsum:=XA args;have hlt0:=Q8 args;have hg0:=KG 0 args;have hg1:=KG 1 args;have hmap:=Vo args;have hty:=Q9 ty;have hnm:name.length<=64800000:=O;have hopl:op.length<=64800000:=O;simp only[Jy];refine Jt hm L.f96.1 L.f96.2 rfl ?_;refine Kt hm ?_;unfold JcO;show At pr F H.length (fin _ H.length _) _ _ _ _;refine YB hm rfl ?_;intro H1 hH1 hlen hlt;rcases hop with⟨rfl,⟨y,rfl⟩⟩
 ·
  obtain⟨hy1,hy2⟩:=hA y Bl;have ht:=JiW L y hy1 hy2;have hl:(atT (Xr y.op,Jy y) 7).length<=(Jy y).length+2:=Za _ _;have e:XS [102,105,101,108,100] name (KH [y]) (Ve ty)=atT (Xr y.op,Jy y) 7++[46]++name:=by show atT ((KH [y]).getD 0 Zh) 7++[46]++name=_;rw[hg0];rfl
  rw[e];refine' KN;exact Va hH1 rfl rfl ⟨_,hR,rfl,rfl⟩
theorem JBn(L:LibE pr F){op name:Jk}{args:List Xp}{ty:List Ty}{a:Int}(hka:KP args)(hkt:JjS op ty)(hw:1+op.length+name.length+KE args+tyW op ty<=64800000)(IH:∀ y,VY y<1+op.length+name.length+KE args+tyW op ty->Q7 y->TxOk pr F 96 [.agg (Jb y)] (.str (Jy y)))(IHt:∀ t,Xg t<1+op.length+name.length+KE args+tyW op ty->Vg t->TxOk pr F 52 [.agg (Jl t)] (.str (Q2 t)))(hop:op=[99,97,108,108]/\(∃ x l,args=x::l)) :
  TxOk pr F 96 [.agg (Jb (.mk op name args ty a))] (.str (Jy (.mk op name args ty a))):=by
 have hm:=L.hm;refine TxOk.of hm ?_;intro H rw hH;have hal:=YI args;have hxs:=JV args;have hR:Rx rw rw:=Rx.rfl;have hb:=Xz L (.mk op name args ty a);have h0:=Vb L args O 0 O;have h1:=Vb L args O 1 O;have hA:∀ y∈args,TxOk pr F 96 [.agg (Jb y)] (.str (Jy y))/\(Jy y).length<=2147483648:=EQ
 have hsum:=XA args;have hlt0:=Q8 args;have hg0:=KG 0 args;have hg1:=KG 1 args;have hmap:=Vo args;have hty:=Q9 ty;have hnm:name.length<=64800000:=O;have hopl:op.length<=64800000:=O;simp only[Jy];refine Jt hm L.f96.1 L.f96.2 rfl ?_;refine Kt hm ?_;unfold JcO;show At pr F H.length (fin _ H.length _) _ _ _ _;refine YB hm rfl ?_;intro H1 hH1 hlen hlt;rcases hop with⟨rfl,⟨y,l,rfl⟩⟩
 ·
  obtain⟨hy1,hy2⟩:=hA y Bl;have ht:=JiW L y hy1 hy2;have hl:(atT (Xr y.op,Jy y) 7).length<=(Jy y).length+2:=Za _ _;have hsl:=XA l;simp only[KE,Ja,Ad]at hw hal hxs;have htx:=JiX L l 5 .dead (λ_=>rfl) (λu hu=>(hA u (A7 _ hu)).1) O O;have e:XS [99,97,108,108] name (KH (y::l)) (Ve ty)=atT (Xr y.op,Jy y) 7++[46]++name++[40]++Xb [44,32] (l.map Jy)++[41]:=by show atT ((KH (y::l)).getD 0 Zh) 7++[46]++name++[40]++Xb [44,32] (((KH (y::l)).drop 1).map (·.2))++[41]=_;rw[hg0,XT];show atT (Xr y.op,Jy y) 7++[46]++name++[40]++Xb [44,32] ((KH l).map (·.2))++[41]=_;rw[Vo]
  rw[e];have hj:=Jam [44,32] (l.map Jy);simp only[Ad,Af,Nat.reduceAdd,AF]at hj;refine' KN;have hln:¬((Ja (y::l)).length:Int)<1:=by simp only[Ja,Ad];omega
  rw[if_neg hln];refine g_q rfl (v:=.list 5 .dead (Ja l)) JnG ?_;refine' KN;exact Va hH1 rfl rfl ⟨_,hR,rfl,rfl⟩
theorem JuF(L:LibE pr F){op name:Jk}{args:List Xp}{ty:List Ty}{a:Int}(hka:KP args)(hkt:JjS op ty)(hw:1+op.length+name.length+KE args+tyW op ty<=64800000)(IH:∀ y,VY y<1+op.length+name.length+KE args+tyW op ty->Q7 y->TxOk pr F 96 [.agg (Jb y)] (.str (Jy y)))(IHt:∀ t,Xg t<1+op.length+name.length+KE args+tyW op ty->Vg t->TxOk pr F 52 [.agg (Jl t)] (.str (Q2 t)))(hop:op=[105,110,100,101,120]/\(∃ x z,args=[x,z])) :
  TxOk pr F 96 [.agg (Jb (.mk op name args ty a))] (.str (Jy (.mk op name args ty a))):=by
 have hm:=L.hm;refine TxOk.of hm ?_;intro H rw hH;have hal:=YI args;have hxs:=JV args;have hR:Rx rw rw:=Rx.rfl;have hb:=Xz L (.mk op name args ty a);have h0:=Vb L args O 0 O;have h1:=Vb L args O 1 O;have hA:∀ y∈args,TxOk pr F 96 [.agg (Jb y)] (.str (Jy y))/\(Jy y).length<=2147483648:=EQ
 have hsum:=XA args;have hlt0:=Q8 args;have hg0:=KG 0 args;have hg1:=KG 1 args;have hmap:=Vo args;have hty:=Q9 ty;have hnm:name.length<=64800000:=O;have hopl:op.length<=64800000:=O;simp only[Jy];refine Jt hm L.f96.1 L.f96.2 rfl ?_;refine Kt hm ?_;unfold JcO;show At pr F H.length (fin _ H.length _) _ _ _ _;refine YB hm rfl ?_;intro H1 hH1 hlen hlt;rcases hop with⟨rfl,⟨y,y2,rfl⟩⟩
 ·
  obtain⟨hy1,hy2⟩:=hA y Bl;obtain⟨hy3,hy4⟩:=hA y2 Ag;have ht:=JiW L y hy1 hy2;have hl:(atT (Xr y.op,Jy y) 7).length<=(Jy y).length+2:=Za _ _;have e:XS [105,110,100,101,120] name (KH [y,y2]) (Ve ty)=atT (Xr y.op,Jy y) 7++[91]++Jy y2++[93]:=by show atT ((KH [y,y2]).getD 0 Zh) 7++[91]++((KH [y,y2]).getD 1 Zh).2++[93]=_;rw[hg0,hg1];rfl
  rw[e];refine' KN;exact Va hH1 rfl rfl ⟨_,hR,rfl,rfl⟩
theorem JNd(L:LibE pr F){op name:Jk}{args:List Xp}{ty:List Ty}{a:Int}(hka:KP args)(hkt:JjS op ty)(hw:1+op.length+name.length+KE args+tyW op ty<=64800000)(IH:∀ y,VY y<1+op.length+name.length+KE args+tyW op ty->Q7 y->TxOk pr F 96 [.agg (Jb y)] (.str (Jy y)))(IHt:∀ t,Xg t<1+op.length+name.length+KE args+tyW op ty->Vg t->TxOk pr F 52 [.agg (Jl t)] (.str (Q2 t)))(hop:(op=[110,101,103]\/op=[110,111,116])/\(∃ x,args=[x])) :
  TxOk pr F 96 [.agg (Jb (.mk op name args ty a))] (.str (Jy (.mk op name args ty a))):=by
 have hm:=L.hm;refine TxOk.of hm ?_;intro H rw hH;have hal:=YI args;have hxs:=JV args;have hR:Rx rw rw:=Rx.rfl;have hb:=Xz L (.mk op name args ty a);have h0:=Vb L args O 0 O;have h1:=Vb L args O 1 O;have hA:∀ y∈args,TxOk pr F 96 [.agg (Jb y)] (.str (Jy y))/\(Jy y).length<=2147483648:=EQ
 have hsum:=XA args;have hlt0:=Q8 args;have hg0:=KG 0 args;have hg1:=KG 1 args;have hmap:=Vo args;have hty:=Q9 ty;have hnm:name.length<=64800000:=O;have hopl:op.length<=64800000:=O;simp only[Jy];refine Jt hm L.f96.1 L.f96.2 rfl ?_;refine Kt hm ?_;unfold JcO;show At pr F H.length (fin _ H.length _) _ _ _ _;refine YB hm rfl ?_;intro H1 hH1 hlen hlt;rcases hop with⟨rfl |rfl,⟨y,rfl⟩⟩
 all_goals
   obtain⟨hy1,hy2⟩:=hA y Bl;have ht:=JiU L y 6 hy1 hy2;have hl:(atT (Xr y.op,Jy y) 6).length<=(Jy y).length+2:=Za _ _;refine' KN;refine Va hH1 rfl rfl ⟨_,hR,?_,rfl⟩;first
    |(show _=Res.ret (AV.str ([45]++atT ((KH [y]).getD 0 Zh) 6));rw[hg0];rfl)
    |(show _=Res.ret (AV.str ([33]++atT ((KH [y]).getD 0 Zh) 6));rw[hg0];rfl)
theorem ER{Q:Prop}(h:Q:=by rintro rfl;revert hlv;decide):Q:=h
theorem JNe(L:LibE pr F){op name:Jk}{args:List Xp}{ty:List Ty}{a:Int}(hka:KP args)(hkt:JjS op ty)(hw:1+op.length+name.length+KE args+tyW op ty<=64800000)(IH:∀ y,VY y<1+op.length+name.length+KE args+tyW op ty->Q7 y->TxOk pr F 96 [.agg (Jb y)] (.str (Jy y)))(IHt:∀ t,Xg t<1+op.length+name.length+KE args+tyW op ty->Vg t->TxOk pr F 52 [.agg (Jl t)] (.str (Q2 t)))(hop:0<=KO op/\(∃ x z,args=[x,z])) :
  TxOk pr F 96 [.agg (Jb (.mk op name args ty a))] (.str (Jy (.mk op name args ty a))):=by
 have hm:=L.hm;refine TxOk.of hm ?_;intro H rw hH;have hal:=YI args;have hxs:=JV args;have hR:Rx rw rw:=Rx.rfl;have hb:=Xz L (.mk op name args ty a);have h0:=Vb L args O 0 O;have h1:=Vb L args O 1 O;have hA:∀ y∈args,TxOk pr F 96 [.agg (Jb y)] (.str (Jy y))/\(Jy y).length<=2147483648:=EQ
 have hsum:=XA args;have hlt0:=Q8 args;have hg0:=KG 0 args;have hg1:=KG 1 args;have hmap:=Vo args;have hty:=Q9 ty;have hnm:name.length<=64800000:=O;have hopl:op.length<=64800000:=O;simp only[Jy];refine Jt hm L.f96.1 L.f96.2 rfl ?_;refine Kt hm ?_;unfold JcO;show At pr F H.length (fin _ H.length _) _ _ _ _;refine YB hm rfl ?_;intro H1 hH1 hlen hlt;rcases hop with⟨hlv,⟨y,y2,rfl⟩⟩
 ·
  obtain⟨hy1,hy2⟩:=hA y Bl;obtain⟨hy3,hy4⟩:=hA y2 Ag;by_cases hop:op=[61,62]
  ·subst hop;have ht:=JiU L y 1 hy1 hy2;have ht2:=JiU L y2 0 hy3 hy4;have hl:(atT (Xr y.op,Jy y) 1).length<=(Jy y).length+2:=Za _ _;have hl2:(atT (Xr y2.op,Jy y2) 0).length<=(Jy y2).length+2:=Za _ _;have e:XS [61,62] name (KH [y,y2]) (Ve ty)=atT (Xr y.op,Jy y) 1++[32,61,62,32]++atT (Xr y2.op,Jy y2) 0:=by show atT ((KH [y,y2]).getD 0 Zh) 1++[32]++[61,62]++[32]++atT ((KH [y,y2]).getD 1 Zh) 0=_;rw[hg0,hg1];simp
   rw[e];refine' KN;exact Va hH1 rfl rfl ⟨_,hR,rfl,rfl⟩
  ·have hle:KO op<=5:=by
    unfold KO
    repeat' split
    all_goals omega
   have hl0:KO op≠0:=by
    intro h;unfold KO at h;rw[if_neg hop]at h;revert h
    repeat' split
    all_goals omega
   have n1:op≠[110,117,109]:=ER
   have n2:op≠[118,97,114]:=ER
   have n3:op≠[102,105,101,108,100]:=ER
   have n4:op≠[99,97,108,108]:=ER
   have n5:op≠[110,101,119]:=ER
   have n6:op≠[108,105,115,116]:=ER
   have n7:op≠[105,110,100,101,120]:=ER
   have n8:op≠[108,101,110]:=ER
   have n9:op≠[114,101,97,100]:=ER
   have n10:op≠[110,101,103]:=ER
   have n11:op≠[110,111,116]:=ER
   have hbk:Xr op=KO op:=by unfold Xr;rw[if_neg (by simp only[n10,n11,or_self,not_false_eq_true]),if_pos hlv]
   replace hb:TxOk pr F 143 [.agg (Jb (.mk op name [y,y2] ty a))] (.int .i64 (KO op)):=by rw[<- hbk];exact hb
   have e:XS op name (KH [y,y2]) (Ve ty)=atT (Xr y.op,Jy y) (if KO op=3 then 4 else KO op)++[32]++op++[32]++atT (Xr y2.op,Jy y2) (KO op+1):=by unfold XS;simp only[n1,n2,n3,n4,n5,n6,n7,n8,n9,n10,n11,or_self,if_false,hl0];rw[if_neg O,hg0,hg1];rfl
   rw[e];have ht:=JiU L y (KO op) hy1 hy2;have ht4:=JiU L y 4 hy1 hy2;have ht2:=JiU L y2 (KO op+1) hy3 hy4;have hl4:(atT (Xr y.op,Jy y) 4).length<=(Jy y).length+2:=Za _ _;have hl:(atT (Xr y.op,Jy y) (KO op)).length<=(Jy y).length+2:=Za _ _;have hl2:(atT (Xr y2.op,Jy y2) (KO op+1)).length<=(Jy y2).length+2:=Za _ _;refine' KN
   ·exact Va hH1 rfl rfl ⟨_,hR,by rw[if_pos Aa],rfl⟩
   ·exact Va hH1 rfl rfl ⟨_,hR,by rw[if_neg Aa],rfl⟩
theorem JBo(L:LibE pr F)(x:Xp)(hok:Q7 x)(hw:VY x<=64800000)(IH:∀ y,VY y<VY x->Q7 y->TxOk pr F 96 [.agg (Jb y)] (.str (Jy y)))(IHt:∀ t,Xg t<VY x->Vg t->TxOk pr F 52 [.agg (Jl t)] (.str (Q2 t))) :
  TxOk pr F 96 [.agg (Jb x)] (.str (Jy x)):=by
 obtain⟨op,name,args,ty,a⟩:=x;simp only[Q7]at hok;obtain⟨hop,hka,hkt⟩:=hok;simp only[VY]at hw IH IHt;unfold JbM at hop;rcases hop with⟨h1,h2,-⟩ |⟨h1,h2,-⟩ |⟨h1,h2,-⟩ |⟨h1,h2,-⟩ |⟨h1,-⟩ |⟨h1,h2,h3,-⟩ |⟨h1,h2,-⟩ |⟨h1,h2,-⟩ |⟨h1,h2,-⟩ |⟨h1,h2,-⟩ |⟨h1,h2,-⟩
 ·exact JnH L hka hkt hw IH IHt ⟨.inl h1,h2⟩
 ·exact JnH L hka hkt hw IH IHt ⟨.inr h1,h2⟩
 ·exact JuD L hka hkt hw IH IHt ⟨h1,h2⟩
 ·exact JNb L hka hkt hw IH IHt ⟨h1,h2⟩
 ·exact JNc L hka hkt hw IH IHt h1
 ·exact JBm L hka hkt hw IH IHt ⟨h1,h2,h3⟩
 ·exact JuE L hka hkt hw IH IHt ⟨h1,h2⟩
 ·exact JBn L hka hkt hw IH IHt ⟨h1,h2⟩
 ·exact JuF L hka hkt hw IH IHt ⟨h1,h2⟩
 ·exact JNd L hka hkt hw IH IHt ⟨h1,h2⟩
 ·exact JNe L hka hkt hw IH IHt ⟨h1,h2⟩
theorem JBp(L:LibE pr F)(t:Ty)(hok:Vg t)(hw:Xg t<=64800000)(IH:∀ y,VY y<Xg t->Q7 y->TxOk pr F 96 [.agg (Jb y)] (.str (Jy y)))(IHt:∀ u,Xg u<Xg t->Vg u->TxOk pr F 52 [.agg (Jl u)] (.str (Q2 u))) :
  TxOk pr F 52 [.agg (Jl t)] (.str (Q2 t)):=by
 have hm:=L.hm;refine TxOk.of hm ?_;intro H rw hH;obtain⟨kind,name,null,K5,pred,a⟩:=t;simp only[Vg]at hok;obtain⟨hk,hpl,hke,hkp⟩:=hok;simp only[Xg]at hw IH IHt;have hR:Rx rw rw:=Rx.rfl;have hpr:(Ja pred).length=pred.length:=JV pred;have hnm:name.length<=64800000:=O;refine Jt hm L.f52.1 L.f52.2 rfl ?_;refine Kt hm ?_;unfold JD6;show At pr F H.length (fin _ H.length _) _ _ _ _;refine YB hm rfl ?_;intro H1 hH1 hlen hlt;obtain⟨bt,hbt,hbe⟩:∃ bt:Jk,bt.length<=2140000000/\bt=QV (.mk kind name null K5 pred a):=⟨_,by have:=JfU (.mk kind name null K5 pred a);simp only[Xg]at this;omega,rfl⟩
 have hel:kind=4->∃ u,K5=[u]/\TxOk pr F 52 [.agg (Jl u)] (.str (Q2 u))/\(Q2 u).length<=2140000000:=by
  intro h4;rcases hk with⟨h,-⟩ |⟨h,-⟩ |⟨h,-⟩ |⟨-,-,u,rfl⟩
  ·omega
  ·omega
  ·omega
  ·have hlu:=JbQ u;simp only[XI]at hw IHt;exact⟨u,rfl,IHt u O hke.1,O⟩
 have hk4:kind=1\/kind=2\/kind=3\/kind=4:=by
  rcases hk with⟨h,-⟩ |⟨h,-⟩ |⟨h,-⟩ |⟨h,-⟩
  ·exact .inl h
  ·exact .inr (.inl h)
  ·exact .inr (.inr (.inl h))
  ·exact .inr (.inr (.inr h))
 have hE:∀ s,s=QV (.mk kind name null K5 pred a)++(if null then [63] else [])++QX pred->s=Q2 (.mk kind name null K5 pred a):=by intro s hs;rw[hs];simp only[Q2,QV]
 have hB:=JfU (.mk kind name null K5 pred a);simp only[Xg]at hB;have hS:(QV (.mk kind name null K5 pred a)++(if null then [63] else [])).length<=2140000000:=by rw[AG];split <;> simp only[Ad,Af] <;> omega
 rcases hk4 with rfl |rfl |rfl |rfl;rotate_left 3
 ·obtain⟨u,rfl,hu,hul⟩:=hel rfl;have htr:(Jo [u])[0]? = some (Jl u):=rfl;have hlt1:(Jo [u]).length=1:=rfl;refine' KN;all_goals
   have hb0:null=true\/null=false:=by cases null <;> simp
   obtain⟨s0,hs0,hs1⟩:∃ s0:Jk,s0=QV (.mk 4 name null [u] pred a)++(if null then [63] else [])/\s0.length<=2140000000:=⟨_,rfl,hS⟩
   refine JB hm (λmm e S'=>∃(q:Nat) (s:Jk) (J:List Blk) (rw3:List Nat),S'=⟨hp H1 H.length (.cells (Jl (.mk 4 name null [u] pred a))) J,rw3⟩/\q<=pred.length/\s=s0++QX (pred.take q)/\Rx rw rw3/\mm=pred.length-q/\e=[(3,.str s),(38,Kp 5 (Ja pred)),(39,.int .i64 ((Ja pred).length:Int)),(40,.int .i64 q)]) ?_ (m:=pred.length) ⟨0,_,_,_,rfl,O,?_,hR,rfl,rfl⟩;rotate_left 1
   ·rw[hs0];simp only[AL,QX,Ar,QV,Ve,hq,if_true,AT,if_false,Int.reduceEq]
   clear hR;rintro mm e S' ⟨q,s,J,rw3,rfl,hq0,rfl,hR,rfl,rfl⟩;by_cases hq1:q<pred.length
   ·obtain⟨x,hx⟩:∃ x,pred[q]? = some x:=⟨_,Ab hq1⟩
    have hxr:=JbS hx;have hl5:Kp 5 (Ja pred)=.list 5 .dead (Ja pred):=Kf (i:=q) O;have hmem:=Aq hx;have hwx:=XZ hmem;have hxl:=Vk x;have hX:=IH x O (Xh hkp hmem);have hq00:q=0:=O;subst hq00;rw[hl5];have e0:QX (List.take 0 pred)=[]:=by simp[QX]
    rw[e0,Ar];refine' KN;refine⟨pred.length-1,O,1,_,_,rwt,rfl,O,?_,hR,rfl,rfl⟩;rw[show(1:Nat)=0+1 from rfl,QW hx];simp only[AL,Au,QX,Ar]
   ·refine' KN;have e1:List.take q pred=pred:=by rw[show q=pred.length by omega,AI]
    rw[e1];exact Va hH1 rfl rfl ⟨_,hR,by rw[hE (s0++QX pred) (by rw[hs0])],rfl⟩
 all_goals
  clear hel;refine' KN;all_goals
   have hb0:null=true\/null=false:=by cases null <;> simp
   obtain⟨s0,hs0,hs1⟩:∃ s0:Jk,s0=QV (.mk _ name null K5 pred a)++(if null then [63] else [])/\s0.length<=2140000000:=⟨_,rfl,hS⟩
   refine JB hm (λmm e S'=>∃(q:Nat) (s:Jk) (J:List Blk) (rw3:List Nat),S'=⟨hp H1 H.length (.cells (Jl (.mk _ name null K5 pred a))) J,rw3⟩/\q<=pred.length/\s=s0++QX (pred.take q)/\Rx rw rw3/\mm=pred.length-q/\e=[(3,.str s),(38,Kp 5 (Ja pred)),(39,.int .i64 ((Ja pred).length:Int)),(40,.int .i64 q)]) ?_ (m:=pred.length) ⟨0,_,_,_,rfl,O,?_,hR,rfl,rfl⟩;rotate_left 1
   ·rw[hs0];simp only[AL,QX,Ar,QV,hq,if_true,AT,if_false,Int.reduceEq]
   clear hR;rintro mm e S' ⟨q,s,J,rw3,rfl,hq0,rfl,hR,rfl,rfl⟩;by_cases hq1:q<pred.length
   ·obtain⟨x,hx⟩:∃ x,pred[q]? = some x:=⟨_,Ab hq1⟩
    have hxr:=JbS hx;have hl5:Kp 5 (Ja pred)=.list 5 .dead (Ja pred):=Kf (i:=q) O;have hmem:=Aq hx;have hwx:=XZ hmem;have hxl:=Vk x;have hX:=IH x O (Xh hkp hmem);have hq00:q=0:=O;subst hq00;rw[hl5];have e0:QX (List.take 0 pred)=[]:=by simp[QX]
    rw[e0,Ar];refine' KN;refine⟨pred.length-1,O,1,_,_,rwt,rfl,O,?_,hR,rfl,rfl⟩;rw[show(1:Nat)=0+1 from rfl,QW hx];simp only[AL,Au,QX,Ar]
   ·refine' KN;have e1:List.take q pred=pred:=by rw[show q=pred.length by omega,AI]
    rw[e1];exact Va hH1 rfl rfl ⟨_,hR,by rw[hE (s0++QX pred) (by rw[hs0])],rfl⟩
theorem JNf(L:LibE pr F):∀ k:Nat,(∀ x,VY x<k->VY x<=64800000->Q7 x->TxOk pr F 96 [.agg (Jb x)] (.str (Jy x)))/\(∀ t,Xg t<k->Xg t<=64800000->Vg t->TxOk pr F 52 [.agg (Jl t)] (.str (Q2 t))):=by
 intro k;induction k with
 | zero=>exact⟨λx h=>O,λx h=>O⟩
 | succ k ih=>
  obtain⟨h1,h2⟩:=ih;exact⟨λx hk hw ho=>JBo L x ho hw (λy hy hoy=>h1 y O O hoy) (λt ht hot=>h2 t O O hot),
   λx hk hw ho=>JBp L x ho hw (λy hy hoy=>h1 y O O hoy) (λt ht hot=>h2 t O O hot)⟩
theorem JXA(L:LibE pr F){t:Ty}(hw:Xg t<=64800000)(ho:Vg t):TxOk pr F 52 [.agg (Jl t)] (.str (Q2 t)):=(JNf L (Xg t+1)).2 t O hw ho
theorem Je9(L:LibE pr F){t:Ty}(hw:Xg t<=64800000)(ho:Vg t\/JfH t):TxOk pr F 15 [.agg (Jl t)] (.str (QV t)):=by
 have hm:=L.hm;refine TxOk.of hm ?_;intro H rw hH;have hR:Rx rw rw:=Rx.rfl;have hT:∀ u,Xg u<Xg t->Vg u->TxOk pr F 52 [.agg (Jl u)] (.str (Q2 u)):=λu hu hou=>JXA L O hou;have hk:∃ kind name null K5 pred a,t=.mk kind name null K5 pred a/\((kind=1\/kind=2\/kind=3\/kind=0)\/kind=4/\∃ u,K5=[u]/\TxOk pr F 52 [.agg (Jl u)] (.str (Q2 u))/\(Q2 u).length<=2140000000):=by
  obtain⟨kind,name,null,K5,pred,a⟩:=t;refine⟨kind,name,null,K5,pred,a,rfl,?_⟩;rcases ho with ho |⟨a',ha⟩
  ·simp only[Vg]at ho;obtain⟨hk,-,hke,-⟩:=ho;rcases hk with⟨h,-⟩ |⟨h,-⟩ |⟨h,-⟩ |⟨h,-,u,rfl⟩
   ·exact .inl (.inl h)
   ·exact .inl (.inr (.inl h))
   ·exact .inl (.inr (.inr (.inl h)))
   ·refine .inr ⟨h,u,rfl,?_⟩;have h1:=JbQ u;simp only[Xg,XI]at hw hT;exact⟨hT u O hke.1,O⟩
  ·injection ha with h1;exact .inl (.inr (.inr (.inr h1)))
 obtain⟨kind,name,null,K5,pred,a,rfl,hk⟩:=hk;clear hT ho;refine Jt hm L.f15.1 L.f15.2 rfl ?_;refine Kt hm ?_;unfold JD3;show At pr F H.length (fin _ H.length _) _ _ _ _;refine YB hm rfl ?_;intro H1 hH1 hlen hlt;rcases hk with(rfl |rfl |rfl |rfl) |⟨rfl,u,rfl,hu,hul⟩
 rotate_left 4
 ·have htr:(Jo [u])[0]? = some (Jl u):=rfl;have hlt1:(Jo [u]).length=1:=rfl;refine' KN;exact Va hH1 rfl rfl ⟨_,hR,rfl,rfl⟩
 all_goals
  refine' KN;exact Va hH1 rfl rfl ⟨_,hR,rfl,rfl⟩
theorem JiY(ps:List Par):(ps.map Jf).length=ps.length:=Ak _
theorem Ca{Q:Prop}(h:Q:=by simp only[V0];omega):Q:=h
theorem Jq4(p:Par):Xg p.type<=V0 p:=Ca
theorem JsB(ps:List Par):((ps.map λp=>QV p.type).map λx=>x.length+1).sum<=33*wL V0 ps:=by
 induction ps with
 | nil=>simp
 | cons p ps ih=>have h:=JfU p.type;simp only[Ap,Du,wL,V0]at ih |-;omega
theorem JiZ(L:LibE pr F){name:Jk}{ps:List Par}(hn:name.length<=64800000)(hw:wL V0 ps<=64800000)(ho:∀ p∈ps,Jku p):TxOk pr F 17 [.str name,Kp 8 (ps.map Jf)] (.str (Vx name ps)):=by
 have hm:=L.hm;have hlp:=JiY ps;have hpl:=JcR V0 (λp=>Ca) ps;have hsum:=JsB ps;have hj:=Jam [44] (ps.map λp=>QV p.type);simp only[Ad,Af,AF]at hj;refine TxOk.of0 hm L.f17.1 L.f17.2 rfl ?_;intro H rw b hlt;have hR:Rx rw rw:=Rx.rfl;refine' KN;refine JB hm (λmm e S'=>∃(q:Nat) (l:AV) (J:List Blk) (rw3:List Nat),S'=⟨hp H 0 b J,rw3⟩/\q<=ps.length/\Lst rw 1 l (((ps.take q).map λp=>QV p.type).map Qy) rw3/\Rx rw rw3/\mm=ps.length-q/\e=[(0,.str name),(5,l),(8,Kp 8 (ps.map Jf)),(9,.int .i64 ((ps.map Jf).length:Int)),(10,.int .i64 q)]) ?_ (m:=ps.length) ⟨0,_,[],rw,rfl,O,Lst.nil,Rx.rfl,rfl,rfl⟩;clear hR;rintro mm e S' ⟨q,l,J,rw3,rfl,hq0,hl,hR,rfl,rfl⟩;by_cases hq1:q<ps.length
 ·obtain⟨p,hp⟩:∃ p,ps[q]? = some p:=⟨_,Ab hq1⟩
  have hpr:(ps.map Jf)[q]? = some (Jf p):=by rw[Ax,hp];rfl
  have hmem:=Aq hp;have hwp:=Q3 V0 hmem;have hwt:=Jq4 p;have hx1:=Je9 L (t:=p.type) O (.inl (ho p hmem).2);have hl5:Kp 8 (ps.map Jf)=.list 8 .dead (ps.map Jf):=Kf (i:=q) O;rw[hl5];refine' KN;refine JT ?_;refine JW rfl rfl rfl ?_;refine QB (row:=Qy (QV p.type)) (hl.ext hRt) hR BT BT O ?_;intro l4 rw4 hl4 hR4;refine QJ ?_;refine' KN;refine⟨ps.length-(q+1),O,q+1,l4,_,rw4,rfl,O,?_,hR4,rfl,rfl⟩;rw[QW hp,An,An];exact hl4
 ·refine' KN;rw[show q=ps.length by omega,AI]at hl;refine Je rfl rfl rfl ?_;refine⟨_,_,L.join (ps.map λp=>QV p.type) [44] l _ _ hl.isL (by simp only[Ad,Af,AF];omega),?_⟩;refine QJ ?_;refine' KN;exact Js rfl rfl (JR hlt) ⟨_,hR,rfl,rfl⟩
structure TabU(H:List Blk)(n mb:Nat)(cs:List Cls)(z:Nat)(tg:Tag)(zb:Nat)(tb:Tag)(U:List (List Nat))(o1 o2 o3 sl:AV):Prop extends TabL H n mb cs z tg (.list zb tb (U.map Vl)) o1 o2 o3 sl where
 okc:∀ c∈cs,Zk c
 ulen:U.length=cs.length
 ups:∀ i l,U[i]? = some l->JaF cs i l
 acyc:∀ i,i<cs.length->¬Up cs i i
 zbs:U≠[]->zb=1
theorem TabU.keep{H H':List Blk}{n mb z zb:Nat}{tg tb:Tag}{cs:List Cls}{U:List (List Nat)}{o1 o2 o3 sl:AV}(T:TabU H n mb cs z tg zb tb U o1 o2 o3 sl)(h:JjU H H'):TabU H' n mb cs z tg zb tb U o1 o2 o3 sl:=
 {T.toTabL.keep h with okc:=T.okc,ulen:=T.ulen,ups:=T.ups,acyc:=T.acyc,zbs:=T.zbs}
theorem VV{H H1 M:List Blk}{rw:List Nat}{z:Blk}{vs:List AV}{t u kd:Nat}{c:Bool}{e:KC}{Q:Res->St->Prop}(hH:H1=H++[z])(he:Jj e t=some (.ptr H.length 0))(hu:Jj e u=some (.bool c))(hv:Row kd vs)(h:Q (.ret (.tup [.agg vs,.bool c])) ⟨H,rw⟩) :
  fin [.cell t (some kd),.tmp u] H.length Q .ret e ⟨hp H1 H.length (.cells vs) M,rw⟩:=by
 subst hH;have e2:QT [.cell t (some kd),.tmp u] e (hp (H++[z]) H.length (.cells vs) M)=some [.agg vs,.bool c]:=by simp only[QT,he,hu,Jbk hv]
 refine X7 e2 ?_ JZ h;have this:Ai.belowL H.length vs=true:=hv.below H.length;simp only[Ai.belowL,this,Ai.below,A0]
def Jea:Mth:=⟨[],[],.mk 0 [] false [] [] 0,[],false,0⟩
def JaG(sig:Jk):List Mth->Option Mth
 | []=>none
 | m::ms=>if Vx m.name m.params=sig then some m else JaG sig ms
def Zb(cs:List Cls)(i:Nat)(sig:Jk):Option Mth:=match cs[i]? with
 | some c=>JaG sig c.meths
 | none=>none
theorem ES{Q:Prop}(h:Q:=by obtain⟨hl,he⟩:=Ac.1 h;rw[AY hl,he];rfl):Q:=h
theorem JsC{sig:Jk}{ms:List Mth}{q:Nat}{m:Mth}(h:ms[q]? = some m):JaG sig (ms.drop q)=if Vx m.name m.params=sig then some m else JaG sig (ms.drop (q+1)):=ES
theorem ZH{cs:List Cls}{c:Cls}{m:Mth}(hc:c∈cs)(hm:m∈c.meths)(hw:wL V1 cs<=64800000):m.name.length<=64800000/\wL V0 m.params<=64800000/\Xg m.result<=64800000/\c.meths.length<=64800000:=by have h1:=Q3 V1 hc;have h2:=Q3 JbN hm;have h3:=JcR JbN (λx=>by simp only[JbN];omega) c.meths;simp only[V1,JbN]at h1 h2 h3;refine⟨O,O,O,O⟩
theorem Jbl{c:Cls}(h:Zk c):∀ m∈c.meths,JgN m:=h.2.2.2.2.2.2
theorem JaH(ms:List Mth):(ms.map Jm).length=ms.length:=Ak _
theorem Jq5(L:LibE pr F){H:List Blk}{rw:List Nat}{n mb z zb:Nat}{tg tb:Tag}{cs:List Cls}{U:List (List Nat)}{o1 o2 o3 sl:AV}(T:TabU H n mb cs z tg zb tb U o1 o2 o3 sl){i:Nat}(hi:i<cs.length)(sig:Jk) :
  ∃ rw',Rx rw rw'/\Det pr F 65 [.ptr n 0,.int .i64 i,.str sig] ⟨H,rw⟩ (.ret (.tup [.agg (Jm ((Zb cs i sig).getD Jea)),.bool (Zb cs i sig).isSome])) ⟨H,rw'⟩:=by
 have hm:=L.hm;suffices h:Wp pr F 65 [.ptr n 0,.int .i64 i,.str sig] ⟨H,rw⟩ λr S'=>∃ rw',Rx rw rw'/\r=.ret (.tup [.agg (Jm ((Zb cs i sig).getD Jea)),.bool (Zb cs i sig).isSome])/\S'=⟨H,rw'⟩ by obtain⟨r,S',hd,rw',h1,rfl,rfl⟩:=h.det hm;exact⟨rw',h1,hd⟩
 have hR:Rx rw rw:=Rx.rfl;obtain⟨c,hc⟩:∃ c,cs[i]? = some c:=⟨_,Ab hi⟩
 have hcr:(cs.map Jc)[i]? = some (Jc c):=EF
 have hz:z=9:=T.sz EP;subst hz;have hcm:=Aq hc;have hmo:=Jbl (T.okc c hcm);have hlm:=JaH c.meths;have hof:Zb cs i sig=JaG sig c.meths:=by unfold Zb;rw[hc]
 rw[hof];refine Jt hm L.f65.1 L.f65.2 rfl ?_;refine Kt hm ?_;unfold JD0;show At pr F H.length (fin _ H.length _) _ _ _ _;refine Xj hm ?_;intro H1 hH1 hlen hlt;have hF:=J1 hH1 T.at_;have hfew:=T.few;have hlc:(cs.map Jc).length=cs.length:=Ak _;have hbig:=(T.big c hcm).2;refine' KN;refine JB hm (λmm e S'=>∃(q:Nat) (J:List Blk) (rw3:List Nat),S'=⟨hp H1 H.length (.cells (Jm Jea)) J,rw3⟩/\q<=c.meths.length/\Rx rw rw3/\JaG sig c.meths=JaG sig (c.meths.drop q)/\mm=c.meths.length-q/\e=[(2,.str sig),(6,.ptr H.length 0),(17,Kp 11 (c.meths.map Jm)),(18,.int .i64 ((c.meths.map Jm).length:Int)),(19,.int .i64 q)]) ?_ (m:=c.meths.length) ⟨0,[],rw,rfl,O,Rx.rfl,rfl,rfl,rfl⟩;clear hR;rintro mm e S' ⟨q,J,rw3,rfl,hq0,hR,hod,rfl,rfl⟩;by_cases hq1:q<c.meths.length
 ·obtain⟨m,hmq⟩:∃ m,c.meths[q]? = some m:=⟨_,Ab hq1⟩
  have hmem:=Aq hmq;have hmr:(c.meths.map Jm)[q]? = some (Jm m):=by rw[Ax,hmq];rfl
  obtain⟨hb1,hb2,hb3,hb4⟩:=ZH hcm hmem T.wt;obtain⟨hk1,hk2,hk3,hk4⟩:=hmo m hmem;have hsg:=JiZ L hb1 hb2 hk2;have hl5:Kp 11 (c.meths.map Jm)=.list 11 .dead (c.meths.map Jm):=Kf (i:=q) O;rw[hl5];rw[JsC hmq]at hod;refine' KN
  ·rw[hod,if_pos Aa];exact VV hH1 rfl rfl (Qa m) ⟨_,hR,rfl,rfl⟩
  ·exact⟨c.meths.length-(q+1),O,q+1,_,_,rfl,O,hR,by rw[hod,if_neg Aa],rfl,rfl⟩
 ·refine' KN;rw[hod,AU O];exact VV hH1 rfl rfl (Qa Jea) ⟨_,hR,rfl,rfl⟩
theorem JuG{bs' bs:List Bool}:∀{n:Nat},(∀ k,bs'.getD k false=true->bs.getD k false=true) ->
  (Z8 bs' n).length<=(Z8 bs n).length/\((∃ j,j<n/\bs.getD j false=true/\bs'.getD j false=false)->(Z8 bs' n).length<(Z8 bs n).length):=by
 intro n;induction n with
 | zero=>intro _;exact⟨by simp[Z8],λ⟨j,h,_⟩=>O⟩
 | succ n ih=>
  intro h;obtain⟨h1,h2⟩:=ih h;have hn:=h n;rw[JbR,JbR,AG,AG];have e1:∀ b:Bool,(if b=true then [n] else []).length=if b=true then 1 else 0:=by intro b;cases b <;> rfl
  rw[e1,e1];refine⟨?_,?_⟩
  ·cases hb:bs'.getD n false with
   | false=>simp;omega
   | true=>rw[hn hb];simp;omega
  ·rintro⟨j,hj,hb1,hb2⟩;by_cases hjn:j=n
   ·subst hjn;rw[hb1,hb2];simp;omega
   ·have:=h2 ⟨j,O,hb1,hb2⟩;cases hb:bs'.getD n false with
    | false=>simp;omega
    | true=>rw[hn hb];simp;omega
def muU(U:List (List Nat))(i:Nat):Nat:=(U.getD i []).length
theorem JhF{cs:List Cls}{i:Nat}{l:List Nat}(h:JaF cs i l)(_hl:YA cs)(k:Nat):k∈l↔Up cs i k:=by
 obtain⟨bs,hb,hu,rfl⟩:=h;rw[<- hu];unfold Z8;rw[Ct,Cc];rw[A4];constructor
 ·rintro⟨h1,h2⟩;cases hb2:bs[k]? with
  | none=>rw[hb2]at h2;simp at h2
  | some b=>rw[hb2]at h2;simp at h2;rw[h2]
 ·intro h1;refine⟨?_,by rw[h1];rfl⟩;rw[<- hb];exact(Ac.1 h1).1
theorem Jq6{cs:List Cls}{U:List (List Nat)}(hU:U.length=cs.length)(hup:∀ i l,U[i]? = some l->JaF cs i l)(hl:YA cs)(hac:∀ i,i<cs.length->¬Up cs i i){i j:Nat}(hi:i<cs.length)(h:Up cs i j):muU U j<muU U i:=by
 have hj:=JiI hl h;obtain⟨li,hli⟩:∃ l,U[i]? = some l:=⟨_,Ab O⟩
 obtain⟨lj,hlj⟩:∃ l,U[j]? = some l:=⟨_,Ab O⟩
 obtain⟨bi,hbi,hui,e1⟩:=hup i li hli;obtain⟨bj,hbj,huj,e2⟩:=hup j lj hlj;unfold muU;rw[A4,A4,hli,hlj];simp only[Bc];rw[e1,e2];have hget:∀(bs:List Bool) (k:Nat),bs.getD k false=true↔bs[k]? = some true:=by
  intro bs k;rw[A4];cases bs[k]? with
  | none=>simp
  | some b=>simp
 refine(JuG ?_).2 ⟨j,hj,?_,?_⟩
 ·intro k hk;rw[hget]at hk |-;rw[huj]at hk;rw[hui];exact h.trans hk
 ·rw[hget,hui];exact h
 ·have:¬(bj.getD j false=true):=by rw[hget,huj];exact hac j hj
  simpa using this
def Z9(cs:List Cls)(i:Nat):Jk:=match cs[i]? with
 | some c=>c.super
 | none=>[]
def XB(cs:List Cls):Nat->Jk->List Nat
 | 0,_=>[]
 | k+1,s=>match J6 cs s with
  | some i=>i::XB cs k (Z9 cs i)
  | none=>[]
def KZ(cs:List Cls)(s:Jk):List Nat:=XB cs (cs.length+1) s
theorem Jkw{cs:List Cls}(h:∀ c∈cs,Zk c):J6 cs []=none:=by
 cases hp:J6 cs []with
 | none=>rfl
 | some i=>obtain⟨c,hc,hn⟩:=Xf hp;have:=(h c (Aq hc)).1.pos;rw[hn]at this;simp at this
theorem Ji0{cs:List Cls}(h:∀ c∈cs,Zk c){i j:Nat}(hj:J6 cs (Z9 cs i)=some j):Up cs i j:=by
 unfold Z9 at hj;cases hc:cs[i]? with
 | none=>rw[hc]at hj;simp only at hj;rw[Jkw h]at hj;simp at hj
 | some c=>
  rw[hc]at hj;simp only at hj;refine .one ?_;unfold nxt;rw[hc];simp only;unfold Jpn;by_cases hs:c.super=[]
  ·rw[hs,Jkw h]at hj;simp at hj
  ·rw[if_neg hs,hj];simp
def YT(cs:List Cls)(k:Nat):Option Nat->List Nat
 | some i=>i::XB cs k (Z9 cs i)
 | none=>[]
theorem Yq(cs:List Cls)(k:Nat)(s:Jk):XB cs (k+1) s=YT cs k (J6 cs s):=by simp only[XB];cases J6 cs s <;> rfl
theorem JnI{cs:List Cls}:∀(k:Nat) (s:Jk),∀ i∈XB cs k s,i<cs.length:=by
 intro k;induction k with
 | zero=>intro s i h;cases h
 | succ k ih=>
  intro s i h;simp only[XB]at h;cases hp:J6 cs s with
  | none=>rw[hp]at h;cases h
  | some j=>
   rw[hp]at h;simp only at h;rcases AS.1 h with h1 |h1
   ·obtain⟨c,hc,-⟩:=Xf hp;rw[h1];exact(Ac.1 hc).1
   ·exact ih _ i h1
theorem Jkx{cs:List Cls}:∀(k:Nat) (s:Jk),(XB cs k s).length<=k:=by
 intro k;induction k with
 | zero=>intro s;simp[XB]
 | succ k ih=>
  intro s;simp only[XB];split
  ·have:=ih (Z9 cs ‹_›);simp only[Ad];omega
  ·simp
theorem DJ{Q:Prop}(h:Q:=by simp only[Bj,if_true];omega):Q:=h
theorem ET{Q:Prop}(h:Q:=by rw[Xo];exact hl4):Q:=h
theorem Jky(L:LibE pr F){H:List Blk}{rw:List Nat}{n mb z zb:Nat}{tg tb:Tag}{cs:List Cls}{U:List (List Nat)}{o1 o2 o3 sl:AV}(T:TabU H n mb cs z tg zb tb U o1 o2 o3 sl)(s:Jk) :
  ∃(v:AV) (rw':List Nat),Lst rw 1 v (Ki (KZ cs s)) rw'/\Rx rw rw'/\Det pr F 66 [.ptr n 0,.str s] ⟨H,rw⟩ (.ret v) ⟨H,rw'⟩:=by
 have hm:=L.hm;suffices h:Wp pr F 66 [.ptr n 0,.str s] ⟨H,rw⟩ λr S'=>∃(v:AV) (rw':List Nat),Lst rw 1 v (Ki (KZ cs s)) rw'/\Rx rw rw'/\r=.ret v/\S'=⟨H,rw'⟩ by obtain⟨r,S',hd,v,rw',h1,h2,rfl,rfl⟩:=h.det hm;exact⟨v,rw',h1,h2,hd⟩
 have hlt:n<H.length:=(Ac.1 T.at_).1;have hne:n≠mb:=EO
 have hFm:=ZG hne T.mp;have hfew:=T.few;have hlm:(cs.map Jc).length=cs.length:=Ak _;have hmu:∀ i,muU U i<=cs.length:=by
  intro i;unfold muU;rw[A4];cases hl:U[i]? with
  | none=>simp
  | some l=>obtain⟨bs,hb,-,rfl⟩:=T.ups i l hl;exact X1 bs _
 have main:∀(cur:Option Nat),cur=J6 cs s->∀ w:AV,w=.int .i64 (((cur.getD 0:Nat):Int))->At pr F H.length (fin [RVar.tmp 4] H.length λr S'=>∃(v:AV) (rw':List Nat),Lst rw 1 v (Ki (KZ cs s)) rw'/\Rx rw rw'/\r=.ret v/\S'=⟨H,rw'⟩)
   (.loop [0,5,6,7] (.seq (.seq Jub (.cond (.tmp 17) (.skip) (.exit 0))) (.seq (.block 1 Juc) Jud))) [Fr.blk 0,Fr.code (Jue.seq IC.ret)]
   [(0,.ptr n 0),(5,.list 0 .full []),(6,w),(7,.bool cur.isSome)] ⟨hp H n (.cells [.list z tg (cs.map Jc),.map mb,.list zb tb (U.map Vl),o1,o2,o3,sl]) [],rw⟩:=by
  rintro cur hcur w rfl;refine JB hm (λmm e S'=>∃(vis:List Nat) (cur:Option Nat) (k:Nat) (l:AV) (rw':List Nat),S'=⟨hp H n (.cells [.list z tg (cs.map Jc),.map mb,.list zb tb (U.map Vl),o1,o2,o3,sl]) [],rw'⟩/\KZ cs s=vis++YT cs k cur/\(∀ i,cur=some i->i<cs.length/\muU U i<=k)/\(cur.isSome=true->vis.length+k<=cs.length)/\Lst rw 1 l (Ki vis) rw'/\Rx rw rw' /\
   mm=(if cur.isSome then k+1 else 0)/\e=[(0,.ptr n 0),(5,l),(6,.int .i64 ((cur.getD 0:Nat):Int)),(7,.bool cur.isSome)]) ?_ (m:=if cur.isSome then cs.length+1 else 0) ⟨[],cur,cs.length,_,rw,rfl,?_,?_,Ag,Lst.nil,Rx.rfl,rfl,rfl⟩
  ·clear hcur cur;rintro mm e S' ⟨vis,cur,k,l,rw',rfl,hch,hcb,hvl,hl,hR,rfl,rfl⟩;cases cur with
   | none=>simp only[YT,Ar]at hch;refine' KN;exact Js rfl (hl.isL.below _) (JR hlt) ⟨l,rw',by rw[hch];exact hl,hR,rfl,QP T.at_⟩
   | some i=>
    obtain⟨hi,hik⟩:=hcb i rfl;replace hvl:=hvl rfl;obtain⟨c,hc⟩:∃ c,cs[i]? = some c:=⟨_,Ab hi⟩
    have hcr:(cs.map Jc)[i]? = some (Jc c):=EF
    have hz:z=9:=T.sz EP;subst hz;have hso:Z9 cs i=c.super:=by unfold Z9;rw[hc]
    simp only[Bc,Bj];refine' KN;refine JT ?_;refine JW rfl rfl rfl ?_;refine QB (row:=JaU i) hl hR Cf Cf O ?_;intro l4 rw4 hl4 hR4;refine QJ ?_;refine' KN
    ·have hup:Up cs i kq:=Ji0 T.okc (by rw[hso];exact hkq);have hml:=Jq6 T.ulen T.ups T.linked T.acyc hi hup;obtain⟨k',rfl⟩:∃ k',k=k'+1:=⟨k-1,O⟩
     refine⟨k'+1,DJ,vis++[i],some kq,k',l4,rw4,rfl,?_,?_,AR,ET,hR4,Ag,rfl⟩
     ·rw[hch,YT,hso,Yq,hkq,BG];rfl
     ·intro j hj;simp only[V]at hj;subst hj;exact⟨hkl,O⟩
    ·refine⟨0,Ag,vis++[i],none,0,l4,rw4,rfl,?_,Ag,Ag,ET,hR4,Ag,rfl⟩;rw[hch,YT,hso];cases k with
     | zero=>simp[XB,YT]
     | succ k=>rw[Yq,hkq];simp[YT]
  ·rw[KZ,Yq,hcur];rfl
  ·intro i hi;rw[hi]at hcur;obtain⟨c,hc,-⟩:=Xf hcur.symm;exact⟨(Ac.1 hc).1,hmu i⟩
 refine Kw hm L.f66.1 L.f66.2 rfl (Xi T.at_) ?_;refine' KN
 ·exact main (some kq) hkq.symm _ rfl
 ·exact main none hkq.symm _ rfl
theorem Ji1{H H1 M:List Blk}{rw:List Nat}{z:Blk}{vs:List AV}{t u w kd:Nat}{s:Jk}{c:Bool}{e:KC}{Q:Res->St->Prop}(hH:H1=H++[z])(he:Jj e t=some (.ptr H.length 0))(hu:Jj e u=some (.str s))(hw:Jj e w=some (.bool c))(hv:Row kd vs)(h:Q (.ret (.tup [.agg vs,.str s,.bool c])) ⟨H,rw⟩) :
  fin [.cell t (some kd),.tmp u,.tmp w] H.length Q .ret e ⟨hp H1 H.length (.cells vs) M,rw⟩:=by
 subst hH;have e2:QT [.cell t (some kd),.tmp u,.tmp w] e (hp (H++[z]) H.length (.cells vs) M)=some [.agg vs,.str s,.bool c]:=by simp only[QT,he,hu,hw,Jbk hv]
 refine X7 e2 ?_ JZ h;have this:Ai.belowL H.length vs=true:=hv.below H.length;simp only[Ai.belowL,this,Ai.below,A0]
def JlV:Fld:=⟨[],.mk 0 [] false [] [] 0,false,0⟩
def JdB(nm:Jk):List Fld->Option Fld
 | []=>none
 | f::fs=>if f.name=nm then some f else JdB nm fs
theorem JsD{nm:Jk}{fs:List Fld}{q:Nat}{f:Fld}(h:fs[q]? = some f):JdB nm (fs.drop q)=if f.name=nm then some f else JdB nm (fs.drop (q+1)):=ES
def Jhg(cs:List Cls)(nm:Jk)(i:Nat):Option (Jk×Fld):=match cs[i]? with
 | some c=>(JdB nm c.fields).map λf=>(c.name,f)
 | none=>none
def Zi(cs:List Cls)(nm:Jk):List Nat->Option (Jk×Fld)
 | []=>none
 | i::l=>match Jhg cs nm i with
  | some r=>some r
  | none=>Zi cs nm l
theorem JsE{cs:List Cls}{nm:Jk}{l:List Nat}{q i:Nat}(h:l[q]? = some i):Zi cs nm (l.drop q)=match Jhg cs nm i with |some r=>some r |none=>Zi cs nm (l.drop (q+1)):=ES
def JbT(r:Option (Jk×Fld)):AV:=.tup [.agg (Jn ((r.map (·.2)).getD JlV)),.str ((r.map (·.1)).getD []),.bool r.isSome]
theorem ZI{l:List Nat}{q i:Nat}(h:l[q]? = some i):(Ki l)[q]? = some (JaU i):=by rw[Ki,Ax,h];rfl
theorem Ji2(ms:List Fld):(ms.map Jn).length=ms.length:=Ak _
theorem JbU{cs:List Cls}{c:Cls}(hc:c∈cs)(hw:wL V1 cs<=64800000):c.fields.length<=64800000/\∀ f∈c.fields,f.name.length<=64800000/\Xg f.type<=64800000:=by have h1:=Q3 V1 hc;have h3:=JcR JfS (λx=>by simp only[JfS];omega) c.fields;simp only[V1]at h1;refine⟨O,λf hf=>?_⟩;have h2:=Q3 JfS hf;simp only[JfS]at h2;exact⟨O,O⟩
theorem EU{Q:Prop}(h:Q:=by intro h;rw[h]at hll;simp only[Af]at hll;omega):Q:=h
theorem EV{Q:Prop}(h:Q:=by rw[hod];rfl):Q:=h
theorem JfW(L:LibE pr F){H:List Blk}{rw:List Nat}{n mb z zb:Nat}{tg tb:Tag}{cs:List Cls}{U:List (List Nat)}{o1 o2 o3 sl:AV}(T:TabU H n mb cs z tg zb tb U o1 o2 o3 sl)(s nm:Jk) :
  ∃ rw',Rx rw rw'/\Det pr F 30 [.ptr n 0,.str s,.str nm] ⟨H,rw⟩ (.ret (JbT (Zi cs nm (KZ cs s)))) ⟨H,rw'⟩:=by
 have hm:=L.hm;suffices h:Wp pr F 30 [.ptr n 0,.str s,.str nm] ⟨H,rw⟩ λr S'=>∃ rw',Rx rw rw'/\r=.ret (JbT (Zi cs nm (KZ cs s)))/\S'=⟨H,rw'⟩ by obtain⟨r,S',hd,rw',h1,rfl,rfl⟩:=h.det hm;exact⟨rw',h1,hd⟩
 refine Jt hm L.f30.1 L.f30.2 rfl ?_;refine Kt hm ?_;unfold JD1;show At pr F H.length (fin _ H.length _) _ _ _ _;refine Xj hm ?_;intro H1 hH1 hlen hlt;have hF:=J1 hH1 T.at_;have hfew:=T.few;have hlc:(cs.map Jc).length=cs.length:=Ak _;refine' KN;obtain⟨v,rw2,hv,hR,hd⟩:=Jky L (T.keep (JF hH1 (.cells (Jn JlV)) [])) s (rw:=rw);refine Je rfl rfl rfl ?_;refine Ks hd ?_;refine QJ ?_;obtain⟨zv,tv,rfl,hzv,-⟩:=hv.isL;clear hd hv;have hcl:∀ i∈KZ cs s,i<cs.length:=JnI _ _;have hcn:(KZ cs s).length<=cs.length+1:=Jkx _ _;generalize KZ cs s=l at *;have hll:(Ki l).length=l.length:=QS l;refine' KN;refine JB hm (λmm e S'=>∃(q:Nat) (J:List Blk),S'=⟨hp H1 H.length (.cells (Jn JlV)) J,rw2⟩/\q<=l.length/\Zi cs nm l=Zi cs nm (l.drop q)/\mm=l.length-q/\e=[(0,.ptr n 0),(2,.str nm),(6,.ptr H.length 0),(15,.list zv tv (Ki l)),(16,.int .i64 ((Ki l).length:Int)),(17,.int .i64 q)]) ?_ (m:=l.length) ⟨0,[],rfl,O,rfl,rfl,rfl⟩;rintro mm e S' ⟨q,J,rfl,hq0,hod,rfl,rfl⟩;by_cases hq1:q<l.length
 ·obtain⟨i,hiq⟩:∃ i,l[q]? = some i:=⟨_,Ab hq1⟩
  have hi:=hcl i (Aq hiq);have hiq2:=ZI hiq;have hzv1:zv=1:=hzv EU;subst hzv1;obtain⟨c,hc⟩:∃ c,cs[i]? = some c:=⟨_,Ab hi⟩
  have hcr:(cs.map Jc)[i]? = some (Jc c):=EF
  have hz:z=9:=T.sz EP;subst hz;have hcm:=Aq hc;obtain⟨hfb,-⟩:=JbU hcm T.wt;have hlf:=Ji2 c.fields;rw[JsE hiq]at hod;have hfi:Jhg cs nm i=(JdB nm c.fields).map λf=>(c.name,f):=by unfold Jhg;rw[hc]
  refine' KN;refine JB hm (λmm e S'=>∃(p:Nat) (J:List Blk),S'=⟨hp H1 H.length (.cells (Jn JlV)) J,rw2⟩/\p<=c.fields.length/\JdB nm c.fields=JdB nm (c.fields.drop p)/\mm=c.fields.length-p/\e=[(0,.ptr n 0),(2,.str nm),(6,.ptr H.length 0),(10,.int .i64 (i:Int)),(15,.list 1 tv (Ki l)),(16,.int .i64 ((Ki l).length:Int)),(17,.int .i64 q),(28,Kp 9 (c.fields.map Jn)),(29,.int .i64 ((c.fields.map Jn).length:Int)),(30,.int .i64 p)]) ?_ (m:=c.fields.length) ⟨0,J,rfl,O,rfl,rfl,rfl⟩;clear J;rintro mm e S' ⟨p,J,rfl,hp0,hpd,rfl,rfl⟩;by_cases hp1:p<c.fields.length
  ·obtain⟨f,hf⟩:∃ f,c.fields[p]? = some f:=⟨_,Ab hp1⟩
   have hfr:(c.fields.map Jn)[p]? = some (Jn f):=by rw[Ax,hf];rfl
   have hl5:Kp 9 (c.fields.map Jn)=.list 9 .dead (c.fields.map Jn):=Kf (i:=p) O;rw[hl5];rw[JsD hf]at hpd;refine' KN
   ·rw[hpd,if_pos Aa]at hfi;rw[hfi]at hod;exact Ji1 hH1 rfl rfl rfl (QE f) ⟨rw2,hR,EV,rfl⟩
   ·exact⟨c.fields.length-(p+1),O,p+1,_,rfl,O,by rw[hpd,if_neg Aa],rfl,rfl⟩
  ·refine' KN;rw[hpd,AU O]at hfi;rw[hfi]at hod;exact⟨l.length-(q+1),O,q+1,_,rfl,O,hod,rfl,rfl⟩
 ·refine' KN;rw[AU O]at hod;exact Ji1 hH1 rfl rfl rfl (QE JlV) ⟨rw2,hR,EV,rfl⟩
theorem Jeb{sz i:Nat}{rows:List (List AV)}(h:i<rows.length):Jan sz (.list sz .dead rows) none (some (i:Int))=some (.list sz .dead (rows.take i)):=EE
def JuH(cs:List Cls)(l:List Par)(i:Nat)(p:Par):Int×Int:=if(l.take i).any (λq=>q.name == p.name)=true then(120,p.at_)else KX cs p.type
def JnJ(cs:List Cls)(l:List Par):Int×Int:=JY (JuH cs l) 0 l
theorem Ji3{α:Type}{f:α->Bool}{l:List α}{q:Nat}{x:α}(h:l[q]? = some x):(l.take (q+1)).any f=((l.take q).any f || f x):=by rw[QW h,List.any_append];simp
theorem Ji4{α:Type}{f:α->Bool}{l:List α}{q:Nat}{x:α}{i:Nat}(h:l[q]? = some x)(hq:q<i)(hx:f x=true):(l.take i).any f=true:=by rw[List.any_eq_true];exact⟨x,Aq (i:=q) (by rw[Bi hq];exact h),hx⟩
theorem EW{Q:Prop}(h:Q:=by rw[A8];omega):Q:=h
theorem Ji5(L:LibE pr F){H:List Blk}{rw:List Nat}{n mb z:Nat}{tg:Tag}{cs:List Cls}{ab o1 o2 o3 sl:AV}(T:TabM H n mb cs z tg ab o1 o2 o3 sl)(ps:List Par)(hw:wL V0 ps<=64800000) :
  ∃ f:Int×Int,f=JnJ cs ps/\Det pr F 150 [.ptr n 0,Kp 8 (ps.map Jf)] ⟨H,rw⟩ (.ret (.agg (KF f.1 f.2))) ⟨H,rw⟩:=by
 have hm:=L.hm;suffices h:Wp pr F 150 [.ptr n 0,Kp 8 (ps.map Jf)] ⟨H,rw⟩ λr S'=>∃ f:Int×Int,f=JnJ cs ps/\r=.ret (.agg (KF f.1 f.2))/\S'=⟨H,rw⟩ by obtain⟨r,S',hd,f,he,rfl,rfl⟩:=h.det hm;exact⟨f,he,hd⟩
 have hlp:=JiY ps;have hpl:=JcR V0 (λp=>Ca) ps;refine Jt hm L.f150.1 L.f150.2 rfl ?_;refine Kt hm ?_;unfold Jt9;show At pr F H.length (fin _ H.length _) _ _ _ _;refine Xj hm ?_;intro H1 hH1 hlen hlt;refine' KN;refine JB hm (λmm e S'=>∃(i:Nat) (J:List Blk),S'=⟨hp H1 H.length (.cells [.int .i64 0,.int .i64 0]) J,rw⟩/\i<=ps.length/\JnJ cs ps=JY (JuH cs ps) i (ps.drop i)/\mm=ps.length-i/\e=[(0,.ptr n 0),(1,Kp 8 (ps.map Jf)),(4,.ptr H.length 0),(10,Kp 8 (ps.map Jf)),(11,.int .i64 ((ps.map Jf).length:Int)),(12,.int .i64 i)]) ?_ (m:=ps.length) ⟨0,[],rfl,O,rfl,rfl,rfl⟩;rintro mm e S' ⟨i,J,rfl,hi,hod,rfl,rfl⟩;by_cases hi1:i<ps.length
 ·obtain⟨p,hpi⟩:∃ p,ps[i]? = some p:=⟨_,Ab hi1⟩
  have hpr:(ps.map Jf)[i]? = some (Jf p):=by rw[Ax,hpi];rfl
  have hmem:=Aq hpi;have hwp:=Q3 V0 hmem;have hwt:=Jq4 p;rw[QA hpi]at hod;obtain⟨nm1,⟨k1,t1,u1,e1,p1,a1⟩,at1⟩:=p;simp only at hwt;have hl5:Kp 8 (ps.map Jf)=.list 8 .dead (ps.map Jf):=Kf (i:=i) O;rw[hl5];refine' KN;refine g_q rfl (Jeb O) ?_;rw[<- D2];have hlt2:((ps.take i).map Jf).length=i:=by rw[Ak,A8];omega
  have hlt3:(ps.take i).length=i:=EW
  refine' KN;refine JB hm (λmm e S'=>∃(q:Nat) (J':List Blk),S'=⟨hp H1 H.length (.cells [.int .i64 0,.int .i64 0]) J',rw⟩/\J'[J.length]? = some (.cells (Jf ⟨nm1,.mk k1 t1 u1 e1 p1 a1,at1⟩))/\q<=i/\(ps.take q).any (λp=>p.name == nm1)=false/\mm=i-q/\e=[(0,.ptr n 0),(1,.list 8 .dead (ps.map Jf)),(4,.ptr H.length 0),(6,.ptr (H1.length+J.length) 0),(10,.list 8 .dead (ps.map Jf)),(11,.int .i64 ((ps.map Jf).length:Int)),(12,.int .i64 i),(19,.list 8 .dead ((ps.take i).map Jf)),(20,.int .i64 (((ps.take i).map Jf).length:Int)),(21,.int .i64 q)]) ?_ (m:=i) ⟨0,_,rfl,Yf,O,rfl,rfl,rfl⟩;rintro mm e S' ⟨q,J',rfl,hM,hq0,hany,rfl,rfl⟩;by_cases hq1:q<i
  ·obtain⟨p',hp'⟩:∃ p',(ps.take i)[q]? = some p':=⟨_,Ab EW⟩
   have hpr':((ps.take i).map Jf)[q]? = some (Jf p'):=by rw[Ax,hp'];rfl
   refine' KN
   ·exact Ju hH1 rfl (KA _ _) ⟨(_,_),by rw[hod,JuH,if_pos (Ji4 (f:=λz:Par=>z.name == nm1) (x:=p') (by rw[<- hp',Bi hq1]) hq1 (beq_iff_eq.2 (by first |exact hq |exact hq.symm)))];rfl,rfl,rfl⟩
   ·exact⟨i-(q+1),O,q+1,_,rfl,Vj hM,O,by rw[Ji3 (x:=p') (by rw[<- hp',Bi hq1]),hany,B3];exact beq_eq_false_iff_ne.2 (by first |exact hq |exact Ne.symm hq),rfl,rfl⟩
  ·have hqi:q=i:=by omega
   subst hqi;rw[JuH,if_neg (by rw[hany];simp)]at hod;refine' KN;refine Je rfl rfl rfl ?_;refine⟨_,_,Jdn L (Xg (.mk k1 t1 u1 e1 p1 a1)+1) (.mk k1 t1 u1 e1 p1 a1) O O (T.keep (JF hH1 _ _)),?_⟩;refine QJ ?_;refine' KN
   ·exact Ju hH1 rfl (KA (KX cs (.mk k1 t1 u1 e1 p1 a1)).1 (KX cs (.mk k1 t1 u1 e1 p1 a1)).2) ⟨(_,_),by rw[hod,X5 Aa];rfl,rfl,rfl⟩
   ·exact⟨ps.length-(q+1),O,q+1,_,rfl,O,by rw[hod,Z4 Aa],rfl,rfl⟩
 ·refine' KN;exact Ju hH1 rfl (KA 0 0) ⟨(_,_),EI,rfl,rfl⟩
theorem JuI{sig:Jk}{x:Mth}:∀{ms:List Mth},JaG sig ms=some x->x∈ms/\Vx x.name x.params=sig:=by
 intro ms;induction ms with
 | nil=>intro h;simp[JaG]at h
 | cons m ms ih=>
  intro h;simp only[JaG]at h;split at h
  ·simp only[V]at h;subst h;exact⟨Bl,Aa⟩
  ·obtain⟨h1,h2⟩:=ih h;exact⟨A7 _ h1,h2⟩
theorem Ji6{cs:List Cls}{a:Nat}{sig:Jk}{x:Mth}(h:Zb cs a sig=some x):∃ c,cs[a]? = some c/\x∈c.meths/\Vx x.name x.params=sig:=by
 unfold Zb at h;split at h
 ·obtain⟨h1,h2⟩:=JuI h;exact⟨_,Aa,h1,h2⟩
 ·simp at h
theorem JnK(L:LibE pr F){cs:List Cls}(hw:wL V1 cs<=64800000)(hok:∀ c∈cs,Zk c){a:Nat}{sig:Jk}{x:Mth}(h:Zb cs a sig=some x):TxOk pr F 15 [.agg (Jl x.result)] (.str (QV x.result)):=by obtain⟨c,hc,hx,-⟩:=Ji6 h;have hm:=Aq hc;exact Je9 L (ZH hm hx hw).2.2.1 (Jbl (hok c hm) x hx).2.2.1
def JnL(cs:List Cls)(U:List (List Nat))(i k:Nat)(c:Cls)(m:Mth):Prop:=
 (∀ q m',q<k->c.meths[q]? = some m'->Vx m'.name m'.params≠Vx m.name m.params)/\(∀ a∈U.getD i [],∀ x,Zb cs a (Vx m.name m.params)=some x->QV x.result=QV m.result)
theorem Jbm{U:List (List Nat)}{i:Nat}{l:List Nat}(h:U[i]? = some l):(U.map Vl)[i]? = some (Vl l):=by rw[Ax,h];rfl
def JnM(cs:List Cls)(m:Mth)(_:Nat)(a:Nat):Int×Int:=match Zb cs a (Vx m.name m.params)with
 | none=>(0,0)
 | some x=>if QV x.result=QV m.result then(0,0)else(124,m.at_)
def Jfa(cs:List Cls)(U:List (List Nat))(i:Nat)(c:Cls)(k:Nat)(m:Mth):Int×Int:=
 Xa (JnJ cs m.params) (Xa (KX cs m.result) (Xa (if(c.meths.take k).any (λx=>Vx x.name x.params == Vx m.name m.params)=true then(120,m.at_)else(0,0)) (JY (JnM cs m) 0 (U.getD i []))))
theorem EX{Q:Prop}(h:Q:=by rw[Ak];exact hul):Q:=h
theorem EY{Q:Prop}(h:Q:=by rw[hui2];exact X1 _ _):Q:=h
theorem JpC(L:LibE pr F){H:List Blk}{rw:List Nat}{n mb z zb:Nat}{tg tb:Tag}{cs:List Cls}{U:List (List Nat)}{o1 o2 o3 sl:AV}(T:TabU H n mb cs z tg zb tb U o1 o2 o3 sl){i k:Nat}{c:Cls}{m:Mth}(hc:cs[i]? = some c)(hk:c.meths[k]? = some m) :
  ∃(f:Int×Int) (rw':List Nat),f=Jfa cs U i c k m/\(f.1=0->JnL cs U i k c m)/\Rx rw rw'/\Det pr F 151 [.ptr n 0,.int .i64 i,.int .i64 k,.agg (Jm m)] ⟨H,rw⟩ (.ret (.agg (KF f.1 f.2))) ⟨H,rw'⟩:=by
 have hm:=L.hm;suffices h:Wp pr F 151 [.ptr n 0,.int .i64 i,.int .i64 k,.agg (Jm m)] ⟨H,rw⟩ λr S'=>∃(f:Int×Int) (rw':List Nat),f=Jfa cs U i c k m/\(f.1=0->JnL cs U i k c m)/\Rx rw rw'/\r=.ret (.agg (KF f.1 f.2))/\S'=⟨H,rw'⟩ by obtain⟨r,S',hd,f,rw',h0,h1,h2,rfl,rfl⟩:=h.det hm;exact⟨f,rw',h0,h1,h2,hd⟩
 have hi:i<cs.length:=(Ac.1 hc).1;have hkl:k<c.meths.length:=(Ac.1 hk).1;have hcr:(cs.map Jc)[i]? = some (Jc c):=EF
 have hz:z=9:=T.sz EP;subst hz;have hcm:=Aq hc;have hmm:=Aq hk;have hmo:=Jbl (T.okc c hcm);have hlm:=JaH c.meths;obtain⟨hb1,hb2,hb3,hb4⟩:=ZH hcm hmm T.wt;obtain⟨-,hk2,hk3,-⟩:=hmo m hmm;have hsg:=JiZ L hb1 hb2 hk2;have hbs:=Je9 L hb3 hk3;have hul:=T.ulen;obtain⟨ui,hui⟩:∃ ui,U[i]? = some ui:=⟨_,Ab O⟩
 have hur:=Jbm hui;have hzb:zb=1:=T.zbs (by intro h;rw[h]at hul;simp at hul;omega);subst hzb;have hgd:U.getD i []=ui:=by rw[A4,hui];rfl
 have hR:Rx rw rw:=Rx.rfl;have hfew:=T.few;have hlc:(cs.map Jc).length=cs.length:=Ak _;have hul2:(U.map Vl).length=cs.length:=EX
 unfold JnL;have hod:Jfa cs U i c k m=Xa (JnJ cs m.params) (Xa (KX cs m.result) (Xa (if(c.meths.take k).any (λx=>Vx x.name x.params == Vx m.name m.params)=true then(120,m.at_)else(0,0)) (JY (JnM cs m) 0 ui))):=by rw[Jfa,hgd]
 rw[hgd];obtain⟨mn,mp,⟨k1,t1,u1,e1,p1,a1⟩,bd,ab,at1⟩:=m;simp only at hod;generalize Jfa cs U i c k ⟨mn,mp,.mk k1 t1 u1 e1 p1 a1,bd,ab,at1⟩=E at hod |-;refine Jt hm L.f151.1 L.f151.2 rfl ?_;refine Kt hm ?_;unfold Jua;show At pr F H.length (fin _ H.length _) _ _ _ _;refine Ku hm ?_;intro H1 hH1 hlen hlt;have hF:=J1 hH1 T.at_;have hFm:=J1 hH1 T.mp;refine' KN;refine Kj (q:=H.length) rfl rfl (Kh hlt) ?_;refine' KN;obtain⟨f1,he1,hd1⟩:=Ji5 L (T.toTabM.keep (JF hH1 (.cells [.int .i64 0,.int .i64 0]) ([.cells (Jm ⟨mn,mp,.mk k1 t1 u1 e1 p1 a1,bd,ab,at1⟩)]++[.cells [.int .i64 0,.int .i64 0]]))) mp hb2 (rw:=rw);refine Je rfl rfl rfl ?_;refine Ks hd1 ?_;refine QJ ?_;refine' KN
 ·exact Ju hH1 rfl (KA f1.1 f1.2) ⟨f1,rw,by rw[hod,<- he1,X5 Aa],λh=>absurd h Aa,Rx.rfl,rfl,rfl⟩
 rw[<- he1,Z4 Aa]at hod;refine Je rfl rfl rfl ?_;refine⟨_,_,Jdn L (Xg (.mk k1 t1 u1 e1 p1 a1)+1) (.mk k1 t1 u1 e1 p1 a1) O hb3 (T.toTabM.keep (JF hH1 _ _)),?_⟩;refine QJ ?_;refine' KN
 ·exact Ju hH1 rfl (KA (KX cs (.mk k1 t1 u1 e1 p1 a1)).1 (KX cs (.mk k1 t1 u1 e1 p1 a1)).2) ⟨(_,_),rw,by rw[hod,X5 Aa];rfl,λh=>absurd h Aa,Rx.rfl,rfl,rfl⟩
 rw[Z4 Aa]at hod;have hl11:Kp 11 (c.meths.map Jm)=.list 11 .dead (c.meths.map Jm):=Kf (i:=k) O;rw[hl11];refine g_q rfl (Jeb O) ?_;rw[<- D2];have hlt2:((c.meths.take k).map Jm).length=k:=by rw[Ak,A8];omega
 have hlt3:(c.meths.take k).length=k:=EW
 refine' KN;refine JB hm (λmm e S'=>∃(q:Nat) (J:List Blk) (rw3:List Nat),S'=⟨hp H1 H.length (.cells [.int .i64 0,.int .i64 0]) (.cells (Jm ⟨mn,mp,.mk k1 t1 u1 e1 p1 a1,bd,ab,at1⟩)::J),rw3⟩/\q<=k/\Rx rw rw3/\(c.meths.take q).any (λx=>Vx x.name x.params == Vx mn mp)=false/\(∀ q' m',q'<q->c.meths[q']? = some m'->Vx m'.name m'.params≠Vx mn mp)/\mm=k-q /\
  e=[(0,.ptr n 0),(1,.int .i64 (i:Int)),(7,.ptr (H1.length+0) 0),(8,.ptr H.length 0),(11,.str (Vx mn mp)),(48,.list 11 .dead ((c.meths.take k).map Jm)),(49,.int .i64 (((c.meths.take k).map Jm).length:Int)),(50,.int .i64 q)]) ?_ (m:=k) ⟨0,_,_,rfl,O,hR,rfl,λq' m' h=>O,rfl,rfl⟩
 clear hR;rintro mm e S' ⟨q,J,rw3,rfl,hq0,hR,hany,hun,rfl,rfl⟩;by_cases hq1:q<k
 ·obtain⟨m',hm'⟩:∃ m',c.meths[q]? = some m':=⟨_,Ab O⟩
  have hmm':=Aq hm';obtain⟨hb1',hb2',hb3',hb4'⟩:=ZH hcm hmm' T.wt;obtain⟨-,hk2',-,-⟩:=hmo m' hmm';have hsg':=JiZ L hb1' hb2' hk2';have hpr':((c.meths.take k).map Jm)[q]? = some (Jm m'):=by rw[Ax,Bi hq1,hm'];rfl
  refine' KN
  ·exact Ju hH1 rfl (KA _ _) ⟨(_,_),_,by rw[hod,if_pos (Ji4 (f:=λx:Mth=>Vx x.name x.params == Vx mn mp) hm' hq1 (beq_iff_eq.2 (by first |assumption |exact Eq.symm Aa)))];rfl,λh=>ED,hR,rfl,rfl⟩
  ·refine⟨k-(q+1),O,q+1,_,_,rfl,O,hR,by rw[Ji3 hm',hany,B3];exact beq_eq_false_iff_ne.2 (by first |assumption |exact Ne.symm Aa),?_,rfl,rfl⟩;intro q' m2 hq2 hm2;by_cases e2:q'=q
   ·subst e2;rw[hm']at hm2;simp only[V]at hm2;subst hm2;assumption
   ·exact hun q' m2 O hm2
 ·have hqk:q=k:=by omega
  subst hqk;rw[hany,if_neg Ag,Vm]at hod;have hlu:(Ki ui).length=ui.length:=QS ui;obtain⟨bs,hbsl,hbsu,hui2⟩:=T.ups i ui hui;have hun2:ui.length<=cs.length:=EY
  have huin:∀ a∈ui,a<cs.length:=λa ha=>JiI T.linked ((JhF (T.ups i ui hui) T.linked a).1 ha);refine' KN;refine JB hm (λmm e S'=>∃(p:Nat) (J:List Blk) (rw3:List Nat),S'=⟨hp H1 H.length (.cells [.int .i64 0,.int .i64 0]) (.cells (Jm ⟨mn,mp,.mk k1 t1 u1 e1 p1 a1,bd,ab,at1⟩)::J),rw3⟩/\p<=ui.length/\Rx rw rw3/\E=JY (JnM cs ⟨mn,mp,.mk k1 t1 u1 e1 p1 a1,bd,ab,at1⟩) p (ui.drop p)/\(∀ a∈ui.take p,∀ x,Zb cs a (Vx mn mp)=some x->QV x.result=QV (.mk k1 t1 u1 e1 p1 a1))/\mm=ui.length-p /\
   e=[(0,.ptr n 0),(7,.ptr (H1.length+0) 0),(8,.ptr H.length 0),(11,.str (Vx mn mp)),(71,Kp 1 (Ki ui)),(72,.int .i64 ((Ki ui).length:Int)),(73,.int .i64 p)]) ?_ (m:=ui.length) ⟨0,_,_,rfl,O,hR,hod,Ag,rfl,rfl⟩
  clear hR hod;clear J rw3;rintro mm e S' ⟨p,J,rw3,rfl,hp0,hR,hod,hres,rfl,rfl⟩;by_cases hp1:p<ui.length
  ·obtain⟨a,ha⟩:∃ a,ui[p]? = some a:=⟨_,Ab hp1⟩
   have har:=ZI ha;have hal:=huin a (Aq ha);rw[QA ha]at hod;have hl5:Kp 1 (Ki ui)=.list 1 .dead (Ki ui):=Kf (i:=p) O;rw[hl5];refine' KN;obtain⟨rw5,hR5,hd5⟩:=Jq5 L (T.keep (JF hH1 (.cells [.int .i64 0,.int .i64 0]) (.cells (Jm ⟨mn,mp,.mk k1 t1 u1 e1 p1 a1,bd,ab,at1⟩)::J++[.cells (Jm Jea)]))) hal (Vx mn mp) (rw:=rw3);refine Je rfl rfl rfl ?_;refine Ks hd5 ?_;refine QJ ?_;clear hd5;replace hR:=hR.trans hR5;cases ho:Zb cs a (Vx mn mp)with
   | none=>
    simp only[BR,BU];simp only[JnM,ho,Vm]at hod;refine' KN;refine⟨ui.length-(p+1),O,p+1,_,_,rfl,O,hR,hod,?_,rfl,rfl⟩;rw[QW ha];intro b hb x hx;rcases AM.1 hb with h1 |h1
    ·exact hres b h1 x hx
    ·rw[AN.1 h1,ho]at hx;simp at hx
   | some x=>
    simp only[Bc,Bj];simp only[JnM,ho]at hod;have hbx:=JnK L T.wt T.okc ho;refine' KN
    ·exact Ju hH1 rfl (KA _ _) ⟨(_,_),_,by rw[hod,if_neg EN];rfl,λh=>ED,hR,rfl,rfl⟩
    ·rw[if_pos EN,Vm]at hod;refine⟨ui.length-(p+1),O,p+1,_,_,rfl,O,hR,hod,?_,rfl,rfl⟩;rw[QW ha];intro b hb y hy;rcases AM.1 hb with h1 |h1
     ·exact hres b h1 y hy
     ·rw[AN.1 h1,ho]at hy;simp only[V]at hy;subst hy;simpa using hq
  ·refine' KN;refine Ju hH1 rfl (KA 0 0) ⟨(0,0),_,EI,λ_=>⟨hun,λa ha=>hres a (by rw[show p=ui.length by omega,AI];exact ha)⟩,hR,rfl,rfl⟩
def QC(cs:List Cls)(U:List (List Nat))(s:Jk):List Nat:=match J6 cs s with
 | none=>[]
 | some i=>match cs[i]? with
  | some c=>if c.iface then i::U.getD i [] else KZ cs s
  | none=>[]
theorem EZ{Q:Prop}(h:Q:=by rw[QC,hkq];exact IsL.nil):Q:=h
theorem E5{Q:Prop}(h:Q:=by intro h;rw[h]at hul;simp only[Af]at hul;exact hcs (Bz.1 hul.symm)):Q:=h
theorem E6{Q:Prop}(h:Q:=by unfold QC;rw[hkq];simp only[hkc,hq,if_true];rw[A4,huk];rfl):Q:=h
theorem JsF(L:LibE pr F){H:List Blk}{rw:List Nat}{n mb z zb:Nat}{tg tb:Tag}{cs:List Cls}{U:List (List Nat)}{o1 o2 o3 sl:AV}(T:TabU H n mb cs z tg zb tb U o1 o2 o3 sl)(s:Jk) :
  ∃(v:AV) (rw':List Nat),IsL 1 v (Ki (QC cs U s))/\Rx rw rw'/\Det pr F 64 [.ptr n 0,.str s] ⟨H,rw⟩ (.ret v) ⟨H,rw'⟩:=by
 have hm:=L.hm;suffices h:Wp pr F 64 [.ptr n 0,.str s] ⟨H,rw⟩ λr S'=>∃(v:AV) (rw':List Nat),IsL 1 v (Ki (QC cs U s))/\Rx rw rw'/\r=.ret v/\S'=⟨H,rw'⟩ by obtain⟨r,S',hd,v,rw',h1,h2,rfl,rfl⟩:=h.det hm;exact⟨v,rw',h1,h2,hd⟩
 have hlt:n<H.length:=(Ac.1 T.at_).1;have hne:n≠mb:=EO
 have hFm:=ZG hne T.mp;have hfew:=T.few;have hlm:(cs.map Jc).length=cs.length:=Ak _;have hul:=T.ulen;have hul2:(U.map Vl).length=cs.length:=EX
 have hzz:cs≠[]->z=9:=T.sz;have hzb:U≠[]->zb=1:=T.zbs;have hR:Rx rw rw:=Rx.rfl;refine Kw hm L.f64.1 L.f64.2 rfl (Xi T.at_) ?_;by_cases hcs:cs=[]
 ·subst hcs;refine' KN
  ·simp[J6]at hkq
  ·exact Js rfl rfl (JR hlt) ⟨_,rw,EZ,hR,rfl,QP T.at_⟩
 ·have hz:=hzz hcs;have hb:=hzb E5;subst hz hb;refine' KN
  ·obtain⟨uk,huk⟩:∃ uk,U[kq]? = some uk:=⟨_,Ab O⟩
   have hur:=Jbm huk;have hrf:QC cs U s=kq::uk:=E6
   have hlu:(Ki uk).length=uk.length:=QS uk;obtain⟨bs,hbsl,hbsu,hui2⟩:=T.ups kq uk huk;have hun2:uk.length<=cs.length:=EY
   refine' KN;refine JT ?_;refine JW rfl rfl rfl ?_;refine JlU (rows:=[JaU kq]) (rowsb:=Ki uk) (rw0:=rw) (Todo.of_lst (Lst.lit Ag)) hR YM Bn ?_;intro v3 rw3 hv3 hR3;refine QJ ?_;refine' KN;obtain⟨sz,tag,rfl,h2,-⟩:=hv3.h;refine Js rfl rfl (JR hlt) ⟨_,rw3,?_,hR3,rfl,QP T.at_⟩;rw[hrf];exact⟨sz,tag,rfl,h2,λh=>by simp[Ki]at h⟩
  ·obtain⟨v,rw2,hv,hR2,hd⟩:=Jky L (T.keep (X6 T.at_ [])) s (rw:=rw);refine Je rfl rfl rfl ?_;refine Ks hd ?_;refine QJ ?_;refine' KN;refine Js rfl (hv.isL.below _) (JR hlt) ⟨v,rw2,?_,hR2,rfl,QP T.at_⟩;have hrf:QC cs U s=KZ cs s:=by unfold QC;rw[hkq];simp only[hkc,hq,AT,if_false]
   rw[hrf];exact hv.isL
  ·exact Js rfl rfl (JR hlt) ⟨_,rw,EZ,hR,rfl,QP T.at_⟩
def ZQ(cs:List Cls)(sig:Jk):List Nat->Option (Nat×Mth)
 | []=>none
 | i::l=>match Zb cs i sig with
  | some m=>some (i,m)
  | none=>ZQ cs sig l
theorem JsG{cs:List Cls}{sig:Jk}{l:List Nat}{q i:Nat}(h:l[q]? = some i):ZQ cs sig (l.drop q)=match Zb cs i sig with |some m=>some (i,m) |none=>ZQ cs sig (l.drop (q+1)):=ES
def Zc(cs:List Cls)(i:Nat):Jk:=match cs[i]? with
 | some c=>c.name
 | none=>[]
def JfX(cs:List Cls)(sig:Jk):Option (Nat×Mth)->List AV
 | some (i,m)=>KK sig (Zc cs i) m
 | none=>KK [] [] Jea
def JcS(cs:List Cls)(sig:Jk)(r:Option (Nat×Mth)):AV:=.tup [.agg (JfX cs sig r),.bool r.isSome]
def XL(cs:List Cls)(U:List (List Nat))(s sig:Jk):Option (Nat×Mth):=ZQ cs sig (QC cs U s)
theorem JnN{cs:List Cls}{U:List (List Nat)}(hl:YA cs)(hup:∀ i l,U[i]? = some l->JaF cs i l)(s:Jk):∀ i∈QC cs U s,i<cs.length:=by
 intro i hi;unfold QC at hi;split at hi
 ·cases hi
 ·rename_i j hj;obtain⟨c,hc,-⟩:=Xf hj;rw[hc]at hi;simp only at hi;split at hi
  ·rcases AS.1 hi with h |h
   ·rw[h];exact(Ac.1 hc).1
   ·rw[A4]at h;cases hl2:U[j]? with
    | none=>rw[hl2]at h;cases h
    | some l=>rw[hl2]at h;exact JiI hl ((JhF (hup j l hl2) hl i).1 h)
  ·exact JnI _ _ i hi
theorem JfY{cs:List Cls}{U:List (List Nat)}(hup:∀ i l,U[i]? = some l->JaF cs i l)(s:Jk):(QC cs U s).length<=cs.length+1:=by
 unfold QC;cases hp:J6 cs s with
 | none=>simp
 | some j=>
  obtain⟨c,hc,-⟩:=Xf hp;simp only[hc];split
  ·rw[Ad,A4];cases hl2:U[j]? with
   | none=>simp
   | some l=>obtain⟨bs,hb,-,rfl⟩:=hup j l hl2;have:=X1 bs cs.length;simp only[Bc];omega
  ·exact Jkx _ _
theorem Jfb(L:LibE pr F){H:List Blk}{rw:List Nat}{n mb z zb:Nat}{tg tb:Tag}{cs:List Cls}{U:List (List Nat)}{o1 o2 o3 sl:AV}(T:TabU H n mb cs z tg zb tb U o1 o2 o3 sl)(s sig:Jk) :
  ∃ rw',Rx rw rw'/\Det pr F 26 [.ptr n 0,.str s,.str sig] ⟨H,rw⟩ (.ret (JcS cs sig (XL cs U s sig))) ⟨H,rw'⟩:=by
 have hm:=L.hm;suffices h:Wp pr F 26 [.ptr n 0,.str s,.str sig] ⟨H,rw⟩ λr S'=>∃ rw',Rx rw rw'/\r=.ret (JcS cs sig (XL cs U s sig))/\S'=⟨H,rw'⟩ by obtain⟨r,S',hd,rw',h1,rfl,rfl⟩:=h.det hm;exact⟨rw',h1,hd⟩
 refine Jt hm L.f26.1 L.f26.2 rfl ?_;refine Kt hm ?_;unfold JD2;show At pr F H.length (fin _ H.length _) _ _ _ _;refine Xj hm ?_;intro H1 hH1 hlen hlt;have hF:=J1 hH1 T.at_;have hfew:=T.few;have hlc:(cs.map Jc).length=cs.length:=Ak _;refine' KN;obtain⟨v,rw2,hv,hR,hd⟩:=JsF L (T.keep (JF hH1 (.cells (KK [] [] Jea)) [])) s (rw:=rw);refine Je rfl rfl rfl ?_;refine Ks hd ?_;refine QJ ?_;obtain⟨zv,tv,rfl,hzv,-⟩:=hv;clear hd;unfold XL;have hcl:∀ i∈QC cs U s,i<cs.length:=JnN T.linked T.ups s;have hcn:(QC cs U s).length<=cs.length+1:=JfY T.ups s;generalize QC cs U s=l at *;have hll:(Ki l).length=l.length:=QS l;refine' KN;refine JB hm (λmm e S'=>∃(q:Nat) (J:List Blk) (rw3:List Nat),S'=⟨hp H1 H.length (.cells (KK [] [] Jea)) J,rw3⟩/\q<=l.length/\Rx rw rw3/\ZQ cs sig l=ZQ cs sig (l.drop q)/\mm=l.length-q/\e=[(0,.ptr n 0),(2,.str sig),(6,.ptr H.length 0),(14,.list zv tv (Ki l)),(15,.int .i64 ((Ki l).length:Int)),(16,.int .i64 q)]) ?_ (m:=l.length) ⟨0,[],_,rfl,O,hR,rfl,rfl,rfl⟩;clear hR;rintro mm e S' ⟨q,J,rw3,rfl,hq0,hR,hod,rfl,rfl⟩;by_cases hq1:q<l.length
 ·obtain⟨i,hiq⟩:∃ i,l[q]? = some i:=⟨_,Ab hq1⟩
  have hi:=hcl i (Aq hiq);have hiq2:=ZI hiq;have hzv1:zv=1:=hzv EU;subst hzv1;obtain⟨c,hc⟩:∃ c,cs[i]? = some c:=⟨_,Ab hi⟩
  have hcr:(cs.map Jc)[i]? = some (Jc c):=EF
  have hz:z=9:=T.sz EP;subst hz;rw[JsG hiq]at hod;refine' KN;obtain⟨rw5,hR5,hd5⟩:=Jq5 L (T.keep (JF hH1 (.cells (KK [] [] Jea)) (J++[.cells (Jm Jea)]))) hi sig (rw:=rw3);refine Je rfl rfl rfl ?_;refine Ks hd5 ?_;refine QJ ?_;clear hd5;have hR6:=hR.trans hR5;clear hR;have hR:=hR6;cases ho:Zb cs i sig with
  | none=>rw[ho]at hod;simp only[BR,BU];refine' KN;exact⟨l.length-(q+1),O,q+1,_,_,rfl,O,hR,hod,rfl,rfl⟩
  | some m=>
   rw[ho]at hod;simp only[Bc,Bj];have hna:Zc cs i=c.name:=by unfold Zc;rw[hc]
   obtain⟨mn,mp,⟨k1,t1,u1,e1,p1,a1⟩,bd,ab,at1⟩:=m;refine' KN;exact VV hH1 rfl rfl (Xu sig c.name ⟨mn,mp,.mk k1 t1 u1 e1 p1 a1,bd,ab,at1⟩) ⟨_,hR,by rw[hod];simp only[JcS,JfX,hna,Bj];rfl,rfl⟩
 ·refine' KN;rw[AU O]at hod;exact VV hH1 rfl rfl (Xu [] [] Jea) ⟨_,hR,EV,rfl⟩
theorem JpD(L:LibE pr F){H:List Blk}{rw:List Nat}{n mb z zb:Nat}{tg tb:Tag}{cs:List Cls}{U:List (List Nat)}{o1 o2 o3 sl:AV}(T:TabU H n mb cs z tg zb tb U o1 o2 o3 sl)(s:Jk) :
  ∃(v:AV) (rw':List Nat),Lst rw 1 v (Ki (KZ cs s)) rw'/\Rx rw rw'/\Det pr F 66 [.ref [.list z tg (cs.map Jc),.map mb,.list zb tb (U.map Vl),o1,o2,o3,sl],.str s] ⟨H,rw⟩ (.ret v) ⟨H,rw'⟩:=by
 have hm:=L.hm;suffices h:Wp pr F 66 [.ref [.list z tg (cs.map Jc),.map mb,.list zb tb (U.map Vl),o1,o2,o3,sl],.str s] ⟨H,rw⟩ λr S'=>∃(v:AV) (rw':List Nat),Lst rw 1 v (Ki (KZ cs s)) rw'/\Rx rw rw'/\r=.ret v/\S'=⟨H,rw'⟩ by obtain⟨r,S',hd,v,rw',h1,h2,rfl,rfl⟩:=h.det hm;exact⟨v,rw',h1,h2,hd⟩
 have hlt:n<H.length:=(Ac.1 T.at_).1;have hne:n≠mb:=EO
 have hFm:=ZG hne T.mp;have hfew:=T.few;have hlm:(cs.map Jc).length=cs.length:=Ak _;have hmu:∀ i,muU U i<=cs.length:=by
  intro i;unfold muU;rw[A4];cases hl:U[i]? with
  | none=>simp
  | some l=>obtain⟨bs,hb,-,rfl⟩:=T.ups i l hl;exact X1 bs _
 have main:∀(cur:Option Nat),cur=J6 cs s->∀ w:AV,w=.int .i64 (((cur.getD 0:Nat):Int))->At pr F H.length (fin [RVar.tmp 4] H.length λr S'=>∃(v:AV) (rw':List Nat),Lst rw 1 v (Ki (KZ cs s)) rw'/\Rx rw rw'/\r=.ret v/\S'=⟨H,rw'⟩)
   (.loop [0,5,6,7] (.seq (.seq Jub (.cond (.tmp 17) (.skip) (.exit 0))) (.seq (.block 1 Juc) Jud))) [Fr.blk 0,Fr.code (Jue.seq IC.ret)]
   [(0,.ref [.list z tg (cs.map Jc),.map mb,.list zb tb (U.map Vl),o1,o2,o3,sl]),(5,.list 0 .full []),(6,w),(7,.bool cur.isSome)] ⟨hp H n (.cells [.list z tg (cs.map Jc),.map mb,.list zb tb (U.map Vl),o1,o2,o3,sl]) [],rw⟩:=by
  rintro cur hcur w rfl;refine JB hm (λmm e S'=>∃(vis:List Nat) (cur:Option Nat) (k:Nat) (l:AV) (rw':List Nat),S'=⟨hp H n (.cells [.list z tg (cs.map Jc),.map mb,.list zb tb (U.map Vl),o1,o2,o3,sl]) [],rw'⟩/\KZ cs s=vis++YT cs k cur/\(∀ i,cur=some i->i<cs.length/\muU U i<=k)/\(cur.isSome=true->vis.length+k<=cs.length)/\Lst rw 1 l (Ki vis) rw'/\Rx rw rw' /\
   mm=(if cur.isSome then k+1 else 0)/\e=[(0,.ref [.list z tg (cs.map Jc),.map mb,.list zb tb (U.map Vl),o1,o2,o3,sl]),(5,l),(6,.int .i64 ((cur.getD 0:Nat):Int)),(7,.bool cur.isSome)]) ?_ (m:=if cur.isSome then cs.length+1 else 0) ⟨[],cur,cs.length,_,rw,rfl,?_,?_,Ag,Lst.nil,Rx.rfl,rfl,rfl⟩
  ·clear hcur cur;rintro mm e S' ⟨vis,cur,k,l,rw',rfl,hch,hcb,hvl,hl,hR,rfl,rfl⟩;cases cur with
   | none=>simp only[YT,Ar]at hch;refine' KN;exact Js rfl (hl.isL.below _) (JR hlt) ⟨l,rw',by rw[hch];exact hl,hR,rfl,QP T.at_⟩
   | some i=>
    obtain⟨hi,hik⟩:=hcb i rfl;replace hvl:=hvl rfl;obtain⟨c,hc⟩:∃ c,cs[i]? = some c:=⟨_,Ab hi⟩
    have hcr:(cs.map Jc)[i]? = some (Jc c):=EF
    have hz:z=9:=T.sz EP;subst hz;have hso:Z9 cs i=c.super:=by unfold Z9;rw[hc]
    simp only[Bc,Bj];refine' KN;refine JT ?_;refine JW rfl rfl rfl ?_;refine QB (row:=JaU i) hl hR Cf Cf O ?_;intro l4 rw4 hl4 hR4;refine QJ ?_;refine' KN
    ·have hup:Up cs i kq:=Ji0 T.okc (by rw[hso];exact hkq);have hml:=Jq6 T.ulen T.ups T.linked T.acyc hi hup;obtain⟨k',rfl⟩:∃ k',k=k'+1:=⟨k-1,O⟩
     refine⟨k'+1,DJ,vis++[i],some kq,k',l4,rw4,rfl,?_,?_,AR,ET,hR4,Ag,rfl⟩
     ·rw[hch,YT,hso,Yq,hkq,BG];rfl
     ·intro j hj;simp only[V]at hj;subst hj;exact⟨hkl,O⟩
    ·refine⟨0,Ag,vis++[i],none,0,l4,rw4,rfl,?_,Ag,Ag,ET,hR4,Ag,rfl⟩;rw[hch,YT,hso];cases k with
     | zero=>simp[XB,YT]
     | succ k=>rw[Yq,hkq];simp[YT]
  ·rw[KZ,Yq,hcur];rfl
  ·intro i hi;rw[hi]at hcur;obtain⟨c,hc,-⟩:=Xf hcur.symm;exact⟨(Ac.1 hc).1,hmu i⟩
 refine Kw hm L.f66.1 L.f66.2 rfl (Xi T.at_) ?_;refine' KN
 ·exact main (some kq) hkq.symm _ rfl
 ·exact main none hkq.symm _ rfl
theorem JpE(L:LibE pr F){H:List Blk}{rw:List Nat}{n mb z zb:Nat}{tg tb:Tag}{cs:List Cls}{U:List (List Nat)}{o1 o2 o3 sl:AV}(T:TabU H n mb cs z tg zb tb U o1 o2 o3 sl)(s:Jk) :
  ∃(v:AV) (rw':List Nat),IsL 1 v (Ki (QC cs U s))/\Rx rw rw'/\Det pr F 64 [.ref [.list z tg (cs.map Jc),.map mb,.list zb tb (U.map Vl),o1,o2,o3,sl],.str s] ⟨H,rw⟩ (.ret v) ⟨H,rw'⟩:=by
 have hm:=L.hm;suffices h:Wp pr F 64 [.ref [.list z tg (cs.map Jc),.map mb,.list zb tb (U.map Vl),o1,o2,o3,sl],.str s] ⟨H,rw⟩ λr S'=>∃(v:AV) (rw':List Nat),IsL 1 v (Ki (QC cs U s))/\Rx rw rw'/\r=.ret v/\S'=⟨H,rw'⟩ by obtain⟨r,S',hd,v,rw',h1,h2,rfl,rfl⟩:=h.det hm;exact⟨v,rw',h1,h2,hd⟩
 have hlt:n<H.length:=(Ac.1 T.at_).1;have hne:n≠mb:=EO
 have hFm:=ZG hne T.mp;have hfew:=T.few;have hlm:(cs.map Jc).length=cs.length:=Ak _;have hul:=T.ulen;have hul2:(U.map Vl).length=cs.length:=EX
 have hzz:cs≠[]->z=9:=T.sz;have hzb:U≠[]->zb=1:=T.zbs;have hR:Rx rw rw:=Rx.rfl;refine Kw hm L.f64.1 L.f64.2 rfl (Xi T.at_) ?_;by_cases hcs:cs=[]
 ·subst hcs;refine' KN
  ·simp[J6]at hkq
  ·exact Js rfl rfl (JR hlt) ⟨_,rw,EZ,hR,rfl,QP T.at_⟩
 ·have hz:=hzz hcs;have hb:=hzb E5;subst hz hb;refine' KN
  ·obtain⟨uk,huk⟩:∃ uk,U[kq]? = some uk:=⟨_,Ab O⟩
   have hur:=Jbm huk;have hrf:QC cs U s=kq::uk:=E6
   have hlu:(Ki uk).length=uk.length:=QS uk;obtain⟨bs,hbsl,hbsu,hui2⟩:=T.ups kq uk huk;have hun2:uk.length<=cs.length:=EY
   refine' KN;refine JT ?_;refine JW rfl rfl rfl ?_;refine JlU (rows:=[JaU kq]) (rowsb:=Ki uk) (rw0:=rw) (Todo.of_lst (Lst.lit Ag)) hR YM Bn ?_;intro v3 rw3 hv3 hR3;refine QJ ?_;refine' KN;obtain⟨sz,tag,rfl,h2,-⟩:=hv3.h;refine Js rfl rfl (JR hlt) ⟨_,rw3,?_,hR3,rfl,QP T.at_⟩;rw[hrf];exact⟨sz,tag,rfl,h2,λh=>by simp[Ki]at h⟩
  ·obtain⟨v,rw2,hv,hR2,hd⟩:=JpD L (T.keep (X6 T.at_ [])) s (rw:=rw);refine Je rfl rfl rfl ?_;refine Ks hd ?_;refine QJ ?_;refine' KN;refine Js rfl (hv.isL.below _) (JR hlt) ⟨v,rw2,?_,hR2,rfl,QP T.at_⟩;have hrf:QC cs U s=KZ cs s:=by unfold QC;rw[hkq];simp only[hkc,hq,AT,if_false]
   rw[hrf];exact hv.isL
  ·exact Js rfl rfl (JR hlt) ⟨_,rw,EZ,hR,rfl,QP T.at_⟩
def JuJ(cs:List Cls)(c:Cls)(k:Nat)(f:Fld):Prop:=(∀ q f',q<k->c.fields[q]? = some f'->f'.name≠f.name)/\Zi cs f.name (KZ cs c.super)=none
def JnO(cs:List Cls)(U:List (List Nat))(i:Nat)(c:Cls):Prop:=(∀ k f,c.fields[k]? = some f->JuJ cs c k f)/\(∀ k m,c.meths[k]? = some m->JnL cs U i k c m)
theorem JpF{cs:List Cls}{c:Cls}{x:Ctr}(hc:c∈cs)(hx:x∈c.ctors)(hw:wL V1 cs<=64800000):wL V0 x.params<=64800000/\c.ctors.length<=64800000:=by have h1:=Q3 V1 hc;have h2:=Q3 JcM hx;have h3:=JcR JcM (λx=>by simp only[JcM];omega) c.ctors;simp only[V1,JcM]at h1 h2 h3;exact⟨O,O⟩
def JnP(cs:List Cls)(c:Cls)(k:Nat)(f:Fld):Int×Int:=if(c.fields.take k).any (λg=>g.name == f.name)=true then(120,f.at_)else if(Zi cs f.name (KZ cs c.super)).isSome=true then(120,f.at_)else KX cs f.type
def JnQ(cs:List Cls)(k:Nat)(x:Ctr):Int×Int:=if 0<k then(120,x.at_)else JnJ cs x.params
def JfZ(cs:List Cls)(U:List (List Nat))(i:Nat)(c:Cls):Int×Int:=Xa (JY (JnP cs c) 0 c.fields) (Xa (JY (JnQ cs) 0 c.ctors) (JY (Jfa cs U i c) 0 c.meths))
theorem E7{Q:Prop}(h:Q:=by rw[Ax,hx];rfl):Q:=h
theorem JnR(L:LibE pr F){H:List Blk}{rw:List Nat}{n mb z zb:Nat}{tg tb:Tag}{cs:List Cls}{U:List (List Nat)}{o1 o2 o3 sl:AV}(T:TabU H n mb cs z tg zb tb U o1 o2 o3 sl){i:Nat}{c:Cls}(hc:cs[i]? = some c) :
  ∃(f:Int×Int) (rw':List Nat),f=JfZ cs U i c/\(f.1=0->JnO cs U i c)/\Rx rw rw'/\Det pr F 105 [.ptr n 0,.int .i64 i] ⟨H,rw⟩ (.ret (.agg (KF f.1 f.2))) ⟨H,rw'⟩:=by
 have hm:=L.hm;suffices h:Wp pr F 105 [.ptr n 0,.int .i64 i] ⟨H,rw⟩ λr S'=>∃(f:Int×Int) (rw':List Nat),f=JfZ cs U i c/\(f.1=0->JnO cs U i c)/\Rx rw rw'/\r=.ret (.agg (KF f.1 f.2))/\S'=⟨H,rw'⟩ by obtain⟨r,S',hd,f,rw',h0,h1,h2,rfl,rfl⟩:=h.det hm;exact⟨f,rw',h0,h1,h2,hd⟩
 have hi:i<cs.length:=(Ac.1 hc).1;have hcr:(cs.map Jc)[i]? = some (Jc c):=EF
 have hz:z=9:=T.sz EP;subst hz;have hcm:=Aq hc;obtain⟨hfb,hfb2⟩:=JbU hcm T.wt;have hlf:=Ji2 c.fields;have hlm:=JaH c.meths;have hlk:(c.ctors.map Jw).length=c.ctors.length:=Ak _;have hlc:(cs.map Jc).length=cs.length:=Ak _;have hfew:=T.few;obtain⟨hbc,hbm⟩:=T.big c hcm;have hR:Rx rw rw:=Rx.rfl;have hod:JfZ cs U i c=Xa (JY (JnP cs c) 0 c.fields) (Xa (JY (JnQ cs) 0 c.ctors) (JY (Jfa cs U i c) 0 c.meths)):=rfl;generalize JfZ cs U i c=E at hod |-;obtain⟨R2,hR2⟩:∃ R2,R2=JY (Jfa cs U i c) 0 c.meths:=⟨_,rfl⟩
 obtain⟨R1,hR1⟩:∃ R1,R1=Xa (JY (JnQ cs) 0 c.ctors) R2:=⟨_,rfl⟩
 rw[<- hR2,<- hR1]at hod;refine Jt hm L.f105.1 L.f105.2 rfl ?_;refine Kt hm ?_;unfold Jt7;show At pr F H.length (fin _ H.length _) _ _ _ _;refine Xj hm ?_;intro H1 hH1 hlen hlt;have hF:=J1 hH1 T.at_;refine' KN;refine JB hm (λmm e S'=>∃(k:Nat) (J:List Blk) (rw3:List Nat),S'=⟨hp H1 H.length (.cells [.int .i64 0,.int .i64 0]) J,rw3⟩/\J[0]? = some (.cells (Jc c))/\k<=c.fields.length/\Rx rw rw3/\E=Xa (JY (JnP cs c) k (c.fields.drop k)) R1/\(∀ k' f,k'<k->c.fields[k']? = some f->JuJ cs c k' f)/\mm=c.fields.length-k /\
  e=[(0,.ptr n 0),(1,.int .i64 (i:Int)),(4,.ptr H.length 0),(5,.ptr (H1.length+0) 0),(28,Kp 9 (c.fields.map Jn)),(29,.int .i64 ((c.fields.map Jn).length:Int)),(30,.int .i64 k)]) ?_ (m:=c.fields.length) ⟨0,_,_,rfl,rfl,O,hR,hod,λk' f h=>O,rfl,rfl⟩
 clear hR hod;rintro mm e S' ⟨k,J,rw3,rfl,hJ,hk0,hR,hod,hfo,rfl,rfl⟩;by_cases hk1:k<c.fields.length
 ·obtain⟨f,hf⟩:∃ f,c.fields[k]? = some f:=⟨_,Ab hk1⟩
  have hfr:(c.fields.map Jn)[k]? = some (Jn f):=by rw[Ax,hf];rfl
  obtain⟨hfn,hft⟩:=hfb2 f (Aq hf);have hl9:Kp 9 (c.fields.map Jn)=.list 9 .dead (c.fields.map Jn):=Kf (i:=k) O;rw[hl9];rw[QA hf]at hod;obtain⟨fn,⟨k1,t1,u1,e1,p1,a1⟩,ff,at1⟩:=f;simp only at hfn hft;refine' KN;rw[hl9];refine g_q rfl (Jeb O) ?_;rw[<- D2];have hlt2:((c.fields.take k).map Jn).length=k:=by rw[Ak,A8];omega
  have hlt3:(c.fields.take k).length=k:=EW
  refine' KN;refine JB hm (λmm e S'=>∃(q:Nat) (J':List Blk),S'=⟨hp H1 H.length (.cells [.int .i64 0,.int .i64 0]) J',rw3⟩/\J'[0]? = some (.cells (Jc c))/\J'[J.length]? = some (.cells (Jn ⟨fn,.mk k1 t1 u1 e1 p1 a1,ff,at1⟩))/\q<=k/\(c.fields.take q).any (λg=>g.name == fn)=false/\(∀ q' f',q'<q->c.fields[q']? = some f'->f'.name≠fn)/\mm=k-q /\
   e=[(0,.ptr n 0),(1,.int .i64 (i:Int)),(4,.ptr H.length 0),(5,.ptr (H1.length+0) 0),(7,.ptr (H1.length+J.length) 0),(28,.list 9 .dead (c.fields.map Jn)),(29,.int .i64 ((c.fields.map Jn).length:Int)),(30,.int .i64 k),(38,.list 9 .dead ((c.fields.take k).map Jn)),(39,.int .i64 (((c.fields.take k).map Jn).length:Int)),(40,.int .i64 q)]) ?_ (m:=k) ⟨0,_,rfl,Vj hJ,Yf,O,rfl,λq' f' h=>O,rfl,rfl⟩
  rintro mm e S' ⟨q,J',rfl,hJ0,hJ1,hq0,hany,hun,rfl,rfl⟩;by_cases hq1:q<k
  ·obtain⟨f',hf'⟩:∃ f',c.fields[q]? = some f':=⟨_,Ab O⟩
   have hpr':((c.fields.take k).map Jn)[q]? = some (Jn f'):=by rw[Ax,Bi hq1,hf'];rfl
   refine' KN
   ·exact Ju hH1 rfl (KA _ _) ⟨(_,_),_,by rw[hod,JnP,if_pos (Ji4 (f:=λg:Fld=>g.name == fn) hf' hq1 (beq_iff_eq.2 (by first |assumption |exact Eq.symm Aa)))];rfl,λh=>ED,hR,rfl,rfl⟩
   ·refine⟨k-(q+1),O,q+1,_,rfl,Vj hJ0,Vj hJ1,O,by rw[Ji3 hf',hany,B3];exact beq_eq_false_iff_ne.2 (by first |assumption |exact Ne.symm Aa),?_,rfl,rfl⟩;intro q' f2 hq2 hf2;by_cases e2:q'=q
    ·subst e2;rw[hf']at hf2;simp only[V]at hf2;subst hf2;intro h;simp_all
    ·exact hun q' f2 O hf2
  ·have hqk:q=k:=by omega
   subst hqk;simp only[JnP,hany,AT,if_false]at hod;refine' KN;obtain⟨rw5,hR5,hd5⟩:=JfW L (T.keep (JF hH1 (.cells [.int .i64 0,.int .i64 0]) (J'++[.cells (Jn JlV)]))) c.super fn (rw:=rw3);refine Je rfl rfl rfl ?_;refine Ks hd5 ?_;refine QJ ?_;clear hd5;have hR6:=hR.trans hR5;clear hR;have hR:=hR6;cases ho:Zi cs fn (KZ cs c.super)with
   | some r=>simp only[JbT,A9,Bc,Bj];refine' KN;exact Ju hH1 rfl (KA _ _) ⟨(_,_),_,by rw[hod,ho];rfl,λh=>ED,hR,rfl,rfl⟩
   | none=>
    simp only[JbT,B4,BR,BU];simp only[ho,BU,AT,if_false]at hod;refine' KN;refine Je rfl rfl rfl ?_;refine⟨_,_,Jdn L (Xg (.mk k1 t1 u1 e1 p1 a1)+1) (.mk k1 t1 u1 e1 p1 a1) O hft (T.toTabM.keep (JF hH1 _ _)),?_⟩;refine QJ ?_;refine' KN
    ·exact Ju hH1 rfl (KA (KX cs (.mk k1 t1 u1 e1 p1 a1)).1 (KX cs (.mk k1 t1 u1 e1 p1 a1)).2) ⟨(_,_),_,by rw[hod,X5 (by rw[X5 Aa];assumption),X5 Aa];rfl,λh=>absurd h Aa,hR,rfl,rfl⟩
    ·refine⟨c.fields.length-(q+1),O,q+1,_,_,rfl,?_,O,hR,by rw[hod,Z4 (a:=KX cs _) Aa],?_,rfl,rfl⟩
     ·simp only[BG];exact Vj hJ0
     ·intro k' f2 hk2 hf2;by_cases e2:k'=q
      ·subst e2;rw[hf]at hf2;simp only[V]at hf2;subst hf2;exact⟨hun,ho⟩
      ·exact hfo k' f2 O hf2
 ·rw[QR O,Vm,hR1]at hod;refine' KN;have hfo':∀ k' f,c.fields[k']? = some f->JuJ cs c k' f:=λk' f hf=>hfo k' f (by have:=(Ac.1 hf).1;omega) hf;refine JB hm (λmm e S'=>∃(k:Nat) (J:List Blk),S'=⟨hp H1 H.length (.cells [.int .i64 0,.int .i64 0]) J,rw3⟩/\J[0]? = some (.cells (Jc c))/\k<=c.ctors.length/\E=Xa (JY (JnQ cs) k (c.ctors.drop k)) R2/\mm=c.ctors.length-k /\
   e=[(0,.ptr n 0),(1,.int .i64 (i:Int)),(4,.ptr H.length 0),(5,.ptr (H1.length+0) 0),(77,Kp 5 (c.ctors.map Jw)),(78,.int .i64 ((c.ctors.map Jw).length:Int)),(79,.int .i64 k)]) ?_ (m:=c.ctors.length) ⟨0,_,rfl,hJ,O,hod,rfl,rfl⟩
  clear hJ J hfo hod;clear hk0 hk1;rintro mm e S' ⟨k,J,rfl,hJ,hk0,hod,rfl,rfl⟩;by_cases hk1:k<c.ctors.length
  ·obtain⟨x,hx⟩:∃ x,c.ctors[k]? = some x:=⟨_,Ab hk1⟩
   have hxr:(c.ctors.map Jw)[k]? = some (Jw x):=E7
   obtain⟨hxp,-⟩:=JpF hcm (Aq hx) T.wt;have hl9:Kp 5 (c.ctors.map Jw)=.list 5 .dead (c.ctors.map Jw):=Kf (i:=k) O;rw[hl9];rw[QA hx,JnQ]at hod;refine' KN
   ·exact Ju hH1 rfl (KA _ _) ⟨(_,_),_,by rw[hod,if_pos O];rfl,λh=>ED,hR,rfl,rfl⟩
   ·rw[if_neg O]at hod;obtain⟨f1,he1,hd1⟩:=Ji5 L (T.toTabM.keep (JF hH1 (.cells [.int .i64 0,.int .i64 0]) (J++[.cells (Jw x)]++[.cells [.int .i64 0,.int .i64 0]]))) x.params hxp (rw:=rw3);refine Je rfl rfl rfl ?_;refine Ks hd1 ?_;refine QJ ?_;refine' KN
    ·exact Ju hH1 rfl (KA f1.1 f1.2) ⟨(_,_),_,by rw[hod,<- he1,X5 (by rw[X5 Aa];assumption),X5 Aa],λh=>absurd h Aa,hR,rfl,rfl⟩
    ·rw[<- he1,Z4 (a:=f1) Aa]at hod;refine⟨c.ctors.length-(k+1),O,k+1,_,rfl,?_,O,hod,rfl,rfl⟩;simp only[BG];exact Vj hJ
  ·rw[QR O,Vm,hR2]at hod;refine' KN;refine JB hm (λmm e S'=>∃(k:Nat) (J:List Blk) (rw3:List Nat),S'=⟨hp H1 H.length (.cells [.int .i64 0,.int .i64 0]) J,rw3⟩/\k<=c.meths.length/\Rx rw rw3/\E=JY (Jfa cs U i c) k (c.meths.drop k)/\(∀ k' m,k'<k->c.meths[k']? = some m->JnL cs U i k' c m)/\mm=c.meths.length-k /\
    e=[(0,.ptr n 0),(1,.int .i64 (i:Int)),(4,.ptr H.length 0),(99,Kp 11 (c.meths.map Jm)),(100,.int .i64 ((c.meths.map Jm).length:Int)),(101,.int .i64 k)]) ?_ (m:=c.meths.length) ⟨0,_,_,rfl,O,hR,hod,λk' m h=>O,rfl,rfl⟩
   clear hJ J;clear hk0 hk1 hR rw3 hod;rintro mm e S' ⟨k,J,rw3,rfl,hk0,hR,hod,hmo,rfl,rfl⟩;by_cases hk1:k<c.meths.length
   ·obtain⟨m,hmk⟩:∃ m,c.meths[k]? = some m:=⟨_,Ab hk1⟩
    have hmr:(c.meths.map Jm)[k]? = some (Jm m):=by rw[Ax,hmk];rfl
    have hl9:Kp 11 (c.meths.map Jm)=.list 11 .dead (c.meths.map Jm):=Kf (i:=k) O;rw[hl9];refine' KN;rw[QA hmk]at hod;obtain⟨f1,rw5,he1,hf1,hR5,hd1⟩:=JpC L (T.keep (JF hH1 (.cells [.int .i64 0,.int .i64 0]) (J++[.cells (Jm m)]++[.cells [.int .i64 0,.int .i64 0]]))) hc hmk (rw:=rw3);refine Je rfl rfl rfl ?_;refine Ks hd1 ?_;refine QJ ?_;refine' KN
    ·exact Ju hH1 rfl (KA f1.1 f1.2) ⟨(_,_),_,by rw[hod,<- he1,X5 Aa],λh=>absurd h Aa,hR.trans hR5,rfl,rfl⟩
    ·refine⟨c.meths.length-(k+1),O,k+1,_,_,rfl,O,hR.trans hR5,by rw[hod,<- he1,Z4 Aa],?_,rfl,rfl⟩;intro k' m2 hk2 hm2;by_cases e2:k'=k
     ·subst e2;rw[hmk]at hm2;simp only[V]at hm2;subst hm2;exact hf1 Aa
     ·exact hmo k' m2 O hm2
   ·refine' KN;exact Ju hH1 rfl (KA 0 0) ⟨(0,0),_,EI,λ_=>⟨hfo',λk' m hm'=>hmo k' m (by have:=(Ac.1 hm').1;omega) hm'⟩,hR,rfl,rfl⟩
def JnS(cs:List Cls)(U:List (List Nat))(c:Cls)(a:Nat):Prop:=∀ d,cs[a]? = some d->d.iface=true->∀ m∈d.meths,∃ r:Nat×Mth,XL cs U c.name (Vx m.name m.params)=some r/\QV r.2.result=QV m.result
theorem JuK{cs:List Cls}{sig:Jk}{i:Nat}{m:Mth}:∀{l:List Nat},ZQ cs sig l=some (i,m)->Zb cs i sig=some m:=by
 intro l;induction l with
 | nil=>intro h;simp[ZQ]at h
 | cons j l ih=>
  intro h;simp only[ZQ]at h;cases ho:Zb cs j sig with
  | none=>rw[ho]at h;exact ih h
  | some x=>rw[ho]at h;simp only[V,AP]at h;obtain⟨rfl,rfl⟩:=h;exact ho
def JpG(cs:List Cls)(U:List (List Nat))(c:Cls)(_:Nat)(m:Mth):Int×Int:=match XL cs U c.name (Vx m.name m.params)with
 | none=>(125,c.at_)
 | some r=>if QV r.2.result=QV m.result then(0,0)else(124,c.at_)
def JsH(cs:List Cls)(U:List (List Nat))(c:Cls)(_:Nat)(a:Nat):Int×Int:=match cs[a]? with
 | some d=>if d.iface=true then JY (JpG cs U c) 0 d.meths else(0,0)
 | none=>(0,0)
def Jfc(cs:List Cls)(U:List (List Nat))(i:Nat)(c:Cls):Int×Int:=JY (JsH cs U c) 0 (U.getD i [])
theorem JnT(L:LibE pr F){H:List Blk}{rw:List Nat}{n mb z zb:Nat}{tg tb:Tag}{cs:List Cls}{U:List (List Nat)}{o1 o2 o3 sl:AV}(T:TabU H n mb cs z tg zb tb U o1 o2 o3 sl){i:Nat}{c:Cls}(hc:cs[i]? = some c) :
  ∃(f:Int×Int) (rw':List Nat),f=Jfc cs U i c/\(f.1=0->∀ a∈U.getD i [],JnS cs U c a)/\Rx rw rw'/\Det pr F 106 [.ptr n 0,.int .i64 i] ⟨H,rw⟩ (.ret (.agg (KF f.1 f.2))) ⟨H,rw'⟩:=by
 have hm:=L.hm;suffices h:Wp pr F 106 [.ptr n 0,.int .i64 i] ⟨H,rw⟩ λr S'=>∃(f:Int×Int) (rw':List Nat),f=Jfc cs U i c/\(f.1=0->∀ a∈U.getD i [],JnS cs U c a)/\Rx rw rw'/\r=.ret (.agg (KF f.1 f.2))/\S'=⟨H,rw'⟩ by obtain⟨r,S',hd,f,rw',h0,h1,h2,rfl,rfl⟩:=h.det hm;exact⟨f,rw',h0,h1,h2,hd⟩
 have hi:i<cs.length:=(Ac.1 hc).1;have hcr:(cs.map Jc)[i]? = some (Jc c):=EF
 have hz:z=9:=T.sz EP;subst hz;have hul:=T.ulen;obtain⟨ui,hui⟩:∃ ui,U[i]? = some ui:=⟨_,Ab O⟩
 have hur:=Jbm hui;have hzb:zb=1:=T.zbs (by intro h;rw[h]at hul;simp at hul;omega);subst hzb;have hgd:U.getD i []=ui:=by rw[A4,hui];rfl
 have hod:Jfc cs U i c=JY (JsH cs U c) 0 ui:=by rw[Jfc,hgd]
 rw[hgd];generalize Jfc cs U i c=E at hod |-;have hR:Rx rw rw:=Rx.rfl;have hfew:=T.few;have hlc:(cs.map Jc).length=cs.length:=Ak _;have hul2:(U.map Vl).length=cs.length:=EX
 have hlu:(Ki ui).length=ui.length:=QS ui;obtain⟨bs,hbsl,hbsu,hui2⟩:=T.ups i ui hui;have hun2:ui.length<=cs.length:=EY
 have huin:∀ a∈ui,a<cs.length:=λa ha=>JiI T.linked ((JhF (T.ups i ui hui) T.linked a).1 ha);refine Jt hm L.f106.1 L.f106.2 rfl ?_;refine Kt hm ?_;unfold Jt8;show At pr F H.length (fin _ H.length _) _ _ _ _;refine Xj hm ?_;intro H1 hH1 hlen hlt;have hF:=J1 hH1 T.at_;refine' KN;refine JB hm (λmm e S'=>∃(p:Nat) (J:List Blk) (rw3:List Nat),S'=⟨hp H1 H.length (.cells [.int .i64 0,.int .i64 0]) J,rw3⟩/\J[0]? = some (.cells (Jc c))/\p<=ui.length/\Rx rw rw3/\E=JY (JsH cs U c) p (ui.drop p)/\(∀ a∈ui.take p,JnS cs U c a)/\mm=ui.length-p /\
  e=[(0,.ptr n 0),(4,.ptr H.length 0),(5,.ptr (H1.length+0) 0),(25,Kp 1 (Ki ui)),(26,.int .i64 ((Ki ui).length:Int)),(27,.int .i64 p)]) ?_ (m:=ui.length) ⟨0,_,_,rfl,rfl,O,hR,hod,Ag,rfl,rfl⟩
 clear hR hod;rintro mm e S' ⟨p,J,rw3,rfl,hJ,hp0,hR,hod,hful,rfl,rfl⟩;by_cases hp1:p<ui.length
 ·obtain⟨a,ha⟩:∃ a,ui[p]? = some a:=⟨_,Ab hp1⟩
  have har:=ZI ha;have hal:=huin a (Aq ha);obtain⟨d,hd⟩:∃ d,cs[a]? = some d:=⟨_,Ab hal⟩
  have hdr:(cs.map Jc)[a]? = some (Jc d):=by rw[Ax,hd];rfl
  have hdm:=Aq hd;have hdo:=Jbl (T.okc d hdm);have hlm:=JaH d.meths;obtain⟨-,hbm⟩:=T.big d hdm;have hl5:Kp 1 (Ki ui)=.list 1 .dead (Ki ui):=Kf (i:=p) O;rw[hl5];rw[QA ha]at hod;simp only[JsH,hd]at hod;refine' KN
  ·refine⟨ui.length-(p+1),O,p+1,_,_,rfl,hJ,O,hR,by rw[hod,if_neg (by simp_all)];rfl,?_,rfl,rfl⟩;rw[QW ha];intro b hb;rcases AM.1 hb with h1 |h1
   ·exact hful b h1
   ·rw[AN.1 h1];intro d' hd' hif;rw[hd]at hd';simp only[V]at hd';subst hd';simp_all
  ·rw[if_pos (by simp_all)]at hod;refine JB hm (λmm e S'=>∃(q:Nat) (J:List Blk) (rw3:List Nat),S'=⟨hp H1 H.length (.cells [.int .i64 0,.int .i64 0]) J,rw3⟩/\J[0]? = some (.cells (Jc c))/\q<=d.meths.length/\Rx rw rw3/\E=Xa (JY (JpG cs U c) q (d.meths.drop q)) (JY (JsH cs U c) (p+1) (ui.drop (p+1)))/\(∀ m∈d.meths.take q,∃ r:Nat×Mth,XL cs U c.name (Vx m.name m.params)=some r/\QV r.2.result=QV m.result)/\mm=d.meths.length-q /\
    e=[(0,.ptr n 0),(4,.ptr H.length 0),(5,.ptr (H1.length+0) 0),(25,.list 1 .dead (Ki ui)),(26,.int .i64 ((Ki ui).length:Int)),(27,.int .i64 p),(47,Kp 11 (d.meths.map Jm)),(48,.int .i64 ((d.meths.map Jm).length:Int)),(49,.int .i64 q)]) ?_ (m:=d.meths.length) ⟨0,_,_,rfl,hJ,O,hR,hod,Ag,rfl,rfl⟩
   clear hJ J hod;clear hR;clear rw3;rintro mm e S' ⟨q,J,rw3,rfl,hJ,hq0,hR,hod,hres,rfl,rfl⟩;by_cases hq1:q<d.meths.length
   ·obtain⟨m,hmq⟩:∃ m,d.meths[q]? = some m:=⟨_,Ab hq1⟩
    have hmem:=Aq hmq;have hmr:(d.meths.map Jm)[q]? = some (Jm m):=by rw[Ax,hmq];rfl
    obtain⟨hb1,hb2,hb3,hb4⟩:=ZH hdm hmem T.wt;obtain⟨hk1,hk2,hk3,hk4⟩:=hdo m hmem;have hsg:=JiZ L hb1 hb2 hk2;have hbs:=Je9 L hb3 hk3;have hl11:Kp 11 (d.meths.map Jm)=.list 11 .dead (d.meths.map Jm):=Kf (i:=q) O;rw[hl11];rw[QA hmq]at hod;refine' KN;obtain⟨rw5,hR5,hd5⟩:=Jfb L (T.keep (JF hH1 (.cells [.int .i64 0,.int .i64 0]) (J++[.cells (Jm m)]++[.cells (KK [] [] Jea)]))) c.name (Vx m.name m.params) (rw:=rwt);refine Je rfl rfl rfl ?_;refine Ks hd5 ?_;refine QJ ?_;clear hd5;have hR6:=hR.trans hR5;clear hR;have hR:=hR6;cases ho:XL cs U c.name (Vx m.name m.params)with
    | none=>simp only[JcS,JfX,BU];simp only[JpG,ho]at hod;refine' KN;exact Ju hH1 rfl (KA _ _) ⟨(_,_),_,EV,λh=>ED,hR,rfl,rfl⟩
    | some r=>
     obtain⟨j,x⟩:=r;simp only[JcS,JfX,Bj];simp only[JpG,ho]at hod;have hbx:=JnK L T.wt T.okc (JuK ho);have hrm:=Xu (Vx m.name m.params) (Zc cs j) x;refine' KN
     ·exact Ju hH1 rfl (KA _ _) ⟨(_,_),_,by rw[hod,if_neg EN];rfl,λh=>ED,hR,rfl,rfl⟩
     ·rw[if_pos EN,Vm]at hod;refine⟨d.meths.length-(q+1),O,q+1,_,_,rfl,Vj (Vj hJ),O,hR,hod,?_,rfl,rfl⟩;rw[QW hmq];intro m2 hm2;rcases AM.1 hm2 with h1 |h1
      ·exact hres m2 h1
      ·rw[AN.1 h1];exact⟨(j,x),ho,EN⟩
   ·rw[QR O,Vm]at hod;refine' KN;refine⟨ui.length-(p+1),O,p+1,_,_,rfl,hJ,O,hR,hod,?_,rfl,rfl⟩;rw[QW ha];intro b hb;rcases AM.1 hb with h1 |h1
    ·exact hful b h1
    ·rw[AN.1 h1];intro d' hd' hif m hm2;rw[hd]at hd';simp only[V]at hd';subst hd';exact hres m (by rw[show q=d.meths.length by omega,AI];exact hm2)
 ·refine' KN;exact Ju hH1 rfl (KA 0 0) ⟨(0,0),_,EI,λ_ a ha=>hful a (by rw[show p=ui.length by omega,AI];exact ha),hR,rfl,rfl⟩
set_option maxRecDepth 100000
set_option maxHeartbeats 16000000
def JNg:IC:=.region [] [Qm 0 17 4,Qq 1 18 (.mkFunc 100 [(.tmp 17)] []),Qm 2 19 4,Qq 3 20 (.mkFunc 101 [(.tmp 19)] []),Qm 4 21 4,Qq 5 22 (.mkFunc 102 [(.tmp 21)] []),Qm 6 23 4,Qq 7 24 (.mkFunc 103 [(.tmp 23)] []),Ql 8 25 (.mkArr 1 [(.tmp 18),(.tmp 20),(.tmp 22),(.tmp 24)]) [],Qn 9 26 25,Qk 10 27 (Qz 0)] [3,4,25,26,27]
def JNh:IFn:=⟨1,(.seq JD4 (.seq JVw (.seq (.seq JNg (.block 0 (.loop [3,4,25,26,27] (.seq JVx (.seq (.cond (.tmp 28) (.skip) (.exit 0)) (.seq (.block 1 (.seq JVy (.seq JVz (.seq JVA (.cond (.tmp 35) (.seq JVB .ret) (.skip)))))) JVC)))))) (.seq JVD (.seq (.seq JKx (.block 2 (.loop [3,4,44,45] (.seq JKy (.seq (.cond (.tmp 46) (.skip) (.exit 2)) (.seq (.block 3 (.seq JKz (.seq JKA (.seq JKB (.cond (.tmp 53) (.seq JKC .ret) (.skip)))))) JKD)))))) (.seq (.seq JKE (.block 4 (.loop [3,4,60,61] (.seq JKF (.seq (.cond (.tmp 62) (.skip) (.exit 4)) (.seq (.block 5 (.seq JKG (.seq JKH (.seq JKI (.cond (.tmp 69) (.seq JKJ .ret) (.skip)))))) JKK)))))) (.seq JKL .ret))))))),[.tmp 2,.cell 3 (some 2)]⟩
theorem J20:JK Tryz.prog Tryz.f55 JNh=true:=Ae
section
variable {b0 base ix:Nat} {d:Option Nat} {g:Option (Nat×Bool)} {prev items:List Item} {kp:List Nat} {k:List Fr} {e:KC} {Q:Ex->KC->St->Prop} {S:St} {H M:List Blk} {n:Nat} {rw:List Nat} {re:List Nat}
theorem Jkz{m x y:Opd}(h:In pr F b0 Q base prev (⟨ix,d,g,.l (.mapUpd m x y) re⟩::items) kp k e S):In pr F b0 Q base prev (⟨ix,d,g,.l (.mapUpd m x y) re⟩::items) kp k e S:=h
theorem JNi{m x y:Opd}{es:List (Jk×AV)}{s:Jk}{v:AV}(hlt:n<H.length)(hw:wanted g (Jj e)=some true)(hm:m.val (Jj e)=some (.map n))(hx:x.val (Jj e)=some (.str s))(hy:y.val (Jj e)=some v)(hb:below (n+1) v=true)
  (h:J8 prev re (KD e d .undef) (hp H n (.map (ZM es s v)) M) base=true/\In pr F b0 Q base (⟨ix,d,g,.l (.mapUpd m x y) re⟩::prev) items kp k (KD e d .undef) ⟨hp H n (.map (ZM es s v)) M,rw⟩) :
  In pr F b0 Q base prev (⟨ix,d,g,.l (.mapUpd m x y) re⟩::items) kp k e ⟨hp H n (.map es) M,rw⟩:=by
 obtain⟨hr,hk⟩:=h;refine Jiz hw ?_ hr hk;simp only[XN,hm,hx,hy,Kh hlt,hb,or_true,if_true,Z0]
theorem k_n{L:AV->Prop}{zero:AV}{s:Jk}{es:List (Jk×AV)}(hlt:n<H.length)(h1:∀ v,Vn es s=some v->L (.tup [v,.bool true]))(h2:Vn es s=none->L (.tup [zero,.bool false])):LkAt zero true (.map n) (.str s) ⟨hp H n (.map es) M,rw⟩ L:=by
 refine⟨?_⟩;have e:=Kh (H:=H) (b:=Blk.map es) (L:=M) hlt;simp only[e];cases hm:Vn es s with
 | some v=>exact⟨_,rfl,h1 v hm⟩
 | none=>exact⟨_,rfl,h2 hm⟩
end
def JuL(cs:List Cls)(i:Nat)(c:Cls):Int×Int:=if(J6 (cs.take i) c.name).isSome=true then(120,c.at_)else(0,0)
def JlW(cs:List Cls):Int×Int:=JY (JuL cs) 0 cs
theorem JsI(L:LibD pr F){H:List Blk}{rw:List Nat}{n mb z:Nat}{tg:Tag}{cs:List Cls}{ab o1 o2 o3 sl:AV}(T:TabB H n cs z tg (.map mb) ab o1 o2 o3 sl)(hmb:H[mb]? = some (.map [])) :
  ∃(f:Int×Int) (es:List (Jk×AV)),f=JlW cs/\(f.1=0->es=VJ 0 cs/\Unlike cs)/\Det pr F 101 [.ptr n 0] ⟨H,rw⟩ (.ret (.agg (KF f.1 f.2))) ⟨H.set mb (.map es),rw⟩:=by
 have hm:=L.hm;suffices h:Wp pr F 101 [.ptr n 0] ⟨H,rw⟩ λr S'=>∃(f:Int×Int) (es:List (Jk×AV)),f=JlW cs/\(f.1=0->es=VJ 0 cs/\Unlike cs)/\r=.ret (.agg (KF f.1 f.2))/\S'=⟨hp H mb (.map es) [],rw⟩ by obtain⟨r,S',hd,f,es,he,hf,rfl,rfl⟩:=h.det hm;rw[Jo1]at hd;exact⟨f,es,he,hf,hd⟩
 have hlt:mb<H.length:=(Ac.1 hmb).1;have hne:mb≠n:=by intro h;have:=T.at_;rw[<- h,hmb]at this;simp at this
 have hF:=ZG hne T.at_;have hfew:=T.few;have hlm:(cs.map Jc).length=cs.length:=Ak _;refine Kw hm L.f101.1 L.f101.2 rfl (Xi hmb) ?_;refine' hG;refine JB hm (λmm e S'=>∃(i:Nat) (J:List Blk),S'=⟨hp H mb (.map (VJ 0 (cs.take i))) (.cells [.int .i64 0,.int .i64 0]::J),rw⟩/\JlW cs=JY (JuL cs) i (cs.drop i)/\Unlike (cs.take i)/\i<=cs.length/\mm=cs.length-i/\e=[(0,.ptr n 0),(2,.ptr (H.length+0) 0),(10,.list z tg (cs.map Jc)),(11,.int .i64 ((cs.map Jc).length:Int)),(12,.int .i64 i)]) ?_ (m:=cs.length) ⟨0,[],rfl,rfl,.nil,O,rfl,rfl⟩;rintro mm e S' ⟨i,J,rfl,hod,hu,hi,rfl,rfl⟩;by_cases hlt2:i<cs.length
 ·obtain⟨c,hc⟩:∃ c,cs[i]? = some c:=⟨_,Ab hlt2⟩
  have hcr:(cs.map Jc)[i]? = some (Jc c):=EF
  have hz:z=9:=T.sz EG;subst hz;rw[QA hc]at hod;refine' hG;refine Jaw rfl rfl rfl ?_;refine k_n hlt (λv hv=>?_) (λhv=>?_)
  ·have hps:(J6 (cs.take i) c.name).isSome=true:=by
    rw[ZF]at hv;cases hp:J6 (cs.take i) c.name with
    | none=>rw[hp]at hv;simp at hv
    | some q=>rfl
   refine' KN;exact J0 hlt rfl rfl (KA _ _).load ((KA _ _).below _) ⟨(_,_),_,by rw[hod,JuL,if_pos hps];rfl,λh=>absurd h (show(120:Int)≠0 by decide),rfl,rfl⟩
  ·have hpn:J6 (cs.take i) c.name=none:=by
    rw[ZF]at hv;cases hp:J6 (cs.take i) c.name with
    | none=>rfl
    | some q=>rw[hp]at hv;simp at hv
   rw[JuL,hpn,if_neg Ag,Vm]at hod;have e1:=Juh (v:=.int .i64 (i:Int)) hv;have e2:VJ 0 (cs.take (i+1))=ZM (VJ 0 (cs.take i)) c.name (.int .i64 (i:Int)):=by rw[e1,QW hc,JlN];simp only[A8,Nat.min_eq_left hi,AF]
   refine' KN;refine Jkz ?_;refine JNi hlt rfl rfl rfl rfl rfl ?_;rw[<- e2];refine QJ ?_;refine' KN;exact⟨cs.length-(i+1),O,i+1,J++[.cells (Jc c)],rfl,hod,by rw[QW hc];exact hu.snoc hpn,O,rfl,rfl⟩
 ·have hi2:i=cs.length:=by omega
  refine' KN;refine J0 hlt rfl rfl (KA 0 0).load ((KA 0 0).below _) ⟨(0,0),_,EI,λ_=>?_,rfl,rfl⟩;rw[hi2,AI]at hu |-;exact⟨rfl,hu⟩
structure LibF(pr:Jz)(F:Nat->Option IFn):Prop extends LibE pr F where
 f55:QG pr F 55 JNh
section
variable {b0 base ix:Nat} {d:Option Nat} {g:Option (Nat×Bool)} {prev items:List Item} {kp:List Nat} {k:List Fr} {e:KC} {Q:Ex->KC->St->Prop} {S:St} {H M M':List Blk} {n q:Nat} {b:Blk} {rw:List Nat} {re:List Nat}
theorem Jq7(hlt:n<H.length)(hw:wanted g (Jj e)=some true)(hM:M++[.map []]=M')(hq:M.length=q)
  (h:J8 prev re (KD e d (.map (H.length+q))) (hp H n b M') base=true/\In pr F b0 Q base (⟨ix,d,g,.l .mkMap re⟩::prev) items kp k (KD e d (.map (H.length+q))) ⟨hp H n b M',rw⟩) :
  In pr F b0 Q base prev (⟨ix,d,g,.l .mkMap re⟩::items) kp k e ⟨hp H n b M,rw⟩:=by
 subst hM hq;refine Jiz hw ?_ h.1 h.2;simp only[XN,XO,Jau hlt]
theorem JBq{sz:Nat}{xs:List Opd}{vs cs:List AV}(hlt:n<H.length)(hw:wanted g (Jj e)=some true)(hx:X9 xs (Jj e)=some vs)(hf:Jbw sz vs=some cs)(hM:M++[.cells cs]=M')(hq:M.length=q)
  (h:J8 prev re (KD e d (.arr (H.length+q) 0 sz vs.length)) (hp H n b M') base=true/\In pr F b0 Q base (⟨ix,d,g,.l (.mkArr sz xs) re⟩::prev) items kp k (KD e d (.arr (H.length+q) 0 sz vs.length)) ⟨hp H n b M',rw⟩) :
  In pr F b0 Q base prev (⟨ix,d,g,.l (.mkArr sz xs) re⟩::items) kp k e ⟨hp H n b M,rw⟩:=by
 subst hM hq;refine Jiz hw ?_ h.1 h.2;simp only[XN,hx,hf,XO,Jau hlt]
end
theorem Jdo{H H1 M:List Blk}{rw:List Nat}{z:Blk}{vs:List AV}{t u kd:Nat}{e:KC}{Q:Res->St->Prop}(hH:H1=H++[z])(he:Jj e t=some (.ptr H.length 0))(hu:Jj e u=some .nilp)(hv:Row kd vs)(h:Q (.ret (.tup [.nilp,.agg vs])) ⟨H,rw⟩) :
  fin [.tmp u,.cell t (some kd)] H.length Q .ret e ⟨hp H1 H.length (.cells vs) M,rw⟩:=by
 subst hH;have e2:QT [.tmp u,.cell t (some kd)] e (hp (H++[z]) H.length (.cells vs) M)=some [.nilp,.agg vs]:=by simp only[QT,he,hu,Jbk hv]
 refine X7 e2 ?_ JZ h;have this:Ai.belowL H.length vs=true:=hv.below H.length;simp only[Ai.belowL,this,Ai.below,A0]
theorem JBr{H H1 M:List Blk}{rw:List Nat}{z:Blk}{vs:List AV}{t u kd j:Nat}{e:KC}{Q:Res->St->Prop}(hH:H1=H++[z])(he:Jj e t=some (.ptr H.length 0))(hu:Jj e u=some (.ptr (H1.length+j) 0))(hv:Row kd vs)(h:Q (.ret (.tup [.ptr (H1.length+j) 0,.agg vs])) ⟨hp H1 H.length (.cells vs) M,rw⟩) :
  fin [.tmp u,.cell t (some kd)] H.length Q .ret e ⟨hp H1 H.length (.cells vs) M,rw⟩:=by
 have hl:¬H1.length+j<H.length:=by subst hH;simp;omega
 have e2:QT [.tmp u,.cell t (some kd)] e (hp H1 H.length (.cells vs) M)=some [.ptr (H1.length+j) 0,.agg vs]:=by subst hH;simp only[QT,he,hu,Jbk hv]
 have h5:Ai.below H.length (.tup [.ptr (H1.length+j) 0,.agg vs])=false:=by simp[Ai.below,Ai.belowL,hl]
 simp only[fin,e2,X2,Y4,h5,Jcl,Y3,Ap,AC,AT,if_false];exact h
theorem JlX{H1 J:List Blk}{n:Nat}{b x:Blk}{es:List (Jk×AV)}{z:Nat}{tg:Tag}{cs:List Cls}{ab o1 o2 o3 sl:AV}(hlt:n<H1.length)(hsz:cs≠[]->z=9)(hfew:cs.length<=8000)(hwt:wL V1 cs<=64800000) :
  TabB (hp H1 n b (x::.map es::.cells [.list z tg (cs.map Jc),.map (H1.length+1),ab,o1,o2,o3,sl]::J)) (H1.length+2) cs z tg (.map (H1.length+1)) ab o1 o2 o3 sl/\(hp H1 n b (x::.map es::.cells [.list z tg (cs.map Jc),.map (H1.length+1),ab,o1,o2,o3,sl]::J))[H1.length+1]? = some (.map es):=by
 refine⟨⟨(Vq hlt 2).trans rfl,hsz,hfew,λc hc=>?_⟩,(Vq hlt 1).trans rfl⟩;have h1:=Q3 V1 hc;have h2:=JcR JcM (λx=>by simp only[JcM];omega) c.ctors;have h3:=JcR JbN (λx=>by simp only[JbN];omega) c.meths;simp only[V1]at h1;exact⟨O,O⟩
open Classical in
def QD(cs:List Cls):List (List Nat):=(List.range cs.length).map λi=>(List.range cs.length).filter λk=>decide (Up cs i k)
open Classical in
theorem JlY{cs:List Cls}{U:List (List Nat)}(hl:U.length=cs.length)(hu:∀ i l,U[i]? = some l->JaF cs i l):U=QD cs:=by
 apply Cm;intro i;by_cases hi:i<U.length
 ·obtain⟨x,hx⟩:∃ x,U[i]? = some x:=⟨_,Ab hi⟩
  obtain⟨bs,h1,h2,rfl⟩:=hu i x hx;rw[hx,QD,Ax,Dr O,A9]
  congr 1
  unfold Z8;refine List.filter_congr λk hk=>?_;have hk:=Cc.1 hk;obtain⟨y,hy⟩:∃ y,bs[k]? = some y:=⟨_,Ab O⟩
  have h3:=h2 k;rw[A4,hy,Bc];rw[hy]at h3;by_cases hup:Up cs i k
  ·rw[decide_eq_true hup];simpa using h3.2 hup
  ·rw[decide_eq_false hup];cases y with
   | false=>rfl
   | true=>exact absurd (h3.1 rfl) hup
 ·rw[A5 O,QD,A5 AR]
def JbV(cs:List Cls)(U:List (List Nat)):Int×Int:=Xa (JiL cs) (Xa (JlW cs) (Xa (JiQ cs) (Xa (Jhf cs) (Xa (JY (JfZ cs U) 0 cs) (JY (Jfc cs U) 0 cs)))))
def JkA(a b c d r:Int×Int):Nat->Int×Int
 | 0=>Xa a (Xa b (Xa c (Xa d r)))
 | 1=>Xa b (Xa c (Xa d r))
 | 2=>Xa c (Xa d r)
 | 3=>Xa d r
 | _=>r
def Jq8(cs:List Cls)(U:List (List Nat)):Prop:=∀ i c,cs[i]? = some c->JnO cs U i c/\∀ a∈U.getD i [],JnS cs U c a
section
variable {H1 J:List Blk} {n z:Nat} {b x:Blk} {es:List (Jk×AV)} {tg:Tag} {cs:List Cls} {ab o1 o2 o3 sl:AV} {rw:List Nat} {K:AV->St->Prop}
theorem JXB(L:LibF pr F)(hlt:n<H1.length)(hsz:cs≠[]->z=9)(hfew:cs.length<=8000)(hwt:wL V1 cs<=64800000)
  (hk:∀ f:Int×Int,f=JiL cs->(f.1=0->Few cs)->K (.agg (KF f.1 f.2)) ⟨hp H1 n b (x::.map es::.cells [.list z tg (cs.map Jc),.map (H1.length+1),ab,o1,o2,o3,sl]::J),rw⟩) :
  ClAt pr F 100 [.ptr (H1.length+2) 0] ⟨hp H1 n b (x::.map es::.cells [.list z tg (cs.map Jc),.map (H1.length+1),ab,o1,o2,o3,sl]::J),rw⟩ K:=by
 obtain⟨f,he,hf,hd⟩:=JAF L.toLibD (rw:=rw) (JlX (b:=b) (x:=x) (es:=es) (J:=J) (ab:=ab) (o1:=o1) (o2:=o2) (o3:=o3) (sl:=sl) (tg:=tg) hlt hsz hfew hwt).1;exact⟨_,_,hd,hk f he hf⟩
theorem JBs(L:LibF pr F)(hlt:n<H1.length)(hsz:cs≠[]->z=9)(hfew:cs.length<=8000)(hwt:wL V1 cs<=64800000)
  (hk:∀(f:Int×Int) (es':List (Jk×AV)),f=JlW cs->(f.1=0->es'=VJ 0 cs/\Unlike cs)->K (.agg (KF f.1 f.2)) ⟨hp H1 n b (x::.map es'::.cells [.list z tg (cs.map Jc),.map (H1.length+1),ab,o1,o2,o3,sl]::J),rw⟩) :
  ClAt pr F 101 [.ptr (H1.length+2) 0] ⟨hp H1 n b (x::.map []::.cells [.list z tg (cs.map Jc),.map (H1.length+1),ab,o1,o2,o3,sl]::J),rw⟩ K:=by
 have T:=JlX (b:=b) (x:=x) (es:=[]) (J:=J) (ab:=ab) (o1:=o1) (o2:=o2) (o3:=o3) (sl:=sl) (tg:=tg) hlt hsz hfew hwt;obtain⟨f,es',he,hf,hd⟩:=JsI L.toLibD (rw:=rw) T.1 T.2;rw[YS hlt 1]at hd;exact⟨_,_,hd,hk f es' he hf⟩
theorem JnU(hlt:n<H1.length)(hsz:cs≠[]->z=9)(hfew:cs.length<=8000)(hwt:wL V1 cs<=64800000):TabM (hp H1 n b (x::.map (VJ 0 cs)::.cells [.list z tg (cs.map Jc),.map (H1.length+1),ab,o1,o2,o3,sl]::J)) (H1.length+2) (H1.length+1) cs z tg ab o1 o2 o3 sl:=by have T:=JlX (b:=b) (x:=x) (es:=VJ 0 cs) (J:=J) (ab:=ab) (o1:=o1) (o2:=o2) (o3:=o3) (sl:=sl) (tg:=tg) hlt hsz hfew hwt;exact{T.1 with mp:=T.2}
theorem JBt(L:LibF pr F)(hlt:n<H1.length)(hsz:cs≠[]->z=9)(hfew:cs.length<=8000)(hwt:wL V1 cs<=64800000)(hbg:∀ c∈cs,c.above.length<=64800000)
  (hk:∀ f:Int×Int,f=JiQ cs->(f.1=0->YA cs)->K (.agg (KF f.1 f.2)) ⟨hp H1 n b (x::.map (VJ 0 cs)::.cells [.list z tg (cs.map Jc),.map (H1.length+1),ab,o1,o2,o3,sl]::J),rw⟩) :
  ClAt pr F 102 [.ptr (H1.length+2) 0] ⟨hp H1 n b (x::.map (VJ 0 cs)::.cells [.list z tg (cs.map Jc),.map (H1.length+1),ab,o1,o2,o3,sl]::J),rw⟩ K:=by
 obtain⟨f,he,hf,hd⟩:=Jst L.toLibD (rw:=rw) (JnU (b:=b) (x:=x) (J:=J) (ab:=ab) (o1:=o1) (o2:=o2) (o3:=o3) (sl:=sl) (tg:=tg) hlt hsz hfew hwt) hbg;exact⟨_,_,hd,hk f he hf⟩
theorem Ji7(hlt:n<H1.length)(hsz:cs≠[]->z=9)(hfew:cs.length<=8000)(hwt:wL V1 cs<=64800000)(hun:Unlike cs)(hli:YA cs):TabL (hp H1 n b (x::.map (VJ 0 cs)::.cells [.list z tg (cs.map Jc),.map (H1.length+1),ab,o1,o2,o3,sl]::J)) (H1.length+2) (H1.length+1) cs z tg ab o1 o2 o3 sl:=
 {JnU hlt hsz hfew hwt with linked:=hli,unlike:=hun,wt:=hwt}
theorem JuM(L:LibF pr F)(hlt:n<H1.length)(hsz:cs≠[]->z=9)(hfew:cs.length<=8000)(hwt:wL V1 cs<=64800000)(hun:Unlike cs)(hli:YA cs)
  (hk:∀(f:Int×Int) (rw':List Nat),f=Jhf cs->(f.1=0->∀ i,i<cs.length->¬Up cs i i)->Rx rw rw'->K (.agg (KF f.1 f.2)) ⟨hp H1 n b (x::.map (VJ 0 cs)::.cells [.list z tg (cs.map Jc),.map (H1.length+1),ab,o1,o2,o3,sl]::J),rw'⟩) :
  ClAt pr F 103 [.ptr (H1.length+2) 0] ⟨hp H1 n b (x::.map (VJ 0 cs)::.cells [.list z tg (cs.map Jc),.map (H1.length+1),ab,o1,o2,o3,sl]::J),rw⟩ K:=by
 obtain⟨f,rw',he,hf,hR,hd⟩:=JpA L.toLibE (rw:=rw) (Ji7 (b:=b) (x:=x) (J:=J) (ab:=ab) (o1:=o1) (o2:=o2) (o3:=o3) (sl:=sl) (tg:=tg) hlt hsz hfew hwt hun hli);exact⟨_,_,hd,hk f rw' he hf hR⟩
theorem JBu(L:LibF pr F)(hlt:n<H1.length)(hsz:cs≠[]->z=9)(hfew:cs.length<=8000)(hwt:wL V1 cs<=64800000)(hun:Unlike cs)(hli:YA cs)(hok:∀ c∈cs,Zk c)(hac:∀ i,i<cs.length->¬Up cs i i)
  (hk:∀(U:List (List Nat)) (zb:Nat) (tb:Tag) (rw':List Nat),Rx rw rw'->(∀ J',TabU (hp H1 n b (x::.map (VJ 0 cs)::.cells [.list z tg (cs.map Jc),.map (H1.length+1),.list zb tb (U.map Vl),o1,o2,o3,sl]::J')) (H1.length+2) (H1.length+1) cs z tg zb tb U o1 o2 o3 sl) ->
   K (.tup []) ⟨hp H1 n b (x::.map (VJ 0 cs)::.cells [.list z tg (cs.map Jc),.map (H1.length+1),.list zb tb (U.map Vl),o1,o2,o3,sl]::J),rw'⟩) :
  ClAt pr F 104 [.ptr (H1.length+2) 0] ⟨hp H1 n b (x::.map (VJ 0 cs)::.cells [.list z tg (cs.map Jc),.map (H1.length+1),.list 0 .full [],o1,o2,o3,sl]::J),rw⟩ K:=by
 obtain⟨U,ab',rw',hl,hu,hab,hR,hd⟩:=JsA L.toLibE (rw:=rw) (Ji7 (b:=b) (x:=x) (J:=J) (o1:=o1) (o2:=o2) (o3:=o3) (sl:=sl) (tg:=tg) hlt hsz hfew hwt hun hli);rw[YS hlt 2]at hd;obtain⟨zb,tb,rfl,hzb,-⟩:=hab;refine⟨_,_,hd,hk U zb tb rw' hR λJ'=>?_⟩;exact{Ji7 (b:=b) (x:=x) (J:=J') (o1:=o1) (o2:=o2) (o3:=o3) (sl:=sl) (tg:=tg) hlt hsz hfew hwt hun hli with okc:=hok,ulen:=hl,ups:=hu,acyc:=hac,zbs:=λh=>hzb EC}
end
def J21(H:List Blk)(rw:List Nat)(cs:List Cls)(r:Res)(S':St):Prop:=
 (∃(f:Int×Int) (rw':List Nat),f.1≠0/\f=JbV cs (QD cs)/\Rx rw rw'/\r=.ret (.tup [.nilp,.agg (KF f.1 f.2)])/\S'=⟨H,rw'⟩) \/
 (∃(H':List Blk) (rw':List Nat) (n mb z zb:Nat) (tg tb:Tag) (U:List (List Nat)),JjU H H'/\H.length<=n/\Rx rw rw'/\TabU H' n mb cs z tg zb tb U (.int .u32 0) (.int .i32 0) (.int .u32 0) (.list 0 .full [])/\Jq8 cs U/\Few cs/\JbV cs (QD cs)=(0,0)/\r=.ret (.tup [.ptr n 0,.agg (KF 0 0)])/\S'=⟨H',rw'⟩)
def J22(q:Nat)(cs:List Cls):Prop:=(1<=q->Few cs)/\(2<=q->Unlike cs)/\(3<=q->YA cs)/\(4<=q->∀ i,i<cs.length->¬Up cs i i)
theorem E8{Q:Prop}(h:Q:=by rw[<- hE,hod,X5 Aa]):Q:=h
theorem E9{Q:Prop}(h:Q:=by rw[hod,Z4 Aa];rfl):Q:=h
theorem JuN(L:LibF pr F)(p:Prg)(hok:JqZ p)(hwt:wL V1 p.classes<=64800000)(hfew:p.classes.length<=8000)(H:List Blk)(rw:List Nat):Wp pr F 55 [.agg (JU p)] ⟨H,rw⟩ (J21 H rw p.classes):=by
 have hm:=L.hm;obtain⟨cs,mn⟩:=p;simp only at hwt hfew;have hokc:∀ c∈cs,Zk c:=hok;obtain⟨z,tg,hz,hz2,hz3⟩:=YM (sz:=9) (rows:=cs.map Jc);have hsz:cs≠[]->z=9:=λh=>hz2 EC;have hlc:(cs.map Jc).length=cs.length:=Ak _;have hbg:∀ c∈cs,c.above.length<=64800000:=λc hc=>by have h1:=Q3 V1 hc;have h2:=JfV c;omega
 obtain⟨R,hRd⟩:∃ R,R=Xa (JY (JfZ cs (QD cs)) 0 cs) (JY (Jfc cs (QD cs)) 0 cs):=⟨_,rfl⟩
 have hod0:JbV cs (QD cs)=JkA (JiL cs) (JlW cs) (JiQ cs) (Jhf cs) R 0:=by rw[hRd];rfl
 obtain⟨E,hE⟩:∃ E,E=JbV cs (QD cs):=⟨_,rfl⟩
 rw[<- hE]at hod0;refine Jt hm L.f55.1 L.f55.2 rfl ?_;refine Kt hm ?_;unfold JD4;show At pr F H.length (fin _ H.length _) _ _ _ _;refine Ku hm ?_;intro H1 hH1 hlen hlt;refine' KN;refine Kj (q:=H.length) rfl rfl (Kh hlt) ?_;simp only[JU,hz];refine' KN;refine Jq7 (q:=1) (M':=[.cells [.list z tg (cs.map Jc),Kp 7 (Jg mn)],.map []]) hlt rfl rfl rfl ?_;refine QJ ?_;refine g_q rfl (v:=.agg [.list z tg (cs.map Jc),.map (H1.length+1),.list 0 .full [],.int .u32 0,.int .i32 0,.int .u32 0,.list 0 .full []]) rfl ?_;refine Jnr (q:=2) (M':=[.cells [.list z tg (cs.map Jc),Kp 7 (Jg mn)],.map [],.cells [.list z tg (cs.map Jc),.map (H1.length+1),.list 0 .full [],.int .u32 0,.int .i32 0,.int .u32 0,.list 0 .full []]]) hlt rfl rfl rfl rfl rfl ?_;refine QJ ?_;refine' KN;refine JBq (q:=3) (M':=[.cells [.list z tg (cs.map Jc),Kp 7 (Jg mn)],.map [],.cells [.list z tg (cs.map Jc),.map (H1.length+1),.list 0 .full [],.int .u32 0,.int .i32 0,.int .u32 0,.list 0 .full []],.cells [.func 100 [.ptr (H1.length+2) 0] [],.func 101 [.ptr (H1.length+2) 0] [],.func 102 [.ptr (H1.length+2) 0] [],.func 103 [.ptr (H1.length+2) 0] []]]) hlt rfl rfl rfl rfl rfl ?_;refine QJ ?_;refine' KN;refine JB hm (λmm e S'=>∃(q:Nat) (J:List Blk) (rw':List Nat),S'=⟨hp H1 H.length (.cells [.int .i64 0,.int .i64 0]) (.cells [.list z tg (cs.map Jc),Kp 7 (Jg mn)]::.map (if q<2 then [] else VJ 0 cs)::.cells [.list z tg (cs.map Jc),.map (H1.length+1),.list 0 .full [],.int .u32 0,.int .i32 0,.int .u32 0,.list 0 .full []]::.cells [.func 100 [.ptr (H1.length+2) 0] [],.func 101 [.ptr (H1.length+2) 0] [],.func 102 [.ptr (H1.length+2) 0] [],.func 103 [.ptr (H1.length+2) 0] []]::J),rw'⟩/\q<=4/\J22 q cs/\E=JkA (JiL cs) (JlW cs) (JiQ cs) (Jhf cs) R q/\Rx rw rw'/\mm=4-q /\
  e=[(3,.ptr H.length 0),(4,.ptr (H1.length+2) 0),(25,.arr (H1.length+3) 0 1 4),(26,.int .i64 4),(27,.int .i64 q)]) ?_ (m:=4) ⟨0,[],rw,rfl,O,⟨λh=>O,λh=>O,λh=>O,λh=>O⟩,hod0,Rx.rfl,rfl,rfl⟩
 clear hod0;rintro mm e S' ⟨q,J,rw',rfl,hq4,hQ,hod,hR,rfl,rfl⟩;have hq5:q=0\/q=1\/q=2\/q=3\/q=4:=O;rcases hq5 with rfl |rfl |rfl |rfl |rfl
 ·
  refine' KN;refine JeR rfl rfl rfl rfl ?_;refine JXB L hlt hsz hfew hwt λf he hf=>?_;rw[JkA,<- he]at hod;refine QJ ?_;refine' KN
  ·exact Jdo hH1 rfl rfl (KA f.1 f.2) (.inl ⟨f,rw',Aa,E8,hR,rfl,rfl⟩)
  ·exact⟨3,O,1,_,rw',rfl,O,⟨λ_=>hf Aa,λh=>O,λh=>O,λh=>O⟩,E9,hR,rfl,rfl⟩
 ·
  refine' KN;refine JeR rfl rfl rfl rfl ?_;refine JBs L hlt hsz hfew hwt λf es' he hf=>?_;rw[JkA,<- he]at hod;refine QJ ?_;refine' KN
  ·exact Jdo hH1 rfl rfl (KA f.1 f.2) (.inl ⟨f,rw',Aa,E8,hR,rfl,rfl⟩)
  ·obtain⟨rfl,hu⟩:=hf Aa;exact⟨2,O,2,_,rw',rfl,O,⟨λ_=>hQ.1 O,λ_=>hu,λh=>O,λh=>O⟩,E9,hR,rfl,rfl⟩
 ·
  refine' KN;refine JeR rfl rfl rfl rfl ?_;refine JBt L hlt hsz hfew hwt hbg λf he hf=>?_;rw[JkA,<- he]at hod;refine QJ ?_;refine' KN
  ·exact Jdo hH1 rfl rfl (KA f.1 f.2) (.inl ⟨f,rw',Aa,E8,hR,rfl,rfl⟩)
  ·exact⟨1,O,3,_,rw',rfl,O,⟨λ_=>hQ.1 O,λ_=>hQ.2.1 O,λ_=>hf Aa,λh=>O⟩,E9,hR,rfl,rfl⟩
 ·
  refine' KN;refine JeR rfl rfl rfl rfl ?_;refine JuM L hlt hsz hfew hwt (hQ.2.1 O) (hQ.2.2.1 O) λf rw2 he hf hR2=>?_;rw[JkA,<- he]at hod;refine QJ ?_;refine' KN
  ·exact Jdo hH1 rfl rfl (KA f.1 f.2) (.inl ⟨f,rw2,Aa,E8,hR.trans hR2,rfl,rfl⟩)
  ·exact⟨0,O,4,_,rw2,rfl,O,⟨λ_=>hQ.1 O,λ_=>hQ.2.1 O,λ_=>hQ.2.2.1 O,λ_=>hf Aa⟩,E9,hR.trans hR2,rfl,rfl⟩
 ·
  obtain⟨hfw,hun,hli,hac⟩:=hQ;replace hfw:=hfw O;replace hun:=hun O;replace hli:=hli O;replace hac:=hac O;refine' KN;refine Je rfl rfl rfl ?_;refine JBu L hlt hsz hfew hwt hun hli hokc hac λU zb tb rw2 hR2 hT=>?_;have hU:U=QD cs:=JlY (hT []).ulen (hT []).ups;replace hod:E=Xa (JY (JfZ cs U) 0 cs) (JY (Jfc cs U) 0 cs):=by rw[hod,hRd,hU];rfl
  refine QJ ?_;replace hR:=hR.trans hR2;refine' KN;refine JB hm (λmm e S'=>∃(i:Nat) (J:List Blk) (rw':List Nat),S'=⟨hp H1 H.length (.cells [.int .i64 0,.int .i64 0]) (.cells [.list z tg (cs.map Jc),Kp 7 (Jg mn)]::.map (VJ 0 cs)::.cells [.list z tg (cs.map Jc),.map (H1.length+1),.list zb tb (U.map Vl),.int .u32 0,.int .i32 0,.int .u32 0,.list 0 .full []]::J),rw'⟩/\i<=cs.length/\Rx rw rw'/\E=Xa (JY (JfZ cs U) i (cs.drop i)) (JY (Jfc cs U) 0 cs)/\(∀ k c,k<i->cs[k]? = some c->JnO cs U k c)/\mm=cs.length-i /\
   e=[(3,.ptr H.length 0),(4,.ptr (H1.length+2) 0),(44,.int .i64 ((cs.map Jc).length:Int)),(45,.int .i64 i)]) ?_ (m:=cs.length) ⟨0,_,_,rfl,O,hR,hod,λk c h=>O,rfl,rfl⟩
  clear hR hR2 hod;clear rw2 J;rintro mm e S' ⟨i,J,rw',rfl,hi,hR,hod,hmem,rfl,rfl⟩;by_cases hi1:i<cs.length
  ·obtain⟨c,hc⟩:∃ c,cs[i]? = some c:=⟨_,Ab hi1⟩
   refine' KN;rw[QA hc]at hod;obtain⟨f,rw2,he,hf,hR2,hd⟩:=JnR L.toLibE (hT (J++[.cells [.int .i64 0,.int .i64 0]])) hc (rw:=rw');refine Je rfl rfl rfl ?_;refine Ks hd ?_;refine QJ ?_;refine' KN
   ·exact Jdo hH1 rfl rfl (KA f.1 f.2) (.inl ⟨f,rw2,Aa,by rw[<- hE,hod,<- he,X5 (by rw[X5 Aa];assumption),X5 Aa],hR.trans hR2,rfl,rfl⟩)
   ·refine⟨cs.length-(i+1),O,i+1,_,rw2,rfl,O,hR.trans hR2,by rw[hod,<- he,Z4 (a:=f) Aa],?_,rfl,rfl⟩;intro k d hk hd2;by_cases e2:k=i
    ·subst e2;rw[hc]at hd2;simp only[V]at hd2;subst hd2;exact hf Aa
    ·exact hmem k d O hd2
  ·rw[QR O,Vm]at hod;refine' KN;have hmem':∀ k c,cs[k]? = some c->JnO cs U k c:=λk c hk=>hmem k c (by have:=(Ac.1 hk).1;omega) hk;refine JB hm (λmm e S'=>∃(i:Nat) (J:List Blk) (rw':List Nat),S'=⟨hp H1 H.length (.cells [.int .i64 0,.int .i64 0]) (.cells [.list z tg (cs.map Jc),Kp 7 (Jg mn)]::.map (VJ 0 cs)::.cells [.list z tg (cs.map Jc),.map (H1.length+1),.list zb tb (U.map Vl),.int .u32 0,.int .i32 0,.int .u32 0,.list 0 .full []]::J),rw'⟩/\i<=cs.length/\Rx rw rw'/\E=JY (Jfc cs U) i (cs.drop i)/\(∀ k c,k<i->cs[k]? = some c->∀ a∈U.getD k [],JnS cs U c a)/\mm=cs.length-i /\
    e=[(3,.ptr H.length 0),(4,.ptr (H1.length+2) 0),(60,.int .i64 ((cs.map Jc).length:Int)),(61,.int .i64 i)]) ?_ (m:=cs.length) ⟨0,_,_,rfl,O,hR,hod,λk c h=>O,rfl,rfl⟩
   clear hR hmem hi1 hi hod;clear i rw' J;rintro mm e S' ⟨i,J,rw',rfl,hi,hR,hod,hful,rfl,rfl⟩;by_cases hi1:i<cs.length
   ·obtain⟨c,hc⟩:∃ c,cs[i]? = some c:=⟨_,Ab hi1⟩
    refine' KN;rw[QA hc]at hod;obtain⟨f,rw2,he,hf,hR2,hd⟩:=JnT L.toLibE (hT (J++[.cells [.int .i64 0,.int .i64 0]])) hc (rw:=rw');refine Je rfl rfl rfl ?_;refine Ks hd ?_;refine QJ ?_;refine' KN
    ·exact Jdo hH1 rfl rfl (KA f.1 f.2) (.inl ⟨f,rw2,Aa,by rw[<- hE,hod,<- he,X5 Aa],hR.trans hR2,rfl,rfl⟩)
    ·refine⟨cs.length-(i+1),O,i+1,_,rw2,rfl,O,hR.trans hR2,by rw[hod,<- he,Z4 Aa],?_,rfl,rfl⟩;intro k d hk hd2;by_cases e2:k=i
     ·subst e2;rw[hc]at hd2;simp only[V]at hd2;subst hd2;exact hf Aa
     ·exact hful k d O hd2
   ·refine' KN;exact JBr hH1 rfl rfl (KA 0 0) (.inr ⟨_,rw',_,_,z,zb,tg,tb,U,JF hH1 _ _,O,hR,hT _,λk c hk=>⟨hmem' k c hk,hful k c (by have:=(Ac.1 hk).1;omega) hk⟩,hfw,by rw[<- hE,hod,QR O],rfl,rfl⟩)
set_option maxRecDepth 100000
set_option maxHeartbeats 16000000
def JBv:{l:List IC // Tr.fn Tr.TT Tryz.f35 0 [[0,1,2],[0,2,7,8],[0,7,8,9,10],[6]]=l}:=⟨_,AO⟩
def JXC:IC:=pk JBv.1 0
def JXD:IC:=pk JBv.1 1
def JXE:IC:=pk JBv.1 2
def JXF:IC:=pk JBv.1 3
def i35:IFn:=⟨3,(.seq JXC (.seq JXD (.seq JXE (.seq JXF .ret)))),[.tmp 6]⟩
theorem c35:JK Tryz.prog Tryz.f35 i35=true:=Ae
def JXG:{l:List IC // Tr.fn Tr.TT Tryz.f69 0 [[0,1],[4]]=l}:=⟨_,AO⟩
def JXH:IC:=pk JXG.1 0
def JXI:IC:=pk JXG.1 1
def i69:IFn:=⟨2,(.seq JXH (.seq JXI .ret)),[.tmp 4]⟩
theorem c69:JK Tryz.prog Tryz.f69 i69=true:=Ae
def JgR:{l:List IC // Tr.fn Tr.TT Tryz.f111 0 [[0,1],[0,1,7,8],[0,1,7,8,9],[0,1,5,7,8],[0,1,5,7,8,16],[4],[0,1,7,8],[4]]=l}:=⟨_,AO⟩
def JNj:IC:=pk JgR.1 0
def JNk:IC:=pk JgR.1 1
def JNl:IC:=pk JgR.1 2
def JNm:IC:=pk JgR.1 3
def JNn:IC:=pk JgR.1 4
def JNo:IC:=pk JgR.1 5
def JNp:IC:=pk JgR.1 6
def JNq:IC:=pk JgR.1 7
def JNr:IFn:=⟨2,(.seq JNj (.seq (.seq JNk (.block 0 (.loop [0,1,7,8] (.seq JNl (.seq (.cond (.tmp 9) (.skip) (.exit 0)) (.seq (.block 1 (.seq JNm (.seq JNn (.cond (.tmp 16) (.seq JNo .ret) (.skip))))) JNp)))))) (.seq JNq .ret))),[.tmp 4]⟩
theorem J25:JK Tryz.prog Tryz.f111 JNr=true:=Ae
def F3a:{l:List IC // Tr.fn Tr.TT Tryz.f3 0 [[0],[0,20],[2],[0,3,4],[0,3,27],[2],[0,3,5],[0,3,5,32],[0,3,5,6],[0,3,5,6,7],[0,3,5,6,7,44],[0,3,5,6,7,61],[2],[0,3,5,6,7],[0,3,5,6,8],[0,3,5,6,8,66],[0,3,5,6,8,9],[0,3,5,6,8,93],[2],[0,3,5,6,8],[0,3,5],[3,10,11],[3,10,11,12],[3,10,11,12,107],[3,10,11,12,13],[3,10,11,12,13,14],[3,10,11,12,14,15,16]]=l}:=⟨_,AO⟩
def J26:IC:=pk F3a.1 0
def J27:IC:=pk F3a.1 1
def J28:IC:=pk F3a.1 2
def J29:IC:=pk F3a.1 3
def J3a:IC:=pk F3a.1 4
def J3b:IC:=pk F3a.1 5
def J3c:IC:=pk F3a.1 6
def J3d:IC:=pk F3a.1 7
def J3e:IC:=pk F3a.1 8
def J3f:IC:=pk F3a.1 9
def JXJ:IC:=pk F3a.1 10
def JXK:IC:=pk F3a.1 11
def JXL:IC:=pk F3a.1 12
def JXM:IC:=pk F3a.1 13
def JXN:IC:=pk F3a.1 14
def JXO:IC:=pk F3a.1 15
def JXP:IC:=pk F3a.1 16
def JXQ:IC:=pk F3a.1 17
def JXR:IC:=pk F3a.1 18
def JXS:IC:=pk F3a.1 19
def JXT:IC:=pk F3a.1 20
def JXU:IC:=pk F3a.1 21
def JXV:IC:=pk F3a.1 22
def JXW:IC:=pk F3a.1 23
def JXX:IC:=pk F3a.1 24
def JXY:IC:=pk F3a.1 25
def JXZ:IC:=pk F3a.1 26
def F3b:{l:List IC // Tr.fn Tr.TT Tryz.f3 27 [[3,10,11,12,15,16,17,18],[3,10,11,12,160],[2],[3,10,11,12],[2]]=l}:=⟨_,AO⟩
def JX1:IC:=pk F3b.1 0
def JX2:IC:=pk F3b.1 1
def JX3:IC:=pk F3b.1 2
def JX4:IC:=pk F3b.1 3
def JX5:IC:=pk F3b.1 4
def i3:IFn:=⟨1,(.seq J26 (.seq (.seq J27 (.cond (.tmp 20) (.seq J28 .ret) (.skip))) (.seq J29 (.seq (.seq J3a (.cond (.tmp 27) (.seq J3b .ret) (.skip))) (.seq (.seq J3c (.block 0 (.loop [0,3,5] (.seq (.seq J3d (.cond (.tmp 32) (.skip) (.exit 0))) (.seq (.block 1 (.seq J3e (.seq (.seq J3f (.block 2 (.loop [0,3,5,6,7] (.seq (.seq JXJ (.cond (.tmp 44) (.skip) (.exit 2))) (.seq (.block 3 (.seq JXK (.cond (.tmp 61) (.seq JXL .ret) (.skip)))) JXM))))) (.seq JXN (.block 4 (.loop [0,3,5,6,8] (.seq (.seq JXO (.cond (.tmp 66) (.skip) (.exit 4))) (.seq (.block 5 (.seq JXP (.seq JXQ (.cond (.tmp 93) (.seq JXR .ret) (.skip))))) JXS)))))))) JXT))))) (.seq JXU (.seq (.seq JXV (.block 6 (.loop [3,10,11,12] (.seq (.seq JXW (.cond (.tmp 107) (.skip) (.exit 6))) (.seq (.block 7 (.seq JXX (.seq JXY (.seq JXZ (.seq JX1 (.seq JX2 (.cond (.tmp 160) (.seq JX3 .ret) (.skip)))))))) JX4))))) (.seq JX5 .ret)))))))),[.tmp 2]⟩
theorem c3:JK Tryz.prog Tryz.f3 i3=true:=Ae
set_option maxRecDepth 100000
set_option maxHeartbeats 16000000
def F6a:{l:List IC // Tr.fn Tr.TT Tryz.f6 0 [[0],[0,16],[2],[3,4],[3,4,23],[2],[3,4,5],[3,4,5,30],[2],[3,4,5,6],[3,4,5,6,34],[3,4,5,6,7],[3,4,5,6,7,8],[3,4,5,6,7,8,9],[3,4,5,6,7,8,9,10],[3,4,5,6,7,8,9,10,49],[3,4,5,6,7,8,9,10,55],[3,4,5,6,7,8,9,10,71],[2],[3,4,5,6,7,8,9,10],[3,4,5,6,7,8,9,10,95],[2],[3,4,5,6,7,8,9,10],[3,4,5,6,8,9,11,12],[3,4,5,6,144],[2]]=l}:=⟨_,AO⟩
def J3g:IC:=pk F6a.1 0
def J3h:IC:=pk F6a.1 1
def J3i:IC:=pk F6a.1 2
def J3j:IC:=pk F6a.1 3
def J3k:IC:=pk F6a.1 4
def J3l:IC:=pk F6a.1 5
def J3m:IC:=pk F6a.1 6
def J3n:IC:=pk F6a.1 7
def J3o:IC:=pk F6a.1 8
def J3p:IC:=pk F6a.1 9
def JX6:IC:=pk F6a.1 10
def JX7:IC:=pk F6a.1 11
def JX8:IC:=pk F6a.1 12
def JX9:IC:=pk F6a.1 13
def JYa:IC:=pk F6a.1 14
def JYb:IC:=pk F6a.1 15
def JYc:IC:=pk F6a.1 16
def JYd:IC:=pk F6a.1 17
def JYe:IC:=pk F6a.1 18
def JYf:IC:=pk F6a.1 19
def JYg:IC:=pk F6a.1 20
def JYh:IC:=pk F6a.1 21
def JYi:IC:=pk F6a.1 22
def JYj:IC:=pk F6a.1 23
def JYk:IC:=pk F6a.1 24
def JYl:IC:=pk F6a.1 25
def F6b:{l:List IC // Tr.fn Tr.TT Tryz.f6 26 [[3,4,5,6],[3,14],[2]]=l}:=⟨_,AO⟩
def JYm:IC:=pk F6b.1 0
def JYn:IC:=pk F6b.1 1
def JYo:IC:=pk F6b.1 2
def i6:IFn:=⟨1,(.seq J3g (.seq (.seq J3h (.cond (.tmp 16) (.seq J3i .ret) (.skip))) (.seq J3j (.seq (.seq J3k (.cond (.tmp 23) (.seq J3l .ret) (.skip))) (.seq J3m (.seq (.seq J3n (.cond (.tmp 30) (.seq J3o .ret) (.skip))) (.seq (.seq J3p (.block 0 (.loop [3,4,5,6] (.seq (.seq JX6 (.cond (.tmp 34) (.skip) (.exit 0))) (.seq (.block 1 (.seq JX7 (.seq JX8 (.seq JX9 (.seq (.seq JYa (.block 2 (.loop [3,4,5,6,7,8,9,10] (.seq (.seq JYb (.cond (.tmp 49) (.skip) (.exit 2))) (.seq (.block 3 (.seq (.seq JYc (.cond (.tmp 55) (.seq (.seq JYd (.cond (.tmp 71) (.seq JYe .ret) (.skip))) JYf) (.skip))) (.seq JYg (.cond (.tmp 95) (.seq JYh .ret) (.skip))))) JYi))))) (.seq JYj (.seq JYk (.cond (.tmp 144) (.seq JYl .ret) (.skip))))))))) JYm))))) (.seq JYn (.seq JYo .ret))))))))),[.tmp 2]⟩
theorem c6:JK Tryz.prog Tryz.f6 i6=true:=Ae
def JnV:{l:List IC // Tr.fn Tr.TT Tryz.f23 0 [[0],[0,3],[3,9,10,11],[3,9,10,11,12],[3,5,9,10,11],[3,9,10,11],[3,9,10,11],[2]]=l}:=⟨_,AO⟩
def JYp:IC:=pk JnV.1 0
def JYq:IC:=pk JnV.1 1
def JYr:IC:=pk JnV.1 2
def JYs:IC:=pk JnV.1 3
def JYt:IC:=pk JnV.1 4
def JYu:IC:=pk JnV.1 5
def JYv:IC:=pk JnV.1 6
def JYw:IC:=pk JnV.1 7
def i23:IFn:=⟨1,(.seq JYp (.seq JYq (.seq (.seq JYr (.block 0 (.loop [3,9,10,11] (.seq JYs (.seq (.cond (.tmp 12) (.skip) (.exit 0)) (.seq (.block 1 (.seq JYt JYu)) JYv)))))) (.seq JYw .ret)))),[.tmp 2]⟩
theorem c23:JK Tryz.prog Tryz.f23 i23=true:=Ae
def Jhh:{l:List IC // Tr.fn Tr.TT Tryz.f33 0 [[0,1],[0,1,5],[0,5],[0,5,6],[0,5,6,18],[0,5,6,7],[0,5,6,7,24],[0,5,6,7,30],[0,5,6,7],[0,5,6,7],[0,5,6],[4]]=l}:=⟨_,AO⟩
def JYx:IC:=pk Jhh.1 0
def JYy:IC:=pk Jhh.1 1
def JYz:IC:=pk Jhh.1 2
def JYA:IC:=pk Jhh.1 3
def JYB:IC:=pk Jhh.1 4
def JYC:IC:=pk Jhh.1 5
def JYD:IC:=pk Jhh.1 6
def JYE:IC:=pk Jhh.1 7
def JYF:IC:=pk Jhh.1 8
def JYG:IC:=pk Jhh.1 9
def JNs:IC:=pk Jhh.1 10
def JNt:IC:=pk Jhh.1 11
def i33:IFn:=⟨2,(.seq JYx (.seq JYy (.seq JYz (.seq (.seq JYA (.block 0 (.loop [0,5,6] (.seq (.seq JYB (.cond (.tmp 18) (.skip) (.exit 0))) (.seq (.block 1 (.seq JYC (.block 2 (.loop [0,5,6,7] (.seq (.seq JYD (.cond (.tmp 24) (.skip) (.exit 2))) (.seq (.block 3 (.seq JYE (.cond (.tmp 30) JYF (.skip)))) JYG)))))) JNs))))) (.seq JNt .ret))))),[.tmp 4]⟩
theorem c33:JK Tryz.prog Tryz.f33 i33=true:=Ae
def Ji8:{l:List IC // Tr.fn Tr.TT Tryz.f34 0 [[0,1],[0,5,6],[0,5,20],[4],[0,5,7],[0,7,27,28,29],[0,7,27,28,29,30],[0,7,9,27,28,29],[0,7,27,28,29],[0,7,27,28,29],[4]]=l}:=⟨_,AO⟩
def JYH:IC:=pk Ji8.1 0
def JYI:IC:=pk Ji8.1 1
def JYJ:IC:=pk Ji8.1 2
def JYK:IC:=pk Ji8.1 3
def JYL:IC:=pk Ji8.1 4
def JYM:IC:=pk Ji8.1 5
def JYN:IC:=pk Ji8.1 6
def JYO:IC:=pk Ji8.1 7
def JYP:IC:=pk Ji8.1 8
def JYQ:IC:=pk Ji8.1 9
def JNu:IC:=pk Ji8.1 10
def i34:IFn:=⟨2,(.seq JYH (.seq JYI (.seq (.seq JYJ (.cond (.tmp 20) (.seq JYK .ret) (.skip))) (.seq JYL (.seq (.seq JYM (.block 0 (.loop [0,7,27,28,29] (.seq JYN (.seq (.cond (.tmp 30) (.skip) (.exit 0)) (.seq (.block 1 (.seq JYO JYP)) JYQ)))))) (.seq JNu .ret)))))),[.tmp 4]⟩
theorem c34:JK Tryz.prog Tryz.f34 i34=true:=Ae
def JuO:{l:List IC // Tr.fn Tr.TT Tryz.f36 0 [[0,1,4],[0,4,6,7],[0,4,6,18],[4,5],[4,5]]=l}:=⟨_,AO⟩
def JD8:IC:=pk JuO.1 0
def JYR:IC:=pk JuO.1 1
def JYS:IC:=pk JuO.1 2
def JYT:IC:=pk JuO.1 3
def JYU:IC:=pk JuO.1 4
def i36:IFn:=⟨2,(.seq JD8 (.seq JYR (.seq (.seq JYS (.cond (.tmp 18) (.seq JYT .ret) (.skip))) (.seq JYU .ret)))),[.cell 4 (some 9),.tmp 5]⟩
theorem c36:JK Tryz.prog Tryz.f36 i36=true:=Ae
def JlZ:{l:List IC // Tr.fn Tr.TT Tryz.f68 0 [[0,1,2,6],[0,1,2,6,25],[0,1,2],[0,1,2,7],[0,1,2,7,36],[0,1,2,7,8],[0,1,2,7,8,50],[0,1,2,7],[0,1,2,7]]=l}:=⟨_,AO⟩
def JYV:IC:=pk JlZ.1 0
def JYW:IC:=pk JlZ.1 1
def JYX:IC:=pk JlZ.1 2
def JYY:IC:=pk JlZ.1 3
def JYZ:IC:=pk JlZ.1 4
def JY0:IC:=pk JlZ.1 5
def JY1:IC:=pk JlZ.1 6
def JY2:IC:=pk JlZ.1 7
def JY3:IC:=pk JlZ.1 8
def i68:IFn:=⟨3,(.seq (.seq JYV (.seq JYW (.cond (.tmp 25) JYX (.skip)))) (.seq JYY (.block 0 (.loop [0,1,2,7] (.seq (.seq JYZ (.cond (.tmp 36) (.skip) (.exit 0))) (.seq (.block 1 (.seq JY0 (.seq JY1 (.cond (.tmp 50) JY2 (.skip))))) JY3)))))),[]⟩
theorem c68:JK Tryz.prog Tryz.f68 i68=true:=Ae
structure LibG(pr:Jz)(F:Nat->Option IFn):Prop extends LibF pr F where
 f23:QG pr F 23 i23
 f33:QG pr F 33 i33
 f34:QG pr F 34 i34
 f35:QG pr F 35 i35
 f36:QG pr F 36 i36
 f68:QG pr F 68 i68
 f69:QG pr F 69 i69
 f111:QG pr F 111 JNr
def Jl0(k:Nat):Nat->List Nat->Int
 | _,[]=>-1
 | p,x::l=>if x=k then(p:Int)else Jl0 k (p+1) l
theorem JsJ{k:Nat}{l:List Nat}{q x:Nat}(h:l[q]? = some x):Jl0 k q (l.drop q)=if x=k then(q:Int)else Jl0 k (q+1) (l.drop (q+1)):=ES
theorem JnW{k:Nat}:∀{l:List Nat} {p:Nat},0<=Jl0 k p l↔k∈l
 | [],p=>by simp[Jl0]
 | x::l,p=>by
  unfold Jl0;split
  ·rename_i h;subst h;simp
  ·rename_i h;rw[JnW];simp[Ne.symm h]
theorem Fa{Q:Prop}(h:Q:=by rw[hne];rfl):Q:=h
theorem JBw(L:LibG pr F){v:AV}{l:List Nat}(hv:IsL 1 v (Ki l))(hl:l.length<=8000)(k:Nat):TxOk pr F 111 [v,.int .i64 k] (.int .i64 (Jl0 k 0 l)):=by
 have hm:=L.hm;obtain⟨z,tg,rfl,hz,-⟩:=hv;have hll:(Ki l).length=l.length:=QS l;refine TxOk.of0 hm L.f111.1 L.f111.2 rfl ?_;intro H rw b hlt;have hR:Rx rw rw:=Rx.rfl;refine' KN;refine JB hm (λmm e S'=>∃ q:Nat,S'=⟨hp H 0 b [],rw⟩/\q<=l.length/\Jl0 k 0 l=Jl0 k q (l.drop q)/\mm=l.length-q/\e=[(0,.list z tg (Ki l)),(1,.int .i64 k),(7,.int .i64 ((Ki l).length:Int)),(8,.int .i64 q)]) ?_ (m:=l.length) ⟨0,rfl,O,rfl,rfl,rfl⟩;rintro mm e S' ⟨q,rfl,hq0,hne,rfl,rfl⟩;by_cases hq1:q<l.length
 ·obtain⟨x,hx⟩:∃ x,l[q]? = some x:=⟨_,Ab hq1⟩
  have hxr:=ZI hx;have hz1:z=1:=hz EU;subst hz1;rw[JsJ hx]at hne;refine' KN
  ·have e1:x=k:=by omega
   exact Js rfl rfl (JR hlt) ⟨_,hR,by rw[hne,if_pos e1],rfl⟩
  ·have e1:¬x=k:=by omega
   rw[if_neg e1]at hne;exact⟨l.length-(q+1),O,q+1,rfl,O,hne,rfl,rfl⟩
 ·refine' KN;rw[AU O]at hne;exact Js rfl rfl (JR hlt) ⟨_,hR,Fa,rfl⟩
theorem JnX(L:LibG pr F){v:AV}{l:List Nat}(hv:IsL 1 v (Ki l))(hl:l.length<=8000)(k:Nat):TxOk pr F 69 [v,.int .i64 k] (.bool (decide (k∈l))):=by
 have hm:=L.hm;refine TxOk.of0 hm L.f69.1 L.f69.2 rfl ?_;intro H rw b hlt;have hR:Rx rw rw:=Rx.rfl;have htx:=JBw L hv hl k;have hmem:=JnW (k:=k) (l:=l) (p:=0);refine' KN
 ·exact Js rfl rfl (JR hlt) ⟨_,hR,by rw[decide_eq_true (hmem.1 O)],rfl⟩
 ·exact Js rfl rfl (JR hlt) ⟨_,hR,by rw[decide_eq_false (λh=>by have:=hmem.2 h;omega)],rfl⟩
def Yi(cs:List Cls)(U:List (List Nat))(s t:Jk):Bool:=match J6 cs s,J6 cs t with
 | some i,some k=>decide (i=k) || decide (k∈U.getD i [])
 | _,_=>false
theorem JsK(l:List Nat):IsL 1 (Kp 1 (Ki l)) (Ki l):=YM
theorem JkB(L:LibG pr F){H:List Blk}{rw:List Nat}{n mb z zb:Nat}{tg tb:Tag}{cs:List Cls}{U:List (List Nat)}{o1 o2 o3 sl:AV}(T:TabU H n mb cs z tg zb tb U o1 o2 o3 sl)(s t:Jk) :
  ∃ rw',Rx rw rw'/\Det pr F 35 [.ptr n 0,.str s,.str t] ⟨H,rw⟩ (.ret (.bool (Yi cs U s t))) ⟨H,rw'⟩:=by
 have hm:=L.hm;suffices h:Wp pr F 35 [.ptr n 0,.str s,.str t] ⟨H,rw⟩ λr S'=>∃ rw',Rx rw rw'/\r=.ret (.bool (Yi cs U s t))/\S'=⟨H,rw'⟩ by obtain⟨r,S',hd,rw',h1,rfl,rfl⟩:=h.det hm;exact⟨rw',h1,hd⟩
 have hlt:n<H.length:=(Ac.1 T.at_).1;have hne:n≠mb:=EO
 have hFm:=ZG hne T.mp;have hfew:=T.few;have hlm:(cs.map Jc).length=cs.length:=Ak _;have hul:=T.ulen;have hul2:(U.map Vl).length=cs.length:=EX
 have hR:Rx rw rw:=Rx.rfl;have hzb:U≠[]->zb=1:=T.zbs;refine Kw hm L.f35.1 L.f35.2 rfl (Xi T.at_) ?_;refine' KN
 ·rename_i k0 c0 h0 h1 h2 h3;refine Js rfl rfl (JR hlt) ⟨_,hR,?_,QP T.at_⟩;rw[Yi,h0,hkq];simp only[decide_eq_true (show k0=kq by omega),Df]
 ·rename_i k0 c0 h0 h1 h2 h3;obtain⟨uk,huk⟩:∃ uk,U[k0]? = some uk:=⟨_,Ab O⟩
  have hur:=Jbm huk;have hb:zb=1:=hzb (by intro h;rw[h]at huk;simp at huk);subst hb;obtain⟨bs,hbsl,hbsu,hui2⟩:=T.ups k0 uk huk;have hun2:uk.length<=cs.length:=EY
  have htx:=JnX L (JsK uk) O kq;have hbf:Yi cs U s t=decide (kq∈uk):=by rw[Yi,h0,hkq];simp only[decide_eq_false (show ¬k0=kq by omega),B3];rw[A4,huk];rfl
  refine' KN;exact Js rfl rfl (JR hlt) ⟨_,hR,by rw[hbf],QP T.at_⟩
 ·rename_i h0;exact Js rfl rfl (JR hlt) ⟨_,hR,by rw[Yi,h0,hkq],QP T.at_⟩
 ·rename_i h0;exact Js rfl rfl (JR hlt) ⟨_,hR,by rw[Yi,h0,hkq],QP T.at_⟩
 ·rename_i h0;exact Js rfl rfl (JR hlt) ⟨_,hR,by rw[Yi,h0,hkq],QP T.at_⟩
set_option maxRecDepth 100000
set_option maxHeartbeats 16000000
def Jf1:{l:List IC // Tr.fn Tr.TT Tryz.f37 0 [[0,1],[0,1,5],[0,5,13,14,15],[0,5,13,14,15,16],[0,5,7,13,14,15],[0,5,7,13,14,15,26,27,28],[0,5,7,13,14,15,26,27,28,29],[0,5,7,9,13,14,15,26,27,28],[0,5,7,9,10,13,14,15,26,27,28],[0,5,7,9,10,13,14,15,26,27,28,40],[0,5,7,13,14,15,26,27,28],[0,5,7,13,14,15,26,27,28],[0,5,13,14,15],[5],[4]]=l}:=⟨_,AO⟩
def JuP:IC:=pk Jf1.1 0
def JuQ:IC:=pk Jf1.1 1
def JD9:IC:=pk Jf1.1 2
def JEa:IC:=pk Jf1.1 3
def JEb:IC:=pk Jf1.1 4
def JEc:IC:=pk Jf1.1 5
def JEd:IC:=pk Jf1.1 6
def JEe:IC:=pk Jf1.1 7
def JEf:IC:=pk Jf1.1 8
def JEg:IC:=pk Jf1.1 9
def JuR:IC:=pk Jf1.1 10
def JuS:IC:=pk Jf1.1 11
def JuT:IC:=pk Jf1.1 12
def Jbn:{l:List IC // Tr.fn Tr.TT Tryz.f38 0 [[0,1,2],[0,1,2,8],[0,1,2,8,18],[6,7],[0,2,8,9],[0,2,8,9,26],[0,2,8,10],[0,2,9,10],[0,2,9,10,11],[0,2,9,10,11,35],[0,2,9,10,11,41],[0,2,9,10,11],[0,2,9,10,11],[0,2,9,12],[0,2,9,12,49],[0,2,9,12,13],[0,2,9,12,13,62],[6,7],[0,2,9,12],[6,7]]=l}:=⟨_,AO⟩
def JY4:IC:=pk Jbn.1 0
def JY5:IC:=pk Jbn.1 1
def JY6:IC:=pk Jbn.1 2
def JY7:IC:=pk Jbn.1 3
def JY8:IC:=pk Jbn.1 4
def JY9:IC:=pk Jbn.1 5
def JZa:IC:=pk Jbn.1 6
def JZb:IC:=pk Jbn.1 7
def JZc:IC:=pk Jbn.1 8
def JZd:IC:=pk Jbn.1 9
def JNv:IC:=pk Jbn.1 10
def JNw:IC:=pk Jbn.1 11
def JNx:IC:=pk Jbn.1 12
def JNy:IC:=pk Jbn.1 13
def JNz:IC:=pk Jbn.1 14
def JNA:IC:=pk Jbn.1 15
def JNB:IC:=pk Jbn.1 16
def JNC:IC:=pk Jbn.1 17
def JND:IC:=pk Jbn.1 18
def JNE:IC:=pk Jbn.1 19
def i38:IFn:=⟨3,(.seq JY4 (.seq JY5 (.seq (.seq JY6 (.cond (.tmp 18) (.seq JY7 .ret) (.skip))) (.seq JY8 (.seq (.seq JY9 (.cond (.tmp 26) (.seq JZa (.seq JZb (.seq JZc (.block 0 (.loop [0,2,9,10,11] (.seq (.seq JZd (.cond (.tmp 35) (.skip) (.exit 0))) (.seq (.block 1 (.seq JNv (.cond (.tmp 41) JNw (.skip)))) JNx))))))) (.skip))) (.seq (.seq JNy (.block 2 (.loop [0,2,9,12] (.seq (.seq JNz (.cond (.tmp 49) (.skip) (.exit 2))) (.seq (.block 3 (.seq JNA (.seq JNB (.cond (.tmp 62) (.seq JNC .ret) (.skip))))) JND))))) (.seq JNE .ret))))))),[.tmp 6,.tmp 7]⟩
theorem c38:JK Tryz.prog Tryz.f38 i38=true:=Ae
def Jl1:{l:List IC // Tr.fn Tr.TT Tryz.f39 0 [[0,1,2],[0,1,2,7],[2,7,12,13,14],[2,7,12,13,14,15],[2,7,9,12,13,14],[2,7,9,12,13,14,22],[2,7,12,13,14],[2,7,12,13,14],[6]]=l}:=⟨_,AO⟩
def JZe:IC:=pk Jl1.1 0
def JZf:IC:=pk Jl1.1 1
def JZg:IC:=pk Jl1.1 2
def JZh:IC:=pk Jl1.1 3
def JZi:IC:=pk Jl1.1 4
def JZj:IC:=pk Jl1.1 5
def JZk:IC:=pk Jl1.1 6
def JZl:IC:=pk Jl1.1 7
def JZm:IC:=pk Jl1.1 8
def i39:IFn:=⟨3,(.seq JZe (.seq JZf (.seq (.seq JZg (.block 0 (.loop [2,7,12,13,14] (.seq JZh (.seq (.cond (.tmp 15) (.skip) (.exit 0)) (.seq (.block 1 (.seq JZi (.seq JZj (.cond (.tmp 22) JZk (.skip))))) JZl)))))) (.seq JZm .ret)))),[.tmp 6]⟩
theorem c39:JK Tryz.prog Tryz.f39 i39=true:=Ae
def JZn:{l:List IC // Tr.fn Tr.TT Tryz.f70 0 [[0,1],[4]]=l}:=⟨_,AO⟩
def JZo:IC:=pk JZn.1 0
def JZp:IC:=pk JZn.1 1
def i70:IFn:=⟨2,(.seq JZo (.seq JZp .ret)),[.tmp 4]⟩
theorem c70:JK Tryz.prog Tryz.f70 i70=true:=Ae
def JZq:{l:List IC // Tr.fn Tr.TT Tryz.f71 0 [[1,2],[3]]=l}:=⟨_,AO⟩
def JEh:IC:=pk JZq.1 0
def JZr:IC:=pk JZq.1 1
def i71:IFn:=⟨2,(.seq JEh (.seq JZr .ret)),[.tmp 3]⟩
theorem c71:JK Tryz.prog Tryz.f71 i71=true:=Ae
def JpH:{l:List IC // Tr.fn Tr.TT Tryz.f75 0 [[1,2],[1,2,5],[1,2,5,10],[1,2,5,27],[4],[1,2,5],[4]]=l}:=⟨_,AO⟩
def JZs:IC:=pk JpH.1 0
def JZt:IC:=pk JpH.1 1
def JZu:IC:=pk JpH.1 2
def JZv:IC:=pk JpH.1 3
def JZw:IC:=pk JpH.1 4
def JZx:IC:=pk JpH.1 5
def JZy:IC:=pk JpH.1 6
def i75:IFn:=⟨2,(.seq JZs (.seq (.seq JZt (.block 0 (.loop [1,2,5] (.seq (.seq JZu (.cond (.tmp 10) (.skip) (.exit 0))) (.seq (.block 1 (.seq JZv (.cond (.tmp 27) (.seq JZw .ret) (.skip)))) JZx))))) (.seq JZy .ret))),[.tmp 4]⟩
theorem c75:JK Tryz.prog Tryz.f75 i75=true:=Ae
def JgT:{l:List IC // Tr.fn Tr.TT Tryz.f112 0 [[0,1],[0,1,7,8],[0,1,7,8,9],[0,1,5,7,8],[0,1,5,7,8,16],[4],[0,1,7,8],[4]]=l}:=⟨_,AO⟩
def JNF:IC:=pk JgT.1 0
def JNG:IC:=pk JgT.1 1
def JNH:IC:=pk JgT.1 2
def JNI:IC:=pk JgT.1 3
def JNJ:IC:=pk JgT.1 4
def JNK:IC:=pk JgT.1 5
def JNL:IC:=pk JgT.1 6
def JNM:IC:=pk JgT.1 7
def JNN:IFn:=⟨2,(.seq JNF (.seq (.seq JNG (.block 0 (.loop [0,1,7,8] (.seq JNH (.seq (.cond (.tmp 9) (.skip) (.exit 0)) (.seq (.block 1 (.seq JNI (.seq JNJ (.cond (.tmp 16) (.seq JNK .ret) (.skip))))) JNL)))))) (.seq JNM .ret))),[.tmp 4]⟩
theorem J3B:JK Tryz.prog Tryz.f112 JNN=true:=Ae
def F7a:{l:List IC // Tr.fn Tr.TT Tryz.f7 0 [[0,1],[0,1,21],[4],[1,5,6],[1,5,6,28],[4],[1,5,6,7],[1,5,6,7,8],[1,5,6,7,8,34],[1,5,6,7,8,9],[1,5,6,7,8,9,10],[1,5,6,7,8,9,10,11],[1,5,6,7,8,9,10,11,47],[1,5,6,7,8,9,10,11,12,13],[1,5,6,7,8,9,10,11,12,13,14,15],[1,5,6,7,8,9,10,11,12,13,14,15,81],[4],[1,5,6,7,8,9,10,11,12,13,14,83],[1,5,6,7,8,9,10,11,14,115],[4],[1,5,6,7,8,9,10,11,153],[4]]=l}:=⟨_,AO⟩
def J3C:IC:=pk F7a.1 0
def J3D:IC:=pk F7a.1 1
def J3E:IC:=pk F7a.1 2
def J3F:IC:=pk F7a.1 3
def J3G:IC:=pk F7a.1 4
def J3H:IC:=pk F7a.1 5
def J3I:IC:=pk F7a.1 6
def J3J:IC:=pk F7a.1 7
def J3K:IC:=pk F7a.1 8
def J3L:IC:=pk F7a.1 9
def JZz:IC:=pk F7a.1 10
def JZA:IC:=pk F7a.1 11
def JZB:IC:=pk F7a.1 12
def JZC:IC:=pk F7a.1 13
def JZD:IC:=pk F7a.1 14
def JZE:IC:=pk F7a.1 15
def JZF:IC:=pk F7a.1 16
def JZG:IC:=pk F7a.1 17
def JZH:IC:=pk F7a.1 18
def JZI:IC:=pk F7a.1 19
def JZJ:IC:=pk F7a.1 20
def JZK:IC:=pk F7a.1 21
def F7b:{l:List IC // Tr.fn Tr.TT Tryz.f7 22 [[1,5,6,7,8,9,10,11],[1,5,6,7,8,9,10,11],[1,5,6,7,8,9,10,17],[1,5,6,7,8,9,10,17,18],[1,5,6,7,8,187],[4],[1,5,6,7,8],[4]]=l}:=⟨_,AO⟩
def JZL:IC:=pk F7b.1 0
def JZM:IC:=pk F7b.1 1
def JZN:IC:=pk F7b.1 2
def JZO:IC:=pk F7b.1 3
def JZP:IC:=pk F7b.1 4
def JZQ:IC:=pk F7b.1 5
def JZR:IC:=pk F7b.1 6
def JZS:IC:=pk F7b.1 7
def i7:IFn:=⟨2,(.seq J3C (.seq (.seq J3D (.cond (.tmp 21) (.seq J3E .ret) (.skip))) (.seq J3F (.seq (.seq J3G (.cond (.tmp 28) (.seq J3H .ret) (.skip))) (.seq J3I (.seq (.seq J3J (.block 0 (.loop [1,5,6,7,8] (.seq (.seq J3K (.cond (.tmp 34) (.skip) (.exit 0))) (.seq (.block 1 (.seq J3L (.seq JZz (.seq (.seq JZA (.block 2 (.loop [1,5,6,7,8,9,10,11] (.seq (.seq JZB (.cond (.tmp 47) (.skip) (.exit 2))) (.seq (.block 3 (.seq JZC (.seq JZD (.seq (.seq JZE (.cond (.tmp 81) (.seq JZF .ret) (.skip))) (.seq (.seq JZG (.cond (.tmp 83) (.exit 3) (.skip))) (.seq (.seq JZH (.cond (.tmp 115) (.seq JZI .ret) (.skip))) (.seq (.seq JZJ (.cond (.tmp 153) (.seq JZK .ret) (.skip))) JZL))))))) JZM))))) (.seq JZN (.seq JZO (.seq JZP (.cond (.tmp 187) (.seq JZQ .ret) (.skip))))))))) JZR))))) (.seq JZS .ret))))))),[.tmp 4]⟩
theorem c7:JK Tryz.prog Tryz.f7 i7=true:=Ae
def F8a:{l:List IC // Tr.fn Tr.TT Tryz.f8 0 [[0,1],[0,1,19],[4],[1,5,6],[1,5,6,26],[4],[1,5,6,7],[1,5,6,7,30],[1,5,6,7,8],[1,5,6,7,8,9],[1,5,6,7,8,9,43],[1,5,6,7,8,9,10],[1,5,6,7,8,9,10,11],[1,5,6,7,8,9,10,11,55],[1,5,6,7,8,9,10,11,12,13],[1,5,6,7,8,9,10,11,88],[4],[1,5,6,7,8,9,10,11],[1,5,6,7,8,9],[1,5,6,7,14],[1,5,6,7,14,15,16],[1,5,6,7,14,15,16,17],[1,5,6,7,14,15,16,17,107],[1,5,6,7,14,15,16,17,117],[1,5,6,7,14,15,16,17,134],[4],[1,5,6,7,14,15,16,17],[1,5,6,7,14,15,16,17],[1,5,6,7,140],[4],[1,5,6,7],[4]]=l}:=⟨_,AO⟩
def J3M:IC:=pk F8a.1 0
def J3N:IC:=pk F8a.1 1
def J3O:IC:=pk F8a.1 2
def J3P:IC:=pk F8a.1 3
def J3Q:IC:=pk F8a.1 4
def J3R:IC:=pk F8a.1 5
def J3S:IC:=pk F8a.1 6
def J3T:IC:=pk F8a.1 7
def J3U:IC:=pk F8a.1 8
def J3V:IC:=pk F8a.1 9
def JZT:IC:=pk F8a.1 10
def JZU:IC:=pk F8a.1 11
def JZV:IC:=pk F8a.1 12
def JZW:IC:=pk F8a.1 13
def JZX:IC:=pk F8a.1 14
def JZY:IC:=pk F8a.1 15
def JZZ:IC:=pk F8a.1 16
def JZ0:IC:=pk F8a.1 17
def JZ1:IC:=pk F8a.1 18
def JZ2:IC:=pk F8a.1 19
def JZ3:IC:=pk F8a.1 20
def JZ4:IC:=pk F8a.1 21
def JZ5:IC:=pk F8a.1 22
def JZ6:IC:=pk F8a.1 23
def JZ7:IC:=pk F8a.1 24
def JZ8:IC:=pk F8a.1 25
def JZ9:IC:=pk F8a.1 26
def J0a:IC:=pk F8a.1 27
def J0b:IC:=pk F8a.1 28
def J0c:IC:=pk F8a.1 29
def J0d:IC:=pk F8a.1 30
def J0e:IC:=pk F8a.1 31
def i8:IFn:=⟨2,(.seq J3M (.seq (.seq J3N (.cond (.tmp 19) (.seq J3O .ret) (.skip))) (.seq J3P (.seq (.seq J3Q (.cond (.tmp 26) (.seq J3R .ret) (.skip))) (.seq (.seq J3S (.block 0 (.loop [1,5,6,7] (.seq (.seq J3T (.cond (.tmp 30) (.skip) (.exit 0))) (.seq (.block 1 (.seq J3U (.seq (.seq J3V (.block 2 (.loop [1,5,6,7,8,9] (.seq (.seq JZT (.cond (.tmp 43) (.skip) (.exit 2))) (.seq (.block 3 (.seq JZU (.seq JZV (.block 4 (.loop [1,5,6,7,8,9,10,11] (.seq (.seq JZW (.cond (.tmp 55) (.skip) (.exit 4))) (.seq (.block 5 (.seq JZX (.seq JZY (.cond (.tmp 88) (.seq JZZ .ret) (.skip))))) JZ0))))))) JZ1))))) (.seq JZ2 (.seq JZ3 (.seq (.seq JZ4 (.block 6 (.loop [1,5,6,7,14,15,16,17] (.seq (.seq JZ5 (.cond (.tmp 107) (.skip) (.exit 6))) (.seq (.block 7 (.seq JZ6 (.cond (.tmp 117) (.seq (.seq JZ7 (.cond (.tmp 134) (.seq JZ8 .ret) (.skip))) JZ9) (.skip)))) J0a))))) (.seq J0b (.cond (.tmp 140) (.seq J0c .ret) (.skip))))))))) J0d))))) (.seq J0e .ret)))))),[.tmp 4]⟩
theorem c8:JK Tryz.prog Tryz.f8 i8=true:=Ae
structure LibM(pr:Jz)(F:Nat->Option IFn):Prop extends LibG pr F where
 f38:QG pr F 38 i38
 f39:QG pr F 39 i39
 f70:QG pr F 70 i70
 f71:QG pr F 71 i71
 f75:QG pr F 75 i75
 f112:QG pr F 112 JNN
theorem JuU(L:LibM pr F){H:List Blk}{rw:List Nat}{x:Nat}{sig:Jk}(hx:H[x]? = some (.cells [.str sig]))(s o:Jk)(m:Mth) :
  Det pr F 71 [.agg (KK s o m),.ptr x 0] ⟨H,rw⟩ (.ret (.bool (s == sig))) ⟨H,rw⟩:=by
 have hm:=L.hm;suffices h:Wp pr F 71 [.agg (KK s o m),.ptr x 0] ⟨H,rw⟩ λr S'=>r=.ret (.bool (s == sig))/\S'=⟨H,rw⟩ by obtain⟨r,S',hd,rfl,rfl⟩:=h.det hm;exact hd
 refine Jt hm L.f71.1 L.f71.2 rfl ?_;refine Kt hm ?_;unfold JEh;show At pr F H.length (fin _ H.length _) _ _ _ _;refine YB hm rfl ?_;intro H1 hH1 hlen hlt;have hF:=J1 hH1 hx;obtain⟨mn,mp,⟨k1,t1,u1,e1,p1,a1⟩,bd,ab,at1⟩:=m;refine' KN
 ·subst hH1;exact Js rfl rfl JZ ⟨by rw[hq];simp,rfl⟩
 ·subst hH1;exact Js rfl rfl JZ ⟨by rw[beq_eq_false_iff_ne.2 hq],rfl⟩
def Ko(l:List (Jk×Jk×Mth)):List (List AV):=l.map λx=>KK x.1 x.2.1 x.2.2
def JdC(sig:Jk):Nat->List (Jk×Jk×Mth)->Int
 | _,[]=>-1
 | p,x::l=>if x.1=sig then(p:Int)else JdC sig (p+1) l
theorem JsL{sig:Jk}{l:List (Jk×Jk×Mth)}{q:Nat}{x:Jk×Jk×Mth}(h:l[q]? = some x):JdC sig q (l.drop q)=if x.1=sig then(q:Int)else JdC sig (q+1) (l.drop (q+1)):=ES
theorem Jfd{sig:Jk}:∀{l:List (Jk×Jk×Mth)} {p:Nat},0<=JdC sig p l↔∃ x∈l,x.1=sig
 | [],p=>by simp[JdC]
 | x::l,p=>by
  unfold JdC;split
  ·rename_i h;simp[h]
  ·rename_i h;rw[Jfd];simp[h]
theorem Vc(l:List (Jk×Jk×Mth)):(Ko l).length=l.length:=Ak _
theorem ZR{l:List (Jk×Jk×Mth)}{q:Nat}{x:Jk×Jk×Mth}(h:l[q]? = some x):(Ko l)[q]? = some (KK x.1 x.2.1 x.2.2):=by unfold Ko;rw[Ax,h];rfl
theorem JpI(L:LibM pr F){H:List Blk}{rw:List Nat}{x:Nat}{sig:Jk}(hx:H[x]? = some (.cells [.str sig])){v:AV}{l:List (Jk×Jk×Mth)}(hv:IsL 13 v (Ko l))(hl:l.length<=1000000) :
  Det pr F 112 [v,.func 71 [] [.ptr x 0]] ⟨H,rw⟩ (.ret (.int .i64 (JdC sig 0 l))) ⟨H,rw⟩:=by
 have hm:=L.hm;obtain⟨z,tg,rfl,hz,-⟩:=hv;have hll:=Vc l;suffices h:Wp pr F 112 [.list z tg (Ko l),.func 71 [] [.ptr x 0]] ⟨H,rw⟩ λr S'=>r=.ret (.int .i64 (JdC sig 0 l))/\S'=⟨H,rw⟩ by obtain⟨r,S',hd,rfl,rfl⟩:=h.det hm;exact hd
 have hxl:x<H.length:=(Ac.1 hx).1;refine Kw hm L.f112.1 L.f112.2 rfl (Xi hx) ?_;refine' KN;refine JB hm (λmm e S'=>∃ q:Nat,S'=⟨hp H x (.cells [.str sig]) [],rw⟩/\q<=l.length/\JdC sig 0 l=JdC sig q (l.drop q)/\mm=l.length-q/\e=[(0,.list z tg (Ko l)),(1,.func 71 [] [.ptr x 0]),(7,.int .i64 ((Ko l).length:Int)),(8,.int .i64 q)]) ?_ (m:=l.length) ⟨0,rfl,O,rfl,rfl,rfl⟩;rintro mm e S' ⟨q,rfl,hq0,hne,rfl,rfl⟩;by_cases hq1:q<l.length
 ·obtain⟨y,hy⟩:∃ y,l[q]? = some y:=⟨_,Ab hq1⟩
  have hyr:=ZR hy;have htk:∀(a b:Jk) (m:Mth),(KK a b m).take 13=KK a b m:=λa b m=>AB (De (Xu a b m).len);have hz1:z=13:=hz EU;subst hz1;rw[JsL hy]at hne;obtain⟨ys,yo,mn,mp,⟨k1,t1,u1,e1,p1,a1⟩,bd,ab,at1⟩:=y;refine' KN;have hd:=JuU L (H:=hp H x (.cells [.str sig]) []) (rw:=rw) (Kh hxl) ys yo ⟨mn,mp,.mk k1 t1 u1 e1 p1 a1,bd,ab,at1⟩;refine JeR rfl rfl rfl (by rw[htk]) ?_;refine Ks hd ?_;refine QJ ?_;clear hd;simp only at hne;by_cases he:ys=sig
  ·rw[if_pos he]at hne;rw[he,beq_self_eq_true];refine' KN;exact Js rfl rfl (JR hxl) ⟨by rw[hne],QP hx⟩
  ·rw[if_neg he]at hne;rw[beq_eq_false_iff_ne.2 he];refine' KN;exact⟨l.length-(q+1),O,q+1,rfl,O,hne,rfl,rfl⟩
 ·refine' KN;rw[AU O]at hne;exact Js rfl rfl (JR hxl) ⟨Fa,QP hx⟩
theorem JjV(L:LibM pr F){H:List Blk}{rw:List Nat}{x:Nat}{sig:Jk}(hx:H[x]? = some (.cells [.str sig])){v:AV}{l:List (Jk×Jk×Mth)}(hv:IsL 13 v (Ko l))(hl:l.length<=1000000) :
  Det pr F 70 [v,.func 71 [] [.ptr x 0]] ⟨H,rw⟩ (.ret (.bool (decide (0<=JdC sig 0 l)))) ⟨H,rw⟩:=by
 have hm:=L.hm;have hd:=JpI L (rw:=rw) hx hv hl;obtain⟨z,tg,rfl,hz,-⟩:=hv;suffices h:Wp pr F 70 [.list z tg (Ko l),.func 71 [] [.ptr x 0]] ⟨H,rw⟩ λr S'=>r=.ret (.bool (decide (0<=JdC sig 0 l)))/\S'=⟨H,rw⟩ by obtain⟨r,S',hd,rfl,rfl⟩:=h.det hm;exact hd
 have hxl:x<H.length:=(Ac.1 hx).1;have hH:hp H x (.cells [.str sig]) []=H:=(Xi hx).symm;refine Kw hm L.f70.1 L.f70.2 rfl (Xi hx) ?_;refine' KN;refine Je rfl rfl rfl ?_;have hd2:Det pr F 112 [AV.list z tg (Ko l),AV.func 71 [] [AV.ptr x 0]] ⟨hp H x (.cells [.str sig]) [],rw⟩ (Res.ret (AV.int IntKind.i64 (JdC sig 0 l))) ⟨hp H x (.cells [.str sig]) [],rw⟩:=by rw[hH];exact hd
 refine Ks hd2 ?_;clear hd hd2 hH;refine QJ ?_;refine' KN
 ·exact Js rfl rfl (JR hxl) ⟨by rw[decide_eq_true hq],QP hx⟩
 ·exact Js rfl rfl (JR hxl) ⟨by rw[decide_eq_false O],QP hx⟩
def JbW(owner:Jk)(out:List (Jk×Jk×Mth))(m:Mth):List (Jk×Jk×Mth):=
 if 0<=JdC (Vx m.name m.params) 0 out then out else out++[(Vx m.name m.params,owner,m)]
def JdD(cs:List Cls)(out:List (Jk×Jk×Mth))(i:Nat):List (Jk×Jk×Mth):=match cs[i]? with
 | some c=>c.meths.foldl (JbW c.name) out
 | none=>out
def Jfe(cs:List Cls)(U:List (List Nat))(s:Jk):List (Jk×Jk×Mth):=(QC cs U s).foldl (JdD cs) []
theorem JuV(owner:Jk)(out:List (Jk×Jk×Mth))(m:Mth):(JbW owner out m).length<=out.length+1:=by
 unfold JbW;split
 ·omega
 ·simp
theorem JbX(out:List (Jk×Jk×Mth))(a b:Jk)(m:Mth):Ko (out++[(a,b,m)])=Ko out++[KK a b m]:=by simp[Ko]
theorem Ji9(owner:Jk):∀(l:List Mth) (out:List (Jk×Jk×Mth)),(l.foldl (JbW owner) out).length<=out.length+l.length
 | [],out=>Ag
 | m::l,out=>by have h1:=Ji9 owner l (JbW owner out m);have h2:=JuV owner out m;simp only[Ce,Ad];omega
theorem JuW{cs:List Cls}(hfw:Few cs)(out:List (Jk×Jk×Mth))(i:Nat):(JdD cs out i).length<=out.length+64:=by
 unfold JdD;split
 ·rename_i c hc;have h1:=Ji9 c.name c.meths out;have h2:=(hfw i c hc).2.2.1;omega
 ·omega
theorem Jja{cs:List Cls}(hfw:Few cs):∀(l:List Nat) (out:List (Jk×Jk×Mth)),(l.foldl (JdD cs) out).length<=out.length+64*l.length
 | [],out=>Ag
 | i::l,out=>by have h1:=Jja hfw l (JdD cs out i);have h2:=JuW hfw out i;simp only[Ce,Ad];omega
def JnY:IC:=.seq JuP (.seq JuQ (.seq JD9 (.block 0 (.loop [0,5,13,14,15] (.seq JEa (.seq (.cond (.tmp 16) (.skip) (.exit 0)) (.seq (.block 1 (.seq JEb (.seq JEc (.block 2 (.loop [0,5,7,13,14,15,26,27,28] (.seq JEd (.seq (.cond (.tmp 29) (.skip) (.exit 2)) (.seq (.block 3 (.seq JEe (.seq JEf (.seq JEg (.cond (.tmp 40) JuR (.skip)))))) JuS)))))))) JuT)))))))
theorem JBx{K:AV->St->Prop}{rw0 rw:List Nat}{sz by_:Nat}{v:AV}{rows:List (List AV)}{row:List AV}{H:List Blk}(h:Grow rw0 sz v rows rw)(hx:Rx rw0 rw)(hb:(rows.length+1)*by_<=Ji)(hl:rows.length+1<=Ji)(hs:0<sz)
  (hk:∀ v' rw',Grow rw0 sz v' (rows++[row]) rw'->Rx rw0 rw'->K v' ⟨H,rw'⟩):ApAt sz by_ v (.list sz .full [row]) ⟨H,rw⟩ K:=by
 obtain⟨v',rw',h1,h2,h3⟩:=h.push (H:=H) (row:=row) hx hb hl hs;exact⟨_,_,h1,hk v' rw' h2 h3⟩
def Jl2(cs:List Cls)(U:List (List Nat))(z zb mb:Nat)(tg tb:Tag)(o1 o2 o3 sl:AV):List AV:=[.list z tg (cs.map Jc),.map mb,.list zb tb (U.map Vl),o1,o2,o3,sl]
theorem JuX{pr:Jz}{F:Nat->Option IFn}{b0:Nat}{c:IC}{e:KC}{S S':St}{Q Q':Ex->KC->St->Prop}(h:At pr F b0 Q c [] e S')(hS:S'=S)(hQ:∀ x e S,Q x e S->Q' x e S):Wx pr F b0 c e S Q':=by subst hS;exact Wx.mono h.h hQ
def J0f(rw:List Nat)(rows:List (List AV))(H:List Blk)(n:Nat)(b:Blk)(x:Ex)(e:KC)(S':St):Prop:=x=.normal/\∃(v:AV) (rw':List Nat) (M:List Blk),Jj e 5=some v/\Grow rw 13 v rows rw'/\Rx rw rw'/\S'=⟨hp H n b M,rw'⟩
theorem Fb{Q:Prop}(h:Q:=by rw[Vc];simp only[Ji];omega):Q:=h
theorem Fc{Q:Prop}(h:Q:=by first |rfl |(rw[hl5];rfl)):Q:=h
theorem JuY(L:LibM pr F){H:List Blk}{rw:List Nat}{n mb z zb:Nat}{tg tb:Tag}{cs:List Cls}{U:List (List Nat)}{o1 o2 o3 sl:AV}(T:TabU H n mb cs z tg zb tb U o1 o2 o3 sl)(hfw:Few cs)(s:Jk) :
  Wx pr F H.length JnY (Ys [.ref (Jl2 cs U z zb mb tg tb o1 o2 o3 sl),.str s]) ⟨H,rw⟩ (J0f rw (Ko (Jfe cs U s)) H n (.cells (Jl2 cs U z zb mb tg tb o1 o2 o3 sl))):=by
 have hm:=L.hm;unfold Jl2;refine JuX (Q:=J0f rw (Ko (Jfe cs U s)) H n (.cells [.list z tg (cs.map Jc),.map mb,.list zb tb (U.map Vl),o1,o2,o3,sl])) (S':=⟨hp H n (.cells [.list z tg (cs.map Jc),.map mb,.list zb tb (U.map Vl),o1,o2,o3,sl]) [],rw⟩) ?_ (QP T.at_) (λ_ _ _ h=>h);have hlt:n<H.length:=(Ac.1 T.at_).1;have hfew:=T.few;have hlm:(cs.map Jc).length=cs.length:=Ak _;have hR:Rx rw rw:=Rx.rfl;have hT:=λM=>T.keep (X6 T.at_ M);unfold JnY;refine' KN;obtain⟨v,rw2,hv,hR2,hd⟩:=JpE L.toLibE (hT []) s (rw:=rw);refine Je rfl rfl rfl ?_;refine Ks hd ?_;clear hR;refine QJ ?_;obtain⟨zv,tv,rfl,hzv,-⟩:=hv.ex;clear hd hv;unfold Jfe;have hcl:∀ i∈QC cs U s,i<cs.length:=JnN T.linked T.ups s;have hcn:(QC cs U s).length<=cs.length+1:=JfY T.ups s;generalize QC cs U s=l at *;have hll:(Ki l).length=l.length:=QS l;refine' KN;refine JB hm (λmm e S'=>∃(q:Nat) (J:List Blk) (lv:AV) (rw3:List Nat),S'=⟨hp H n (.cells [.list z tg (cs.map Jc),.map mb,.list zb tb (U.map Vl),o1,o2,o3,sl]) J,rw3⟩/\q<=l.length/\Grow rw 13 lv (Ko ((l.take q).foldl (JdD cs) [])) rw3/\Rx rw rw3/\mm=l.length-q /\
  e=[(0,.ref [.list z tg (cs.map Jc),.map mb,.list zb tb (U.map Vl),o1,o2,o3,sl]),(5,lv),(13,.list zv tv (Ki l)),(14,.int .i64 ((Ki l).length:Int)),(15,.int .i64 q)]) ?_ (m:=l.length) ⟨0,[],_,rw2,rfl,O,Grow.nil,hR2,rfl,rfl⟩
 rintro mm e S' ⟨q,J,lv,rw3,rfl,hq0,hl,hR,rfl,rfl⟩;have hbl:=Jja hfw (l.take q) [];have htk:(l.take q).length<=q:=EW
 simp only[Af,AF]at hbl;by_cases hq1:q<l.length
 ·obtain⟨i,hiq⟩:∃ i,l[q]? = some i:=⟨_,Ab hq1⟩
  have hi:=hcl i (Aq hiq);have hiq2:=ZI hiq;have hzv1:zv=1:=hzv EU;subst hzv1;obtain⟨c,hc⟩:∃ c,cs[i]? = some c:=⟨_,Ab hi⟩
  have hcr:(cs.map Jc)[i]? = some (Jc c):=EF
  have hz:z=9:=T.sz EP;subst hz;have hcm:=Aq hc;have hmo:=Jbl (T.okc c hcm);have hbm:=(hfw i c hc).2.2.1;have hlm2:=JaH c.meths;refine' KN;refine JB hm (λmm e S'=>∃(p:Nat) (J:List Blk) (lv:AV) (rw3:List Nat),S'=⟨hp H n (.cells [.list 9 tg (cs.map Jc),.map mb,.list zb tb (U.map Vl),o1,o2,o3,sl]) J,rw3⟩/\p<=c.meths.length/\Grow rw 13 lv (Ko ((c.meths.take p).foldl (JbW c.name) ((l.take q).foldl (JdD cs) []))) rw3/\Rx rw rw3/\mm=c.meths.length-p /\
   e=[(0,.ref [.list 9 tg (cs.map Jc),.map mb,.list zb tb (U.map Vl),o1,o2,o3,sl]),(5,lv),(7,.int .i64 i),(13,.list 1 tv (Ki l)),(14,.int .i64 ((Ki l).length:Int)),(15,.int .i64 q),(26,Kp 11 (c.meths.map Jm)),(27,.int .i64 ((c.meths.map Jm).length:Int)),(28,.int .i64 p)]) ?_ (m:=c.meths.length) ⟨0,J,lv,rw3,rfl,O,hl,hR,rfl,rfl⟩
  clear hl hR;clear rw3 lv J;rintro mm e S' ⟨p,J,lv,rw3,rfl,hp0,hl,hR,rfl,rfl⟩;have hbl2:=Ji9 c.name (c.meths.take p) ((l.take q).foldl (JdD cs) []);have htk2:(c.meths.take p).length<=p:=EW
  by_cases hp1:p<c.meths.length
  ·obtain⟨m,hmq⟩:∃ m,c.meths[p]? = some m:=⟨_,Ab hp1⟩
   have hmem:=Aq hmq;have hmr:(c.meths.map Jm)[p]? = some (Jm m):=by rw[Ax,hmq];rfl
   obtain⟨hb1,hb2,hb3,hb4⟩:=ZH hcm hmem T.wt;obtain⟨hk1,hk2,hk3,hk4⟩:=hmo m hmem;have hsg:=JiZ L.toLibE hb1 hb2 hk2;have hl5:Kp 11 (c.meths.map Jm)=.list 11 .dead (c.meths.map Jm):=Kf (i:=p) O;rw[hl5];have hts:=QW hmq;generalize hout:(c.meths.take p).foldl (JbW c.name) ((l.take q).foldl (JdD cs) [])=out at *;refine' KN;have hx:(hp H n (.cells [.list 9 tg (cs.map Jc),.map mb,.list zb tb (U.map Vl),o1,o2,o3,sl]) (J++[.cells (Jm m)]++[.cells [.str (Vx m.name m.params)]]))[H.length+(J++[Blk.cells (Jm m)]).length]? = some (Blk.cells [.str (Vx m.name m.params)]):=by rw[Vq hlt,B9 (Ao _),Cv];rfl
   have hl:=hl.ext hRt;have hd:=JjV L (rw:=rwt) hx (Lst.isL (Or.inl hl)) O;refine Je rfl rfl rfl ?_;refine Ks hd ?_;clear hd hx;refine QJ ?_;refine' KN
   ·have hq2:¬ (0<=JdC (Vx m.name m.params) 0 out):=by simpa using hq
    obtain⟨mn,mp,⟨k1,t1,u1,e1,p1,a1⟩,bd,ab,at1⟩:=m;refine' KN;refine Qp ?_;refine Q1 rfl (vs:=[.agg (KK (Vx mn mp) c.name ⟨mn,mp,.mk k1 t1 u1 e1 p1 a1,bd,ab,at1⟩)]) rfl ?_;refine Z2 (Xu _ _ _) ?_;refine' KN;refine JT ?_;refine JW rfl rfl rfl ?_;refine JBx (row:=KK (Vx mn mp) c.name ⟨mn,mp,.mk k1 t1 u1 e1 p1 a1,bd,ab,at1⟩) hl hR Fb Fb O ?_;intro l4 rw4 hl4 hR4;refine QJ ?_;refine' KN;refine⟨c.meths.length-(p+1),O,p+1,_,l4,rw4,rfl,O,?_,hR4,rfl,Fc⟩;rw[hts,DB,hout];simp only[Ce,DQ,JbW,if_neg hq2];rw[JbX];exact hl4
   ·have hq2:0<=JdC (Vx m.name m.params) 0 out:=by simpa using hq
    refine⟨c.meths.length-(p+1),O,p+1,_,lv,rwt,rfl,O,?_,hR,rfl,Fc⟩;rw[hts,DB,hout];simp only[Ce,DQ,JbW,if_pos hq2];exact hl
  ·refine' KN;rw[show p=c.meths.length by omega,AI]at hl;refine⟨l.length-(q+1),O,q+1,J,lv,rw3,rfl,O,?_,hR,rfl,rfl⟩;rw[QW hiq,DB];simp only[Ce,DQ,JdD,hc];exact hl
 ·refine' KN;rw[show q=l.length by omega,AI]at hl;exact⟨rfl,lv,rw3,J,rfl,hl,hR,rfl⟩
end Go.Proofs.YtmeakjgbjldkdaaGreat.Ai
namespace Go.Proofs
open YtmeakjgbjldkdaaGreat
open Go.Shelf
open Go.RowKit in
def Tryz.lays156_ren:Go.Shelf.Ren:=⟨fun |156=>54 |165=>98 |166=>99 |169=>87 |240=>147 |241=>148 |276=>202 |277=>203 |n=>n,fun |31=>29 |9=>9 |3=>3 |4=>4 |0=>0 |20=>20 |72=>156 |76=>178 |70=>153 |37=>154 |75=>177 |127=>204 |164=>262 |5=>5 |80=>162 |n=>n,fun |n=>n⟩
theorem Tryz.lays156:Go.Proofs.Lays.n156 Tryz.prog Tryz.lays156_ren:={
 mixed:=Ai.Ae
 f156:=Tryz.func54.trans (congrArg some Ai.Ae)
 f165:=Tryz.func98.trans (congrArg some Ai.Ae)
 f166:=Tryz.func99.trans (congrArg some Ai.Ae)
 f169:=Tryz.func87.trans (congrArg some Ai.Ae)
 f240:=Tryz.func147.trans (congrArg some Ai.Ae)
 f241:=Tryz.func148.trans (congrArg some Ai.Ae)
 f276:=Tryz.func202.trans (congrArg some Ai.Ae)
 f277:=Tryz.func203.trans (congrArg some Ai.Ae)
 t0:=Tryz.underlying0
 a0:=Tryz.isAgg0
 z0:=Tryz.sizeOf0
 v0:=Tryz.zeroValue0
 t3:=Tryz.underlying3
 a3:=Tryz.isAgg3
 z3:=Tryz.sizeOf3
 v3:=Tryz.zeroValue3
 t4:=Tryz.underlying4
 a4:=Tryz.isAgg4
 z4:=Tryz.sizeOf4
 v4:=Tryz.zeroValue4
 t9:=Tryz.underlying9
 a9:=Tryz.isAgg9
 z9:=Tryz.sizeOf9
 v9:=Tryz.zeroValue9
 t20:=Tryz.underlying20
 a20:=Tryz.isAgg20
 z20:=Tryz.sizeOf20
 v20:=Tryz.zeroValue20
 t31:=Tryz.underlying29
 a31:=Tryz.isAgg29
 z31:=Tryz.sizeOf29
 v31:=Tryz.zeroValue29
 t37:=Tryz.underlying154
 a37:=Tryz.isAgg154
 z37:=Tryz.sizeOf154
 v37:=Tryz.zeroValue154
 t70:=Tryz.underlying153
 a70:=Tryz.isAgg153
 z70:=Tryz.sizeOf153
 v70:=Tryz.zeroValue153
 t72:=Tryz.underlying156
 a72:=Tryz.isAgg156
 z72:=Tryz.sizeOf156
 v72:=Tryz.zeroValue156
 t75:=Tryz.underlying177
 a75:=Tryz.isAgg177
 z75:=Tryz.sizeOf177
 v75:=Tryz.zeroValue177
 t76:=Tryz.underlying178
 a76:=Tryz.isAgg178
 z76:=Tryz.sizeOf178
 v76:=Tryz.zeroValue178
 t127:=Tryz.underlying204
 a127:=Tryz.isAgg204
 z127:=Tryz.sizeOf204
 v127:=Tryz.zeroValue204
 t164:=Tryz.underlying262
 a164:=Tryz.isAgg262
 z164:=Tryz.sizeOf262
 v164:=Tryz.zeroValue262}
theorem Tryz.Builder_Extra_156:Builder.Extra Tryz.prog Tryz.lays156_ren:={
 sizeBuilder:=Ai.Ae
 liesBuilder:=Ai.Ae
 t5:=Tryz.underlying5
 a5:=Tryz.isAgg5
 z5:=Tryz.sizeOf5
 v5:=Tryz.zeroValue5
 infoByte:=Ai.Ae
 cellsByte:=Ai.Ae
 sizeByte:=Ai.Ae
 neB5:=by decide}
open Go.RowKit in
theorem Tryz.strings_Join_none(a:Option Addr)(c:Nat)(sep:ByteArray)(w:World) :
  Calls Tryz.prog 54 #[.slice a 0 c,.string sep] w λe w'=>e=.returned (.string ⟨#[]⟩)/\w'=w:=Any.strings_Join_none Tryz.lays156 Tryz.Builder_Extra_156 a c sep w
open Go.RowKit in
theorem Tryz.strings_Join(bk o c:Nat)(xs:List ByteArray)(sep:ByteArray)(w:World)(hcells:∀(j:Nat) x,xs[j]? = some x->w.cell? ⟨bk,o+j,none⟩=some (.string x))(hbk:bk<w.heap.size)(hN:xs.length<=140737488355328)(hcap:xs.length<=c)(hlen:(Lib.join (xs.map (·.data.toList)) sep.data.toList).length<=140737488355328) :
  Calls Tryz.prog 54 #[.slice (some ⟨bk,o,none⟩) xs.length c,.string sep] w λe w'=>e=.returned (.string ⟨(Lib.join (xs.map (·.data.toList)) sep.data.toList).toArray⟩)/\Below w.heap.size w w':=Any.strings_Join Tryz.lays156 Tryz.Builder_Extra_156 bk o c xs sep w hcells hbk hN hcap hlen
open Go.RowKit in
def Tryz.lays106_ren:Go.Shelf.Ren:=⟨fun |106=>74 |213=>114 |265=>175 |n=>n,fun |9=>9 |3=>3 |n=>n,fun |n=>n⟩
theorem Tryz.lays106:Go.Proofs.Lays.n106 Tryz.prog Tryz.lays106_ren:={
 mixed:=Ai.Ae
 f106:=Tryz.func74.trans (congrArg some Ai.Ae)
 f213:=Tryz.func114.trans (congrArg some Ai.Ae)
 f265:=Tryz.func175.trans (congrArg some Ai.Ae)
 t3:=Tryz.underlying3
 a3:=Tryz.isAgg3
 z3:=Tryz.sizeOf3
 v3:=Tryz.zeroValue3
 t9:=Tryz.underlying9
 a9:=Tryz.isAgg9
 z9:=Tryz.sizeOf9
 v9:=Tryz.zeroValue9}
open Go.RowKit in
theorem Tryz.strings_Compare(a b:ByteArray)(w:World) :
  Calls Tryz.prog 74 #[.string a,.string b] w λe w'=>e=.returned (.int .i64 (Lib.compareBytes a.data.toList b.data.toList))/\w'=w:=Any.strings_Compare Tryz.lays106 a b w
end Go.Proofs
namespace Go.Proofs.YtmeakjgbjldkdaaGreat.Ai
open Go
open Tr(pk)
def leB(s x:List UInt8):Bool:=Op.bytesLess s x ||(s == x)
def JpJ(s:List UInt8):List (List UInt8)->List (List UInt8)
 | []=>[s]
 | x::l=>if leB s x=true then s::x::l else x::JpJ s l
def JdP:List (List UInt8)->List (List UInt8)
 | []=>[]
 | s::l=>JpJ s (JdP l)
theorem JuZ(x y:List UInt8):leB x y=decide (x<=y):=by
 unfold leB;rw[Go.Proofs.bytesLess_eq];by_cases h:x<=y
 ·rw[decide_eq_true h];by_cases h2:x<y
  ·simp[h2]
  ·have:x=y:=DF h h2;simp[this]
 ·rw[decide_eq_false h];have h3:y<x:=Classical.not_not.1 h;have h2:¬ x<y:=λh2=>h (Std.le_of_lt h2);have h4:x≠y:=λe=>h (e ▸ Std.le_refl x);simp[h2,h4]
theorem Jf2(s:List UInt8):∀ l,(JpJ s l).Perm (s::l)
 | []=>DS _
 | x::l=>by
  unfold JpJ;split
  ·exact DS _
  ·exact((Jf2 s l).cons x).trans (List.Perm.swap s x l)
theorem Yj:∀ l,(JdP l).Perm l
 | []=>DS _
 | s::l=>(Jf2 s (JdP l)).trans ((Yj l).cons s)
theorem JgU(s:List UInt8):∀{l:List (List UInt8)},l.Pairwise (λa b=>a<=b)->(JpJ s l).Pairwise (λa b=>a<=b)
 | [],_=>by simp[JpJ]
 | x::l,h=>by
  unfold JpJ;have h':=BK.1 h;split
  ·rename_i hle;rw[JuZ,decide_eq_true_eq]at hle;refine BK.2 ⟨λy hy=>?_,h⟩;rcases AS.1 hy with rfl |hy
   ·exact hle
   ·exact D3 hle (h'.1 y hy)
  ·rename_i hle;rw[JuZ,decide_eq_true_eq]at hle;have hxs:x<=s:=(List.le_total s x).resolve_left hle;refine BK.2 ⟨λy hy=>?_,JgU s h'.2⟩;rcases AS.1 ((Jf2 s l).mem_iff.1 hy)with rfl |hy
   ·exact hxs
   ·exact h'.1 y hy
theorem Jff:∀ l,(JdP l).Pairwise (λa b=>a<=b)
 | []=>List.Pairwise.nil
 | s::l=>JgU s (Jff l)
theorem Ju0(l:List (List UInt8)):l.mergeSort (λx y=>decide (x<=y))=JdP l:=by refine List.Perm.eq_of_pairwise (le:=λa b=>a<=b) (λa b _ _ h1 h2=>DF h1 h2) ?_ (Jff l) ((List.mergeSort_perm _ _).trans (Yj l).symm);have:=List.pairwise_mergeSort (le:=λx y:List UInt8=>decide (x<=y)) (λa b c h1 h2=>by simp only[decide_eq_true_eq]at *;exact D3 h1 h2) (λa b=>by simp only[Bp,decide_eq_true_eq];exact List.le_total a b) l;exact this.imp (λh=>EC)
theorem JbY(l:List (List UInt8)):(JdP l).length=l.length:=(Yj l).length_eq
def Yw(l:List (Jk×Jk×Mth)):List Jk:=l.map (·.1)
def Jbo(k:Jk):List (Jk×Jk×Mth)->Jk×Jk×Mth
 | []=>(k,[],Jea)
 | x::l=>if x.1=k then x else Jbo k l
def JgV(l:List (Jk×Jk×Mth)):List (Jk×Jk×Mth):=(JdP (Yw l)).map λk=>Jbo k l
def V5(cs:List Cls)(U:List (List Nat))(s:Jk):List (Jk×Jk×Mth):=JgV (Jfe cs U s)
theorem Ju1(owner:Jk)(out:List (Jk×Jk×Mth))(m:Mth)(h:(Yw out).Nodup):(Yw (JbW owner out m)).Nodup:=by
 unfold JbW;split
 ·exact h
 ·rename_i hn;unfold Yw at *;rw[An,List.nodup_append];refine⟨h,Ag,λa ha b hb=>?_⟩;simp only[Ap,AC,AN]at hb;subst hb;intro e;subst e;obtain⟨x,hx,hxs⟩:=Bw.1 ha;exact hn (Jfd.2 ⟨x,hx,hxs⟩)
theorem JkC(owner:Jk):∀(l:List Mth) (out:List (Jk×Jk×Mth)),(Yw out).Nodup->(Yw (l.foldl (JbW owner) out)).Nodup
 | [],_,h=>h
 | m::l,out,h=>JkC owner l _ (Ju1 owner out m h)
theorem JkD(cs:List Cls):∀(l:List Nat) (out:List (Jk×Jk×Mth)),(Yw out).Nodup->(Yw (l.foldl (JdD cs) out)).Nodup
 | [],_,h=>h
 | i::l,out,h=>by
  refine JkD cs l _ ?_;unfold JdD;split
  ·exact JkC _ _ _ h
  ·exact h
theorem JkE(cs:List Cls)(U:List (List Nat))(s:Jk):(Yw (Jfe cs U s)).Nodup:=JkD cs _ [] DP
theorem JkF{cs:List Cls}{U:List (List Nat)}(hfw:Few cs)(hup:∀ i l,U[i]? = some l->JaF cs i l)(s:Jk):(Jfe cs U s).length<=64*(cs.length+1):=by have h1:=Jja hfw (QC cs U s) [];have h2:=JfY (cs:=cs) hup s;have h3:64*(QC cs U s).length<=64*(cs.length+1):=Nat.mul_le_mul_left _ h2;simp only[Af,AF]at h1;exact BX h1 h3
theorem Jf3{cs:List Cls}{U:List (List Nat)}(hfw:Few cs)(hup:∀ i l,U[i]? = some l->JaF cs i l)(s:Jk):(V5 cs U s).length<=64*(cs.length+1):=by have:=JkF hfw hup s;unfold V5 JgV Yw;rw[Ak,JbY,Ak];exact this
def ovM(nm:Jk)(l:List (Jk×Jk×Mth)):List (Jk×Jk×Mth):=l.filter λx=>x.2.2.name == nm
theorem Ju2{nm:Jk}{l:List (Jk×Jk×Mth)}{q:Nat}{x:Jk×Jk×Mth}(h:l[q]? = some x):ovM nm (l.take (q+1))=ovM nm (l.take q)++(if x.2.2.name=nm then [x] else []):=by
 rw[QW h];unfold ovM;rw[CX]
 congr 1
 by_cases hn:x.2.2.name=nm
 ·simp[hn]
 ·simp[hn]
theorem Jra(nm:Jk)(l:List (Jk×Jk×Mth)):(ovM nm l).length<=l.length:=Cj _ _
variable {pr:Jz} {F:Nat->Option IFn}
theorem JkG(L:LibG pr F){H:List Blk}{rw:List Nat}{n mb z zb:Nat}{tg tb:Tag}{cs:List Cls}{U:List (List Nat)}{o1 o2 o3 sl:AV}(T:TabU H n mb cs z tg zb tb U o1 o2 o3 sl)(s:Jk) :
  ∃(v:List AV) (rw':List Nat),Row 9 v/\(∀ i c,J6 cs s=some i->cs[i]? = some c->v=Jc c)/\Rx rw rw'/\Det pr F 36 [.ptr n 0,.str s] ⟨H,rw⟩ (.ret (.tup [.agg v,.bool (J6 cs s).isSome])) ⟨H,rw'⟩:=by
 have hm:=L.hm;suffices h:Wp pr F 36 [.ptr n 0,.str s] ⟨H,rw⟩ λr S'=>∃(v:List AV) (rw':List Nat),Row 9 v/\(∀ i c,J6 cs s=some i->cs[i]? = some c->v=Jc c)/\Rx rw rw'/\r=.ret (.tup [.agg v,.bool (J6 cs s).isSome])/\S'=⟨H,rw'⟩ by obtain⟨r,S',hd,v,rw',h1,h2,h3,rfl,rfl⟩:=h.det hm;exact⟨v,rw',h1,h2,h3,hd⟩
 have hfew:=T.few;have hlm:(cs.map Jc).length=cs.length:=Ak _;have hR:Rx rw rw:=Rx.rfl;refine Jt hm L.f36.1 L.f36.2 rfl ?_;refine Kt hm ?_;unfold JD8;show At pr F H.length (fin _ H.length _) _ _ _ _;refine Xj hm ?_;intro H1 hH1 hlen hlt;have hF:=J1 hH1 T.at_;have hFm:=J1 hH1 T.mp;by_cases hcs:cs=[]
 ·subst hcs;refine' KN
  ·simp[J6]at hkq
  ·exact VV hH1 rfl rfl (KT ⟨[],false,[],[],[],[],[],[],0⟩) ⟨_,_,KT ⟨[],false,[],[],[],[],[],[],0⟩,(by intro i c h;rw[hkq]at h;cases h),hR,by rw[hkq];rfl,rfl⟩
 ·have hz:=T.sz hcs;subst hz;refine' KN
  ·refine VV hH1 rfl rfl (KT kc) ⟨_,_,KT kc,λi c h hc=>?_,hR,by rw[hkq];rfl,rfl⟩;rw[hkq]at h;simp only[V]at h;subst h;rw[hkc]at hc;simp only[V]at hc;rw[hc]
  ·exact VV hH1 rfl rfl (KT ⟨[],false,[],[],[],[],[],[],0⟩) ⟨_,_,KT ⟨[],false,[],[],[],[],[],[],0⟩,(by intro i c h;rw[hkq]at h;cases h),hR,by rw[hkq];rfl,rfl⟩
abbrev Er(α:Type):=Except (Int×Int) α
def Kz{α:Type}(c a:Int):Er α:=.error (c,a)
structure Loc where
 name:Jk
 typ:Ty
 fixed:Bool
structure Room where
 this:Jk
 vars:List Loc
 pred:Bool
 ret:List Ty
 inNew:Bool
def Vy:Room:=⟨[],[],false,[],false⟩
def V6:Ty->Int |.mk k _ _ _ _ _=>k
def nmT:Ty->Jk |.mk _ n _ _ _ _=>n
def elT:Ty->List Ty |.mk _ _ _ e _ _=>e
def opX:Xp->Jk |.mk o _ _ _ _=>o
def atX:Xp->Int |.mk _ _ _ _ a=>a
def KL(k:Int):Ty:=.mk k [] false [] [] 0
def Yr(n:Jk):Ty:=.mk 3 n false [] [] 0
def VD:Ty->Ty |.mk k n _ e _ _=>.mk k n false e [] 0
def Q4:Xp->Ty |.mk op _ _ ty _=>if op=[108,105,115,116] then .mk 4 [] false ty [] 0 else ty.headD (KL 0)
def XC:Xp->Ty->Xp |.mk op n l _ a,t=>.mk op n l [VD t] a
def Vz(r:Room)(n:Jk)(t:Ty)(f:Bool):Room:={r with vars:=r.vars++[⟨n,VD t,f⟩]}
def K6(r:Room):Room:={r with vars:=r.vars.filter (·.fixed)}
def ZS(n:Jk)(l:List Loc):Option Loc:=l.reverse.find? λv=>v.name == n
section
variable (cs:List Cls) (U:List (List Nat))
def Vd(a b:Ty):Bool:=
 if V6 a=5 then V6 b == 3 || V6 b == 4
 else if V6 a=3/\V6 b=3 then Yi cs U (nmT a) (nmT b)
 else if V6 a=0\/V6 b=0 then false
 else V6 a == V6 b && QV a == QV b
def KS:List Xp->List Par->Bool
 | [],[]=>true
 | x::l,p::m=>Vd cs U (Q4 x) p.type && KS l m
 | _,_=>false
def Jfg:List Par->List Par->Bool
 | p::l,q::m=>Vd cs U p.type q.type && Jfg l m
 | _,_=>true
def JcT(m:Mth)(l:List (Jk×Jk×Mth)):Bool:=l.all λo=>Jfg cs U m.params o.2.2.params
def JcU(a b:Ty):Bool:=Vd cs U a b || Vd cs U b a ||(V6 a == 5 && V6 b == 5)
def ZT(n:Jk):Option Ctr:=match J6 cs n with
 | some i=>(cs[i]?).bind λc=>c.ctors.head?
 | none=>none
def VW(n:Jk):List Par:=((ZT cs n).map (·.params)).getD []
def JcV(e:Xp)(t:Ty)(a:Int):Er Xp:=if Vd cs U (Q4 e) t then .ok e else Kz 131 a
def XU(on:Xp)(n:Jk)(a:Int):Er Fld:=
 if V6 (Q4 on)≠3 then Kz 131 a else match Zi cs n (KZ cs (nmT (Q4 on)))with
  | some (_,f)=>.ok f
  | none=>Kz 130 a
def JdQ(op n:Jk)(l:List Xp)(a:Int):Er Xp:=
 let fit:=(ovM n (V5 cs U (nmT (Q4 (l.headD (.mk [] [] [] [] 0)))))).filter λm=>KS cs U l.tail m.2.2.params
 if fit=[] then Kz 132 a else match fit.find? λm=>JcT cs U m.2.2 fit with
  | some m=>.ok (.mk op m.1 l [VD m.2.2.result] a)
  | none=>Kz 133 a
def Jaa(op n:Jk)(l:List Xp)(ty:List Ty)(a:Int):Er Xp:=
 if op=[61,61]\/op=[33,61] then match l with
  | x::y::_=>if JcU cs U (Q4 x) (Q4 y)then .ok (.mk op n l [KL 2] a)else Kz 131 a
  | _=>.ok (.mk op n l ty a)
 else
  let i:Int:=if op=[110,111,116]\/op=[38,38]\/op=[124,124]\/op=[61,62] then 2 else 1
  let o:Int:=if op=[110,101,103]\/op=[43]\/op=[45]\/op=[42]\/op=[47]\/op=[37] then 1 else 2
  if l.all λx=>V6 (Q4 x) == i then .ok (.mk op n l [KL o] a)else Kz 131 a
def YU(r:Room)(op n:Jk)(l:List Xp)(ty:List Ty)(a:Int):Er Xp:=
 if op=[102,105,101,108,100] then do
  let f <- XU cs (l.headD (.mk [] [] [] [] 0)) n a
  if r.pred && !f.fin then Kz 138 a else .ok (.mk op n l [VD f.type] a)
 else if op=[99,97,108,108] then JdQ cs U op n l a
 else if op=[105,110,100,101,120] then match l with
  | x::y::_=>if V6 (Q4 x)=4/\V6 (Q4 y)=1 then .ok (.mk op n l [VD ((elT (Q4 x)).headD (KL 0))] a)else Kz 131 a
  | _=>.ok (.mk op n l ty a)
 else if op=[108,101,110] then
  if V6 (Q4 (l.headD (.mk [] [] [] [] 0)))=4 then .ok (.mk op n l [KL 1] a)else Kz 131 a
 else Jaa cs U op n l ty a
def JcW:List Jk:=[[99,97,108,108],[110,101,119],[108,105,115,116],[114,101,97,100],[105,110,100,101,120],[47],[37]]
def Jab(f:Int×Int):Er Unit:=if f.1=0 then .ok ()else .error f
mutual
def exF(r:Room):Xp->Er Xp
 | .mk op n l ty a=>
  if(r.pred && JcW.contains op) ||(!r.pred && op == [61,62])then Kz 138 a
  else if op=[110,117,109]\/op=[114,101,97,100] then .ok (.mk op n l [KL 1] a)
  else if op=[116,114,117,101]\/op=[102,97,108,115,101] then .ok (.mk op n l [KL 2] a)
  else if op=[110,117,108,108] then .ok (.mk op n l [KL 5] a)
  else if op=[116,104,105,115] then if r.this=[] then Kz 135 a else .ok (.mk op n l [Yr r.this] a)
  else if op=[118,97,114] then match ZS n r.vars with
   | some v=>.ok (.mk op n l [VD v.typ] a)
   | none=>Kz 130 a
  else if op=[110,101,119] then match (J6 cs n).bind λi=>cs[i]? with
   | none=>Kz 121 a
   | some c=>if c.iface then Kz 139 a else
    (QH r none l).bind λl'=>if KS cs U l' (VW cs n)then .ok (.mk op n l' [Yr n] a)else Kz 132 a
  else if op=[108,105,115,116] then
   (Jab (KX cs (ty.headD (KL 0)))).bind λ_=>(YV ty).bind λty'=>(QH r none l).bind λl'=>match l' with
    | x::y::_=>if V6 (Q4 x)=1/\Vd cs U (Q4 y) (ty'.headD (KL 0))=true then .ok (.mk op n l' ty' a)else Kz 131 a
    | _=>.ok (.mk op n l' ty' a)
  else(QH r (if op=[99,97,108,108] then some a else none) l).bind λl'=>YU cs U r op n l' ty a
def QH(r:Room)(k:Option Int):List Xp->Er (List Xp)
 | []=>.ok []
 | x::l=>(exF r x).bind λx'=>match k with
  | some a=>if V6 (Q4 x')≠3 then Kz 131 a else(QH r none l).bind λl'=>.ok (x'::l')
  | none=>(QH r none l).bind λl'=>.ok (x'::l')
def tyF(r:Room):Ty->Er Ty
 | .mk k n nl e p a=>(YV e).bind λe'=>(Jec (Vz r [118] (.mk k n nl e' [] a) true) p).bind λp'=>.ok (.mk k n nl e' p' a)
def YV:List Ty->Er (List Ty)
 | []=>.ok []
 | t::l=>(tyF Vy t).bind λt'=>(YV l).bind λl'=>.ok (t'::l')
def Jec(r:Room):List Xp->Er (List Xp)
 | []=>.ok []
 | x::l=>(exF {r with pred:=true} x).bind λx'=>(JcV cs U x' (KL 2) (atX x)).bind λx'=>(Jec r l).bind λl'=>.ok (x'::l')
end
def QQ(r:Room)(x:Xp)(t:Ty):Er Xp:=(exF cs U r x).bind λx'=>JcV cs U x' t (atX x)
def JgW(r:Room)(x:Xp):Er Xp:=QQ cs U {r with pred:=true} x (KL 2)
def Qg(r:Room):List Xp->Er (List Xp)
 | []=>.ok []
 | x::l=>(JgW cs U r x).bind λx'=>(Qg r l).bind λl'=>.ok (x'::l')
def ex0:Xp:=.mk [] [] [] [] 0
def Jch(r:Room)(kind n:Jk)(ty:List Ty)(exs:List Xp)(b e:List Sm)(a:Int):Er (Sm×Room):=
 if(ZS n r.vars).isSome then Kz 120 a else match ty with
 | t::_=>(Jab (KX cs t)).bind λ_=>(tyF cs U (if r.inNew then{K6 r with this:=[]} else K6 r) t).bind λt'=>
   (QQ cs U r (exs.headD ex0) t').bind λx=>.ok (.mk kind n [t'] [x] b e a,Vz r n t' false)
 | []=>(exF cs U r (exs.headD ex0)).bind λx=>if V6 (Q4 x)=0\/V6 (Q4 x)=5 then Kz 131 (atX (exs.headD ex0))else .ok (.mk kind n ty [x] b e a,Vz r n (Q4 x) false)
def Jhi(r:Room)(kind n:Jk)(ty:List Ty)(exs:List Xp)(b e:List Sm)(a:Int):Er Sm:=
 match r.ret with
 | []=>Kz 134 a
 | t::_=>if(V6 t == 0) != exs.isEmpty then Kz 131 a else match exs with
  | []=>.ok (.mk kind n ty exs b e a)
  | x::_=>(QQ cs U r x t).bind λx'=>.ok (.mk kind n ty [x'] b e a)
def nth(l:List Xp)(i:Nat):Xp:=l.getD i ex0
mutual
def XD(r:Room):Sm->Er (Sm×Room)
 | .mk kind n ty exs b e a=>
  if kind=[108,101,116] then Jch cs U r kind n ty exs b e a
  else if kind=[115,101,116] then match ZS n r.vars with
   | none=>Kz 130 a
   | some v=>if v.fixed then Kz 136 a else(QQ cs U r (nth exs 0) v.typ).bind λx=>.ok (.mk kind n ty [x] b e a,r)
  else if kind=[102,105,101,108,100] then(exF cs U r (nth exs 0)).bind λo=>(XU cs o n a).bind λf=>
   if f.fin then Kz 136 a else(QQ cs U r (nth exs 1) f.type).bind λx=>.ok (.mk kind n ty [o,x] b e a,r)
  else if kind=[101,108,101,109] then(exF cs U r (nth exs 0)).bind λo=>if V6 (Q4 o)≠4 then Kz 131 a else
   (QQ cs U r (nth exs 1) (KL 1)).bind λx=>(QQ cs U r (nth exs 2) ((elT (Q4 o)).headD (KL 0))).bind λy=>.ok (.mk kind n ty [o,x,y] b e a,r)
  else if kind=[105,102] then(QQ cs U r (nth exs 0) (KL 2)).bind λx=>(blF r b).bind λb'=>(blF r e).bind λe'=>.ok (.mk kind n ty [x] b' e' a,r)
  else if kind=[119,104,105,108,101] then(QQ cs U r (nth exs 0) (KL 2)).bind λx=>(Qg cs U r exs.tail).bind λl=>(blF r b).bind λb'=>.ok (.mk kind n ty (x::l) b' e a,r)
  else if kind=[114,101,116,117,114,110] then(Jhi cs U r kind n ty exs b e a).bind λs=>.ok (s,r)
  else if kind=[97,115,115,101,114,116] then(QQ cs U r (nth exs 0) (KL 2)).bind λx=>.ok (.mk kind n ty [x] b e a,r)
  else if kind=[112,114,105,110,116] then(QQ cs U r (nth exs 0) (KL 1)).bind λx=>.ok (.mk kind n ty [x] b e a,r)
  else(exF cs U r (nth exs 0)).bind λx=>.ok (.mk kind n ty [x] b e a,r)
def blF(r:Room):List Sm->Er (List Sm)
 | []=>.ok []
 | s::l=>(XD r s).bind λx=>(blF x.2 l).bind λl'=>.ok (x.1::l')
end
mutual
def Ju3:Sm->Bool
 | .mk kind _ _ _ b e _=>kind == [114,101,116,117,114,110] ||(kind == [105,102] && (XM b && XM e))
def XM:List Sm->Bool
 | []=>false
 | s::l=>Ju3 s || XM l
end
def XE(r:Room):List Par->Er (Room×List Par)
 | []=>.ok (r,[])
 | p::l=>(tyF cs U r p.type).bind λt=>(XE (Vz r p.name t true) l).bind λx=>.ok (x.1,{p with type:=t}::x.2)
def Jbp(own:Room)(m:Mth):Er Mth:=
 (XE cs U own m.params).bind λx=>(tyF cs U x.1 m.result).bind λt=>
  if m.abs then .ok {m with params:=x.2,result:=t} else
  (blF cs U {x.1 with ret:=[t]} m.body).bind λb=>if V6 t≠0/\XM b=false then Kz 134 m.at_ else .ok {m with params:=x.2,result:=t,body:=b}
def VS(c:Cls):Room->List Jk->List Sm->Er (List Sm×List Jk)
 | _,set,[]=>.ok ([],set)
 | r,set,.mk kind n ty exs b e a::l=>
  if kind≠[102,105,101,108,100]\/opX (nth exs 0)≠[116,104,105,115] then(XD cs U r (.mk kind n ty exs b e a)).bind λx=>(VS c x.2 set l).bind λy=>.ok (x.1::y.1,y.2)
  else match Zi cs n (KZ cs c.name)with
   | none=>Kz 137 a
   | some (o,f)=>if o≠c.name\/set.contains n=true then Kz 137 a else
    (QQ cs U r (nth exs 1) f.type).bind λx=>(VS c r (set++[n]) l).bind λy=>.ok (.mk kind n ty [XC (nth exs 0) (Yr c.name),x] b e a::y.1,y.2)
def Jbq(c:Cls)(k:Ctr):Er Ctr:=
 (XE cs U {Vy with inNew:=true} k.params).bind λx=>(QH cs U x.1 none k.super).bind λs=>
  if(k.hasSuper && c.super == []) || !KS cs U s (VW cs c.super)then Kz 132 k.at_ else
  (VS cs U c x.1 [] k.body).bind λy=>if y.2.length<c.fields.length then Kz 137 k.at_ else .ok {k with params:=x.2,super:=s,body:=y.1}
def QZ{α β:Type}(f:α->Er β):List α->Er (List β)
 | []=>.ok []
 | x::l=>(f x).bind λy=>(QZ f l).bind λm=>.ok (y::m)
def Jci(c:Cls):Er Cls:=
 (QZ (λf:Fld=>(tyF cs U {Vy with this:=c.name} f.type).bind λt=>.ok {f with type:=t}) c.fields).bind λfs=>
 (Qg cs U {Vy with this:=c.name} c.invs).bind λis=>
 if !c.iface && c.ctors.isEmpty && !c.fields.isEmpty then Kz 137 c.at_ else
 if !c.iface && c.ctors.isEmpty && !(VW cs c.super).isEmpty then Kz 132 c.at_ else
 (QZ (Jbq cs U c) c.ctors).bind λks=>(QZ (Jbp cs U {Vy with this:=c.name}) c.meths).bind λms=>
  .ok {c with fields:=fs,invs:=is,ctors:=ks,meths:=ms}
def JcX(p:Prg):Er Prg:=(QZ (Jci cs U) p.classes).bind λl=>(blF cs U Vy p.main).bind λm=>.ok ⟨l,m⟩
end
def Zm(t:Ty):Prop:=(Vg t\/t=KL 0\/t=KL 5)/\Xg t<=64800000
def DTy(t:Ty):Prop:=(Vg t\/JfH t)/\Xg t<=64800000
structure RmOk(r:Room):Prop where
 this:r.this=[]\/Nm r.this
 vars:∀ v∈r.vars,Zm v.typ
 ret:∀ t∈r.ret,DTy t
theorem JBy:Vg (KL 1):=by simp[KL,Vg,XX,KP]
theorem JBz:Vg (KL 2):=by simp[KL,Vg,XX,KP]
theorem Dg{Q:Prop}(h:Q:=by simp[KL,Xg,XI,KE]):Q:=h
theorem Jjb:Zm (KL 1):=⟨.inl JBy,Dg⟩
theorem Jed:Zm (KL 2):=⟨.inl JBz,Dg⟩
theorem JNQ:Zm (KL 0):=⟨.inr (.inl rfl),Dg⟩
theorem JNR:Zm (KL 5):=⟨.inr (.inr rfl),Dg⟩
theorem JEj{n:Jk}(h:Nm n)(hl:n.length<=64000000):Zm (Yr n):=⟨.inl (by simp[Yr,Vg,XX,KP,h]),by simp only[Yr,Xg,XI,KE];omega⟩
theorem Jjc{t:Ty}(h:Zm t):Zm (VD t):=by
 obtain⟨k,n,nl,e,p,a⟩:=t;obtain⟨h1,h2⟩:=h;refine⟨?_,?_⟩
 ·rcases h1 with h1 |h1 |h1
  ·left;simp only[Vg]at h1;simp only[VD,Vg,KP,Af];refine⟨?_,O,h1.2.2.1,trivial⟩;rcases h1.1 with⟨q1,q2,q3,-⟩ |⟨q1,q2,q3,-⟩ |q |q
   ·exact .inl ⟨q1,q2,q3,trivial⟩
   ·exact .inr (.inl ⟨q1,q2,q3,trivial⟩)
   ·exact .inr (.inr (.inl q))
   ·exact .inr (.inr (.inr q))
  ·right;left;simp only[KL,Ty.mk.injEq]at h1;obtain⟨rfl,rfl,rfl,rfl,rfl,rfl⟩:=h1;rfl
  ·right;right;simp only[KL,Ty.mk.injEq]at h1;obtain⟨rfl,rfl,rfl,rfl,rfl,rfl⟩:=h1;rfl
 ·simp only[Xg]at h2;simp only[VD,Xg,KE];omega
theorem JNS{t:Ty}(h:DTy t):Zm (VD t):=by
 rcases h.1 with h1 |⟨a,rfl⟩
 ·exact Jjc ⟨.inl h1,h.2⟩
 ·exact JNQ
theorem YO(op n:Jk)(l:List Xp)(t:Ty)(a:Int)(h:¬op=[108,105,115,116]):Q4 (.mk op n l [t] a)=t:=by simp only[Q4,if_neg h];rfl
theorem JBA(n:Jk)(l:List Xp)(ty:List Ty)(a:Int):Q4 (.mk [108,105,115,116] n l ty a)=.mk 4 [] false ty [] 0:=by simp only[Q4,if_true]
theorem Jfh{r:Room}{t:Ty}(h:RmOk r)(ht:Zm t)(n:Jk)(f:Bool):RmOk (Vz r n t f):=by
 refine⟨h.this,λv hv=>?_,h.ret⟩;simp only[Vz,AM,AN]at hv;rcases hv with hv |rfl
 ·exact h.vars v hv
 ·exact Jjc ht
theorem Jdp{r:Room}(h:RmOk r):RmOk (K6 r):=⟨h.this,λv hv=>h.vars v (Ct.1 hv).1,h.ret⟩
theorem Jrc{r:Room}(h:RmOk r)(b:Bool):RmOk {r with pred:=b}:=⟨h.this,h.vars,h.ret⟩
theorem Fd{Q:Prop}(h:Q:=by cases hv):Q:=h
theorem JhG:RmOk Vy:=⟨.inl rfl,λv hv=>Fd,λv hv=>Fd⟩
theorem JkH{n:Jk}{l:List Loc}{v:Loc}(h:ZS n l=some v):v∈l:=by have:=DY h;simpa using this
structure ClsOk(cs:List Cls):Prop where
 okc:∀ c∈cs,Zk c
 wt:wL V1 cs<=64800000
end Go.Proofs.YtmeakjgbjldkdaaGreat.Ai
